/-
  The plain law: what entries, histories and their one order are, without a program in sight.
-/
import Derived.Test.YtgoooilgmabkmaaLb
set_option linter.unusedVariables false
set_option linter.unusedSimpArgs false
set_option linter.unusedSectionVars false
namespace Go.Sl
open Go

theorem decB {p q : Prop} [Decidable p] [Decidable q] (h : p ↔ q) : Value.bool (decide p) = Value.bool (decide q) := by
  congr 1; exact decide_eq_decide.2 h
theorem boolT {p : Prop} [Decidable p] (h : p) : Value.bool true = Value.bool (decide p) := by simp [h]
theorem boolF {p : Prop} [Decidable p] (h : ¬ p) : Value.bool false = Value.bool (decide p) := by simp [h]
theorem intV {k : IntKind} {a b : Int} (h : a = b) : Value.int k a = Value.int k b := by rw [h]

theorem isH0 : IsH 0 := Nat.pow_pos (by decide)

/-! ### operations -/
def hasText (k : Int) : Prop := k = 1 ∨ k = 3 ∨ k = 4 ∨ k = 8
instance (k : Int) : Decidable (hasText k) := by unfold hasText; infer_instance
def hasAt (k : Int) : Prop := k = 8 ∨ k = 9
instance (k : Int) : Decidable (hasAt k) := by unfold hasAt; infer_instance
def atZero (o : OpD) : Prop := o.ato = 0 ∧ o.atn = 0
instance (o : OpD) : Decidable (atZero o) := by unfold atZero; infer_instance
/-- may the At of an operation behind these be? -/
def atMay (l : List OpD) (o : OpD) : Prop :=
  if o.atn = 0 then
    if o.ato = 0 then o.kind = 8
    else 1 ≤ o.ato ∧ o.ato ≤ l.length ∧ ∀ x, l[(o.ato - 1).toNat]? = some x → x.kind = 8 ∧ x.key = o.key
  else 1 ≤ o.ato ∧ o.ato ≤ 1024
instance (l : List OpD) (o : OpD) : Decidable (atMay l o) := by
  unfold atMay
  cases h : l[(o.ato - 1).toNat]? with
  | none => simp; infer_instance
  | some x => simp; infer_instance
/-- what is wrong with an operation behind these -/
def opErr (l : List OpD) (o : OpD) : Int :=
  if o.kind < 1 ∨ 9 < o.kind then 40
  else if 65536 < o.key.size ∨ 65536 < o.text.size then 4
  else if (¬ hasText o.kind ∧ o.text ≠ ByteArray.empty) ∨ (o.kind ≠ 6 ∧ o.n ≠ 0) ∨ (¬ hasAt o.kind ∧ ¬ atZero o) then 41
  else if hasAt o.kind ∧ ¬ atMay l o then 42 else 0
/-- the first that may not be from i on -/
def opsErrFrom (l : List OpD) (i : Nat) : Int × Nat :=
  if h : i < l.length then
    if opErr (l.take i) l[i] ≠ 0 then (opErr (l.take i) l[i], i) else opsErrFrom l (i + 1)
  else (0, 0)
  termination_by l.length - i
def opsErr (l : List OpD) : Int × Nat := if 1024 < l.length then (3, 0) else opsErrFrom l 0

/-- the cell that an operation is about: 1 a register, 2 a set, 3 a counter, 4 a list -/
def cellOf (k : Int) : Int := if k = 1 ∨ k = 2 then 1 else if k = 3 ∨ k = 4 ∨ k = 5 then 2 else if k = 6 ∨ k = 7 then 3 else if k = 8 ∨ k = 9 then 4 else 0
/-- the fields (0 the text, 1 the number, 2 the place) that an operation of a kind hasn't -/
def othersOf (k : Int) : List Nat :=
  if k = 1 ∨ k = 3 ∨ k = 4 then [1, 2] else if k = 6 then [0, 2] else if k = 8 then [1] else if k = 9 then [0, 1] else [0, 1, 2]
def emptyAt (o : OpD) (i : Nat) : Prop := if i = 0 then o.text = ByteArray.empty else if i = 1 then o.n = 0 else o.ato = 0 ∧ o.atn = 0
instance (o : OpD) (i : Nat) : Decidable (emptyAt o i) := by unfold emptyAt; infer_instance

/-! ### nodes -/
def Rises (l : List Nat) : Prop := l.Pairwise (· < ·)
instance (l : List Nat) : Decidable (Rises l) := by unfold Rises; infer_instance
def nodeErr (x : NodeD) : Int :=
  if x.au < 1 ∨ 8 < x.au then 50
  else if x.cl < 1 ∨ 4096 < x.cl ∨ ¬ (x.cl = 1 ↔ x.ps = []) then 51
  else if 64 < x.ps.length ∨ ¬ Rises x.ps then 52
  else (opsErr x.ops).1

end Go.Sl
namespace Go.Sl
open Go
/-! ### entries and their numbers -/
/-- the number of the first entry of a hash -/
def idxOf (l : List EntD) (h : Nat) : Option Nat := l.findIdx? (fun e => e.id == h)
theorem idxOf_cons (e : EntD) (l : List EntD) (h : Nat) : idxOf (e :: l) h = if e.id = h then some 0 else (idxOf l h).map (· + 1) := by
  unfold idxOf; rw [List.findIdx?_cons]
  by_cases he : e.id = h <;> simp [he]
theorem idxOf_some {l : List EntD} {h k : Nat} (hk : idxOf l h = some k) : ∃ e, l[k]? = some e ∧ e.id = h := by
  induction l generalizing k with
  | nil => simp [idxOf] at hk
  | cons e l ih =>
    rw [idxOf_cons] at hk
    split at hk
    · simp at hk; subst hk; exact ⟨e, rfl, by assumption⟩
    · cases h2 : idxOf l h with
      | none => simp [h2] at hk
      | some j => simp [h2] at hk; subst hk; simpa using ih h2
theorem idxOf_none {l : List EntD} {h : Nat} : idxOf l h = none ↔ ∀ e ∈ l, e.id ≠ h := by
  unfold idxOf; simp [List.findIdx?_eq_none_iff]
theorem idxOf_of {l : List EntD} (hd : (l.map (·.id)).Nodup) {k : Nat} {e : EntD} (hk : l[k]? = some e) : idxOf l e.id = some k := by
  induction l generalizing k with
  | nil => simp at hk
  | cons x l ih =>
    rw [idxOf_cons]
    simp only [List.map_cons, List.nodup_cons] at hd
    cases k with
    | zero => simp at hk; subst hk; simp
    | succ k =>
      simp at hk
      have hne : x.id ≠ e.id := fun h => hd.1 (List.mem_map.2 ⟨e, List.mem_of_getElem? hk, h.symm⟩)
      rw [if_neg hne, ih hd.2 hk]; rfl
/-- hashes with their numbers, as a map tells them -/
def idsFrom : List EntD → Nat → List (Nat × Value)
  | [], _ => []
  | e :: l, i => (e.id, .int .i64 (i : Int)) :: idsFrom l (i + 1)
theorem mget_ids (h : Nat) : ∀ (l : List EntD) (i : Nat), mget (idsFrom l i) h = (idxOf l h).map fun k => .int .i64 ((i + k : Nat) : Int)
  | [], i => rfl
  | e :: l, i => by
    simp only [idsFrom, mget_cons, idxOf_cons]
    by_cases he : h = e.id
    · subst he; simp
    · rw [if_neg he, if_neg (Ne.symm he), mget_ids h l (i + 1)]
      cases idxOf l h <;> simp; omega
/-- what a look-up in such a map tells -/
theorem mget_ids0 (l : List EntD) (h : Nat) : mget (idsFrom l 0) h = (idxOf l h).map fun (k : Nat) => .int .i64 (k : Int) := by
  rw [mget_ids]; cases idxOf l h <;> simp
theorem mput_new {α : Type} [DecidableEq α] (a : α) (x : Value) : ∀ (l : List (α × Value)), mget l a = none → mput l a x = l ++ [(a, x)]
  | [], _ => rfl
  | (k, v) :: l, h => by
    rw [mget_cons] at h
    by_cases hk : a = k
    · rw [if_pos hk] at h; cases h
    · rw [if_neg hk] at h
      simp only [mput, if_neg hk, mput_new a x l h, List.cons_append]
theorem ids_append (e : EntD) : ∀ (l : List EntD) (i : Nat), idsFrom (l ++ [e]) i = idsFrom l i ++ [(e.id, .int .i64 ((i + l.length : Nat) : Int))]
  | [], i => by simp [idsFrom]
  | x :: l, i => by
    simp only [List.cons_append, idsFrom, ids_append e l (i + 1), List.length_cons]
    rw [show i + 1 + l.length = i + (l.length + 1) by omega]
theorem ids_ok {l : List EntD} (h : ∀ e ∈ l, IsH e.id) : ∀ (i : Nat), ∀ p ∈ idsFrom l i, IsH p.1 := by
  induction l with
  | nil => intro i p hp; simp [idsFrom] at hp
  | cons e l ih =>
    intro i p hp
    simp only [idsFrom, List.mem_cons] at hp
    rcases hp with rfl | hp
    · exact h e (by simp)
    · exact ih (fun x hx => h x (by simp [hx])) (i + 1) p hp
theorem ids_step {l : List EntD} {i : Nat} {e : EntD} (he : l[i]? = some e) (hn : idxOf (l.take i) e.id = none) : mput (idsFrom (l.take i) 0) e.id (.int .i64 (i : Int)) = idsFrom (l.take (i + 1)) 0 := by
  have hlt := (List.getElem?_eq_some_iff.1 he).1
  rw [mput_new _ _ _ (by rw [mget_ids, hn]; rfl), List.take_add_one, he]
  simp only [Option.toList_some, ids_append]
  rw [List.length_take, Nat.min_eq_left (by omega), Nat.zero_add]

/-! ### what may be wrong with entries -/
def clAt (l : List EntD) (p : Nat) : Int := match (idxOf l p).bind (l[·]?) with | some e => e.node.cl | none => 0
def mcl (l : List EntD) (ps : List Nat) : Int := ps.foldl (fun m p => max m (clAt l p)) 0
def parErr (l : List EntD) (e : EntD) : Int :=
  if ∃ p ∈ e.node.ps, idxOf l p = none then 6 else if e.node.cl ≠ mcl l e.node.ps + 1 then 51 else 0
def err2 (l : List EntD) (i : Nat) : Int × Nat :=
  if h : i < l.length then if parErr l l[i] ≠ 0 then (parErr l l[i], i) else err2 l (i + 1) else (0, 0)
  termination_by l.length - i
def err1 (l : List EntD) (i : Nat) : Int × Nat :=
  if h : i < l.length then
    if 4096 ≤ i then (3, i) else if nodeErr l[i].node ≠ 0 then (nodeErr l[i].node, i)
    else if idxOf (l.take i) l[i].id ≠ none then (9, i) else err1 l (i + 1)
  else err2 l 0
  termination_by l.length - i
def rightErr (l : List EntD) : Int × Nat := err1 l 0
theorem err1_at {l : List EntD} {i : Nat} {e : EntD} (he : l[i]? = some e) : err1 l i = if 4096 ≤ i then (3, i) else if nodeErr e.node ≠ 0 then (nodeErr e.node, i)
    else if idxOf (l.take i) e.id ≠ none then (9, i) else err1 l (i + 1) := by
  obtain ⟨h, rfl⟩ := List.getElem?_eq_some_iff.1 he
  rw [err1, dif_pos h]
theorem err2_at {l : List EntD} {i : Nat} {e : EntD} (he : l[i]? = some e) : err2 l i = if parErr l e ≠ 0 then (parErr l e, i) else err2 l (i + 1) := by
  obtain ⟨h, rfl⟩ := List.getElem?_eq_some_iff.1 he
  rw [err2, dif_pos h]
theorem err1_end {l : List EntD} {i : Nat} (h : l.length ≤ i) : err1 l i = err2 l 0 := by rw [err1, dif_neg (by omega)]
theorem err2_end {l : List EntD} {i : Nat} (h : l.length ≤ i) : err2 l i = (0, 0) := by rw [err2, dif_neg (by omega)]
/-- what holds ahead of entry i where nothing was wrong -/
structure Fine1 (l : List EntD) (i : Nat) : Prop where
  most : i ≤ 4096
  node : ∀ e ∈ l.take i, nodeErr e.node = 0
  nodup : ((l.take i).map (·.id)).Nodup
theorem Fine1.zero (l : List EntD) : Fine1 l 0 := ⟨by omega, by simp, by simp⟩
theorem Fine1.step {l : List EntD} {i : Nat} {e : EntD} (h : Fine1 l i) (he : l[i]? = some e) (h1 : ¬ 4096 ≤ i) (h2 : nodeErr e.node = 0) (h3 : idxOf (l.take i) e.id = none) : Fine1 l (i + 1) := by
  have ht : l.take (i + 1) = l.take i ++ [e] := by rw [List.take_add_one, he]; rfl
  refine ⟨by omega, fun x hx => ?_, ?_⟩
  · rw [ht] at hx
    rcases List.mem_append.1 hx with hx | hx
    · exact h.node x hx
    · simp at hx; subst hx; exact h2
  · rw [ht, List.map_append, List.nodup_append]
    refine ⟨h.nodup, by simp, ?_⟩
    intro a ha b hb hab
    simp at hb; subst hb; subst hab
    obtain ⟨x, hx, hxe⟩ := List.mem_map.1 ha
    exact idxOf_none.1 h3 x hx hxe
theorem mcl_take {l : List EntD} {ps : List Nat} {q p : Nat} (hp : ps[q]? = some p) : mcl l (ps.take (q + 1)) = max (mcl l (ps.take q)) (clAt l p) := by
  unfold mcl
  rw [List.take_add_one, hp]
  simp [List.foldl_append]
theorem nodeErr_zero {x : NodeD} (h : nodeErr x = 0) : (1 ≤ x.au ∧ x.au ≤ 8) ∧ (1 ≤ x.cl ∧ x.cl ≤ 4096 ∧ (x.cl = 1 ↔ x.ps = [])) ∧ (x.ps.length ≤ 64 ∧ Rises x.ps) ∧ (opsErr x.ops).1 = 0 := by
  unfold nodeErr at h
  split at h
  · cases h
  · split at h
    · cases h
    · split at h
      · cases h
      · rename_i h1 h2 h3
        refine ⟨by omega, ⟨by omega, by omega, ?_⟩, ⟨by omega, ?_⟩, h⟩
        · exact Decidable.not_not.1 fun h4 => h2 (.inr (.inr h4))
        · exact Decidable.not_not.1 fun h4 => h3 (.inr h4)
theorem clAt_bound {l : List EntD} (h : ∀ e ∈ l, nodeErr e.node = 0) (p : Nat) : 0 ≤ clAt l p ∧ clAt l p ≤ 4096 := by
  unfold clAt
  split
  · rename_i e he
    obtain ⟨k, _, hk⟩ := Option.bind_eq_some_iff.1 he
    have := (nodeErr_zero (h e (List.mem_of_getElem? hk))).2.1
    omega
  · omega
theorem mcl_bound {l : List EntD} (h : ∀ e ∈ l, nodeErr e.node = 0) (ps : List Nat) : 0 ≤ mcl l ps ∧ mcl l ps ≤ 4096 := by
  unfold mcl
  have : ∀ (ps : List Nat) (m : Int), 0 ≤ m ∧ m ≤ 4096 → 0 ≤ ps.foldl (fun m p => max m (clAt l p)) m ∧ ps.foldl (fun m p => max m (clAt l p)) m ≤ 4096 := by
    intro ps
    induction ps with
    | nil => intro m hm; exact hm
    | cons p ps ih => intro m hm; have := clAt_bound h p; exact ih (max m (clAt l p)) (by omega)
  exact this ps 0 (by omega)
end Go.Sl
namespace Go.Sl
open Go
/-! ### numbers by rising hashes -/
def idAt (l : List EntD) (i : Nat) : Nat := match l[i]? with | some e => e.id | none => 0
theorem idAt_of {l : List EntD} {i : Nat} {e : EntD} (h : l[i]? = some e) : idAt l i = e.id := by unfold idAt; rw [h]
def leId (l : List EntD) (i j : Nat) : Bool := decide (idAt l i ≤ idAt l j)
def rankL (l : List EntD) (fr to : Nat) : List Nat :=
  if to - fr = 0 then [] else if to - fr = 1 then [fr] else List.merge (rankL l fr ((fr + to) / 2)) (rankL l ((fr + to) / 2) to) (leId l)
  termination_by to - fr
theorem rankL_zero {l : List EntD} {fr to : Nat} (h : to - fr = 0) : rankL l fr to = [] := by rw [rankL, if_pos h]
theorem rankL_one {l : List EntD} {fr to : Nat} (h : to - fr = 1) : rankL l fr to = [fr] := by rw [rankL, if_neg (by omega), if_pos h]
theorem rankL_more {l : List EntD} {fr to : Nat} (h0 : to - fr ≠ 0) (h : to - fr ≠ 1) : rankL l fr to = List.merge (rankL l fr ((fr + to) / 2)) (rankL l ((fr + to) / 2) to) (leId l) := by
  rw [rankL, if_neg h0, if_neg h]
theorem leId_trans (l : List EntD) (a b c : Nat) (h1 : leId l a b = true) (h2 : leId l b c = true) : leId l a c = true := by
  simp [leId] at *; omega
theorem leId_total (l : List EntD) (a b : Nat) : (leId l a b || leId l b a) = true := by
  simp [leId]; omega
theorem rankL_perm (l : List EntD) : ∀ (n fr to : Nat), to - fr = n → (rankL l fr to).Perm (List.range' fr (to - fr)) := by
  intro n
  induction n using Nat.strongRecOn with
  | _ n ih =>
    intro fr to hn
    by_cases h0 : to - fr = 0
    · rw [rankL_zero h0, h0]; exact List.Perm.refl _
    · by_cases h1 : to - fr = 1
      · rw [rankL_one h1, h1]; exact List.Perm.refl _
      · rw [rankL_more h0 h1]
        refine (List.merge_perm_append (le := leId l)).trans ?_
        have e1 := ih ((fr + to) / 2 - fr) (by omega) fr ((fr + to) / 2) rfl
        have e2 := ih (to - (fr + to) / 2) (by omega) ((fr + to) / 2) to rfl
        refine (e1.append e2).trans ?_
        have : List.range' fr (to - fr) = List.range' fr ((fr + to) / 2 - fr) ++ List.range' ((fr + to) / 2) (to - (fr + to) / 2) := by
          rw [show to - fr = ((fr + to) / 2 - fr) + (to - (fr + to) / 2) by omega, ← List.range'_append_1]
          congr 2
          omega
        rw [this]
theorem rankL_sorted (l : List EntD) : ∀ (n fr to : Nat), to - fr = n → (rankL l fr to).Pairwise (fun i j => leId l i j = true) := by
  intro n
  induction n using Nat.strongRecOn with
  | _ n ih =>
    intro fr to hn
    by_cases h0 : to - fr = 0
    · rw [rankL_zero h0]; exact List.Pairwise.nil
    · by_cases h1 : to - fr = 1
      · rw [rankL_one h1]; simp
      · rw [rankL_more h0 h1]
        exact List.pairwise_merge (leId_trans l) (leId_total l) _ _ (ih _ (by omega) _ _ rfl) (ih _ (by omega) _ _ rfl)
theorem rankL_len (l : List EntD) (fr to : Nat) : (rankL l fr to).length = to - fr := by
  rw [(rankL_perm l _ fr to rfl).length_eq]; simp
theorem rankL_mem {l : List EntD} {fr to i : Nat} : i ∈ rankL l fr to ↔ fr ≤ i ∧ i < to := by
  rw [(rankL_perm l _ fr to rfl).mem_iff, List.mem_range'_1]; omega
/-- all numbers of entries, by rising hashes -/
structure Ranked (l : List EntD) (s : List Nat) : Prop where
  len : s.length = l.length
  mem : ∀ i, i ∈ s ↔ i < l.length
  rise : ∀ (i j a b : Nat), i < j → s[i]? = some a → s[j]? = some b → idAt l a ≤ idAt l b
theorem rankL_ranked (l : List EntD) : Ranked l (rankL l 0 l.length) := by
  refine ⟨by rw [rankL_len]; omega, fun i => by rw [rankL_mem]; omega, fun i j a b hij ha hb => ?_⟩
  obtain ⟨h1, e1⟩ := List.getElem?_eq_some_iff.1 ha
  obtain ⟨h2, e2⟩ := List.getElem?_eq_some_iff.1 hb
  have := List.pairwise_iff_getElem.1 (rankL_sorted l _ 0 l.length rfl) i j h1 h2 hij
  rw [e1, e2] at this
  simpa [leId] using this
/-- a number, or -1 -/
def numV (o : Option Nat) : Int := match o with | some k => (k : Int) | none => -1
/-- what a search by halves finds -/
theorem find_spec {l : List EntD} {s : List Nat} (hr : Ranked l s) (hd : (l.map (·.id)).Nodup) {h low : Nat} (h1 : ∀ (i a : Nat), i < low → s[i]? = some a → idAt l a < h) (h2 : ∀ (i a : Nat), low ≤ i → s[i]? = some a → h ≤ idAt l a) :
    idxOf l h = match s[low]? with | some k => if idAt l k = h then some k else none | none => none := by
  cases hx : idxOf l h with
  | some k =>
    obtain ⟨e, he, hid⟩ := idxOf_some hx
    have hk : k < l.length := (List.getElem?_eq_some_iff.1 he).1
    obtain ⟨j, hj⟩ := List.getElem?_of_mem ((hr.mem k).2 hk)
    have hidk : idAt l k = h := by rw [idAt_of he, hid]
    have hlow : low ≤ j := by
      apply Classical.byContradiction
      intro hc
      have := h1 j k (by omega) hj
      omega
    have hjl := (List.getElem?_eq_some_iff.1 hj).1
    obtain ⟨a, ha⟩ : ∃ a, s[low]? = some a := ⟨_, List.getElem?_eq_getElem (by omega)⟩
    have hal : idAt l a = h := by
      have g1 := h2 low a (Nat.le_refl _) ha
      rcases Nat.lt_or_ge low j with hlt | hge
      · have := hr.rise low j a k hlt ha hj; omega
      · have : low = j := by omega
        subst this; rw [ha] at hj; cases hj; exact hidk
    have haL : a < l.length := (hr.mem a).1 (List.mem_of_getElem? ha)
    have hea : l[a]? = some l[a] := List.getElem?_eq_getElem haL
    have hai := idxOf_of hd hea
    rw [← idAt_of hea, hal, hx] at hai
    cases hai
    rw [ha]; simp [hal]
  | none =>
    cases ha : s[low]? with
    | none => rfl
    | some a =>
      have haL : a < l.length := (hr.mem a).1 (List.mem_of_getElem? ha)
      have hea : l[a]? = some l[a] := List.getElem?_eq_getElem haL
      have := idxOf_none.1 hx l[a] (List.mem_of_getElem? hea)
      simp only
      rw [if_neg (by rw [idAt_of hea]; exact this)]

/-! ### what lies where -/
theorem getD_some {a : List Nat} {i : Nat} (h : i < a.length) : a[i]? = some (a.getD i 0) := by
  rw [List.getD_eq_getElem?_getD, List.getElem?_eq_getElem h]; rfl
theorem eqA {a a' : Option Addr} {n c : Nat} (e : a = a') : some (Value.slice a n c) = some (Value.slice a' n c) := by rw [e]
theorem addr_of {α : Type} {σ : View} {E : Enc α} {sz byt : Nat} {a : Option Addr} {n cap : Nat} {l : List α} (h : SlE σ E sz byt (.slice a n cap) l) : ∃ b off, 0 < l.length → a = some ⟨b, off, none⟩ := by
  by_cases h0 : 0 < l.length
  · obtain ⟨b, off, cap', e, _⟩ := h.at h0
    cases e; exact ⟨b, off, fun _ => rfl⟩
  · exact ⟨0, 0, fun h => absurd h h0⟩
theorem nat_rd {σ : View} {ad : Option Addr} {b off n cap : Nat} {a : List Nat} (h : SlE σ eNat 1 8 (.slice ad n cap) a) (e : 0 < a.length → ad = some ⟨b, off, none⟩) {i : Nat} (hi : i < a.length) : RdV σ b (off + i * 1) [.int .i64 ((a.getD i 0 : Nat) : Int)] := by
  have e1 := e (by omega)
  subst e1
  obtain ⟨b', off', cap', e2, _, _, hat⟩ := h.at (by omega)
  cases e2
  obtain ⟨vs, _, _, rfl, hr⟩ := hat i _ (getD_some hi)
  exact hr
theorem id_rd {σ : View} {ad : Option Addr} {b off n cap : Nat} {l : List EntD} (h : Ents σ (.slice ad n cap) l) (e : 0 < l.length → ad = some ⟨b, off, none⟩) {i : Nat} (hi : i < l.length) : RdV σ b (off + i * 36) (hashCells (idAt l i)) ∧ IsH (idAt l i) := by
  have e1 := e (by omega)
  subst e1
  obtain ⟨b', off', cap', e, _, _, hat⟩ := h.at (by omega)
  cases e
  have hx := List.getElem?_eq_getElem hi
  obtain ⟨vs, _, _, ⟨pv, ov, rfl, hH, _⟩, hr⟩ := hat i _ hx
  rw [idAt_of hx]
  exact ⟨hr.sub0 (Sub.ent_hash _ _ _ _ _), hH⟩
theorem ent_rd {σ : View} {ad : Option Addr} {b off n cap : Nat} {l : List EntD} (h : Ents σ (.slice ad n cap) l) (e : 0 < l.length → ad = some ⟨b, off, none⟩) {i : Nat} {x : EntD} (hi : l[i]? = some x) : ∃ pv ov, RdV σ b (off + i * 36) (entCells x.id x.node.au x.node.cl pv ov) ∧ IsH x.id ∧ NodeR σ x.node pv ov := by
  have hlt := (List.getElem?_eq_some_iff.1 hi).1
  have e1 := e (by omega)
  subst e1
  obtain ⟨b', off', cap', e, _, _, hat⟩ := h.at (by omega)
  cases e
  obtain ⟨vs, _, _, ⟨pv, ov, rfl, hH, hn⟩, hr⟩ := hat i _ hi
  exact ⟨pv, ov, hr, hH, hn⟩
theorem hash_rd {σ : View} {ad : Option Addr} {b off n cap : Nat} {a : List Nat} (h : Hashes σ (.slice ad n cap) a) (e : 0 < a.length → ad = some ⟨b, off, none⟩) {i p : Nat} (hi : a[i]? = some p) : RdV σ b (off + i * 32) (hashCells p) ∧ IsH p := by
  have hlt := (List.getElem?_eq_some_iff.1 hi).1
  have e1 := e (by omega)
  subst e1
  obtain ⟨b', off', cap', e2, _, _, hat⟩ := h.at (by omega)
  cases e2
  obtain ⟨vs, _, _, ⟨rfl, hH⟩, hr⟩ := hat i _ hi
  exact ⟨hr, hH⟩
theorem getD_mem {a : List Nat} {i : Nat} (h : i < a.length) : a.getD i 0 ∈ a := List.mem_of_getElem? (getD_some h)
theorem drop_getD {a : List Nat} {i : Nat} (h : i < a.length) : a.drop i = a.getD i 0 :: a.drop (i + 1) := by
  rw [List.drop_eq_getElem_cons h]; congr 1; rw [List.getD_eq_getElem?_getD, List.getElem?_eq_getElem h]; rfl

theorem SlO.nat {σ σ' : View} {T : TypeId} {sz : Nat} {sv : Value} {l : List Nat} {h : HList} (hs : SlO σ eNat T sz sv l h) : SlO σ' eNat T sz sv l h :=
  let ⟨vss, h1, h2, h3⟩ := hs; ⟨vss, h1, h2, h3⟩
theorem idAt_mem_take {l : List EntD} {i : Nat} {h : Nat} (hn : ∀ q, q < i → idAt l q ≠ h) : idxOf (l.take i) h = none := by
  rw [idxOf_none]
  intro e he
  obtain ⟨q, hq⟩ := List.getElem?_of_mem he
  have hlt := (List.getElem?_eq_some_iff.1 hq).1
  rw [List.length_take] at hlt
  rw [List.getElem?_take_of_lt (by omega)] at hq
  have := hn q (by omega)
  rw [idAt_of hq] at this; exact this
theorem idAt_mem_take' {l : List EntD} {i q : Nat} {h : Nat} (hq : q < i) (hi : i ≤ l.length) (he : idAt l q = h) : idxOf (l.take i) h ≠ none := by
  intro hn
  have hx : l[q]? = some l[q] := List.getElem?_eq_getElem (by omega)
  have := idxOf_none.1 hn l[q] (List.mem_of_getElem? (i := q) (by rw [List.getElem?_take_of_lt hq]; exact hx))
  rw [← idAt_of hx] at this; exact this he
end Go.Sl
namespace Go.Sl
open Go
/-! ### the one order -/
structure GoodE (l : List EntD) : Prop where
  nodup : (l.map (·.id)).Nodup
  node : ∀ e ∈ l, nodeErr e.node = 0
  most : l.length ≤ 4096
  par : ∀ e ∈ l, ∀ p ∈ e.node.ps, ∃ k e2, idxOf l p = some k ∧ l[k]? = some e2 ∧ e2.node.cl < e.node.cl
theorem err1_zero {l : List EntD} : ∀ (n i : Nat), l.length - i = n → i ≤ l.length → (err1 l i).1 = 0 → Fine1 l i → Fine1 l l.length ∧ (err2 l 0).1 = 0 := by
  intro n
  induction n with
  | zero =>
    intro i hn hi h hf
    have : i = l.length := by omega
    subst this
    rw [err1_end (Nat.le_refl _)] at h
    exact ⟨hf, h⟩
  | succ n ih =>
    intro i hn hi h hf
    have he : l[i]? = some l[i] := List.getElem?_eq_getElem (by omega)
    rw [err1_at he] at h
    split at h
    · cases h
    · split at h
      · rename_i h2; exact absurd h h2
      · split at h
        · cases h
        · rename_i h1 h2 h3
          exact ih (i + 1) (by omega) (by omega) h (hf.step he h1 (Decidable.not_not.1 h2) (Decidable.not_not.1 h3))
theorem err2_zero {l : List EntD} : ∀ (n i : Nat), l.length - i = n → (err2 l i).1 = 0 → ∀ (k : Nat) (e : EntD), i ≤ k → l[k]? = some e → parErr l e = 0 := by
  intro n
  induction n with
  | zero => intro i hn h k e hk he; have := (List.getElem?_eq_some_iff.1 he).1; omega
  | succ n ih =>
    intro i hn h k e hk he
    have he0 : l[i]? = some l[i] := List.getElem?_eq_getElem (by omega)
    rw [err2_at he0] at h
    split at h
    · rename_i h2; exact absurd h h2
    · rename_i h2
      rcases Nat.lt_or_ge i k with h3 | h3
      · exact ih (i + 1) (by omega) h k e (by omega) he
      · have : i = k := by omega
        subst this
        rw [he0] at he; cases he; exact Decidable.not_not.1 h2
theorem foldl_max_le {f : Nat → Int} : ∀ (ps : List Nat) (m : Int), m ≤ ps.foldl (fun m p => max m (f p)) m ∧ ∀ p ∈ ps, f p ≤ ps.foldl (fun m p => max m (f p)) m
  | [], m => ⟨Int.le_refl _, by simp⟩
  | p :: ps, m => by
    have ih := foldl_max_le (f := f) ps (max m (f p))
    simp only [List.foldl_cons]
    refine ⟨by omega, fun q hq => ?_⟩
    rcases List.mem_cons.1 hq with rfl | hq
    · omega
    · exact ih.2 q hq
theorem good_of_right {l : List EntD} (h : (rightErr l).1 = 0) : GoodE l := by
  obtain ⟨hf, h2⟩ := err1_zero _ 0 rfl (Nat.zero_le _) h (Fine1.zero l)
  obtain ⟨f1, f2, f3⟩ := hf
  rw [List.take_of_length_le (Nat.le_refl _)] at f2 f3
  refine ⟨f3, f2, f1, fun e he p hp => ?_⟩
  obtain ⟨k, hk⟩ := List.getElem?_of_mem he
  have hpe := err2_zero _ 0 rfl h2 k e (Nat.zero_le _) hk
  unfold parErr at hpe
  split at hpe
  · cases hpe
  · rename_i hne
    split at hpe
    · cases hpe
    · rename_i hcl
      cases hx : idxOf l p with
      | none => exact absurd ⟨p, hp, hx⟩ hne
      | some j =>
        obtain ⟨e2, he2, _⟩ := idxOf_some hx
        have hc : clAt l p = e2.node.cl := by unfold clAt; rw [hx]; simp [he2]
        have := (foldl_max_le (f := clAt l) e.node.ps 0).2 p hp
        have hm : mcl l e.node.ps = e.node.ps.foldl (fun m p => max m (clAt l p)) 0 := rfl
        exact ⟨j, e2, rfl, he2, by omega⟩

def parsAt (l : List EntD) (i : Nat) : List Nat := match l[i]? with | some e => e.node.ps | none => []
def inOut (l : List EntD) (out : List Nat) (p : Nat) : Bool := match idxOf l p with | some k => decide (k ∈ out) | none => false
/-- how many parents of an entry are not placed -/
def lackN (l : List EntD) (out : List Nat) (i : Nat) : Nat := (parsAt l i).countP (fun p => !inOut l out p)
def readyB (l : List EntD) (out : List Nat) (i : Nat) : Bool := decide (i < l.length) && !decide (i ∈ out) && lackN l out i == 0
def nextR (l : List EntD) (out : List Nat) : Option Nat := (rankL l 0 l.length).find? (readyB l out)
def ordN (l : List EntD) : Nat → List Nat
  | 0 => []
  | n + 1 => match nextR l (ordN l n) with | some i => ordN l n ++ [i] | none => ordN l n
/-- the one order, by numbers -/
def ordOf (l : List EntD) : List Nat := ordN l l.length
/-- .. by entries -/
def ordE (l : List EntD) : List EntD := (ordOf l).filterMap (l[·]?)

theorem parsAt_of {l : List EntD} {i : Nat} {e : EntD} (h : l[i]? = some e) : parsAt l i = e.node.ps := by unfold parsAt; rw [h]
theorem readyB_iff {l : List EntD} {out : List Nat} {i : Nat} : readyB l out i = true ↔ i < l.length ∧ i ∉ out ∧ lackN l out i = 0 := by
  simp [readyB, and_assoc]
theorem lackN_zero {l : List EntD} {out : List Nat} {i : Nat} : lackN l out i = 0 ↔ ∀ p ∈ parsAt l i, inOut l out p = true := by
  simp [lackN, List.countP_eq_zero]
theorem nextR_some {l : List EntD} {out : List Nat} {i : Nat} (h : nextR l out = some i) : readyB l out i = true ∧ ∀ j, readyB l out j = true → idAt l i ≤ idAt l j := by
  obtain ⟨h1, as, bs, he, hn⟩ := List.find?_eq_some_iff_append.1 h
  refine ⟨h1, fun j hj => ?_⟩
  have hr := rankL_sorted l _ 0 l.length rfl
  rw [he] at hr
  have hjm : j ∈ rankL l 0 l.length := rankL_mem.2 ⟨Nat.zero_le _, (readyB_iff.1 hj).1⟩
  rw [he] at hjm
  rcases List.mem_append.1 hjm with hja | hjb
  · have := hn j hja; rw [hj] at this; cases this
  · rcases List.mem_cons.1 hjb with rfl | hjb
    · exact Nat.le_refl _
    · have := (List.pairwise_append.1 hr).2.1
      have := (List.pairwise_cons.1 this).1 j hjb
      simpa [leId] using this
theorem nextR_none {l : List EntD} {out : List Nat} (h : nextR l out = none) (j : Nat) : readyB l out j = false := by
  cases hj : readyB l out j with
  | false => rfl
  | true =>
    have := List.find?_eq_none.1 h j (rankL_mem.2 ⟨Nat.zero_le _, (readyB_iff.1 hj).1⟩)
    exact absurd hj this
theorem idAt_inj {l : List EntD} (hd : (l.map (·.id)).Nodup) {i j : Nat} (hi : i < l.length) (hj : j < l.length) (h : idAt l i = idAt l j) : i = j := by
  have e1 : l[i]? = some l[i] := List.getElem?_eq_getElem hi
  have e2 : l[j]? = some l[j] := List.getElem?_eq_getElem hj
  have h1 := idxOf_of hd e1
  have h2 := idxOf_of hd e2
  rw [← idAt_of e1, h, idAt_of e2] at h1
  rw [h1] at h2; exact Option.some.inj h2
/-- who is ready and of the least hash is the next one -/
theorem nextR_of {l : List EntD} (hd : (l.map (·.id)).Nodup) {out : List Nat} {i : Nat} (h1 : readyB l out i = true) (h2 : ∀ j, readyB l out j = true → idAt l i ≤ idAt l j) : nextR l out = some i := by
  cases hn : nextR l out with
  | none => have := nextR_none hn i; rw [h1] at this; cases this
  | some k =>
    obtain ⟨g1, g2⟩ := nextR_some hn
    have := g2 i h1
    have := h2 k g1
    have := idAt_inj hd (readyB_iff.1 g1).1 (readyB_iff.1 h1).1 (by omega)
    rw [this]
/-- numbers that are missing -/
theorem missing : ∀ (n : Nat) (out : List Nat), (∀ i, i < n → i ∈ out) → n ≤ out.length
  | 0, _, _ => Nat.zero_le _
  | n + 1, out, h => by
    have hm := h n (by omega)
    have ih := missing n (out.erase n) (fun i hi => (List.mem_erase_of_ne (by omega)).2 (h i (by omega)))
    rw [List.length_erase_of_mem hm] at ih
    have := List.length_pos_of_mem hm
    omega
/-- somebody is ready as long as not all are placed -/
theorem some_ready {l : List EntD} (hg : GoodE l) (out : List Nat) (h : out.length < l.length) : ∃ i, readyB l out i = true := by
  have hex : ∃ i, i < l.length ∧ i ∉ out := by
    apply Classical.byContradiction
    intro hc
    have := missing l.length out (fun i hi => Classical.byContradiction fun hn => hc ⟨i, hi, hn⟩)
    omega
  -- the least clock among those
  have key : ∀ (n : Nat) (i : Nat) (e : EntD), l[i]? = some e → e.node.cl.toNat = n → i ∉ out → ∃ i, readyB l out i = true := by
    intro n
    induction n using Nat.strongRecOn with
    | _ n ih =>
      intro i e he hn hi
      by_cases hr : ∀ p ∈ e.node.ps, inOut l out p = true
      · exact ⟨i, readyB_iff.2 ⟨(List.getElem?_eq_some_iff.1 he).1, hi, lackN_zero.2 (by rw [parsAt_of he]; exact hr)⟩⟩
      · obtain ⟨p, hp⟩ := Classical.not_forall.1 hr
        obtain ⟨hp1, hp2⟩ := Classical.not_imp.1 hp
        obtain ⟨k, e2, h1, h2, h3⟩ := hg.par e (List.mem_of_getElem? he) p hp1
        have hk : k ∉ out := by
          intro hk; exact hp2 (by unfold inOut; rw [h1]; simpa using hk)
        have hc := (nodeErr_zero (hg.node e2 (List.mem_of_getElem? h2))).2.1
        exact ih e2.node.cl.toNat (by omega) k e2 h2 rfl hk
  obtain ⟨i, hi, hio⟩ := hex
  exact key _ i l[i] (List.getElem?_eq_getElem hi) rfl hio
theorem ordN_len {l : List EntD} (hg : GoodE l) : ∀ n, n ≤ l.length → (ordN l n).length = n
  | 0, _ => rfl
  | n + 1, h => by
    have ih := ordN_len hg n (by omega)
    obtain ⟨j, hj⟩ := some_ready hg (ordN l n) (by omega)
    simp only [ordN]
    cases hn : nextR l (ordN l n) with
    | none => have := nextR_none hn j; rw [hj] at this; cases this
    | some i => simp [ih]
theorem ordN_succ {l : List EntD} {n i : Nat} (h : nextR l (ordN l n) = some i) : ordN l (n + 1) = ordN l n ++ [i] := by simp only [ordN, h]
theorem ordN_ok {l : List EntD} : ∀ n, (ordN l n).Nodup ∧ (∀ i ∈ ordN l n, i < l.length)
  | 0 => ⟨List.nodup_nil, by simp [ordN]⟩
  | n + 1 => by
    obtain ⟨h1, h2⟩ := ordN_ok (l := l) n
    simp only [ordN]
    cases hn : nextR l (ordN l n) with
    | none => exact ⟨h1, h2⟩
    | some i =>
      have hr := readyB_iff.1 (nextR_some hn).1
      refine ⟨List.nodup_append.2 ⟨h1, by simp, fun a ha b hb => ?_⟩, fun j hj => ?_⟩
      · simp at hb; subst hb; rintro rfl; exact hr.2.1 ha
      · rcases List.mem_append.1 hj with hj | hj
        · exact h2 j hj
        · simp at hj; subst hj; exact hr.1
end Go.Sl
namespace Go.Sl
open Go
/-! ### rows by functions -/
theorem set_range_map {g : Nat → Value} {N k : Nat} {v : Value} : ((List.range N).map g).set k v = (List.range N).map (fun j => if j = k then v else g j) := by
  apply List.ext_getElem?
  intro j
  by_cases hj : j < N
  · by_cases hjk : k = j
    · subst hjk; simp [hj]
    · simp [hj, hjk, Ne.symm hjk]
  · have h1 : (List.range N)[j]? = none := by simp; omega
    rw [List.getElem?_map, h1]
    simp; omega
theorem get_range_map {g : Nat → Value} {N k : Nat} (hk : k < N) : ((List.range N).map g)[k]? = some (g k) := by simp [hk]
theorem get_range_map1 {g : Nat → Value} {N k : Nat} (hk : k < N) : ((List.range N).map g)[0 + k * 1]? = some (g k) := by rw [Nat.zero_add, Nat.mul_one]; exact get_range_map hk
theorem replicate_range {N : Nat} {v : Value} : List.replicate N v = (List.range N).map (fun _ => v) := by
  apply List.ext_getElem?
  intro j
  by_cases hj : j < N <;> simp [hj]
theorem map_range_congr {f g : Nat → Value} {N : Nat} (h : ∀ k, k < N → f k = g k) : (List.range N).map f = (List.range N).map g := by
  apply List.map_congr_left
  intro k hk
  exact h k (by simpa using hk)
theorem flat_split {hs : Nat → HList} {N n : Nat} (hn : n < N) : (List.range N).flatMap hs = (List.range n).flatMap hs ++ (hs n ++ (List.range' (n + 1) (N - (n + 1))).flatMap hs) := by
  have : List.range N = List.range n ++ (n :: List.range' (n + 1) (N - (n + 1))) := by
    rw [List.range_eq_range', List.range_eq_range', show N = n + (1 + (N - (n + 1))) by omega, ← List.range'_append_1, ← List.range'_append_1]
    simp
    omega
  rw [this]; simp
theorem flat_congr {f g : Nat → HList} {l : List Nat} (h : ∀ n ∈ l, f n = g n) : l.flatMap f = l.flatMap g := by
  induction l with
  | nil => rfl
  | cons a l ih => simp [h a (by simp), ih (fun n hn => h n (by simp [hn]))]
theorem flat_update {hs : Nat → HList} {N n : Nat} (hn : n < N) (h' : HList) : (List.range N).flatMap (fun j => if j = n then h' else hs j) = (List.range n).flatMap hs ++ (h' ++ (List.range' (n + 1) (N - (n + 1))).flatMap hs) := by
  rw [flat_split hn]
  simp only [if_true]
  rw [flat_congr (l := List.range n) (g := hs), flat_congr (l := List.range' (n + 1) (N - (n + 1))) (g := hs)]
  · intro k hk; rw [List.mem_range'_1] at hk; rw [if_neg (by omega)]
  · intro k hk; rw [List.mem_range] at hk; rw [if_neg (by omega)]

/-! ### lists of lists of numbers -/
def eNats : Enc (List Nat) := fun σ l vs => ∃ sv, vs = [sv] ∧ sv.oneCell' = true ∧ SlE σ eNat 1 8 sv l
theorem eNats_mono : Enc.Mono eNats := fun _ _ _ _ hl ⟨sv, h1, h2, h3⟩ => ⟨sv, h1, h2, h3.mono eNat_mono hl⟩
def KidsO (σ : View) (N : Nat) (f : Nat → List Nat) (svs : Nat → Value) (hs : Nat → HList) : Prop := ∀ n, n < N → SlO σ eNat 3 1 (svs n) (f n) (hs n)
theorem KidsO.zero (σ : View) (N : Nat) : KidsO σ N (fun _ => []) (fun _ => .slice none 0 0) (fun _ => []) := fun _ _ => SlO.nil
theorem KidsO.set {σ : View} {N : Nat} {f : Nat → List Nat} {svs : Nat → Value} {hs : Nat → HList} (h : KidsO σ N f svs hs) {n : Nat} {v : Value} {h' : HList} {a : List Nat} (hn : SlO σ eNat 3 1 v a h') {f' : Nat → List Nat}
    (hf : ∀ k, k < N → f' k = if k = n then a else f k) : KidsO σ N f' (fun j => if j = n then v else svs j) (fun j => if j = n then h' else hs j) := fun k hk => by
  rw [hf k hk]
  by_cases hkn : k = n
  · simp only [if_pos hkn]; exact hn
  · simp only [if_neg hkn]; exact h k hk
theorem SlO.one_cell {α : Type} {σ : View} {E : Enc α} {T : TypeId} {sz : Nat} {sv : Value} {l : List α} {h : HList} (hs : SlO σ E T sz sv l h) : sv.oneCell' = true := by
  obtain ⟨a, c, rfl, _⟩ := hs.shape; rfl
/-- all of them are given up -/
theorem St.giveKids {σ : View} {f : Nat → List Nat} {svs : Nat → Value} {hs : Nat → HList} {w : World} (hby : ∀ n, (f n).length * 8 ≤ 140737488355328) : ∀ (N : Nat) (H1 H2 : HList), KidsO σ N f svs hs → St σ (H1 ++ ((List.range N).flatMap hs ++ H2)) w →
    ∃ σ', σ.le σ' ∧ (∀ n, n < N → SlE σ' eNat 1 8 (svs n) (f n)) ∧ St σ' (H1 ++ H2) w := by
  intro N
  induction N with
  | zero => intro H1 H2 _ hst; exact ⟨σ, View.le_refl _, fun n hn => by omega, by simpa using hst⟩
  | succ N ih =>
    intro H1 H2 hk hst
    rw [List.range_succ, List.flatMap_append] at hst
    obtain ⟨σ1, l1, k1, s1⟩ := ih H1 (hs N ++ H2) (fun n hn => hk n (by omega)) (by simpa using hst)
    have hN := (hk N (by omega)).mono eNat_mono l1
    obtain ⟨σ2, l2, k2, s2⟩ := St.giveS (byt := 8) eNat_mono hN (hby N) s1
    refine ⟨σ2, View.le_trans l1 l2, fun n hn => ?_, s2⟩
    rcases Nat.lt_or_ge n N with h | h
    · exact (k1 n h).mono eNat_mono l2
    · have : n = N := by omega
      subst this; exact k2
theorem WC.giveKids {P : Program} {r : Option Nat} {Q : Exit → Act → World → Prop} {c : Code} {n0 : Nat} {d : List Deferred} {m : Slots} {σ : View} {H H1 H2 : HList} {f : Nat → List Nat} {svs : Nat → Value} {hs : Nat → HList} {N bk : Nat}
    (hby : ∀ n, (f n).length * 8 ≤ 140737488355328) (hN : N * 24 ≤ 140737488355328) (hk : KidsO σ N f svs hs) (hH : H = (bk, rowO 24 ((List.range N).map svs)) :: (H1 ++ ((List.range N).flatMap hs ++ H2)))
    (k : ∀ σ', σ.le σ' → SlE σ' eNats 1 24 (.slice (some ⟨bk, 0, none⟩) N N) ((List.range N).map f) → WC P r Q c n0 d m σ' (H1 ++ H2)) : WC P r Q c n0 d m σ H := fun a w hf hst => by
  subst hH
  obtain ⟨σ1, l1, k1, s1⟩ := St.giveKids hby N ((bk, rowO 24 ((List.range N).map svs)) :: H1) H2 hk (by simpa using hst)
  have hg := St.give (H1 := []) (H2 := H1 ++ H2) (b := bk) (o := rowO 24 ((List.range N).map svs)) (by simpa using s1)
  refine k _ (View.le_trans l1 (View.le_add _ hg.2)) ?_ a w hf (by simpa using hg.1)
  refine ⟨_, N, by simp, by simp, by simpa using hN, .inr ⟨bk, 0, rfl, fun i x hx => ?_⟩⟩
  have hi : i < N := by have := (List.getElem?_eq_some_iff.1 hx).1; simpa using this
  simp [hi] at hx
  subst hx
  refine ⟨[svs i], rfl, by simp [(hk i hi).one_cell], ⟨svs i, rfl, (hk i hi).one_cell, (k1 i hi).mono eNat_mono (View.le_add _ hg.2)⟩, ?_⟩
  have := RdV.row (View.add_same σ1 bk (rowO 24 ((List.range N).map svs)))
  have h2 := this.idx (i := 0 + i * 1) (v := svs i) (by rw [Nat.zero_add, Nat.mul_one]; exact get_range_map hi)
  simpa using h2

/-! ### kids -/
def kidsF (l : List EntD) (i q n : Nat) : List Nat := (List.range i).filter (fun j => decide (idAt l n ∈ parsAt l j)) ++ (if idAt l n ∈ (parsAt l i).take q then [i] else [])
/-- whose parent n is -/
def kidsL (l : List EntD) (n : Nat) : List Nat := (List.range l.length).filter (fun j => decide (idAt l n ∈ parsAt l j))
theorem kidsF_zero (l : List EntD) (n : Nat) : kidsF l 0 0 n = [] := by simp [kidsF]
theorem kidsF_end {l : List EntD} {i q n : Nat} (hq : (parsAt l i).length ≤ q) : kidsF l i q n = kidsF l (i + 1) 0 n := by
  unfold kidsF
  rw [List.take_of_length_le hq, List.range_succ, List.filter_append]
  by_cases h : idAt l n ∈ parsAt l i <;> simp [h]
theorem kidsF_all {l : List EntD} (n : Nat) : kidsF l l.length 0 n = kidsL l n := by simp [kidsF, kidsL]
theorem parsAt_nodup {l : List EntD} (hg : GoodE l) (i : Nat) : (parsAt l i).Nodup := by
  unfold parsAt
  split
  · rename_i e he
    have := (nodeErr_zero (hg.node e (List.mem_of_getElem? he))).2.2.1.2
    exact List.Pairwise.imp (fun {a b} (h : a < b) => Nat.ne_of_lt h) this
  · exact List.nodup_nil
theorem idx_id {l : List EntD} (hd : (l.map (·.id)).Nodup) {p n : Nat} : idxOf l p = some n ↔ n < l.length ∧ idAt l n = p := by
  constructor
  · intro h
    obtain ⟨e, he, hp⟩ := idxOf_some h
    exact ⟨(List.getElem?_eq_some_iff.1 he).1, by rw [idAt_of he, hp]⟩
  · rintro ⟨h1, h2⟩
    have he : l[n]? = some l[n] := List.getElem?_eq_getElem h1
    rw [← h2, idAt_of he]; exact idxOf_of hd he
theorem kidsF_step {l : List EntD} (hg : GoodE l) {i q p n0 : Nat} (hp : (parsAt l i)[q]? = some p) (hn : idxOf l p = some n0) (n : Nat) (hnl : n < l.length) : kidsF l i (q + 1) n = if n = n0 then kidsF l i q n0 ++ [i] else kidsF l i q n := by
  obtain ⟨h1, h2⟩ := (idx_id hg.nodup).1 hn
  have hnd := parsAt_nodup hg i
  have hnot : p ∉ (parsAt l i).take q := by
    intro hm
    obtain ⟨j, hj⟩ := List.getElem?_of_mem hm
    have hjl := (List.getElem?_eq_some_iff.1 hj).1
    rw [List.length_take] at hjl
    rw [List.getElem?_take_of_lt (by omega)] at hj
    obtain ⟨a1, a2⟩ := List.getElem?_eq_some_iff.1 hj
    obtain ⟨b1, b2⟩ := List.getElem?_eq_some_iff.1 hp
    have := (List.pairwise_iff_getElem.1 hnd) j q a1 b1 (by omega)
    rw [a2, b2] at this; exact this rfl
  unfold kidsF
  rw [List.take_add_one, hp]
  by_cases hnn : n = n0
  · subst hnn
    rw [if_pos rfl, if_pos (by rw [h2]; simp), if_neg (by rw [h2]; exact hnot)]
    simp
  · rw [if_neg hnn]
    have hne : idAt l n ≠ p := fun h => hnn (idAt_inj hg.nodup hnl h1 (by rw [h, h2]))
    simp [hne]
theorem kidsL_lt {l : List EntD} {n k : Nat} (h : k ∈ kidsL l n) : k < l.length ∧ idAt l n ∈ parsAt l k := by
  simpa [kidsL] using h
theorem kidsL_len (l : List EntD) (n : Nat) : (kidsL l n).length ≤ l.length := by
  have := List.length_filter_le (fun j => decide (idAt l n ∈ parsAt l j)) (List.range l.length)
  simpa [kidsL] using this
theorem kidsF_len (l : List EntD) (i q n : Nat) : (kidsF l i q n).length ≤ i + 1 := by
  unfold kidsF
  have := List.length_filter_le (fun j => decide (idAt l n ∈ parsAt l j)) (List.range i)
  simp only [List.length_append, List.length_range] at this ⊢
  split <;> simp <;> omega
theorem countP_push {f g : Nat → Bool} {x : Nat} (hx : f x = true ∧ g x = false) (hg : ∀ p, p ≠ x → g p = f p) : ∀ (ps : List Nat), ps.Nodup → ps.countP g + (if x ∈ ps then 1 else 0) = ps.countP f
  | [], _ => rfl
  | p :: ps, h => by
    rw [List.nodup_cons] at h
    have ih := countP_push hx hg ps h.2
    by_cases hp : p = x
    · subst hp
      rw [List.countP_cons, List.countP_cons, hx.1, hx.2]
      rw [if_neg h.1] at ih
      simp
      omega
    · rw [List.countP_cons, List.countP_cons, hg p hp]
      have : (x ∈ p :: ps) ↔ x ∈ ps := by simp [Ne.symm hp]
      simp only [this]
      omega
theorem lackN_push {l : List EntD} (hg : GoodE l) {out : List Nat} {n : Nat} (hn : n < l.length) (ho : n ∉ out) (i : Nat) : lackN l (out ++ [n]) i + (if idAt l n ∈ parsAt l i then 1 else 0) = lackN l out i := by
  unfold lackN
  refine countP_push ?_ ?_ _ (parsAt_nodup hg i)
  · have h1 := (idx_id hg.nodup).2 ⟨hn, rfl⟩
    simp [inOut, h1, ho]
  · intro p hp
    unfold inOut
    cases hx : idxOf l p with
    | none => rfl
    | some k =>
      have hk : k ≠ n := by
        rintro rfl
        exact hp ((idx_id hg.nodup).1 hx).2.symm
      simp [hk]
theorem lackN_nil (l : List EntD) (hg : GoodE l) (i : Nat) : lackN l [] i = (parsAt l i).length := by
  unfold lackN
  rw [List.countP_eq_length]
  intro p _
  unfold inOut
  cases idxOf l p <;> simp

/-! ### rows in use -/
theorem get_row {g f : Nat → Value} {N k : Nat} (hg : ∀ k, k < N → g k = f k) (hk : k < N) : ((List.range N).map g)[0 + k * 1]? = some (f k) := by
  rw [← hg k hk]; exact get_range_map1 hk
section
variable {P : Program} {m : Slots} {σ : View} {H : HList} {dst : Option Tmp} {ty : TypeId} {pos : String} {af : Array Edge} {g0 : Option (Nat × Bool)}
theorem Run.storeF {t : TypeId} {x y : Operand} {b k N : Nat} {v : Value} {T : TypeId} {g : Nat → Value} {H' : HList} (hx : opv m x = some (.pointer (some ⟨b, 0 + k * 1, none⟩))) (hy : opv m y = some v)
    (ht : tyc P t = some none) (h1 : v.oneCell' = true) (p : Part H [(b, rowO T ((List.range N).map g))] [(b, rowO T ((List.range N).map fun j => if j = k then v else g j))] H') (hk : k < N) (hsz : (P.info? t).map (·.size) = some 1) :
    Run P m ⟨dst, .store t x y, ty, pos, af, g0⟩ σ H undef σ H' := by
  refine Run.store1 (T := T) (l := (List.range N).map g) hx hy ht h1 ?_ (by simpa using hk) hsz
  rw [show 0 + k * 1 = k by omega, set_range_map]; exact p
end
theorem kfold {hs : Nat → HList} {N n : Nat} {pre Hr h' : HList} (hn : n < N) : (pre ++ (List.range n).flatMap hs) ++ (h' ++ ((List.range' (n + 1) (N - (n + 1))).flatMap hs ++ Hr)) = pre ++ ((List.range N).flatMap (fun j => if j = n then h' else hs j) ++ Hr) := by
  rw [flat_update hn]; simp
theorem ksplit {hs : Nat → HList} {N n : Nat} {pre Hr : HList} (hn : n < N) : pre ++ ((List.range N).flatMap hs ++ Hr) = (pre ++ (List.range n).flatMap hs) ++ (hs n ++ ((List.range' (n + 1) (N - (n + 1))).flatMap hs ++ Hr)) := by
  rw [flat_split hn]; simp
theorem flat_nil {N : Nat} {Hr : HList} : (List.range N).flatMap (fun _ => ([] : HList)) ++ Hr = Hr := by simp
theorem kids_rd {σ : View} {b N n : Nat} {f : Nat → List Nat} (h : SlE σ eNats 1 24 (.slice (some ⟨b, 0, none⟩) N N) ((List.range N).map f)) (hn : n < N) : ∃ ka kc, RdV σ b (0 + n * 1) [.slice ka (f n).length kc] ∧ SlE σ eNat 1 8 (.slice ka (f n).length kc) (f n) := by
  obtain ⟨b', off', cap', e, _, _, hat⟩ := h.at (by simp; omega)
  simp at e
  obtain ⟨⟨rfl, rfl⟩, _⟩ := e
  obtain ⟨vs, _, _, ⟨sv, rfl, _, h3⟩, hr⟩ := hat n (f n) (by simp [hn])
  obtain ⟨ka, kc, rfl, _⟩ := h3.shape
  exact ⟨ka, kc, hr, h3⟩
theorem kidsL_nodup (l : List EntD) (n : Nat) : (kidsL l n).Nodup := List.Nodup.sublist List.filter_sublist List.nodup_range
theorem nextR_take {l : List EntD} {out : List Nat} {s i : Nat} (h : ((rankL l 0 l.length).take s).find? (readyB l out) = some i) : nextR l out = some i := by
  unfold nextR
  rw [← List.take_append_drop s (rankL l 0 l.length), List.find?_append, h]; rfl
theorem find_step {R : List Nat} {p : Nat → Bool} {s i : Nat} (hi : R[s]? = some i) (hn : (R.take s).find? p = none) : (R.take (s + 1)).find? p = if p i then some i else none := by
  rw [List.take_add_one, hi, List.find?_append, hn]
  cases hp : p i <;> simp [hp]

/-! ### a step of the order -/
theorem next_ex {l : List EntD} (hg : GoodE l) {n : Nat} (hn : n < l.length) : ∃ i0, nextR l (ordN l n) = some i0 := by
  cases hx : nextR l (ordN l n) with
  | some i => exact ⟨i, rfl⟩
  | none =>
    obtain ⟨j, hj⟩ := some_ready hg (ordN l n) (by rw [ordN_len hg n (by omega)]; exact hn)
    have := nextR_none hx j
    rw [hj] at this; cases this
theorem placed_step {l : List EntD} {n i0 : Nat} {gp : Nat → Value} (h : nextR l (ordN l n) = some i0) (hgp : ∀ k, k < l.length → gp k = .bool (decide (k ∈ ordN l n))) :
    ∀ k, k < l.length → (if k = i0 then Value.bool true else gp k) = .bool (decide (k ∈ ordN l (n + 1))) := fun k hk => by
  rw [ordN_succ h]
  by_cases h1 : k = i0
  · subst h1; simp
  · rw [if_neg h1, hgp k hk]; simp [h1]
theorem kid_pos {l : List EntD} (hg : GoodE l) {n i0 k0 : Nat} (h : nextR l (ordN l n) = some i0) (hk : k0 ∈ kidsL l i0) : lackN l (ordN l (n + 1)) k0 + 1 = lackN l (ordN l n) k0 := by
  have hr := readyB_iff.1 (nextR_some h).1
  have := lackN_push hg hr.1 hr.2.1 k0
  rw [ordN_succ h, ← this, if_pos (kidsL_lt hk).2]
theorem kid_take {l : List EntD} {i0 q : Nat} (hq : q < (kidsL l i0).length) : (kidsL l i0).getD q 0 ∉ (kidsL l i0).take q := by
  intro hm
  obtain ⟨j, hj⟩ := List.getElem?_of_mem hm
  have hjl := (List.getElem?_eq_some_iff.1 hj).1
  rw [List.length_take] at hjl
  rw [List.getElem?_take_of_lt (by omega)] at hj
  obtain ⟨a1, a2⟩ := List.getElem?_eq_some_iff.1 hj
  obtain ⟨b1, b2⟩ := List.getElem?_eq_some_iff.1 (getD_some hq)
  have := (List.pairwise_iff_getElem.1 (kidsL_nodup l i0)) j q a1 b1 (by omega)
  rw [a2, b2] at this; exact this rfl
theorem kid_step {l : List EntD} {n i0 q : Nat} {gl : Nat → Value} (hq : q < (kidsL l i0).length)
    (hgl : ∀ k, k < l.length → gl k = .int .i64 ((lackN l (ordN l n) k - (if k ∈ (kidsL l i0).take q then 1 else 0) : Nat) : Int)) :
    ∀ k, k < l.length → (if k = (kidsL l i0).getD q 0 then Value.int .i64 ((lackN l (ordN l n) ((kidsL l i0).getD q 0) - 1 : Nat) : Int) else gl k) = .int .i64 ((lackN l (ordN l n) k - (if k ∈ (kidsL l i0).take (q + 1) then 1 else 0) : Nat) : Int) := fun k hk => by
  rw [List.take_add_one, getD_some hq]
  by_cases h1 : k = (kidsL l i0).getD q 0
  · rw [if_pos h1, if_pos (by rw [h1]; simp), h1]
  · have hm : (k ∈ (kidsL l i0).take q ++ (some ((kidsL l i0).getD q 0)).toList) ↔ k ∈ (kidsL l i0).take q := by
      rw [List.mem_append]
      exact ⟨fun h => h.resolve_right (fun h2 => h1 (by simpa only [Option.toList_some, List.mem_singleton] using h2)), Or.inl⟩
    rw [if_neg h1, hgl k hk]; simp only [hm]
theorem lack_step {l : List EntD} (hg : GoodE l) {n i0 : Nat} {gl : Nat → Value} (h : nextR l (ordN l n) = some i0)
    (hgl : ∀ k, k < l.length → gl k = .int .i64 ((lackN l (ordN l n) k - (if k ∈ kidsL l i0 then 1 else 0) : Nat) : Int)) : ∀ k, k < l.length → gl k = .int .i64 ((lackN l (ordN l (n + 1)) k : Nat) : Int) := fun k hk => by
  rw [hgl k hk]
  have hr := readyB_iff.1 (nextR_some h).1
  have := lackN_push hg hr.1 hr.2.1 k
  rw [ordN_succ h, ← this]
  have hm : k ∈ kidsL l i0 ↔ idAt l i0 ∈ parsAt l k := by simp [kidsL, hk]
  by_cases h1 : k ∈ kidsL l i0
  · rw [if_pos h1, if_pos (hm.1 h1)]; simp
  · rw [if_neg h1, if_neg (fun h2 => h1 (hm.2 h2))]; simp

theorem parsAt_len {l : List EntD} (hg : GoodE l) (i : Nat) : (parsAt l i).length ≤ 64 := by
  unfold parsAt
  split
  · rename_i e he; exact (nodeErr_zero (hg.node e (List.mem_of_getElem? he))).2.2.1.1
  · simp
theorem lackN_le {l : List EntD} (hg : GoodE l) (out : List Nat) (i : Nat) : lackN l out i ≤ 64 := Nat.le_trans List.countP_le_length (parsAt_len hg i)
end Go.Sl
namespace Go.Sl
open Go
/-! ### heaps of hashes -/
def par (k : Nat) : Nat := (k - 1) / 2
def HeapN (hs : List Nat) (n : Nat) : Prop := ∀ k, 0 < k → k < n → hs.getD (par k) 0 ≤ hs.getD k 0
def swapL (hs : List Nat) (i j : Nat) : List Nat := (hs.set i (hs.getD j 0)).set j (hs.getD i 0)
theorem swapL_len (hs : List Nat) (i j : Nat) : (swapL hs i j).length = hs.length := by simp [swapL]
theorem getD_set' (l : List Nat) (i k v : Nat) (hi : i < l.length) : (l.set i v).getD k 0 = if k = i then v else l.getD k 0 := by
  simp only [List.getD_eq_getElem?_getD, List.getElem?_set]
  by_cases h : i = k
  · subst h; simp [hi]
  · rw [if_neg h, if_neg (Ne.symm h)]
theorem swapL_get {hs : List Nat} {i j : Nat} (hi : i < hs.length) (hj : j < hs.length) (k : Nat) : (swapL hs i j).getD k 0 = if k = j then hs.getD i 0 else if k = i then hs.getD j 0 else hs.getD k 0 := by
  unfold swapL
  rw [getD_set' _ _ _ _ (by simpa using hj), getD_set' _ _ _ _ hi]
theorem getElem_getD {l : List Nat} {i : Nat} (h : i < l.length) : l[i] = l.getD i 0 := by
  rw [List.getD_eq_getElem?_getD, List.getElem?_eq_getElem h]; rfl
theorem swapL_perm {hs : List Nat} {i j : Nat} (hi : i < hs.length) (hj : j < hs.length) : (swapL hs i j).Perm hs := by
  unfold swapL
  have := List.set_set_perm hi hj
  rw [getElem_getD hi, getElem_getD hj] at this
  exact this
/-- heap but for the one at j, which may be too small -/
structure UpInv (hs : List Nat) (n j : Nat) : Prop where
  lt : j < n
  other : ∀ k, 0 < k → k < n → k ≠ j → hs.getD (par k) 0 ≤ hs.getD k 0
  grand : ∀ k, 0 < k → k < n → par k = j → 0 < j → hs.getD (par j) 0 ≤ hs.getD k 0
theorem UpInv.done {hs : List Nat} {n j : Nat} (h : UpInv hs n j) (hd : j = 0 ∨ ¬ hs.getD j 0 < hs.getD (par j) 0) : HeapN hs n := fun k h0 hk => by
  by_cases hkj : k = j
  · subst hkj
    rcases hd with hd | hd <;> omega
  · exact h.other k h0 hk hkj
theorem UpInv.step {hs : List Nat} {n j : Nat} (h : UpInv hs n j) (hn : n ≤ hs.length) (h0 : 0 < j) (hlt : hs.getD j 0 < hs.getD (par j) 0) : UpInv (swapL hs (par j) j) n (par j) := by
  have hlt2 := h.lt
  have hp : par j < j := by unfold par; omega
  have hi : par j < hs.length := by omega
  have hj : j < hs.length := by omega
  refine ⟨by omega, fun k hk0 hk hkp => ?_, fun k hk0 hk hkp hp0 => ?_⟩
  · rw [swapL_get hi hj, swapL_get hi hj]
    by_cases hkj : k = j
    · subst hkj
      rw [if_pos rfl, if_neg (by omega), if_pos rfl]; omega
    · rw [if_neg hkj, if_neg hkp]
      by_cases hpk : par k = j
      · rw [if_pos hpk]; exact h.grand k hk0 hk hpk h0
      · rw [if_neg hpk]
        by_cases hpp : par k = par j
        · rw [if_pos hpp]; have := h.other k hk0 hk hkj; rw [hpp] at this; omega
        · rw [if_neg hpp]; exact h.other k hk0 hk hkj
  · rw [swapL_get hi hj, swapL_get hi hj]
    have hppj : par (par j) < par j := by unfold par at hp0 ⊢; omega
    rw [if_neg (by omega), if_neg (by omega)]
    have hgp := h.other (par j) hp0 (by omega) (by omega)
    by_cases hkj : k = j
    · rw [if_pos hkj]; exact hgp
    · rw [if_neg hkj]
      by_cases hkp2 : k = par j
      · subst hkp2; exfalso; unfold par at hkp hk0; omega
      · rw [if_neg hkp2]
        have := h.other k hk0 hk hkj
        rw [hkp] at this; omega
/-- heap but for the one at i, which may be too great -/
structure DownInv (hs : List Nat) (n i : Nat) : Prop where
  other : ∀ k, 0 < k → k < n → par k ≠ i → hs.getD (par k) 0 ≤ hs.getD k 0
  grand : ∀ k, 0 < k → k < n → par k = i → 0 < i → hs.getD (par i) 0 ≤ hs.getD k 0
theorem par_kids {k i : Nat} (hk : 0 < k) : par k = i ↔ k = 2 * i + 1 ∨ k = 2 * i + 1 + 1 := by unfold par; omega
theorem DownInv.done {hs : List Nat} {n i : Nat} (h : DownInv hs n i) (hd : ∀ k, 0 < k → k < n → par k = i → hs.getD i 0 ≤ hs.getD k 0) : HeapN hs n := fun k h0 hk => by
  by_cases hki : par k = i
  · rw [hki]; exact hd k h0 hk hki
  · exact h.other k h0 hk hki
theorem DownInv.step {hs : List Nat} {n i j : Nat} (h : DownInv hs n i) (hn : n ≤ hs.length) (hj : par j = i) (hj0 : 0 < j) (hjn : j < n) (hmin : ∀ k, 0 < k → k < n → par k = i → hs.getD j 0 ≤ hs.getD k 0) (hlt : hs.getD j 0 < hs.getD i 0) : DownInv (swapL hs i j) n j := by
  have hij : i < j := by rw [← hj]; unfold par; omega
  have hi' : i < hs.length := by omega
  have hj' : j < hs.length := by omega
  refine ⟨fun k hk0 hk hkp => ?_, fun k hk0 hk hkp _ => ?_⟩
  · rw [swapL_get hi' hj', swapL_get hi' hj', if_neg hkp]
    by_cases hkj : k = j
    · subst hkj; rw [if_pos rfl, if_pos hj]; omega
    · rw [if_neg hkj]
      by_cases hki : k = i
      · subst hki
        rw [if_pos rfl, if_neg (by unfold par; omega)]
        exact h.grand j hj0 hjn hj hk0
      · rw [if_neg hki]
        by_cases hpi : par k = i
        · rw [if_pos hpi]; exact hmin k hk0 hk hpi
        · rw [if_neg hpi]; exact h.other k hk0 hk hpi
  · rw [swapL_get hi' hj', swapL_get hi' hj', hj, if_neg (by omega), if_pos rfl]
    have hkj : j < k := by rw [← hkp]; unfold par; omega
    rw [if_neg (by omega), if_neg (by omega)]
    have := h.other k hk0 hk (by rw [hkp]; omega)
    rw [hkp] at this; exact this
theorem HeapN.root {hs : List Nat} {n : Nat} (h : HeapN hs n) : ∀ k, k < n → hs.getD 0 0 ≤ hs.getD k 0 := by
  intro k
  induction k using Nat.strongRecOn with
  | _ k ih =>
    intro hk
    by_cases h0 : k = 0
    · subst h0; omega
    · have h1 := ih (par k) (by unfold par; omega) (by unfold par; omega)
      have h2 := h k (by omega) hk
      omega
/-- the first taken to the end -/
theorem HeapN.pop {hs : List Nat} {n : Nat} (h : HeapN hs hs.length) (hn : hs.length = n + 1) : DownInv (swapL hs 0 n) n 0 := by
  refine ⟨fun k hk0 hk hkp => ?_, fun k hk0 hk hkp h0 => by omega⟩
  have hpk : par k < k := by unfold par; omega
  rw [swapL_get (by omega) (by omega), swapL_get (by omega) (by omega), if_neg (by omega), if_neg hkp, if_neg (by omega), if_neg (by omega)]
  exact h k hk0 (by omega)
theorem HeapN.push {hs : List Nat} {x : Nat} (h : HeapN hs hs.length) : UpInv (hs ++ [x]) (hs.length + 1) hs.length := by
  have hg : ∀ k, k < hs.length → (hs ++ [x]).getD k 0 = hs.getD k 0 := fun k hk => by
    simp [List.getD_eq_getElem?_getD, List.getElem?_append_left hk]
  refine ⟨by omega, fun k hk0 hk hkj => ?_, fun k hk0 hk hkp _ => ?_⟩
  · have : par k < k := by unfold par; omega
    rw [hg _ (by omega), hg _ (by omega)]; exact h k hk0 (by omega)
  · have : par k < k := by unfold par; omega
    omega
theorem HeapN.congr {hs gs : List Nat} {n : Nat} (h : HeapN hs n) (hg : ∀ k, k < n → gs.getD k 0 = hs.getD k 0) : HeapN gs n := fun k h0 hk => by
  rw [hg k hk, hg (par k) (by unfold par; omega)]; exact h k h0 hk

/-! ### their rows -/
def HsRow (hs : List Nat) (cap : Nat) (l : List Value) : Prop := l.length = cap * 32 ∧ hs.length ≤ cap ∧ ∀ i, i < hs.length → Sub l (i * 32) (hashCells (hs.getD i 0)) ∧ IsH (hs.getD i 0)
theorem SlO.hsRow {σ : View} {sv : Value} {hs : List Nat} {h : HList} (hso : SlO σ eHash 31 32 sv hs h) (h0 : 0 < hs.length) : ∃ b cap l, sv = .slice (some ⟨b, 0, none⟩) hs.length cap ∧ h = [(b, rowO 31 l)] ∧ HsRow hs cap l := by
  obtain ⟨b, cap, junk, vss, e1, e2, e3, e4, e5⟩ := hso.at h0
  refine ⟨b, cap, _, e1, e2, ?_, e3, fun i hi => ?_⟩
  · rw [List.length_append, e5.flat, e4, ← Nat.add_mul]; congr 1; omega
  · obtain ⟨vs, h1, h2, h3, ⟨rfl, hH⟩⟩ := e5.2 i (hs.getD i 0) (getD_some hi)
    refine ⟨fun j v hj => ?_, hH⟩
    have := flatten_sub vss i _ e5.len h1 j v hj
    rw [List.getElem?_append_left (List.getElem?_eq_some_iff.1 this).1]; exact this
theorem chunks {sz : Nat} : ∀ (n : Nat) (l : List Value), l.length = n * sz → ((List.range n).map fun i => (l.drop (i * sz)).take sz).flatten = l
  | 0, l, h => by
    have : l = [] := List.eq_nil_of_length_eq_zero (by simpa using h)
    simp [this]
  | n + 1, l, h => by
    rw [List.range_succ_eq_map, List.map_cons, List.flatten_cons, List.map_map]
    have ih := chunks n (l.drop sz) (by rw [List.length_drop, h, Nat.succ_mul, Nat.add_sub_cancel])
    have e : ((fun i => (l.drop (i * sz)).take sz) ∘ Nat.succ) = fun i => ((l.drop sz).drop (i * sz)).take sz := by
      funext i; simp only [Function.comp, List.drop_drop, Nat.succ_mul]; rw [Nat.add_comm]
    rw [e, ih]; simp
theorem HsRow.slO {σ : View} {hs : List Nat} {b cap : Nat} {l : List Value} (h : HsRow hs cap l) : SlO σ eHash 31 32 (.slice (some ⟨b, 0, none⟩) hs.length cap) hs [(b, rowO 31 l)] := by
  obtain ⟨h1, h2, h3⟩ := h
  have hmul : hs.length * 32 ≤ cap * 32 := Nat.mul_le_mul_right _ h2
  have hfl : (hs.map hashCells).flatten = l.take (hs.length * 32) := by
    rw [← chunks hs.length (l.take (hs.length * 32)) (by rw [List.length_take, h1]; exact Nat.min_eq_left hmul)]
    congr 1
    apply List.ext_getElem?
    intro i
    by_cases hi : i < hs.length
    · have hsub := (h3 i hi).1
      rw [List.getElem?_map, getD_some hi, List.getElem?_map, List.getElem?_range hi]
      simp only [Option.map_some, Option.some.injEq]
      apply List.ext_getElem?
      intro j
      by_cases hj : j < 32
      · have hv := hashCells_get (hs.getD i 0) j hj
        rw [hv, List.getElem?_take_of_lt hj, List.getElem?_drop, List.getElem?_take_of_lt (by
          have : (i + 1) * 32 ≤ hs.length * 32 := Nat.mul_le_mul_right _ hi
          omega)]
        exact (hsub j _ hv).symm
      · rw [List.getElem?_eq_none (by rw [hashCells_length]; omega), List.getElem?_eq_none (by rw [List.length_take]; omega)]
    · rw [List.getElem?_eq_none (by simp; omega), List.getElem?_eq_none (by simp; omega)]
  refine ⟨hs.map hashCells, ⟨?_, .inr ⟨b, cap, l.drop (hs.length * 32), rfl, by rw [hfl, List.take_append_drop], by rw [List.length_drop, h1, ← Nat.sub_mul], h2⟩⟩, ?_⟩
  · rw [hfl, List.length_take]; omega
  · exact ⟨by simp, fun i x hx => ⟨hashCells x, by simp [hx], rfl, rfl, rfl, by
      have hi := (List.getElem?_eq_some_iff.1 hx).1
      have := (h3 i hi).2
      rw [getD_some hi] at hx; cases hx; exact this⟩⟩
end Go.Sl
namespace Go.Sl
open Go
section
variable {P : Program} {r : Option Nat} {ops : Array Oper} {Q : Exit → Act → World → Prop} {n : Nat} {d : List Deferred} {m : Slots} {σ : View} {H : HList}
/-- a guarded call of a method of an interface's value -/
theorem WL.gcallI {t u : Tmp} {T : TypeId} {x : Operand} {v : Value} {name : String} {f : FuncId} {xs : List Operand} {vs us : List Value} {ats : Array TypeId} {ty : TypeId} {pos : String} {af : Array Edge} {rest : List Oper} {H0 Hr : HList} {R : Value → View → HList → Prop} {j : Nat} {b want : Bool}
    (hj : (ops[j]?).bind (·.dst) = some u) (hu : get m u = some (.bool b)) (hb : (b == want) = true)
    (hr : opv m x = some (.iface T v)) (hx : evs m xs = some vs) (hf : ∀ w, St σ H w → (callMethod (.iface T v) name vs.toArray).run P w = .ok (.enter f us.toArray) w) (hH : (H0 ++ Hr).Perm H) (hcall : Tri P f us.toArray σ H0 R)
    (h : ∀ v σ' H', R v σ' H' → σ.le σ' → WL P r ops Q rest n d ((t, v) :: m) σ' (H' ++ Hr)) (ht : Nat.blt t n = true := by rfl) :
    WL P r ops Q (⟨some t, .call { callee := .invoke x name, args := xs.toArray, argTypes := ats }, ty, pos, af, some (j, want)⟩ :: rest) n d m σ H :=
  wl_call ⟨_, rfl⟩ (fun _ hf' => by rw [wanted_guard rfl hj hf' hu]; exact hb) (fun t' e => by cases e; exact ht) (fun ρ w ha hs => calli_run hr hx hf ρ w ha hs) hH hcall h
theorem Bin.quoPar {t : TypeId} {j : Nat} (hj : j ≤ 9223372036854775807) : Bin P .quo t (.int .i64 ((j : Int) - 1)) (.int .i64 2) (.int .i64 ((par j : Nat) : Int)) := Bin.int fun w => by
  have e : ((j : Int) - 1).tdiv 2 = ((par j : Nat) : Int) := by
    unfold par
    cases j with
    | zero => rfl
    | succ j =>
      have : ((j + 1 : Nat) : Int) - 1 = (j : Int) := by omega
      rw [this, Nat.add_sub_cancel]
      rw [Int.tdiv_eq_ediv_of_nonneg (by omega)]
      omega
  have hb : -9223372036854775808 ≤ ((par j : Nat) : Int) ∧ ((par j : Nat) : Int) ≤ 9223372036854775807 := by unfold par; omega
  simp only [binOp, Op.intArith, Op.intDiv, e]
  simp [i64_wrap hb]
theorem Pur.anyW {o : Oper} {v : Value} {m : Slots} (h : ∀ σ H, Pur P m o σ H v) : ∀ ρ w, Agree ρ m → (execOp ρ o).run P w = .ok (.value v) w := fun ρ w ha =>
  h ⟨fun _ => none, w.os, w.tape, w.output, w.drawn⟩ [] ρ w ha ⟨⟨rfl, rfl, rfl, Nat.le_refl _⟩, fun _ _ h => (by cases h), fun _ h => (by cases h), fun _ h => (by cases h), List.nodup_nil⟩
theorem SA.takeP {σ0 : View} {H0 : HList} {N fuel : Nat} {listed : Array Bool} (i : Nat) {o : Oper} {t : Tmp} {v : Value} (hok : takeOkW ops listed i = true) (hi : ops[i]? = some o) (hd : o.dst = some t) (ht : Nat.blt t n = true) (hw : Wanted ops o n d m)
    (hpur : ∀ σ H, Pur P m o σ H v)
    (h : SA P ops Q σ0 H0 N fuel (listed.setIfInBounds i true) n d ((t, v) :: m) σ H) : SA P ops Q σ0 H0 N (fuel + 1) listed n d m σ H := SA.takeW i hok hi hd ht hw (Pur.anyW hpur) h
end
/-! rows written into -/
theorem lput_len (l : List Value) (off : Nat) (vs : List Value) (h : off + vs.length ≤ l.length) : (lput l off vs).length = l.length := by
  simp [lput]; omega
theorem lput_get (l : List Value) (off : Nat) (vs : List Value) (h : off + vs.length ≤ l.length) (k : Nat) : (lput l off vs)[k]? = if off ≤ k ∧ k < off + vs.length then vs[k - off]? else l[k]? := by
  unfold lput
  by_cases h1 : k < off
  · rw [if_neg (by omega), List.append_assoc, List.getElem?_append_left (by simp; omega), List.getElem?_take_of_lt h1]
  · by_cases h2 : k < off + vs.length
    · rw [if_pos (by omega), List.append_assoc, List.getElem?_append_right (by simp; omega), List.getElem?_append_left (by simp; omega)]
      congr 1; simp; omega
    · rw [if_neg (by omega), List.getElem?_append_right (by simp; omega), List.getElem?_drop]
      congr 1; simp; omega
theorem HsRow.put {hs : List Nat} {cap i x : Nat} {l : List Value} (h : HsRow hs cap l) (hi : i < hs.length) (hx : IsH x) : HsRow (hs.set i x) cap (lput l (0 + i * 32) (hashCells x)) := by
  obtain ⟨h1, h2, h3⟩ := h
  have hb : 0 + i * 32 + (hashCells x).length ≤ l.length := by
    rw [hashCells_length, h1]
    have : (i + 1) * 32 ≤ cap * 32 := Nat.mul_le_mul_right _ (by omega)
    omega
  refine ⟨by rw [lput_len _ _ _ hb, h1], by simpa using h2, fun k hk => ?_⟩
  have hk' : k < hs.length := by simpa using hk
  rw [getD_set' _ _ _ _ hi]
  by_cases hki : k = i
  · subst hki
    rw [if_pos rfl]
    refine ⟨fun j v hj => ?_, hx⟩
    have hj32 : j < 32 := by have := (List.getElem?_eq_some_iff.1 hj).1; rw [hashCells_length] at this; exact this
    rw [lput_get _ _ _ hb, if_pos (by rw [hashCells_length]; omega)]
    rw [show k * 32 + j - (0 + k * 32) = j by omega]; exact hj
  · rw [if_neg hki]
    obtain ⟨h4, h5⟩ := h3 k hk'
    refine ⟨fun j v hj => ?_, h5⟩
    have hj32 : j < 32 := by have := (List.getElem?_eq_some_iff.1 hj).1; rw [hashCells_length] at this; exact this
    rw [lput_get _ _ _ hb, if_neg (by rw [hashCells_length]; omega)]
    exact h4 j v hj
theorem HsRow.rd {σ : View} {H : HList} {hs : List Nat} {cap i b T : Nat} {l : List Value} (h : HsRow hs cap l) (hb : (b, rowO T l) ∈ H) (hi : i < hs.length) : Rd σ H b (0 + i * 32) (hashCells (hs.getD i 0)) :=
  Rd.own_sub hb (by rw [Nat.zero_add]; exact (h.2.2 i hi).1)
theorem HsRow.bound {hs : List Nat} {cap i : Nat} {l : List Value} (h : HsRow hs cap l) (hi : i < hs.length) : 0 + i * 32 + 32 ≤ l.length := by
  have : (i + 1) * 32 ≤ cap * 32 := Nat.mul_le_mul_right _ (by have := h.2.1; omega)
  rw [h.1]; omega
theorem HsRow.pop {hs gs : List Nat} {cap : Nat} {l : List Value} (h : HsRow hs cap l) (hl : gs.length ≤ hs.length) (hg : ∀ k, k < gs.length → gs.getD k 0 = hs.getD k 0) : HsRow gs cap l :=
  ⟨h.1, by have := h.2.1; omega, fun i hi => by rw [hg i hi]; exact h.2.2 i (by omega)⟩
end Go.Sl
namespace Go.Sl
open Go
/-! ### who is ready -/
def readyL (l : List EntD) (out : List Nat) : List Nat := (List.range l.length).filter (readyB l out)
theorem mem_readyL {l : List EntD} {out : List Nat} {i : Nat} : i ∈ readyL l out ↔ readyB l out i = true := by
  unfold readyL
  rw [List.mem_filter, List.mem_range]
  exact ⟨fun h => h.2, fun h => ⟨(readyB_iff.1 h).1, h⟩⟩
theorem readyL_nodup (l : List EntD) (out : List Nat) : (readyL l out).Nodup := List.Nodup.sublist List.filter_sublist List.nodup_range
theorem lackN_mono {l : List EntD} (out : List Nat) (n k : Nat) : lackN l (out ++ [n]) k ≤ lackN l out k := by
  unfold lackN
  refine List.countP_mono_left fun p _ h => ?_
  unfold inOut at h ⊢
  cases hx : idxOf l p with
  | none => rfl
  | some j => rw [hx] at h; simp at h ⊢; exact h.1
theorem ord_closed {l : List EntD} : ∀ (n k : Nat), k ∈ ordN l n → lackN l (ordN l n) k = 0
  | 0, k, h => by simp [ordN] at h
  | n + 1, k, h => by
    simp only [ordN] at h ⊢
    cases hn : nextR l (ordN l n) with
    | none => rw [hn] at h; exact ord_closed n k h
    | some i =>
      rw [hn] at h
      have hm := lackN_mono (l := l) (ordN l n) i k
      rcases List.mem_append.1 h with h | h
      · have := ord_closed n k h; simp only; omega
      · simp at h; subst h
        have := (readyB_iff.1 (nextR_some hn).1).2.2
        simp only; omega
/-- the ones that were ready, but for the one that is placed -/
def restL (l : List EntD) (n i0 : Nat) : List Nat := (readyL l (ordN l n)).filter (fun k => decide (k ≠ i0))
/-- those of some kids that nothing lacks any more -/
def freeL (l : List EntD) (n : Nat) (ks : List Nat) : List Nat := ks.filter (fun k => lackN l (ordN l (n + 1)) k == 0)
theorem perm_of_mem {a b : List Nat} (ha : a.Nodup) (hb : b.Nodup) (h : ∀ x, x ∈ a ↔ x ∈ b) : a.Perm b := (List.perm_ext_iff_of_nodup ha hb).2 h
theorem ready_split {l : List EntD} {n i0 : Nat} (h : nextR l (ordN l n) = some i0) : (readyL l (ordN l n)).Perm (i0 :: restL l n i0) := by
  refine perm_of_mem (readyL_nodup _ _) ?_ fun x => ?_
  · refine List.nodup_cons.2 ⟨by simp [restL], List.Nodup.sublist List.filter_sublist (readyL_nodup _ _)⟩
  · have hi := mem_readyL.2 (nextR_some h).1
    simp only [restL, List.mem_cons, List.mem_filter, decide_eq_true_eq]
    constructor
    · intro hx
      by_cases he : x = i0
      · exact .inl he
      · exact .inr ⟨hx, he⟩
    · rintro (rfl | hx)
      · exact hi
      · exact hx.1
theorem ready_after {l : List EntD} (hg : GoodE l) {n i0 : Nat} (h : nextR l (ordN l n) = some i0) : (readyL l (ordN l (n + 1))).Perm (restL l n i0 ++ freeL l n (kidsL l i0)) := by
  have hr := readyB_iff.1 (nextR_some h).1
  have hs := ordN_succ h
  have key : ∀ k, k < l.length → lackN l (ordN l (n + 1)) k + (if k ∈ kidsL l i0 then 1 else 0) = lackN l (ordN l n) k := fun k hk => by
    have := lackN_push hg hr.1 hr.2.1 k
    rw [hs, ← this]
    have hm : k ∈ kidsL l i0 ↔ idAt l i0 ∈ parsAt l k := by simp [kidsL, hk]
    simp only [hm]
  refine perm_of_mem (readyL_nodup _ _) ?_ fun x => ?_
  · refine List.nodup_append.2 ⟨List.Nodup.sublist List.filter_sublist (readyL_nodup _ _), List.Nodup.sublist List.filter_sublist (kidsL_nodup _ _), ?_⟩
    intro a ha b hb hab
    subst hab
    have h1 := readyB_iff.1 (mem_readyL.1 (List.mem_filter.1 ha).1)
    have h2 := (List.mem_filter.1 hb).1
    have := key a h1.1
    rw [if_pos h2] at this; omega
  · simp only [mem_readyL, restL, freeL, List.mem_append, List.mem_filter, decide_eq_true_eq, beq_iff_eq, readyB_iff]
    constructor
    · rintro ⟨h1, h2, h3⟩
      rw [hs] at h2
      simp only [List.mem_append, List.mem_singleton, not_or] at h2
      by_cases hk : x ∈ kidsL l i0
      · exact .inr ⟨hk, h3⟩
      · have := key x h1
        rw [if_neg hk] at this
        exact .inl ⟨⟨h1, h2.1, by omega⟩, h2.2⟩
    · rintro (⟨⟨h1, h2, h3⟩, h4⟩ | ⟨h1, h2⟩)
      · have := key x h1
        refine ⟨h1, ?_, by omega⟩
        rw [hs]; simp [h2, h4]
      · have hx := (kidsL_lt h1).1
        have := key x hx
        rw [if_pos h1] at this
        refine ⟨hx, ?_, h2⟩
        rw [hs]
        simp only [List.mem_append, List.mem_singleton, not_or]
        refine ⟨fun hm => ?_, fun he => ?_⟩
        · have := ord_closed n x hm; omega
        · subst he; omega
theorem freeL_step {l : List EntD} {n q : Nat} {ks : List Nat} (hq : q < ks.length) : freeL l n (ks.take (q + 1)) = if lackN l (ordN l (n + 1)) (ks.getD q 0) = 0 then freeL l n (ks.take q) ++ [ks.getD q 0] else freeL l n (ks.take q) := by
  unfold freeL
  rw [List.take_add_one, getD_some hq, List.filter_append]
  generalize ks.getD q 0 = x
  by_cases h : lackN l (ordN l (n + 1)) x = 0 <;> simp [h]
/-- at the start -/
theorem ready_zero {l : List EntD} (hg : GoodE l) (i : Nat) : readyB l [] i = true ↔ i < l.length ∧ parsAt l i = [] := by
  rw [readyB_iff, lackN_nil l hg, List.length_eq_zero_iff]; simp
theorem ready_start {l : List EntD} {i : Nat} (hi : i ≤ l.length) (h : i = l.length) : (List.range i).filter (readyB l []) = readyL l (ordN l 0) := by subst h; rfl
/-- the least hash of those that are ready -/
theorem next_min {l : List EntD} (hg : GoodE l) {n : Nat} {hp : List Nat} (hperm : hp.Perm ((readyL l (ordN l n)).map (idAt l))) (hheap : HeapN hp hp.length) (h0 : 0 < hp.length) :
    ∃ i0, nextR l (ordN l n) = some i0 ∧ idAt l i0 = hp.getD 0 0 := by
  have hm : hp.getD 0 0 ∈ (readyL l (ordN l n)).map (idAt l) := hperm.mem_iff.1 (getD_mem h0)
  obtain ⟨i0, hi0, he⟩ := List.mem_map.1 hm
  refine ⟨i0, nextR_of hg.nodup (mem_readyL.1 hi0) fun j hj => ?_, he⟩
  have hjm : idAt l j ∈ hp := hperm.mem_iff.2 (List.mem_map.2 ⟨j, mem_readyL.2 hj, rfl⟩)
  obtain ⟨k, hk⟩ := List.getElem?_of_mem hjm
  have hkl := (List.getElem?_eq_some_iff.1 hk).1
  have := hheap.root k hkl
  rw [getD_some hkl] at hk
  have hk2 := Option.some.inj hk
  rw [he]; omega
def ordEn (l : List EntD) (n : Nat) : List EntD := (ordN l n).filterMap (l[·]?)
theorem ordEn_succ {l : List EntD} {n i0 : Nat} {e : EntD} (h : nextR l (ordN l n) = some i0) (he : l[i0]? = some e) : ordEn l (n + 1) = ordEn l n ++ [e] := by
  unfold ordEn; rw [ordN_succ h, List.filterMap_append]; simp [he]
theorem ordEn_len {l : List EntD} (hg : GoodE l) {n : Nat} (hn : n ≤ l.length) : (ordEn l n).length = n := by
  have h1 := ordN_len hg n hn
  have h2 := (ordN_ok (l := l) n).2
  unfold ordEn
  have : ∀ (is : List Nat), (∀ i ∈ is, i < l.length) → (is.filterMap (l[·]?)).length = is.length := by
    intro is
    induction is with
    | nil => intro _; rfl
    | cons i is ih =>
      intro h
      have hi := h i (by simp)
      rw [List.filterMap_cons, List.getElem?_eq_getElem hi]
      simp [ih (fun j hj => h j (by simp [hj]))]
  rw [this _ h2, h1]

theorem nodup_lt_len : ∀ (N : Nat) (l : List Nat), l.Nodup → (∀ x ∈ l, x < N) → l.length ≤ N
  | 0, l, _, h => by
    cases l with
    | nil => simp
    | cons a l => have := h a (by simp); omega
  | N + 1, l, hd, h => by
    have ih := nodup_lt_len N (l.erase N) (hd.erase N) (fun x hx => by
      have h1 := (List.Nodup.mem_erase_iff hd).1 hx
      have := h x h1.2
      have := h1.1
      omega)
    have : l.length ≤ (l.erase N).length + 1 := by
      rw [List.length_erase]; split <;> omega
    omega
/-- numbers without a gap -/
theorem all_placed {out : List Nat} {N : Nat} (h1 : out.Nodup) (h2 : ∀ i ∈ out, i < N) (h3 : out.length = N) : ∀ k, k < N → k ∈ out := by
  intro k hk
  apply Classical.byContradiction
  intro hn
  have h4 : (k :: out).Nodup := List.nodup_cons.2 ⟨hn, h1⟩
  have := nodup_lt_len N (k :: out) h4 (fun x hx => by
    rcases List.mem_cons.1 hx with rfl | hx
    · exact hk
    · exact h2 x hx)
  simp at this; omega
/-! ### in the walk -/
theorem WL.perm {P : Program} {r : Option Nat} {ops : Array Oper} {Q : Exit → Act → World → Prop} {n : Nat} {d : List Deferred} {m : Slots} {σ : View} {H H0 : HList} {ol : List Oper} (h : WL P r ops Q ol n d m σ H0) (hH : H0.Perm H) : WL P r ops Q ol n d m σ H :=
  fun a w hf hs => h a w hf (hs.perm hH)
theorem heap_perm {hh R : HList} {x y : Nat × Obj} : ((hh ++ [y]) ++ (x :: R)).Perm (x :: (hh ++ y :: R)) := by
  have := List.perm_middle (a := x) (l₁ := hh ++ [y]) (l₂ := R)
  simpa using this
theorem kids_perm {hh X : HList} {a b c : Nat × Obj} : (b :: ((hh ++ [a, c]) ++ X)).Perm (hh ++ a :: b :: c :: X) := by
  have := (List.perm_middle (a := b) (l₁ := hh ++ [a]) (l₂ := c :: X)).symm
  simpa using this
theorem pop_perm {ho hh R : HList} {y : Nat × Obj} : ((hh ++ [y]) ++ (ho ++ R)).Perm (ho ++ (hh ++ y :: R)) := by
  have h1 : ((hh ++ [y]) ++ (ho ++ R)).Perm (ho ++ ((hh ++ [y]) ++ R)) := by
    rw [← List.append_assoc, ← List.append_assoc ho]
    exact List.Perm.append_right R List.perm_append_comm
  simpa using h1
theorem pur_look {P : Program} {m : Slots} {o : Oper} {σ : View} {H : HList} {x v : Value} (e : x = v) (h : Pur P m o σ H x) : Pur P m o σ H v := by subst e; exact h
theorem row_nilH (σ : View) (b : Nat) : SlO σ eHash 31 32 (.slice (some ⟨b, 0, none⟩) 0 0) ([] : List Nat) [(b, rowO 31 [])] := SlO.row (b := b) (ElR.nil (σ := σ) (E := eHash) (sz := 32))
theorem rdy_len {l : List EntD} {out is hp : List Nat} (hi : is.length ≤ l.length) (h : hp.Perm ((is.filter (readyB l out)).map (idAt l))) : hp.length ≤ l.length := by
  rw [h.length_eq, List.length_map]
  have := List.length_filter_le (readyB l out) is
  omega
theorem rdy_step {l : List EntD} {i : Nat} : ((List.range (i + 1)).filter (readyB l [])).map (idAt l) = ((List.range i).filter (readyB l [])).map (idAt l) ++ (if readyB l [] i then [idAt l i] else []) := by
  rw [List.range_succ, List.filter_append, List.map_append, List.filter_cons, List.filter_nil]
  cases h : readyB l [] i <;> simp
theorem rowlen_step {N i c : Nat} {f : Nat → Nat} {g : Nat → Value} (hc : f i = c) (hg : ∀ k, k < N → g k = .int .i64 ((if k < i then f k else 0 : Nat) : Int)) : ∀ k, k < N → (if k = i then Value.int .i64 (c : Int) else g k) = .int .i64 ((if k < i + 1 then f k else 0 : Nat) : Int) := fun k hk => by
  by_cases h1 : k = i
  · subst h1; simp [hc]
  · rw [if_neg h1, hg k hk]; congr 2
    by_cases h2 : k < i
    · rw [if_pos h2, if_pos (by omega)]
    · rw [if_neg h2, if_neg (by omega)]
theorem readyL_nil {l : List EntD} (hg : GoodE l) {n : Nat} (hn : n ≤ l.length) {hp : List Nat} (hperm : hp.Perm ((readyL l (ordN l n)).map (idAt l))) (h0 : hp.length = 0) : n = l.length := by
  rcases Nat.lt_or_ge n l.length with h | h
  · obtain ⟨j, hj⟩ := some_ready hg (ordN l n) (by rw [ordN_len hg n hn]; exact h)
    have hm := hperm.mem_iff.2 (List.mem_map.2 ⟨j, mem_readyL.2 hj, rfl⟩)
    have := List.length_pos_of_mem hm
    omega
  · omega
theorem rest_len {l : List EntD} {n i0 : Nat} {ks hp : List Nat} (hg : GoodE l) (hn : n < l.length) (h : hp.Perm ((restL l n i0 ++ freeL l n ks).map (idAt l))) (hk : ks.length ≤ l.length) : hp.length ≤ 2 * l.length := by
  rw [h.length_eq, List.length_map, List.length_append]
  have h1 : (restL l n i0).length ≤ l.length := by
    have a1 := List.length_filter_le (fun k => decide (k ≠ i0)) (readyL l (ordN l n))
    have a2 := List.length_filter_le (readyB l (ordN l n)) (List.range l.length)
    simp only [List.length_range] at a2
    unfold restL; unfold readyL at a1 ⊢; omega
  have h2 : (freeL l n ks).length ≤ ks.length := List.length_filter_le _ _
  omega

theorem missing_none {l : List EntD} (hg : GoodE l) {i : Nat} (h : readyB l (ordN l l.length) i = true) : False := by
  have hr := readyB_iff.1 h
  have h1 := ordN_len hg l.length (Nat.le_refl _)
  have h2 := ordN_ok (l := l) l.length
  exact hr.2.1 (all_placed h2.1 h2.2 h1 i hr.1)
end Go.Sl
namespace Go.Sl
open Go
/-! ### who has seen whom: a number's bits, in words of 64 -/
def wordN (r w : Nat) : Nat := r / 2 ^ (64 * w) % 2 ^ 64
theorem wordN_lt (r w : Nat) : wordN r w < 2 ^ 64 := Nat.mod_lt _ (by decide)
theorem wordN_bit (r w b : Nat) : (wordN r w).testBit b = (decide (b < 64) && r.testBit (64 * w + b)) := by
  unfold wordN
  rw [Nat.testBit_mod_two_pow, Nat.testBit_div_two_pow, Nat.add_comm b]
theorem wordN_or (a b w : Nat) : wordN (a ||| b) w = wordN a w ||| wordN b w := by
  apply Nat.eq_of_testBit_eq
  intro i
  rw [Nat.testBit_or, wordN_bit, wordN_bit, wordN_bit, Nat.testBit_or]
  cases decide (i < 64) <;> simp
theorem wordN_pow (k w : Nat) : wordN (2 ^ k) w = if w = k / 64 then 2 ^ (k % 64) else 0 := by
  apply Nat.eq_of_testBit_eq
  intro i
  rw [wordN_bit, Nat.testBit_two_pow]
  by_cases hw : w = k / 64
  · rw [if_pos hw, Nat.testBit_two_pow]
    by_cases hi : i < 64
    · simp only [hi, decide_true, Bool.true_and, decide_eq_decide]
      omega
    · have : ¬ k % 64 = i := by omega
      simp [hi, this]
  · rw [if_neg hw, Nat.zero_testBit]
    by_cases hi : i < 64
    · have : ¬ k = 64 * w + i := by omega
      simp [hi, this]
    · simp [hi]
theorem wordN_zero (w : Nat) : wordN 0 w = 0 := by simp [wordN]
theorem wordN_hi {r n w : Nat} (h : r < 2 ^ n) (hw : n ≤ 64 * w) : wordN r w = 0 := by
  unfold wordN
  rw [Nat.div_eq_of_lt (Nat.lt_of_lt_of_le h (Nat.pow_le_pow_right (by decide) hw))]
/-- the question that the programs ask -/
theorem wordN_ask (r i : Nat) : (wordN r (i / 64) >>> (i % 64)) &&& 1 = 1 ↔ r.testBit i = true := by
  have h : (wordN r (i / 64)).testBit (i % 64) = r.testBit i := by
    rw [wordN_bit]
    have h1 : i % 64 < 64 := Nat.mod_lt _ (by decide)
    have h2 : 64 * (i / 64) + i % 64 = i := by omega
    simp [h1, h2]
  rw [← h, Nat.testBit]
  simp
/-- an entry's row, of the rows of those ahead of it -/
def rowAcc (rows ks : List Nat) : Nat := ks.foldl (fun r k => r ||| rows.getD k 0 ||| 2 ^ k) 0
def kidx (L : List EntD) (n : Nat) : List Nat := (parsAt L n).filterMap (idxOf L)
def rowsN (L : List EntD) : Nat → List Nat
  | 0 => []
  | n + 1 => rowsN L n ++ [rowAcc (rowsN L n) (kidx L n)]
theorem rowsN_len (L : List EntD) : ∀ n, (rowsN L n).length = n
  | 0 => rfl
  | n + 1 => by simp [rowsN, rowsN_len L n]
/-- has the one of number j seen the one of number i? -/
def seesN (L : List EntD) (i j : Nat) : Bool := ((rowsN L L.length).getD j 0).testBit i
/-- parents ahead of their kids -/
structure OrdOk (L : List EntD) : Prop where
  nodup : (L.map (·.id)).Nodup
  node : ∀ e ∈ L, nodeErr e.node = 0
  most : L.length ≤ 4096
  par : ∀ (i : Nat) (e : EntD), L[i]? = some e → ∀ p ∈ e.node.ps, ∃ k, k < i ∧ idxOf L p = some k
theorem kidx_lt {L : List EntD} (h : OrdOk L) {n k : Nat} (hk : k ∈ kidx L n) : k < n := by
  unfold kidx parsAt at hk
  split at hk
  · rename_i e he
    obtain ⟨p, hp, hpk⟩ := List.mem_filterMap.1 hk
    obtain ⟨k', h1, h2⟩ := h.par n e he p hp
    rw [hpk] at h2; cases h2; exact h1
  · simp at hk
theorem rowAcc_lt {rows : List Nat} {n : Nat} (hr : ∀ k, k < n → rows.getD k 0 < 2 ^ n) : ∀ (ks : List Nat) (a : Nat), (∀ k ∈ ks, k < n) → a < 2 ^ n → ks.foldl (fun r k => r ||| rows.getD k 0 ||| 2 ^ k) a < 2 ^ n
  | [], a, _, ha => ha
  | k :: ks, a, hk, ha => by
    simp only [List.foldl_cons]
    refine rowAcc_lt hr ks _ (fun x hx => hk x (by simp [hx])) ?_
    exact Nat.or_lt_two_pow (Nat.or_lt_two_pow ha (hr k (hk k (by simp)))) (Nat.pow_lt_pow_right (by decide) (hk k (by simp)))
theorem rowsN_get {L : List EntD} : ∀ (n m k : Nat), k < n → n ≤ m → (rowsN L m).getD k 0 = (rowsN L n).getD k 0 := by
  intro n m k hk hnm
  induction m with
  | zero => omega
  | succ m ih =>
    rcases Nat.lt_or_ge m n with h | h
    · have : n = m + 1 := by omega
      subst this; rfl
    · rw [← ih h]
      simp only [rowsN]
      rw [List.getD_eq_getElem?_getD, List.getElem?_append_left (by rw [rowsN_len]; omega), ← List.getD_eq_getElem?_getD]
theorem rowsN_at {L : List EntD} (n : Nat) : (rowsN L (n + 1)).getD n 0 = rowAcc (rowsN L n) (kidx L n) := by
  simp only [rowsN]
  rw [List.getD_eq_getElem?_getD, List.getElem?_append_right (by rw [rowsN_len]; omega), rowsN_len]; simp
theorem rowsN_lt {L : List EntD} (h : OrdOk L) : ∀ (n k : Nat), k < n → (rowsN L n).getD k 0 < 2 ^ k := by
  intro n
  induction n with
  | zero => intro k hk; omega
  | succ n ih =>
    intro k hk
    rcases Nat.lt_or_ge k n with h1 | h1
    · rw [rowsN_get n (n + 1) k h1 (by omega)]; exact ih k h1
    · have : k = n := by omega
      subst this
      rw [rowsN_at]
      refine rowAcc_lt (fun j hj => Nat.lt_trans (ih j hj) (Nat.pow_lt_pow_right (by decide) hj)) _ _ (fun j hj => kidx_lt h hj) (Nat.pow_pos (by decide))
end Go.Sl
namespace Go.Sl
open Go
/-! ### a history in memory -/
def eU64 : Enc Nat := fun _ n vs => vs = [.int .u64 (n : Int)]
theorem eU64_mono : Enc.Mono eU64 := fun _ _ _ _ _ h => h
/-- the words of an entry's row, of its own length -/
def wordsOf (L : List EntD) (j : Nat) : List Nat := (List.range ((j + 63) / 64)).map (wordN ((rowsN L L.length).getD j 0))
def eRowJ (L : List EntD) : Enc Nat := fun σ j vs => ∃ wv, vs = [wv] ∧ wv.oneCell' = true ∧ SlE σ eU64 1 8 wv (wordsOf L j)
theorem eRowJ_mono (L : List EntD) : Enc.Mono (eRowJ L) := fun _ _ _ _ hl ⟨wv, h1, h2, h3⟩ => ⟨wv, h1, h2, h3.mono eU64_mono hl⟩
def PastV (σ : View) (pv : Value) (L : List EntD) : Prop :=
  ∃ b mb lv sv, pv = .pointer (some ⟨b, 0, none⟩) ∧ RdV σ b 0 [lv, .map (some mb), sv] ∧ Ents σ lv L ∧ σ mb = some (mapO hashV (idsFrom L 0)) ∧ SlE σ (eRowJ L) 1 24 sv (List.range L.length)
theorem PastV.mono {σ σ' : View} {pv : Value} {L : List EntD} (h : PastV σ pv L) (hl : σ.le σ') : PastV σ' pv L :=
  let ⟨b, mb, lv, sv, h1, h2, h3, h4, h5⟩ := h; ⟨b, mb, lv, sv, h1, h2.mono hl, h3.mono eEnt_mono hl, hl.2 _ _ h4, h5.mono (eRowJ_mono L) hl⟩
theorem wordsOf_len (L : List EntD) (j : Nat) : (wordsOf L j).length = (j + 63) / 64 := by simp [wordsOf]
theorem wordsOf_get {L : List EntD} {j w : Nat} (h : w < (j + 63) / 64) : (wordsOf L j)[w]? = some (wordN ((rowsN L L.length).getD j 0) w) := by simp [wordsOf, h]
theorem sees_hi {L : List EntD} (h : OrdOk L) {i j : Nat} (hj : j < L.length) (hi : (j + 63) / 64 ≤ i / 64) : seesN L i j = false := by
  unfold seesN
  refine Nat.testBit_lt_two_pow (Nat.lt_of_lt_of_le (rowsN_lt h L.length j hj) (Nat.pow_le_pow_right (by decide) ?_))
  omega
end Go.Sl
namespace Go.Sl
open Go
/-! ### a history is built -/
theorem idxOf_take {L : List EntD} {p k n : Nat} (h : idxOf L p = some k) (hk : k < n) : idxOf (L.take n) p = some k := by
  induction L generalizing k n with
  | nil => simp [idxOf] at h
  | cons e L ih =>
    cases n with
    | zero => omega
    | succ n =>
      rw [List.take_succ_cons, idxOf_cons]
      rw [idxOf_cons] at h
      split at h
      · rename_i he; rw [if_pos he]; exact h
      · rename_i he
        rw [if_neg he]
        cases hx : idxOf L p with
        | none => rw [hx] at h; simp at h
        | some j =>
          rw [hx] at h; simp at h
          rw [ih hx (n := n) (by omega)]; simp; omega
theorem idx_fresh {L : List EntD} (hd : (L.map (·.id)).Nodup) {i : Nat} {e : EntD} (he : L[i]? = some e) : idxOf (L.take i) e.id = none := by
  have hi := (List.getElem?_eq_some_iff.1 he).1
  refine idAt_mem_take fun q hq hc => ?_
  rw [← idAt_of he] at hc
  have := idAt_inj hd (by omega) hi hc
  omega
/-- where the elements of a slice of one's own lie -/
theorem SlO.rds {α : Type} {σ : View} {E : Enc α} {T : TypeId} {sz n cap : Nat} {sa : Option Addr} {l : List α} {h : HList} (hs : SlO σ E T sz (.slice sa n cap) l h) :
    ∃ bs, (0 < l.length → sa = some ⟨bs, 0, none⟩) ∧ ∀ (i : Nat) (x : α), l[i]? = some x → ∃ vs, vs.length = sz ∧ vs.all (·.oneCell') = true ∧ E σ x vs ∧ ∀ (σ' : View) (H : HList), (∀ p ∈ h, p ∈ H) → Rd σ' H bs (0 + i * sz) vs := by
  by_cases h0 : 0 < l.length
  · obtain ⟨b, cap', junk, vss, e1, rfl, _, _, hel⟩ := hs.at h0
    cases e1
    refine ⟨b, fun _ => rfl, fun i x hx => ?_⟩
    obtain ⟨vs, h1, h2, h3, h4⟩ := hel.2 i x hx
    refine ⟨vs, h2, h3, h4, fun σ' H hH => Rd.own (T := T) (l := vss.flatten ++ junk) (hH _ (by simp)) fun j v hj => ?_⟩
    have := flatten_sub vss i vs hel.len h1 j v hj
    have hlt := (List.getElem?_eq_some_iff.1 this).1
    rw [List.getElem?_append_left (by omega), Nat.zero_add]; exact this
  · exact ⟨0, fun h => absurd h h0, fun i x hx => absurd (Nat.lt_of_le_of_lt (Nat.zero_le _) (List.getElem?_eq_some_iff.1 hx).1) h0⟩
theorem flat_one {α : Type} {f : α → Value} : ∀ (l : List α), (l.map fun x => [f x]).flatten = l.map f
  | [] => rfl
  | a :: l => by simp [flat_one l]
/-- a row of words that is wholly its slice's -/
theorem SlO.words {σ : View} {T : TypeId} {b : Nat} (ws : List Nat) : SlO σ eU64 T 1 (.slice (some ⟨b, 0, none⟩) ws.length ws.length) ws [(b, rowO T (ws.map fun w : Nat => .int .u64 (w : Int)))] := by
  have h : ElR σ eU64 1 ws (ws.map fun w : Nat => [.int .u64 (w : Int)]) := ⟨by simp, fun i x hx => ⟨[.int .u64 (x : Int)], by simp [hx], rfl, rfl, rfl⟩⟩
  have := SlO.row (T := T) (b := b) h
  rw [flat_one] at this; exact this
theorem u64_rd {σ : View} {ad : Option Addr} {b off n cap : Nat} {a : List Nat} (h : SlE σ eU64 1 8 (.slice ad n cap) a) (e : 0 < a.length → ad = some ⟨b, off, none⟩) {i x : Nat} (hi : a[i]? = some x) : RdV σ b (off + i * 1) [.int .u64 (x : Int)] := by
  have hlt := (List.getElem?_eq_some_iff.1 hi).1
  have e1 := e (by omega)
  subst e1
  obtain ⟨b', off', cap', e2, _, _, hat⟩ := h.at (by omega)
  cases e2
  obtain ⟨vs, _, _, rfl, hr⟩ := hat i _ hi
  exact hr
/-- what the parents so far make of a row -/
def pk (L : List EntD) (ps : List Nat) (q : Nat) : List Nat := (ps.take q).filterMap (idxOf L)
theorem pk_zero (L : List EntD) (ps : List Nat) : pk L ps 0 = [] := by simp [pk]
theorem pk_step {L : List EntD} {ps : List Nat} {q p k : Nat} (hp : ps[q]? = some p) (hk : idxOf L p = some k) : pk L ps (q + 1) = pk L ps q ++ [k] := by
  unfold pk
  rw [List.take_add_one, hp, List.filterMap_append]
  simp [hk]
theorem pk_all {L : List EntD} {ps : List Nat} {q : Nat} (hq : ps.length ≤ q) : pk L ps q = ps.filterMap (idxOf L) := by
  unfold pk; rw [List.take_of_length_le hq]
theorem rowAcc_snoc (rows ks : List Nat) (k : Nat) : rowAcc rows (ks ++ [k]) = rowAcc rows ks ||| rows.getD k 0 ||| 2 ^ k := by
  unfold rowAcc; rw [List.foldl_append]; rfl
theorem rowAcc_nil (rows : List Nat) : rowAcc rows [] = 0 := rfl
def wordV (r w : Nat) : Value := .int .u64 (wordN r w : Int)
theorem words_zero (N : Nat) : List.replicate N (Value.int .u64 0) = (List.range N).map (wordV 0) := by
  rw [replicate_range]
  exact map_range_congr fun k _ => by unfold wordV; rw [wordN_zero]; rfl
/-- a word turned by another row's -/
def wordUpTo (r rk u w : Nat) : Value := if w < u then wordV (r ||| rk) w else wordV r w
theorem wordUp_zero (r rk : Nat) : wordUpTo r rk 0 = wordV r := by funext w; simp [wordUpTo]
theorem wordUp_step {r rk u N : Nat} : (List.range N).map (fun j => if j = u then Value.int .u64 ((wordN r u ||| wordN rk u : Nat) : Int) else wordUpTo r rk u j) = (List.range N).map (wordUpTo r rk (u + 1)) :=
  map_range_congr fun k _ => by
    unfold wordUpTo wordV
    by_cases h : k = u
    · subst h; rw [if_pos rfl, if_pos (by omega), wordN_or]
    · rw [if_neg h]
      by_cases h2 : k < u
      · rw [if_pos h2, if_pos (by omega)]
      · rw [if_neg h2, if_neg (by omega)]
theorem wordUp_at {r rk u : Nat} : wordUpTo r rk u u = .int .u64 (wordN r u : Int) := by unfold wordUpTo wordV; rw [if_neg (by omega)]
theorem wordUp_end {r rk k u N : Nat} (hr : rk < 2 ^ k) (hu : (k + 63) / 64 ≤ u) : (List.range N).map (wordUpTo r rk u) = (List.range N).map (wordV (r ||| rk)) :=
  map_range_congr fun w _ => by
    unfold wordUpTo
    by_cases h : w < u
    · rw [if_pos h]
    · rw [if_neg h]
      unfold wordV
      rw [wordN_or, wordN_hi hr (show k ≤ 64 * w by omega), Nat.or_zero]
theorem wordBit {r k N : Nat} : (List.range N).map (fun j => if j = k / 64 then Value.int .u64 ((wordN r (k / 64) ||| 1 * 2 ^ (k % 64) : Nat) : Int) else wordV r j) = (List.range N).map (wordV (r ||| 2 ^ k)) :=
  map_range_congr fun w _ => by
    unfold wordV
    rw [wordN_or, wordN_pow]
    by_cases h : w = k / 64
    · subst h; rw [if_pos rfl, if_pos rfl, Nat.one_mul]
    · rw [if_neg h, if_neg h, Nat.or_zero]
/-- an entry's row when all its parents are gone through -/
theorem row_final {L : List EntD} {i : Nat} {e : EntD} (he : L[i]? = some e) : (rowsN L L.length).getD i 0 = rowAcc (rowsN L i) (pk L e.node.ps e.node.ps.length) := by
  have hi := (List.getElem?_eq_some_iff.1 he).1
  rw [rowsN_get (i + 1) L.length i (by omega) (by omega), rowsN_at, pk_all (Nat.le_refl _)]
  unfold kidx
  rw [parsAt_of he]
theorem words_final {L : List EntD} {i : Nat} {e : EntD} (he : L[i]? = some e) : (List.range ((i + 63) / 64)).map (wordV (rowAcc (rowsN L i) (pk L e.node.ps e.node.ps.length))) = (wordsOf L i).map fun w : Nat => Value.int .u64 (w : Int) := by
  unfold wordsOf
  rw [row_final he, List.map_map]
  rfl
theorem rows_at {L : List EntD} {i k : Nat} (hk : k < i) (hi : i ≤ L.length) : (rowsN L L.length).getD k 0 = (rowsN L i).getD k 0 := rowsN_get i L.length k hk hi
end Go.Sl
namespace Go.Sl
open Go
/-! ### the document's history in memory -/
def wordsN (L : List EntD) (j : Nat) : List Nat := (List.range ((L.length + 63) / 64)).map (wordN ((rowsN L L.length).getD j 0))
def eRowN (L : List EntD) : Enc Nat := fun σ j vs => ∃ wv, vs = [wv] ∧ wv.oneCell' = true ∧ SlE σ eU64 1 8 wv (wordsN L j)
theorem eRowN_mono (L : List EntD) : Enc.Mono (eRowN L) := fun _ _ _ _ hl ⟨wv, h1, h2, h3⟩ => ⟨wv, h1, h2, h3.mono eU64_mono hl⟩
theorem wordsN_len (L : List EntD) (j : Nat) : (wordsN L j).length = (L.length + 63) / 64 := by simp [wordsN]
theorem wordsN_get {L : List EntD} {j w : Nat} (h : w < (L.length + 63) / 64) : (wordsN L j)[w]? = some (wordN ((rowsN L L.length).getD j 0) w) := by simp [wordsN, h]
theorem wordsN_final {L : List EntD} {i : Nat} {e : EntD} (he : L[i]? = some e) : (List.range ((L.length + 63) / 64)).map (wordV (rowAcc (rowsN L i) (pk L e.node.ps e.node.ps.length))) = (wordsN L i).map fun w : Nat => Value.int .u64 (w : Int) := by
  unfold wordsN
  rw [row_final he, List.map_map]
  rfl
theorem wordUp_all {r rk N : Nat} : (List.range N).map (wordUpTo r rk N) = (List.range N).map (wordV (r ||| rk)) := by
  apply List.map_congr_left
  intro w hw
  unfold wordUpTo
  rw [if_pos (by simpa using hw)]
theorem row_swap {rows ks : List Nat} {k : Nat} : rowAcc rows ks ||| 2 ^ k ||| rows.getD k 0 = rowAcc rows (ks ++ [k]) := by
  rw [rowAcc_snoc, Nat.or_assoc, Nat.or_assoc, Nat.or_comm (2 ^ k)]
def R11V (σ : View) (pv : Value) (L : List EntD) : Prop :=
  ∃ b lv sv qv, pv = .pointer (some ⟨b, 0, none⟩) ∧ RdV σ b 0 [lv, sv, qv] ∧ Ents σ lv L ∧ SlE σ (eRowN L) 1 24 sv (List.range L.length) ∧ SlE σ eNat 1 8 qv (rankL L 0 L.length)
theorem R11V.mono {σ σ' : View} {pv : Value} {L : List EntD} (h : R11V σ pv L) (hl : σ.le σ') : R11V σ' pv L :=
  let ⟨b, lv, sv, qv, h1, h2, h3, h4, h5⟩ := h; ⟨b, lv, sv, qv, h1, h2.mono hl, h3.mono eEnt_mono hl, h4.mono (eRowN_mono L) hl, h5.mono eNat_mono hl⟩
/-- the entries so far in the one order -/
def ordP (l : List EntD) (i : Nat) : List EntD := ((ordOf l).take i).filterMap (l[·]?)
theorem ordP_zero (l : List EntD) : ordP l 0 = [] := by simp [ordP]
theorem ordP_step {l : List EntD} {i n : Nat} {e : EntD} (hn : (ordOf l)[i]? = some n) (he : l[n]? = some e) : ordP l i ++ [e] = ordP l (i + 1) := by
  unfold ordP
  rw [List.take_add_one, hn, List.filterMap_append]
  simp [he]
theorem ordP_all {l : List EntD} {i : Nat} (h : (ordOf l).length ≤ i) : ordP l i = ordE l := by
  unfold ordP ordE; rw [List.take_of_length_le h]
theorem ordP_len {l : List EntD} (hg : GoodE l) {i : Nat} (hi : i ≤ l.length) : (ordP l i).length = i := by
  unfold ordP
  have h1 : ∀ (is : List Nat), (∀ k ∈ is, k < l.length) → (is.filterMap (l[·]?)).length = is.length := by
    intro is
    induction is with
    | nil => intro _; rfl
    | cons a is ih =>
      intro h
      have ha := h a (by simp)
      rw [List.filterMap_cons, List.getElem?_eq_getElem ha]
      simp [ih (fun k hk => h k (by simp [hk]))]
  rw [h1 ((ordOf l).take i) (fun k hk => (ordN_ok (l := l) l.length).2 k (List.mem_of_mem_take hk)), List.length_take]
  have : (ordOf l).length = l.length := ordN_len hg l.length (Nat.le_refl _)
  omega
theorem ordOf_len {l : List EntD} (hg : GoodE l) : (ordOf l).length = l.length := ordN_len hg l.length (Nat.le_refl _)
theorem ordOf_lt {l : List EntD} {i n : Nat} (h : (ordOf l)[i]? = some n) : n < l.length := (ordN_ok (l := l) l.length).2 n (List.mem_of_getElem? h)
theorem natE_rd {σ : View} {ad : Option Addr} {b off n cap : Nat} {a : List Nat} (h : SlE σ eNat 1 8 (.slice ad n cap) a) (e : 0 < a.length → ad = some ⟨b, off, none⟩) {i x : Nat} (hi : a[i]? = some x) : RdV σ b (off + i * 1) [.int .i64 (x : Int)] := by
  have hlt := (List.getElem?_eq_some_iff.1 hi).1
  have e1 := e (by omega)
  subst e1
  obtain ⟨b', off', cap', e2, _, _, hat⟩ := h.at (by omega)
  cases e2
  obtain ⟨vs, _, _, rfl, hr⟩ := hat i _ hi
  exact hr
end Go.Sl
namespace Go.Sl
open Go
/-! ### the operations of some kinds, with their entries' numbers -/
def opsAt (L : List EntD) (i : Nat) : List OpD := match L[i]? with | some e => e.node.ops | none => []
def pickOps (i : Nat) (p : OpD → Bool) (l : List OpD) : List (Nat × OpD) := (l.filter p).map fun o => (i, o)
def opsN (L : List EntD) (p : OpD → Bool) (n : Nat) : List (Nat × OpD) := (List.range n).flatMap fun i => pickOps i p (opsAt L i)
theorem opsN_succ (L : List EntD) (p : OpD → Bool) (n : Nat) : opsN L p (n + 1) = opsN L p n ++ pickOps n p (opsAt L n) := by
  unfold opsN; rw [List.range_succ, List.flatMap_append]; simp
theorem opsAt_of {L : List EntD} {i : Nat} {e : EntD} (h : L[i]? = some e) : opsAt L i = e.node.ops := by unfold opsAt; rw [h]
theorem pickOps_step {i q : Nat} {p : OpD → Bool} {l : List OpD} {o : OpD} (h : l[q]? = some o) : pickOps i p (l.take (q + 1)) = pickOps i p (l.take q) ++ (if p o then [(i, o)] else []) := by
  unfold pickOps
  rw [List.take_add_one, h]
  cases hp : p o <;> simp [hp]
/-- a register's operations -/
def isReg (o : OpD) : Bool := decide (o.kind = 1 ∨ o.kind = 2)
end Go.Sl
namespace Go.Sl
open Go
/-! ### registers: the plain law -/
/-- is what entry i laid put over by one of these? -/
def overB (L : List EntD) (i : Nat) (r : List (Nat × OpD)) : Bool := r.any fun q => decide (q.1 = i) || seesN L i q.1
/-- the texts that these operations on one register leave -/
def heldS (L : List EntD) : List (Nat × OpD) → List ByteArray
  | [] => []
  | x :: r => (if x.2.kind = 1 ∧ overB L x.1 r = false then [x.2.text] else []) ++ heldS L r
/-- the last operation of each entry -/
def marks : List (Nat × OpD) → List (Nat × OpD)
  | [] => []
  | [x] => [x]
  | x :: y :: r => if x.1 = y.1 then marks (y :: r) else x :: marks (y :: r)
/-- one more -/
def addM (l : List (Nat × OpD)) (x : Nat × OpD) : List (Nat × OpD) :=
  match l.getLast? with
  | some y => if y.1 = x.1 then l.dropLast ++ [x] else l ++ [x]
  | none => [x]
theorem marks_ne : ∀ (r : List (Nat × OpD)) (y : Nat × OpD), marks (y :: r) ≠ []
  | [], y => by simp [marks]
  | z :: r, y => by
    simp only [marks]
    split
    · exact marks_ne r z
    · simp
theorem addM_cons {l : List (Nat × OpD)} (h : l ≠ []) (a x : Nat × OpD) : addM (a :: l) x = a :: addM l x := by
  cases l with
  | nil => exact absurd rfl h
  | cons b l =>
    unfold addM
    rw [List.getLast?_cons_cons]
    cases hg : (b :: l).getLast? with
    | none => simp at hg
    | some y => by_cases hy : y.1 = x.1 <;> simp [hy]
theorem marks_snoc (x : Nat × OpD) : ∀ (S : List (Nat × OpD)), marks (S ++ [x]) = addM (marks S) x
  | [] => rfl
  | [a] => by
    by_cases h : a.1 = x.1 <;> simp [marks, addM, h]
  | a :: b :: r => by
    have ih := marks_snoc x (b :: r)
    simp only [List.cons_append] at ih ⊢
    simp only [marks]
    by_cases h : a.1 = b.1
    · simp only [if_pos h]; exact ih
    · simp only [if_neg h]; rw [ih, addM_cons (marks_ne r b)]
theorem marks_fst (i : Nat) : ∀ (S : List (Nat × OpD)), (∃ q ∈ marks S, q.1 = i) ↔ ∃ q ∈ S, q.1 = i
  | [] => by simp [marks]
  | [a] => by simp [marks]
  | a :: b :: r => by
    have ih := marks_fst i (b :: r)
    simp only [marks]
    by_cases h : a.1 = b.1
    · rw [if_pos h, ih]
      simp only [List.mem_cons, exists_eq_or_imp]
      rw [h]
      constructor
      · intro h1; exact .inr h1
      · rintro (h1 | h1)
        · exact .inl h1
        · exact h1
    · rw [if_neg h]
      simp only [List.mem_cons, exists_eq_or_imp] at ih ⊢
      rw [ih]
/-- .. as the program asks it of them -/
def overM (L : List EntD) (i : Nat) (r : List (Nat × OpD)) : Bool := r.any fun q => seesN L i q.1
def heldM (L : List EntD) : List (Nat × OpD) → List ByteArray
  | [] => []
  | x :: r => (if x.2.kind = 1 ∧ overM L x.1 r = false then [x.2.text] else []) ++ heldM L r
def UpE (S : List (Nat × OpD)) : Prop := S.Pairwise fun a b => a.1 ≤ b.1
theorem held_marks (L : List EntD) : ∀ (S : List (Nat × OpD)), UpE S → heldM L (marks S) = heldS L S
  | [], _ => rfl
  | [a], _ => by simp [marks, heldM, heldS, overM, overB]
  | a :: b :: r, h => by
    have h2 : UpE (b :: r) := (List.pairwise_cons.1 h).2
    have h1 := (List.pairwise_cons.1 h).1
    have ih := held_marks L (b :: r) h2
    simp only [marks]
    by_cases hab : a.1 = b.1
    · rw [if_pos hab, ih]
      have ho : overB L a.1 (b :: r) = true := by unfold overB; simp [hab]
      rw [show heldS L (a :: b :: r) = (if a.2.kind = 1 ∧ overB L a.1 (b :: r) = false then [a.2.text] else []) ++ heldS L (b :: r) from rfl, if_neg (by rw [ho]; simp)]; rfl
    · rw [if_neg hab, heldM, ih]
      have hne : ∀ q ∈ b :: r, q.1 ≠ a.1 := by
        intro q hq
        have hb := h1 b (by simp)
        rcases List.mem_cons.1 hq with rfl | hq
        · omega
        · have := (List.pairwise_cons.1 h2).1 q hq; omega
      have ho : overM L a.1 (marks (b :: r)) = overB L a.1 (b :: r) := by
        rw [Bool.eq_iff_iff]
        unfold overM overB
        simp only [List.any_eq_true, Bool.or_eq_true, decide_eq_true_eq]
        constructor
        · rintro ⟨q, hq, hs⟩
          obtain ⟨q2, hq2, he⟩ := (marks_fst q.1 (b :: r)).1 ⟨q, hq, rfl⟩
          exact ⟨q2, hq2, .inr (by rw [he]; exact hs)⟩
        · rintro ⟨q, hq, hs | hs⟩
          · exact absurd hs (hne q hq)
          · obtain ⟨q2, hq2, he⟩ := (marks_fst q.1 (b :: r)).2 ⟨q, hq, rfl⟩
            exact ⟨q2, hq2, by rw [he]; exact hs⟩
      rw [ho]; rfl
/-! ### the operations of a key -/
def onKey (key : ByteArray) (x : Nat × OpD) : Bool := decide (x.2.key = key)
def keyOps (L : List EntD) (p : OpD → Bool) (key : ByteArray) : List (Nat × OpD) := (opsN L p L.length).filter (onKey key)
theorem opsN_fst {L : List EntD} {p : OpD → Bool} {n : Nat} {x : Nat × OpD} (h : x ∈ opsN L p n) : x.1 < n ∧ p x.2 = true ∧ x.2 ∈ opsAt L x.1 := by
  unfold opsN pickOps at h
  obtain ⟨i, hi, hx⟩ := List.mem_flatMap.1 h
  obtain ⟨o, ho, rfl⟩ := List.mem_map.1 hx
  rw [List.mem_filter] at ho
  exact ⟨by simpa using hi, ho.2, ho.1⟩
theorem opsN_up (L : List EntD) (p : OpD → Bool) : ∀ n, UpE (opsN L p n)
  | 0 => by simp [UpE, opsN]
  | n + 1 => by
    rw [opsN_succ]
    unfold UpE
    rw [List.pairwise_append]
    refine ⟨opsN_up L p n, ?_, ?_⟩
    · unfold pickOps
      rw [List.pairwise_map]
      exact List.Pairwise.imp (fun _ => Nat.le_refl _) (List.pairwise_of_forall (R := fun _ _ => True) (fun _ _ => trivial))
    · intro a ha b hb
      have h1 := (opsN_fst ha).1
      unfold pickOps at hb
      obtain ⟨o, _, rfl⟩ := List.mem_map.1 hb
      exact Nat.le_of_lt h1
theorem keyOps_up (L : List EntD) (p : OpD → Bool) (key : ByteArray) : UpE (keyOps L p key) := (opsN_up L p L.length).sublist List.filter_sublist
/-- what a register holds -/
def regHeld (L : List EntD) (key : ByteArray) : List ByteArray := heldS L (keyOps L isReg key)
end Go.Sl
namespace Go.Sl
open Go
/-! ### operations with their spots -/
/-- entry, place (from 1 on), operation -/
abbrev Trip := Nat × Nat × OpD
def tripsAt (p : OpD → Bool) (i : Nat) (l : List OpD) : List Trip := ((l.zipIdx 1).filter fun x => p x.1).map fun x => (i, x.2, x.1)
def tripsN (L : List EntD) (p : OpD → Bool) (n : Nat) : List Trip := (List.range n).flatMap fun i => tripsAt p i (opsAt L i)
theorem tripsN_succ (L : List EntD) (p : OpD → Bool) (n : Nat) : tripsN L p (n + 1) = tripsN L p n ++ tripsAt p n (opsAt L n) := by
  unfold tripsN; rw [List.range_succ, List.flatMap_append]; simp
theorem tripsAt_step {i q : Nat} {p : OpD → Bool} {l : List OpD} {o : OpD} (h : l[q]? = some o) : tripsAt p i (l.take (q + 1)) = tripsAt p i (l.take q) ++ (if p o then [(i, q + 1, o)] else []) := by
  unfold tripsAt
  have hlt := (List.getElem?_eq_some_iff.1 h).1
  rw [List.take_add_one, h]
  simp only [Option.toList_some, List.zipIdx_append, List.filter_append, List.map_append]
  congr 1
  rw [List.length_take, Nat.min_eq_left (by omega), Nat.add_comm 1 q]
  cases hp : p o <;> simp [hp]
def tOp (t : Trip) : Nat × OpD := (t.1, t.2.2)
theorem tripsAt_ops (p : OpD → Bool) (i : Nat) (l : List OpD) : (tripsAt p i l).map tOp = pickOps i p l := by
  unfold tripsAt pickOps tOp
  rw [List.map_map]
  have : ∀ (l : List OpD) (k : Nat), ((l.zipIdx k).filter fun x => p x.1).map ((fun t : Trip => ((t.1, t.2.2) : Nat × OpD)) ∘ fun x => (i, x.2, x.1)) = (l.filter p).map fun o => (i, o) := by
    intro l
    induction l with
    | nil => intro k; rfl
    | cons o l ih =>
      intro k
      rw [List.zipIdx_cons]
      cases hp : p o <;> simp [hp] <;> simpa using ih (k + 1)
  exact this l 1
theorem tripsN_ops (L : List EntD) (p : OpD → Bool) : ∀ n, (tripsN L p n).map tOp = opsN L p n
  | 0 => by simp [tripsN, opsN]
  | n + 1 => by rw [tripsN_succ, opsN_succ, List.map_append, tripsN_ops L p n, tripsAt_ops]
theorem tripsAt_mem {p : OpD → Bool} {i : Nat} {l : List OpD} {t : Trip} (h : t ∈ tripsAt p i l) : t.1 = i ∧ 1 ≤ t.2.1 ∧ l[t.2.1 - 1]? = some t.2.2 ∧ p t.2.2 = true := by
  unfold tripsAt at h
  obtain ⟨x, hx, rfl⟩ := List.mem_map.1 h
  rw [List.mem_filter] at hx
  obtain ⟨o, k⟩ := x
  have := List.mem_zipIdx hx.1
  refine ⟨rfl, this.1, ?_, hx.2⟩
  show l[k - 1]? = some o
  rw [List.getElem?_eq_some_iff]
  exact ⟨by omega, this.2.2.symm⟩
theorem tripsN_mem {L : List EntD} {p : OpD → Bool} {n : Nat} {t : Trip} (h : t ∈ tripsN L p n) : t.1 < n ∧ 1 ≤ t.2.1 ∧ (opsAt L t.1)[t.2.1 - 1]? = some t.2.2 ∧ p t.2.2 = true := by
  unfold tripsN at h
  obtain ⟨i, hi, ht⟩ := List.mem_flatMap.1 h
  obtain ⟨h1, h2, h3, h4⟩ := tripsAt_mem ht
  rw [h1]
  exact ⟨by simpa using hi, h2, h3, h4⟩
def TLt (a b : Trip) : Prop := a.1 < b.1 ∨ (a.1 = b.1 ∧ a.2.1 < b.2.1)
theorem tripsAt_up (p : OpD → Bool) (i : Nat) (l : List OpD) : (tripsAt p i l).Pairwise TLt := by
  unfold tripsAt
  rw [List.pairwise_map]
  refine List.Pairwise.filter _ ?_
  have : ∀ (l : List OpD) (k : Nat), (l.zipIdx k).Pairwise fun x y => x.2 < y.2 := by
    intro l
    induction l with
    | nil => intro k; exact List.Pairwise.nil
    | cons o l ih =>
      intro k
      rw [List.zipIdx_cons, List.pairwise_cons]
      refine ⟨fun y hy => ?_, ih (k + 1)⟩
      obtain ⟨o2, k2⟩ := y
      have := List.mem_zipIdx hy
      show k < k2
      omega
  exact (this l 1).imp fun h => .inr ⟨rfl, h⟩
theorem tripsN_up (L : List EntD) (p : OpD → Bool) : ∀ n, (tripsN L p n).Pairwise TLt
  | 0 => by simp [tripsN]
  | n + 1 => by
    rw [tripsN_succ, List.pairwise_append]
    refine ⟨tripsN_up L p n, tripsAt_up p n _, fun a ha b hb => .inl ?_⟩
    rw [(tripsAt_mem hb).1]; exact (tripsN_mem ha).1
/-- what one operation of these knows of another one -/
theorem knows_iff {L : List EntD} {S : List Trip} (h : S.Pairwise TLt) {i j : Nat} {a b : Trip} (hij : i < j) (ha : S[i]? = some a) (hb : S[j]? = some b) : a.1 = b.1 → a.2.1 < b.2.1 := by
  obtain ⟨h1, e1⟩ := List.getElem?_eq_some_iff.1 ha
  obtain ⟨h2, e2⟩ := List.getElem?_eq_some_iff.1 hb
  have := List.pairwise_iff_getElem.1 h i j h1 h2 hij
  rw [e1, e2] at this
  rcases this with h3 | h3
  · omega
  · exact fun _ => h3.2
/-- the operations that a register's key and kinds choose -/
def isKey (key : ByteArray) (lo hi : Int) (o : OpD) : Bool := decide (o.key = key ∧ lo ≤ o.kind ∧ o.kind ≤ hi)
theorem opsN_filter (L : List EntD) (p q : OpD → Bool) : ∀ n, (opsN L p n).filter (fun x => q x.2) = opsN L (fun o => p o && q o) n
  | 0 => by simp [opsN]
  | n + 1 => by
    rw [opsN_succ, opsN_succ, List.filter_append, opsN_filter L p q n]
    congr 1
    unfold pickOps
    rw [List.filter_map, List.filter_filter]
    congr 2
    funext o
    simp [Bool.and_comm]
theorem opsN_congr {L : List EntD} {p q : OpD → Bool} (h : ∀ o, p o = q o) (n : Nat) : opsN L p n = opsN L q n := by
  have : p = q := funext h
  rw [this]
theorem keyOps_reg (L : List EntD) (key : ByteArray) : keyOps L isReg key = opsN L (isKey key 1 2) L.length := by
  unfold keyOps
  refine (opsN_filter L isReg (fun o => decide (o.key = key)) L.length).trans ?_
  refine opsN_congr (fun o => ?_) _
  unfold isReg isKey
  rw [Bool.eq_iff_iff]
  simp only [Bool.and_eq_true, decide_eq_true_eq]
  constructor
  · rintro ⟨h1, h2⟩; exact ⟨h2, by omega, by omega⟩
  · rintro ⟨h1, h2, h3⟩; exact ⟨by omega, h1⟩
/-! ### texts in order -/
def ltB (a b : ByteArray) : Prop := Op.bytesLess a.toList b.toList = true
instance (a b : ByteArray) : Decidable (ltB a b) := by unfold ltB; infer_instance
def leB (a b : ByteArray) : Bool := decide (ltB a b ∨ a = b)
theorem bl_irrefl : ∀ (x : List UInt8), Op.bytesLess x x = false
  | [] => by simp [Op.bytesLess]
  | a :: x => by simp [Op.bytesLess, bl_irrefl x]
theorem bl_trans : ∀ (x y z : List UInt8), Op.bytesLess x y = true → Op.bytesLess y z = true → Op.bytesLess x z = true
  | _, _, [], _, h => by rename_i y _; cases y <;> simp [Op.bytesLess] at h
  | _, [], _ :: _, h, _ => by rename_i x _; cases x <;> simp [Op.bytesLess] at h
  | [], _ :: _, _ :: _, _, _ => by simp [Op.bytesLess]
  | a :: x, b :: y, c :: z, h1, h2 => by
    simp only [Op.bytesLess, Bool.or_eq_true, Bool.and_eq_true, decide_eq_true_eq, beq_iff_eq] at h1 h2 ⊢
    rcases h1 with h1 | ⟨rfl, h1⟩
    · rcases h2 with h2 | ⟨rfl, h2⟩
      · exact .inl (UInt8.lt_trans h1 h2)
      · exact .inl h1
    · rcases h2 with h2 | ⟨rfl, h2⟩
      · exact .inl h2
      · exact .inr ⟨rfl, bl_trans x y z h1 h2⟩
theorem bl_total : ∀ (x y : List UInt8), Op.bytesLess x y = true ∨ x = y ∨ Op.bytesLess y x = true
  | [], [] => .inr (.inl rfl)
  | [], _ :: _ => .inl (by simp [Op.bytesLess])
  | _ :: _, [] => .inr (.inr (by simp [Op.bytesLess]))
  | a :: x, b :: y => by
    simp only [Op.bytesLess, Bool.or_eq_true, Bool.and_eq_true, decide_eq_true_eq, beq_iff_eq, List.cons.injEq]
    have tri : a < b ∨ a = b ∨ b < a := by
      rcases Nat.lt_trichotomy a.toNat b.toNat with h | h | h
      · exact .inl (UInt8.lt_iff_toNat_lt.2 h)
      · exact .inr (.inl (UInt8.toNat_inj.1 h))
      · exact .inr (.inr (UInt8.lt_iff_toNat_lt.2 h))
    rcases tri with h | h | h
    · exact .inl (.inl h)
    · subst h
      rcases bl_total x y with h2 | h2 | h2
      · exact .inl (.inr ⟨rfl, h2⟩)
      · exact .inr (.inl ⟨rfl, h2⟩)
      · exact .inr (.inr (.inr ⟨rfl, h2⟩))
    · exact .inr (.inr (.inl h))
theorem ltB_irrefl (a : ByteArray) : ¬ ltB a a := by unfold ltB; rw [bl_irrefl]; simp
theorem ltB_trans {a b c : ByteArray} (h1 : ltB a b) (h2 : ltB b c) : ltB a c := bl_trans _ _ _ h1 h2
theorem ltB_total (a b : ByteArray) : ltB a b ∨ a = b ∨ ltB b a := by
  rcases bl_total a.toList b.toList with h | h | h
  · exact .inl h
  · refine .inr (.inl ?_)
    have := str_eq (a := a) (b := b)
    simpa [h] using this.symm
  · exact .inr (.inr h)
theorem leB_trans (a b c : ByteArray) (h1 : leB a b = true) (h2 : leB b c = true) : leB a c = true := by
  simp only [leB, decide_eq_true_eq] at *
  rcases h1 with h1 | rfl
  · rcases h2 with h2 | rfl
    · exact .inl (ltB_trans h1 h2)
    · exact .inl h1
  · exact h2
theorem leB_total (a b : ByteArray) : (leB a b || leB b a) = true := by
  simp only [leB, Bool.or_eq_true, decide_eq_true_eq]
  rcases ltB_total a b with h | h | h
  · exact .inl (.inl h)
  · exact .inl (.inr h)
  · exact .inr (.inl h)
def SortedB (l : List ByteArray) : Prop := l.Pairwise ltB
theorem sortedB_ext : ∀ (a b : List ByteArray), SortedB a → SortedB b → (∀ x, x ∈ a ↔ x ∈ b) → a = b
  | [], [], _, _, _ => rfl
  | [], y :: b, _, _, h => by have := (h y).2 (by simp); simp at this
  | x :: a, [], _, _, h => by have := (h x).1 (by simp); simp at this
  | x :: a, y :: b, ha, hb, h => by
    have a1 := (List.pairwise_cons.1 ha).1
    have b1 := (List.pairwise_cons.1 hb).1
    have hxy : x = y := by
      rcases List.mem_cons.1 ((h x).1 (by simp)) with h1 | h1
      · exact h1
      · rcases List.mem_cons.1 ((h y).2 (by simp)) with h2 | h2
        · exact h2.symm
        · exact absurd (ltB_trans (a1 y h2) (b1 x h1)) (ltB_irrefl x)
    subst hxy
    congr 1
    refine sortedB_ext a b (List.pairwise_cons.1 ha).2 (List.pairwise_cons.1 hb).2 fun z => ?_
    constructor
    · intro hz
      rcases List.mem_cons.1 ((h z).1 (by simp [hz])) with rfl | h1
      · exact absurd (a1 z hz) (ltB_irrefl z)
      · exact h1
    · intro hz
      rcases List.mem_cons.1 ((h z).2 (by simp [hz])) with rfl | h1
      · exact absurd (b1 z hz) (ltB_irrefl z)
      · exact h1
/-- by halves -/
def textsL (l : List ByteArray) : List ByteArray :=
  if l.length < 2 then l else List.merge (textsL (l.take (l.length / 2))) (textsL (l.drop (l.length / 2))) leB
  termination_by l.length
  decreasing_by
  · rw [List.length_take]; omega
  · rw [List.length_drop]; omega
theorem textsL_one {l : List ByteArray} (h : l.length < 2) : textsL l = l := by rw [textsL, if_pos h]
theorem textsL_more {l : List ByteArray} (h : ¬ l.length < 2) : textsL l = List.merge (textsL (l.take (l.length / 2))) (textsL (l.drop (l.length / 2))) leB := by
  rw [textsL, if_neg h]
theorem textsL_perm : ∀ (n : Nat) (l : List ByteArray), l.length = n → (textsL l).Perm l := by
  intro n
  induction n using Nat.strongRecOn with
  | _ n ih =>
    intro l hn
    by_cases h : l.length < 2
    · rw [textsL_one h]
    · rw [textsL_more h]
      refine (List.merge_perm_append (le := leB)).trans ?_
      have e1 := ih (l.take (l.length / 2)).length (by rw [List.length_take]; omega) _ rfl
      have e2 := ih (l.drop (l.length / 2)).length (by rw [List.length_drop]; omega) _ rfl
      have := e1.append e2
      rwa [List.take_append_drop] at this
theorem textsL_sorted : ∀ (n : Nat) (l : List ByteArray), l.length = n → (textsL l).Pairwise (fun a b => leB a b = true) := by
  intro n
  induction n using Nat.strongRecOn with
  | _ n ih =>
    intro l hn
    by_cases h : l.length < 2
    · rw [textsL_one h]
      match l, h with
      | [], _ => exact List.Pairwise.nil
      | [a], _ => exact List.pairwise_singleton _ _
    · rw [textsL_more h]
      exact List.pairwise_merge leB_trans leB_total _ _ (ih (l.take (l.length / 2)).length (by rw [List.length_take]; omega) _ rfl) (ih (l.drop (l.length / 2)).length (by rw [List.length_drop]; omega) _ rfl)
theorem textsL_len (l : List ByteArray) : (textsL l).length = l.length := (textsL_perm _ l rfl).length_eq
/-- each once -/
def dedup : List ByteArray → List ByteArray
  | [] => []
  | [a] => [a]
  | a :: b :: r => if a = b then dedup (b :: r) else a :: dedup (b :: r)
theorem dedup_mem (x : ByteArray) : ∀ (l : List ByteArray), x ∈ dedup l ↔ x ∈ l
  | [] => by simp [dedup]
  | [a] => by simp [dedup]
  | a :: b :: r => by
    have ih := dedup_mem x (b :: r)
    simp only [dedup]
    by_cases h : a = b
    · subst h; rw [if_pos rfl, ih]; simp
    · rw [if_neg h, List.mem_cons, ih]; exact List.mem_cons.symm
theorem dedup_sorted : ∀ (l : List ByteArray), l.Pairwise (fun a b => leB a b = true) → SortedB (dedup l)
  | [], _ => List.Pairwise.nil
  | [a], _ => List.pairwise_singleton _ _
  | a :: b :: r, h => by
    have h1 := (List.pairwise_cons.1 h).1
    have h2 := (List.pairwise_cons.1 h).2
    have ih := dedup_sorted (b :: r) h2
    simp only [dedup]
    by_cases hab : a = b
    · rw [if_pos hab]; exact ih
    · rw [if_neg hab]
      refine List.pairwise_cons.2 ⟨fun x hx => ?_, ih⟩
      have hx := (dedup_mem x _).1 hx
      have hax := h1 x hx
      simp only [leB, decide_eq_true_eq] at hax
      rcases hax with hax | rfl
      · exact hax
      · have hb := h1 b (by simp)
        simp only [leB, decide_eq_true_eq] at hb
        rcases hb with hb | hb
        · rcases List.mem_cons.1 hx with hx | hx
          · exact absurd hx hab
          · have := (List.pairwise_cons.1 h2).1 a hx
            simp only [leB, decide_eq_true_eq] at this
            rcases this with h3 | h3
            · exact absurd (ltB_trans hb h3) (ltB_irrefl a)
            · exact absurd h3.symm hab
        · exact absurd hb hab
/-- the adjacent one is asked from behind -/
theorem dedup_snoc (x : ByteArray) : ∀ (l : List ByteArray), dedup (l ++ [x]) = if l.getLast? = some x then dedup l else dedup l ++ [x]
  | [] => by simp [dedup]
  | [a] => by
    by_cases h : a = x <;> simp [dedup, h]
  | a :: b :: r => by
    have ih := dedup_snoc x (b :: r)
    simp only [List.cons_append] at ih ⊢
    rw [List.getLast?_cons_cons]
    simp only [dedup]
    by_cases h : a = b
    · simp only [if_pos h]; exact ih
    · simp only [if_neg h]; rw [ih]; split <;> rfl
/-- the keys of some operations, rising, each once -/
def keysR (L : List EntD) (p : OpD → Bool) : List ByteArray := dedup (textsL ((opsN L p L.length).map (·.2.key)))
theorem keysR_sorted (L : List EntD) (p : OpD → Bool) : SortedB (keysR L p) := dedup_sorted _ (textsL_sorted _ _ rfl)
theorem keysR_mem {L : List EntD} {p : OpD → Bool} {k : ByteArray} : k ∈ keysR L p ↔ ∃ x ∈ opsN L p L.length, x.2.key = k := by
  unfold keysR
  rw [dedup_mem, (textsL_perm _ _ rfl).mem_iff, List.mem_map]
/-- the keys of the registers that hold something -/
def regKeys (L : List EntD) : List ByteArray := (keysR L isReg).filter fun k => decide (0 < (regHeld L k).length)
theorem regKeys_sorted (L : List EntD) : SortedB (regKeys L) := (keysR_sorted L isReg).sublist List.filter_sublist
theorem regHeld_none {L : List EntD} {k : ByteArray} (h : ∀ x ∈ opsN L isReg L.length, x.2.key ≠ k) : regHeld L k = [] := by
  unfold regHeld keyOps
  have : (opsN L isReg L.length).filter (onKey k) = [] := by
    rw [List.filter_eq_nil_iff]
    intro x hx
    simp [onKey, h x hx]
  rw [this]; rfl
theorem regKeys_mem {L : List EntD} {k : ByteArray} : k ∈ regKeys L ↔ 0 < (regHeld L k).length := by
  unfold regKeys
  rw [List.mem_filter, keysR_mem]
  simp only [decide_eq_true_eq]
  constructor
  · exact fun h => h.2
  · intro h
    refine ⟨?_, h⟩
    apply Classical.byContradiction
    intro hc
    rw [regHeld_none (fun x hx he => hc ⟨x, hx, he⟩)] at h
    simp at h
end Go.Sl
namespace Go.Sl
open Go
/-! ### more on slices -/
def dropA (a : Option Addr) (i k cap : Nat) : Option Addr := if i < cap then a.map (fun x => x.add (i * k)) else a
section
variable {P : Program} {m : Slots} {σ : View} {H : HList} {dst : Option Tmp} {ty : TypeId} {pos : String} {af : Array Edge} {g : Option (Nat × Bool)}
/-- xs[l:] -/
theorem Pur.sliceX {t e k : Nat} {x y : Operand} {a : Option Addr} {len cap l : Nat} {kl : IntKind} (hx : opv m x = some (.slice a len cap)) (hy : opv m y = some (.int kl (l : Int))) (ht : slE P t = some (e, k)) (hl : l ≤ len) (hc : len ≤ cap) :
    Pur P m ⟨dst, .slice t x (some y) none none, ty, pos, af, g⟩ σ H (.slice (dropA a l k cap) (len - l) (cap - l)) := fun ρ w ha _ => by
  have hu := slE_under ht w
  have hz := slE_size ht w
  unfold dropA
  by_cases h0 : cap = l
  · subst h0
    rw [if_neg (by omega)]
    simp [execOp, Instr.sliceAt, Instr.slice, Instr.sliceBounds, Instr.sliceBound, asIntOf, ha x _ hx, ha y _ hy, hu, hz, hl]
  · rw [if_pos (by omega)]
    simp [execOp, Instr.sliceAt, Instr.slice, Instr.sliceBounds, Instr.sliceBound, asIntOf, ha x _ hx, ha y _ hy, hu, hz, hl, h0]
end
theorem SlE.drop {α : Type} {σ : View} {E : Enc α} {sz byt : Nat} {a : Option Addr} {n cap : Nat} {l : List α} (h : SlE σ E sz byt (.slice a n cap) l) (i : Nat) (hi : i ≤ l.length) : SlE σ E sz byt (.slice (dropA a i sz cap) (n - i) (cap - i)) (l.drop i) := by
  obtain ⟨a', cap', h1, h2, h3, h4⟩ := h
  cases h1
  refine ⟨_, _, by rw [List.length_drop], by rw [List.length_drop]; omega, Nat.le_trans (Nat.mul_le_mul_right _ (by rw [List.length_drop]; omega)) h3, ?_⟩
  rcases h4 with h4 | ⟨b, off, ha, h4⟩
  · exact .inl (by rw [List.length_drop]; omega)
  · by_cases hc : i < cap
    · refine .inr ⟨b, off + i * sz, ?_, fun j x hj => ?_⟩
      · unfold dropA; rw [if_pos hc, ha]; simp [add_none]
      · rw [List.getElem?_drop] at hj
        obtain ⟨vs, v1, v2, v3, v4⟩ := h4 (i + j) x hj
        exact ⟨vs, v1, v2, v3, by rw [show off + i * sz + j * sz = off + (i + j) * sz by rw [Nat.add_mul]; omega]; exact v4⟩
    · exact .inl (by rw [List.length_drop]; omega)
/-- where the elements of a known slice lie -/
theorem SlE.rds {α : Type} {σ : View} {E : Enc α} {sz byt n cap : Nat} {a : Option Addr} {l : List α} (h : SlE σ E sz byt (.slice a n cap) l) :
    ∃ b off, (0 < l.length → a = some ⟨b, off, none⟩) ∧ ∀ (i : Nat) (x : α), l[i]? = some x → ∃ vs, vs.length = sz ∧ vs.all (·.oneCell') = true ∧ E σ x vs ∧ RdV σ b (off + i * sz) vs := by
  obtain ⟨a', cap', h1, _, _, h4⟩ := h
  cases h1
  rcases h4 with h4 | ⟨b, off, ha, h4⟩
  · exact ⟨0, 0, fun h => by omega, fun i x hx => by have := (List.getElem?_eq_some_iff.1 hx).1; omega⟩
  · exact ⟨b, off, fun _ => ha, h4⟩
theorem Rd.idx {σ : View} {H : HList} {b off i : Nat} {vs : List Value} {v : Value} (h : Rd σ H b off vs) (hi : vs[i]? = some v) : Rd σ H b (off + i) [v] := by
  obtain ⟨c, T, fr, h1, h2⟩ := h
  refine ⟨c, T, fr, h1, fun j u hj => ?_⟩
  cases j with
  | zero => simp at hj; subst hj; exact h2 i v hi
  | succ j => simp at hj
/-! ### an element of a slice of one's own is laid anew -/
theorem ElR.set {α : Type} {σ : View} {E : Enc α} {sz : Nat} {l : List α} {vss : List (List Value)} {i : Nat} {x : α} {vs : List Value} (h : ElR σ E sz l vss) (h1 : vs.length = sz) (h2 : vs.all (·.oneCell') = true) (h3 : E σ x vs) : ElR σ E sz (l.set i x) (vss.set i vs) := by
  refine ⟨by simp [h.1], fun j y hy => ?_⟩
  rw [List.getElem?_set] at hy
  by_cases hij : i = j
  · subst hij
    rw [if_pos rfl] at hy
    split at hy
    · cases hy
      exact ⟨vs, by rw [List.getElem?_set_self (by rw [h.1]; assumption)], h1, h2, h3⟩
    · cases hy
  · rw [if_neg hij] at hy
    obtain ⟨us, u1, u2⟩ := h.2 j y hy
    exact ⟨us, by rw [List.getElem?_set_ne hij]; exact u1, u2⟩
theorem flatten_put {sz : Nat} {vs junk : List Value} (h1 : vs.length = sz) : ∀ (vss : List (List Value)) (i : Nat), (∀ v ∈ vss, v.length = sz) → i < vss.length → lput (vss.flatten ++ junk) (0 + i * sz) vs = (vss.set i vs).flatten ++ junk
  | [], i, _, h => by simp at h
  | v :: vss, 0, hl, _ => by
    have hv := hl v (by simp)
    unfold lput
    simp only [List.flatten_cons, List.set_cons_zero, Nat.zero_mul, Nat.zero_add, List.take_zero, List.nil_append]
    rw [show vs.length = v.length by omega, List.append_assoc, List.drop_left, List.append_assoc]
  | v :: vss, i + 1, hl, h => by
    have hv := hl v (by simp)
    have ih := flatten_put (junk := junk) h1 vss i (fun u hu => hl u (by simp [hu])) (by simpa using h)
    unfold lput at ih ⊢
    simp only [List.flatten_cons, List.set_cons_succ, List.append_assoc] at ih ⊢
    rw [← ih]
    rw [show 0 + (i + 1) * sz = v.length + (0 + i * sz) by rw [Nat.succ_mul]; omega]
    rw [List.take_length_add_append, show v.length + (0 + i * sz) + vs.length = v.length + (0 + i * sz + vs.length) by omega, List.drop_length_add_append, List.append_assoc]
theorem SlO.put {α : Type} {σ : View} {E : Enc α} {T : TypeId} {sz b cap i : Nat} {l : List α} {vss : List (List Value)} {junk : List Value} {x : α} {vs : List Value} (hel : ElR σ E sz l vss) (hc : l.length ≤ cap) (hj : junk.length = (cap - l.length) * sz) (hi : i < l.length) (h1 : vs.length = sz) (h2 : vs.all (·.oneCell') = true) (h3 : E σ x vs) :
    SlO σ E T sz (.slice (some ⟨b, 0, none⟩) l.length cap) (l.set i x) [(b, rowO T (lput (vss.flatten ++ junk) (0 + i * sz) vs))] := by
  have hs := hel.set (i := i) h1 h2 h3
  rw [flatten_put h1 vss i hel.len (by rw [hel.1]; exact hi)]
  exact ⟨vss.set i vs, ⟨by rw [hs.flat], .inr ⟨b, cap, junk, by rw [List.length_set], rfl, by rw [List.length_set]; exact hj, by rw [List.length_set]; exact hc⟩⟩, hs⟩
/-! ### spots and marks in memory -/
def eSpot : Enc Trip := fun _ t vs => vs = [.int .i64 (t.1 : Int), .int .i64 (t.2.1 : Int)]
theorem eSpot_mono : Enc.Mono eSpot := fun _ _ _ _ _ h => h
def eMark : Enc (Nat × OpD) := fun _ x vs => vs = [.int .i64 (x.1 : Int), .bool (decide (x.2.kind = 1)), .string x.2.text] ∧ StrOk x.2.text
theorem eMark_mono : Enc.Mono eMark := fun _ _ _ _ _ h => h
theorem opsErr_len {l : List OpD} (h : (opsErr l).1 = 0) : l.length ≤ 1024 := by
  unfold opsErr at h
  split at h
  · cases h
  · omega
theorem opsAt_len {L : List EntD} (ho : OrdOk L) (i : Nat) : (opsAt L i).length ≤ 1024 := by
  unfold opsAt
  split
  · rename_i e he
    exact opsErr_len (nodeErr_zero (ho.node e (List.mem_of_getElem? he))).2.2.2
  · simp
theorem tripsAt_len (p : OpD → Bool) (i : Nat) (l : List OpD) : (tripsAt p i l).length ≤ l.length := by
  unfold tripsAt
  rw [List.length_map]
  exact Nat.le_trans (List.length_filter_le _ _) (by simp)
theorem tripsN_len {L : List EntD} (ho : OrdOk L) (p : OpD → Bool) : ∀ n, (tripsN L p n).length ≤ n * 1024
  | 0 => by simp [tripsN]
  | n + 1 => by
    rw [tripsN_succ, List.length_append, Nat.succ_mul]
    exact Nat.add_le_add (tripsN_len ho p n) (Nat.le_trans (tripsAt_len p n _) (opsAt_len ho n))
theorem opsN_len {L : List EntD} (ho : OrdOk L) (p : OpD → Bool) (n : Nat) : (opsN L p n).length ≤ n * 1024 := by
  rw [← tripsN_ops, List.length_map]; exact tripsN_len ho p n
theorem marks_len : ∀ (S : List (Nat × OpD)), (marks S).length ≤ S.length
  | [] => by simp [marks]
  | [a] => by simp [marks]
  | a :: b :: r => by
    have ih := marks_len (b :: r)
    simp only [marks]
    split
    · simp only [List.length_cons] at ih ⊢; omega
    · simp only [List.length_cons] at ih ⊢; omega
theorem marks_sub : ∀ (S : List (Nat × OpD)), (marks S).Sublist S
  | [] => List.Sublist.refl _
  | [a] => List.Sublist.refl _
  | a :: b :: r => by
    simp only [marks]
    split
    · exact (marks_sub (b :: r)).cons _
    · exact (marks_sub (b :: r)).cons_cons _
theorem heldM_len (L : List EntD) : ∀ (S : List (Nat × OpD)), (heldM L S).length ≤ S.length
  | [] => by simp [heldM]
  | a :: r => by
    have ih := heldM_len L r
    simp only [heldM, List.length_append, List.length_cons]
    split <;> simp <;> omega
theorem heldS_len (L : List EntD) : ∀ (S : List (Nat × OpD)), (heldS L S).length ≤ S.length
  | [] => by simp [heldS]
  | a :: r => by
    have ih := heldS_len L r
    simp only [heldS, List.length_append, List.length_cons]
    split <;> simp <;> omega
/-- the entry of the last one -/
def lastE (M : List (Nat × OpD)) : Nat := match M[M.length - 1]? with | some y => y.1 | none => 0
theorem lastE_of {M : List (Nat × OpD)} {y : Nat × OpD} (h : M[M.length - 1]? = some y) : lastE M = y.1 := by unfold lastE; rw [h]
theorem addM_set {M : List (Nat × OpD)} {x : Nat × OpD} (h : 0 < M.length ∧ lastE M = x.1) : addM M x = M.set (M.length - 1) x := by
  obtain ⟨h0, h1⟩ := h
  have hy : M[M.length - 1]? = some M[M.length - 1] := List.getElem?_eq_getElem (by omega)
  rw [lastE_of hy] at h1
  unfold addM
  rw [List.getLast?_eq_getElem?, hy]
  simp only [h1, if_true]
  have hne : M ≠ [] := by rintro rfl; simp at h0
  apply List.ext_getElem?
  intro j
  rcases Nat.lt_trichotomy j (M.length - 1) with h | h | h
  · rw [List.getElem?_append_left (by rw [List.length_dropLast]; exact h), List.getElem?_set_ne (by omega), List.getElem?_dropLast, if_pos h]
  · subst h
    rw [List.getElem?_append_right (by rw [List.length_dropLast]; omega), List.getElem?_set_self (by omega), List.length_dropLast]; simp
  · rw [List.getElem?_eq_none (by simp; omega), List.getElem?_eq_none (by simp; omega)]
theorem addM_push {M : List (Nat × OpD)} {x : Nat × OpD} (h : ¬ (0 < M.length ∧ lastE M = x.1)) : addM M x = M ++ [x] := by
  unfold addM
  rw [List.getLast?_eq_getElem?]
  cases hy : M[M.length - 1]? with
  | none =>
    have : M.length = 0 := by
      rw [List.getElem?_eq_none_iff] at hy; omega
    rw [List.eq_nil_of_length_eq_zero this]; rfl
  | some y =>
    have hlt := (List.getElem?_eq_some_iff.1 hy).1
    rw [lastE_of hy] at h
    simp only
    rw [if_neg (fun he => h ⟨by omega, he⟩)]
end Go.Sl
namespace Go.Sl
open Go
/-! ### the entries in the one order -/
theorem filt_get {l : List EntD} : ∀ (is : List Nat) (k : Nat), (∀ i ∈ is, i < l.length) → (is.filterMap (l[·]?))[k]? = (is[k]?).bind (l[·]?)
  | [], _, _ => by simp
  | i :: is, k, h => by
    have hi := h i (by simp)
    rw [List.filterMap_cons, List.getElem?_eq_getElem hi]
    cases k with
    | zero => simp [List.getElem?_eq_getElem hi]
    | succ k => simpa using filt_get is k (fun j hj => h j (by simp [hj]))
theorem ordE_get {l : List EntD} (k : Nat) : (ordE l)[k]? = ((ordOf l)[k]?).bind (l[·]?) := filt_get _ k (ordN_ok (l := l) l.length).2
theorem ordE_len {l : List EntD} (hg : GoodE l) : (ordE l).length = l.length := ordEn_len hg (Nat.le_refl _)
theorem ordN_prefix {l : List EntD} (hg : GoodE l) : ∀ (m n k : Nat), n ≤ m → m ≤ l.length → k < n → (ordN l m)[k]? = (ordN l n)[k]? := by
  intro m
  induction m with
  | zero => intro n k h1 _ h2; omega
  | succ m ih =>
    intro n k h1 h2 h3
    rcases Nat.lt_or_ge m n with h | h
    · have : n = m + 1 := by omega
      subst this; rfl
    · obtain ⟨i0, hi0⟩ := next_ex hg (show m < l.length by omega)
      rw [ordN_succ hi0, List.getElem?_append_left (by rw [ordN_len hg m (by omega)]; omega)]
      exact ih n k h (by omega) h3
theorem ordN_at {l : List EntD} (hg : GoodE l) {n i0 : Nat} (hn : n < l.length) (h : nextR l (ordN l n) = some i0) : (ordOf l)[n]? = some i0 := by
  have : (ordN l l.length)[n]? = (ordN l (n + 1))[n]? := ordN_prefix hg l.length (n + 1) n hn (Nat.le_refl _) (by omega)
  unfold ordOf
  rw [this, ordN_succ h, List.getElem?_append_right (by rw [ordN_len hg n (by omega)]; omega), ordN_len hg n (by omega)]; simp
theorem ordE_ids {l : List EntD} : (ordE l).map (·.id) = (ordOf l).map (idAt l) := by
  apply List.ext_getElem?
  intro k
  rw [List.getElem?_map, List.getElem?_map, ordE_get]
  cases h : (ordOf l)[k]? with
  | none => rfl
  | some i =>
    have hi := (ordN_ok (l := l) l.length).2 i (List.mem_of_getElem? h)
    simp [List.getElem?_eq_getElem hi, idAt]
theorem map_nodup {f : Nat → Nat} {is : List Nat} (h : is.Nodup) (hf : ∀ i ∈ is, ∀ j ∈ is, f i = f j → i = j) : (is.map f).Nodup := by
  induction is with
  | nil => simp
  | cons a is ih =>
    rw [List.nodup_cons] at h
    rw [List.map_cons, List.nodup_cons]
    refine ⟨fun hm => ?_, ih h.2 (fun i hi j hj => hf i (by simp [hi]) j (by simp [hj]))⟩
    obtain ⟨b, hb, he⟩ := List.mem_map.1 hm
    have := hf b (by simp [hb]) a (by simp) he
    subst this; exact h.1 hb
theorem ordE_ok {l : List EntD} (hg : GoodE l) : OrdOk (ordE l) := by
  have hok := ordN_ok (l := l) l.length
  have hnd : ((ordE l).map (·.id)).Nodup := by
    rw [ordE_ids]
    exact map_nodup hok.1 (fun i hi j hj he => idAt_inj hg.nodup (hok.2 i hi) (hok.2 j hj) he)
  have hmem : ∀ e ∈ ordE l, e ∈ l := fun e he => by
    obtain ⟨i, _, hi⟩ := List.mem_filterMap.1 he
    exact List.mem_of_getElem? hi
  refine ⟨hnd, fun e he => hg.node e (hmem e he), by rw [ordE_len hg]; exact hg.most, fun n e he p hp => ?_⟩
  have hn : n < l.length := by have := (List.getElem?_eq_some_iff.1 he).1; rw [ordE_len hg] at this; exact this
  obtain ⟨i0, hi0⟩ := next_ex hg hn
  have hat := ordN_at hg hn hi0
  rw [ordE_get, hat] at he
  have he' : l[i0]? = some e := he
  have hlk := (readyB_iff.1 (nextR_some hi0).1).2.2
  have hin := lackN_zero.1 hlk p (by rw [parsAt_of he']; exact hp)
  unfold inOut at hin
  cases hx : idxOf l p with
  | none => rw [hx] at hin; cases hin
  | some k0 =>
    rw [hx] at hin
    have hk0 : k0 ∈ ordN l n := by simpa using hin
    obtain ⟨k, hk⟩ := List.getElem?_of_mem hk0
    have hkn : k < n := by have := (List.getElem?_eq_some_iff.1 hk).1; rw [ordN_len hg n (by omega)] at this; exact this
    have hk2 : (ordOf l)[k]? = some k0 := by
      unfold ordOf; rw [ordN_prefix hg l.length n k (by omega) (Nat.le_refl _) hkn]; exact hk
    obtain ⟨e2, he2, hid⟩ := idxOf_some hx
    have hke : (ordE l)[k]? = some e2 := by rw [ordE_get, hk2]; exact he2
    exact ⟨k, hkn, by rw [← hid]; exact idxOf_of hnd hke⟩
end Go.Sl
namespace Go.Sl
open Go
theorem rd_last {σ : View} {M : List (Nat × OpD)} {bs : Nat} {hm : HList} (h0 : 0 < M.length)
    (hsat : ∀ (i : Nat) (x : Nat × OpD), M[i]? = some x → ∃ vs, vs.length = 3 ∧ vs.all (·.oneCell') = true ∧ eMark σ x vs ∧ ∀ (σ' : View) (H : HList), (∀ p ∈ hm, p ∈ H) → Rd σ' H bs (0 + i * 3) vs)
    {σ' : View} {H : HList} (hH : ∀ p ∈ hm, p ∈ H) : Rd σ' H bs (0 + (M.length - 1) * 3 + 0) [.int .i64 (lastE M : Int)] := by
  have hy : M[M.length - 1]? = some M[M.length - 1] := List.getElem?_eq_getElem (by omega)
  obtain ⟨vs, _, _, ⟨rfl, _⟩, hvr⟩ := hsat _ _ hy
  rw [lastE_of hy]
  exact (hvr _ _ hH).idx rfl
theorem overM_step {L : List EntD} {i q : Nat} {r : List (Nat × OpD)} {x : Nat × OpD} (h : r[q]? = some x) : overM L i (r.take (q + 1)) = (overM L i (r.take q) || seesN L i x.1) := by
  unfold overM
  rw [List.take_add_one, h]
  simp
theorem heldM_drop {L : List EntD} {M : List (Nat × OpD)} {i : Nat} {x : Nat × OpD} (h : M[i]? = some x) : heldM L (M.drop i) = (if x.2.kind = 1 ∧ overM L x.1 (M.drop (i + 1)) = false then [x.2.text] else []) ++ heldM L (M.drop (i + 1)) := by
  obtain ⟨hlt, he⟩ := List.getElem?_eq_some_iff.1 h
  rw [List.drop_eq_getElem_cons hlt, he]; rfl
theorem heldM_done {L : List EntD} {M : List (Nat × OpD)} {i : Nat} (h : M.length ≤ i) : heldM L (M.drop i) = [] := by
  rw [List.drop_eq_nil_of_le h]; rfl
theorem filter_snoc (key : ByteArray) (dn : List (Nat × OpD)) (x : Nat × OpD) : (dn ++ [x]).filter (onKey key) = dn.filter (onKey key) ++ (if x.2.key = key then [x] else []) := by
  rw [List.filter_append]
  congr 1
  by_cases h : x.2.key = key <;> simp [onKey, h]
theorem marks_key (key : ByteArray) (dn : List (Nat × OpD)) (x : Nat × OpD) : marks ((dn ++ [x]).filter (onKey key)) = if x.2.key = key then addM (marks (dn.filter (onKey key))) x else marks (dn.filter (onKey key)) := by
  rw [filter_snoc]
  by_cases h : x.2.key = key
  · rw [if_pos h, if_pos h, marks_snoc]
  · rw [if_neg h, if_neg h, List.append_nil]
theorem marksF_len (key : ByteArray) (dn : List (Nat × OpD)) : (marks (dn.filter (onKey key))).length ≤ dn.length := Nat.le_trans (marks_len _) (List.length_filter_le _ _)
theorem regHeld_marks (L : List EntD) (key : ByteArray) : heldM L (marks ((opsN L isReg L.length).filter (onKey key))) = regHeld L key := held_marks L _ (keyOps_up L isReg key)
/-! ### keys in the order in which they come -/
instance memBA (a : ByteArray) (l : List ByteArray) : Decidable (a ∈ l) := @List.instDecidableMemOfLawfulBEq ByteArray instBEqOfDecidableEq inferInstance a l
def keysF (dn : List (Nat × OpD)) : List ByteArray := dn.foldl (fun ks x => if x.2.key ∈ ks then ks else ks ++ [x.2.key]) []
theorem keysF_snoc (dn : List (Nat × OpD)) (x : Nat × OpD) : keysF (dn ++ [x]) = if x.2.key ∈ keysF dn then keysF dn else keysF dn ++ [x.2.key] := by
  unfold keysF; rw [List.foldl_append]; rfl
theorem snoc_ind {α : Type} {p : List α → Prop} (h0 : p []) (h1 : ∀ l x, p l → p (l ++ [x])) (l : List α) : p l := by
  have : ∀ (n : Nat) (l : List α), l.length = n → p l := by
    intro n
    induction n with
    | zero => intro l h; rw [List.eq_nil_of_length_eq_zero h]; exact h0
    | succ n ih =>
      intro l h
      have hne : l ≠ [] := by rintro rfl; simp at h
      rw [← List.dropLast_concat_getLast hne]
      exact h1 _ _ (ih _ (by rw [List.length_dropLast]; omega))
  exact this _ l rfl
theorem keysF_mem (k : ByteArray) (dn : List (Nat × OpD)) : k ∈ keysF dn ↔ ∃ x ∈ dn, x.2.key = k := by
  induction dn using snoc_ind with
  | h0 => simp [keysF]
  | h1 l x ih =>
    rw [keysF_snoc]
    simp only [List.mem_append, List.mem_singleton]
    split
    · rename_i hm
      rw [ih]
      constructor
      · rintro ⟨y, hy, he⟩; exact ⟨y, .inl hy, he⟩
      · rintro ⟨y, hy | rfl, he⟩
        · exact ⟨y, hy, he⟩
        · rw [he] at hm; exact ih.1 hm
    · rw [List.mem_append, ih, List.mem_singleton]
      constructor
      · rintro (⟨y, hy, he⟩ | rfl)
        · exact ⟨y, .inl hy, he⟩
        · exact ⟨x, .inr rfl, rfl⟩
      · rintro ⟨y, hy | rfl, he⟩
        · exact .inl ⟨y, hy, he⟩
        · exact .inr he.symm
theorem keysF_nodup (dn : List (Nat × OpD)) : (keysF dn).Nodup := by
  induction dn using snoc_ind with
  | h0 => simp [keysF]
  | h1 l x ih =>
    rw [keysF_snoc]
    split
    · exact ih
    · rename_i hm
      rw [List.nodup_append]
      refine ⟨ih, by simp, fun a ha b hb he => ?_⟩
      simp at hb; subst hb; subst he; exact hm ha
theorem keysF_len (dn : List (Nat × OpD)) : (keysF dn).length ≤ dn.length := by
  induction dn using snoc_ind with
  | h0 => simp [keysF]
  | h1 l x ih =>
    rw [keysF_snoc]
    split
    · simp; omega
    · simp; omega
theorem filter_fresh {key : ByteArray} {dn : List (Nat × OpD)} (h : key ∉ keysF dn) : dn.filter (onKey key) = [] := by
  rw [List.filter_eq_nil_iff]
  intro x hx hc
  exact h ((keysF_mem key dn).2 ⟨x, hx, by simpa [onKey] using hc⟩)
/-! maps told by a list of keys -/
theorem mget_map {α : Type} [DecidableEq α] (f : α → Value) (a : α) : ∀ (ks : List α), mget (ks.map fun k => (k, f k)) a = if a ∈ ks then some (f a) else none
  | [] => rfl
  | k :: ks => by
    rw [List.map_cons, mget_cons, mget_map f a ks]
    by_cases h : a = k
    · subst h; simp
    · simp [h]
theorem mput_old {α : Type} [DecidableEq α] (f : α → Value) (a : α) (v : Value) : ∀ (ks : List α), ks.Nodup → a ∈ ks → mput (ks.map fun k => (k, f k)) a v = ks.map fun k => (k, if k = a then v else f k)
  | [], _, h => by simp at h
  | k :: ks, hn, h => by
    rw [List.nodup_cons] at hn
    simp only [List.map_cons, mput]
    by_cases hk : a = k
    · subst hk
      rw [if_pos rfl, if_pos rfl]
      congr 1
      apply List.map_congr_left
      intro x hx
      rw [if_neg (by rintro rfl; exact hn.1 hx)]
    · rw [if_neg hk, if_neg (Ne.symm hk), mput_old f a v ks hn.2 (by simpa [hk] using h)]
theorem mput_fresh {α : Type} [DecidableEq α] (f : α → Value) (a : α) (v : Value) (ks : List α) (h : a ∉ ks) : mput (ks.map fun k => (k, f k)) a v = (ks ++ [a]).map fun k => (k, if k = a then v else f k) := by
  rw [mput_new _ _ _ (by rw [mget_map, if_neg h]), List.map_append]
  congr 1
  · apply List.map_congr_left
    intro x hx
    rw [if_neg (by rintro rfl; exact h hx)]
  · simp
theorem flatMap_ext {α β : Type} {f g : α → List β} : ∀ {l : List α}, (∀ x ∈ l, f x = g x) → l.flatMap f = l.flatMap g
  | [], _ => rfl
  | a :: l, h => by rw [List.flatMap_cons, List.flatMap_cons, h a (by simp), flatMap_ext (fun x hx => h x (by simp [hx]))]
theorem flat_at {α : Type} [DecidableEq α] {hs : α → HList} {a : α} {ks : List α} (h : a ∈ ks) : ∃ rest, (ks.flatMap hs).Perm (hs a ++ rest) ∧ (ks.Nodup → ∀ h' : HList, (ks.flatMap fun k => if k = a then h' else hs k).Perm (h' ++ rest)) := by
  obtain ⟨k1, k2, rfl⟩ := List.append_of_mem h
  refine ⟨k1.flatMap hs ++ k2.flatMap hs, ?_, fun hn h' => ?_⟩
  · rw [List.flatMap_append, List.flatMap_cons]
    exact (List.perm_append_comm_assoc _ _ _)
  · rw [List.nodup_append] at hn
    obtain ⟨_, h2, h3⟩ := hn
    rw [List.nodup_cons] at h2
    have e1 : (k1.flatMap fun k => if k = a then h' else hs k) = k1.flatMap hs := by
      apply flatMap_ext
      intro x hx
      rw [if_neg (fun he => h3 x hx a (by simp) he)]
    have e2 : (k2.flatMap fun k => if k = a then h' else hs k) = k2.flatMap hs := by
      apply flatMap_ext
      intro x hx
      rw [if_neg (by rintro rfl; exact h2.1 hx)]
    rw [List.flatMap_append, List.flatMap_cons, if_pos rfl, e1, e2]
    exact (List.perm_append_comm_assoc _ _ _)
theorem flat_new {α : Type} [DecidableEq α] {hs : α → HList} {a : α} {ks : List α} (h : a ∉ ks) (h' : HList) : ((ks ++ [a]).flatMap fun k => if k = a then h' else hs k).Perm (h' ++ ks.flatMap hs) := by
  rw [List.flatMap_append]
  have e1 : (ks.flatMap fun k => if k = a then h' else hs k) = ks.flatMap hs := by
    apply flatMap_ext
    intro x hx
    rw [if_neg (by rintro rfl; exact h hx)]
  rw [e1]
  simp only [List.flatMap_cons, List.flatMap_nil, List.append_nil, if_true]
  exact List.perm_append_comm
end Go.Sl
namespace Go.Sl
open Go
/-! ### a map of slices of one's own -/
def KK (bm : Nat) (dn : List (Nat × OpD)) (σ : View) (H : HList) : Prop :=
  ∃ (svs : ByteArray → Value) (hs : ByteArray → HList), H.Perm ((bm, mapO Value.string ((keysF dn).map fun k => (k, svs k))) :: (keysF dn).flatMap hs) ∧
    ∀ k ∈ keysF dn, SlO σ eMark 116 3 (svs k) (marks (dn.filter (onKey k))) (hs k)
theorem KK.nil (bm : Nat) (σ : View) : KK bm [] σ [(bm, .map #[] 0)] := ⟨fun _ => .slice none 0 0, fun _ => [], List.Perm.refl _, fun k hk => by simp [keysF] at hk⟩
theorem KK.mono {bm : Nat} {dn : List (Nat × OpD)} {σ σ' : View} {H : HList} (h : KK bm dn σ H) (hl : σ.le σ') : KK bm dn σ' H :=
  let ⟨svs, hs, h1, h2⟩ := h; ⟨svs, hs, h1, fun k hk => (h2 k hk).mono eMark_mono hl⟩
theorem KK.perm {bm : Nat} {dn : List (Nat × OpD)} {σ : View} {H H' : HList} (h : KK bm dn σ H) (hp : H'.Perm H) : KK bm dn σ H' :=
  let ⟨svs, hs, h1, h2⟩ := h; ⟨svs, hs, hp.trans h1, h2⟩
theorem KK.open {bm : Nat} {dn : List (Nat × OpD)} {σ : View} {H : HList} (h : KK bm dn σ H) (key : ByteArray) :
    ∃ (ents : List (ByteArray × Value)) (sv : Value) (hk rest : HList), H.Perm ((bm, mapO Value.string ents) :: (hk ++ rest)) ∧ SlO σ eMark 116 3 sv (marks (dn.filter (onKey key))) hk ∧ (mget ents key).getD (.slice none 0 0) = sv ∧
      ∀ (x : Nat × OpD) (sv' : Value) (hk' : HList), x.2.key = key → SlO σ eMark 116 3 sv' (marks ((dn ++ [x]).filter (onKey key))) hk' → KK bm (dn ++ [x]) σ ((bm, mapO Value.string (mput ents key sv')) :: (hk' ++ rest)) := by
  obtain ⟨svs, hs, h1, h2⟩ := h
  have hother : ∀ (x : Nat × OpD) (k : ByteArray), x.2.key = key → k ≠ key → (dn ++ [x]).filter (onKey k) = dn.filter (onKey k) := fun x k hx hk => by
    rw [filter_snoc, if_neg (by rw [hx]; exact fun h => hk h.symm), List.append_nil]
  by_cases hm : key ∈ keysF dn
  · obtain ⟨rest, hr1, hr2⟩ := flat_at (hs := hs) hm
    refine ⟨_, svs key, hs key, rest, h1.trans (List.Perm.cons _ hr1), h2 key hm, by rw [mget_map, if_pos hm]; rfl, fun x sv' hk' hx hso => ?_⟩
    have hks : keysF (dn ++ [x]) = keysF dn := by rw [keysF_snoc, hx, if_pos hm]
    refine ⟨fun k => if k = key then sv' else svs k, fun k => if k = key then hk' else hs k, ?_, fun k hk => ?_⟩
    · rw [hks, mput_old svs key sv' _ (keysF_nodup dn) hm]
      exact List.Perm.cons _ (hr2 (keysF_nodup dn) hk').symm
    · rw [hks] at hk
      by_cases he : k = key
      · subst he; simpa using hso
      · have := h2 k hk
        rw [← hother x k hx he] at this
        simpa only [if_neg he] using this
  · refine ⟨_, .slice none 0 0, [], (keysF dn).flatMap hs, by rw [List.nil_append]; exact h1, by rw [filter_fresh hm]; exact SlO.nil, by rw [mget_map, if_neg hm]; rfl, fun x sv' hk' hx hso => ?_⟩
    have hks : keysF (dn ++ [x]) = keysF dn ++ [key] := by rw [keysF_snoc, hx, if_neg hm]
    refine ⟨fun k => if k = key then sv' else svs k, fun k => if k = key then hk' else hs k, ?_, fun k hk => ?_⟩
    · rw [hks, mput_fresh svs key sv' _ hm]
      exact List.Perm.cons _ (flat_new hm hk').symm
    · rw [hks, List.mem_append, List.mem_singleton] at hk
      by_cases he : k = key
      · subst he; simpa using hso
      · have := h2 k (hk.resolve_right he)
        rw [← hother x k hx he] at this
        simpa only [if_neg he] using this
/-- rows of one's own are given up, one for each key -/
theorem St.giveL {α β : Type} {E : Enc β} (hE : E.Mono) {T : TypeId} {sz byt : Nat} {svs : α → Value} {hs : α → HList} {f : α → List β} {w : World} : ∀ (ks : List α) (σ : View) (H1 H2 : HList), (∀ k ∈ ks, (f k).length * byt ≤ 140737488355328) → (∀ k ∈ ks, SlO σ E T sz (svs k) (f k) (hs k)) → St σ (H1 ++ (ks.flatMap hs ++ H2)) w →
    ∃ σ', σ.le σ' ∧ (∀ k ∈ ks, SlE σ' E sz byt (svs k) (f k)) ∧ St σ' (H1 ++ H2) w
  | [], σ, H1, H2, _, _, h => ⟨σ, View.le_refl _, by simp, by simpa using h⟩
  | k :: ks, σ, H1, H2, hb, hso, h => by
    rw [List.flatMap_cons, List.append_assoc] at h
    obtain ⟨σ1, h1, h2, h3⟩ := St.giveS (byt := byt) hE (hso k (by simp)) (hb k (by simp)) h
    obtain ⟨σ2, g1, g2, g3⟩ := St.giveL hE ks σ1 H1 H2 (fun k hk => hb k (by simp [hk])) (fun k hk => (hso k (by simp [hk])).mono hE h1) h3
    refine ⟨σ2, View.le_trans h1 g1, fun k' hk' => ?_, g3⟩
    rcases List.mem_cons.1 hk' with rfl | hk'
    · exact h2.mono hE g1
    · exact g2 k' hk'
theorem WL.giveL {P : Program} {r : Option Nat} {ops : Array Oper} {Q : Exit → Act → World → Prop} {n : Nat} {d : List Deferred} {m : Slots} {σ : View} {H : HList} {ol : List Oper} {α β : Type} {E : Enc β} (hE : E.Mono) {T : TypeId} {sz byt : Nat} {svs : α → Value} {hs : α → HList} {f : α → List β} {ks : List α} {H1 H2 : HList}
    (hb : ∀ k ∈ ks, (f k).length * byt ≤ 140737488355328) (hso : ∀ k ∈ ks, SlO σ E T sz (svs k) (f k) (hs k)) (hH : H = H1 ++ (ks.flatMap hs ++ H2))
    (k : ∀ σ', σ.le σ' → (∀ k ∈ ks, SlE σ' E sz byt (svs k) (f k)) → WL P r ops Q ol n d m σ' (H1 ++ H2)) : WL P r ops Q ol n d m σ H := fun a w hf hst => by
  subst hH
  obtain ⟨σ', h1, h2, h3⟩ := St.giveL hE ks σ H1 H2 hb hso hst
  exact k σ' h1 h2 a w hf h3
/-! ### what a walk through a map gathers -/
def seenK (ks : List ByteArray) (seen : List Nat) : List ByteArray := seen.filterMap (ks[·]?)
theorem seenK_snoc {ks : List ByteArray} {seen : List Nat} {i : Nat} {k : ByteArray} (h : ks[i]? = some k) : seenK ks (seen ++ [i]) = seenK ks seen ++ [k] := by
  unfold seenK; rw [List.filterMap_append]; simp [h]
theorem seenK_mem {ks : List ByteArray} {seen : List Nat} {k : ByteArray} : k ∈ seenK ks seen ↔ ∃ i ∈ seen, ks[i]? = some k := by
  unfold seenK; rw [List.mem_filterMap]
theorem seenK_nodup {ks : List ByteArray} (hn : ks.Nodup) : ∀ {seen : List Nat}, seen.Nodup → (seenK ks seen).Nodup
  | [], _ => by simp [seenK]
  | i :: seen, h => by
    rw [List.nodup_cons] at h
    have ih := seenK_nodup hn h.2
    unfold seenK at ih ⊢
    rw [List.filterMap_cons]
    cases hk : ks[i]? with
    | none => exact ih
    | some k =>
      rw [List.nodup_cons]
      refine ⟨fun hm => ?_, ih⟩
      obtain ⟨j, hj, hkj⟩ := List.mem_filterMap.1 hm
      obtain ⟨h1, e1⟩ := List.getElem?_eq_some_iff.1 hk
      obtain ⟨h2, e2⟩ := List.getElem?_eq_some_iff.1 hkj
      have : i = j := by
        rcases Nat.lt_trichotomy i j with hlt | he | hlt
        · exact absurd (e1.trans e2.symm) (List.pairwise_iff_getElem.1 hn i j h1 h2 hlt)
        · exact he
        · exact absurd (e2.trans e1.symm) (List.pairwise_iff_getElem.1 hn j i h2 h1 hlt)
      subst this; exact h.1 hj
theorem seen_len {seen : List Nat} {N : Nat} (h1 : seen.Nodup) (h2 : ∀ i ∈ seen, i < N) : seen.length ≤ N := nodup_lt_len N seen h1 h2
theorem seen_lt {seen : List Nat} {N i : Nat} (h1 : seen.Nodup) (h2 : ∀ i ∈ seen, i < N) (h3 : i ∉ seen) (h4 : i < N) : seen.length < N := by
  have := nodup_lt_len N (i :: seen) (List.nodup_cons.2 ⟨h3, h1⟩) (fun x hx => by
    rcases List.mem_cons.1 hx with rfl | hx
    · exact h4
    · exact h2 x hx)
  simp only [List.length_cons] at this
  omega
theorem seenK_len {ks : List ByteArray} {seen : List Nat} : (seenK ks seen).length ≤ seen.length := List.length_filterMap_le _ _
end Go.Sl
namespace Go.Sl
open Go
/-- what such a slice owns is given up -/
theorem St.giveTA {σ : View} {T n k : Nat} {x : ByteArray} {a t : Value} {h H1 H2 : HList} {w : World} (hT : TA T n x a k t h) (hx : StrOk x) (hn : n * 16 ≤ 140737488355328) (hst : St σ (H1 ++ (h ++ H2)) w) :
    ∃ σ', σ.le σ' ∧ SlE σ' eStr 1 16 a (List.replicate n x) ∧ St σ' (H1 ++ H2) w := by
  have key : ∀ (b cap : Nat) (junk : List Value), n ≤ cap → St σ (H1 ++ ([(b, rowO T (repV n x ++ junk))] ++ H2)) w → ∃ σ', σ.le σ' ∧ SlE σ' eStr 1 16 (.slice (some ⟨b, 0, none⟩) n cap) (List.replicate n x) ∧ St σ' (H1 ++ H2) w := by
    intro b cap junk hc hst
    have hg := St.give (H1 := H1) (H2 := H2) (b := b) (o := rowO T (repV n x ++ junk)) (by simpa using hst)
    refine ⟨_, View.le_add _ hg.2, ?_, hg.1⟩
    have hel : ElR (σ.add b (rowO T (repV n x ++ junk))) eStr 1 (List.replicate n x) (List.replicate n [Value.string x]) := ⟨by simp, fun i y hy => by
      rw [List.getElem?_replicate] at hy
      split at hy
      · rename_i hi
        cases hy
        exact ⟨[.string x], by rw [List.getElem?_replicate, if_pos hi], rfl, rfl, rfl, hx⟩
      · cases hy⟩
    have hfl : (List.replicate n [Value.string x]).flatten = repV n x := by
      simp [repV]
    have h2 := SlE.of_known (byt := 16) (T := T) (b := b) (cap := cap) (junk := junk) (by rw [hfl]; exact View.add_same _ _ _) hel (by simpa using hc) (by simpa using hn)
    simpa using h2
  rcases hT with ⟨b, cap, junk, rfl, rfl, rfl, hj, hc⟩ | ⟨hht, ha, rfl, hso, hold⟩
  · rw [repV_add, List.append_assoc] at hst
    exact key b cap _ (by omega) hst
  · have hst2 : St σ (H1 ++ (ha ++ H2)) w := hst.weak (List.Sublist.append_left (by rw [List.append_assoc]; exact List.sublist_append_right _ _) _)
    rcases hold with ⟨rfl, rfl, rfl⟩ | ⟨b, cap, junk, rfl, hc, rfl⟩
    · exact ⟨σ, View.le_refl _, SlE.nilS, by simpa using hst2⟩
    · exact key b cap junk hc hst2

/-! ### texts all alike -/
theorem SlO.set1 {σ : View} {T b cap i : Nat} {l : List ByteArray} {vss : List (List Value)} {junk : List Value} {x : ByteArray} (hel : ElR σ eStr 1 l vss) (hc : l.length ≤ cap) (hj : junk.length = (cap - l.length) * 1) (hi : i < l.length) (hx : StrOk x) :
    SlO σ eStr T 1 (.slice (some ⟨b, 0, none⟩) l.length cap) (l.set i x) [(b, rowO T ((vss.flatten ++ junk).set (0 + i * 1) (.string x)))] := by
  have h := SlO.put (T := T) (b := b) (i := i) (x := x) (vs := [.string x]) hel hc hj hi rfl rfl ⟨rfl, hx⟩
  have hlen : 0 + i * 1 < (vss.flatten ++ junk).length := by rw [List.length_append, hel.flat]; omega
  have e : lput (vss.flatten ++ junk) (0 + i * 1) [.string x] = (vss.flatten ++ junk).set (0 + i * 1) (.string x) := by
    unfold lput; rw [List.set_eq_take_append_cons_drop, if_pos hlen]; simp
  rw [e] at h
  exact h
theorem rep_set {l : List ByteArray} {q : Nat} {x : ByteArray} (hq : q < l.length) : (List.replicate q x ++ l.drop q).set q x = List.replicate (q + 1) x ++ l.drop (q + 1) := by
  rw [List.set_append_right _ _ (by simp), List.length_replicate, Nat.sub_self, List.drop_eq_getElem_cons hq, List.set_cons_zero, List.replicate_succ', List.append_assoc]
  rfl
theorem rep_len {l : List ByteArray} {q : Nat} {x : ByteArray} (hq : q ≤ l.length) : (List.replicate q x ++ l.drop q).length = l.length := by
  rw [List.length_append, List.length_replicate, List.length_drop]; omega
theorem TA.start {σ : View} {T n : Nat} {x : ByteArray} {a : Value} {h : HList} (hs : SlO σ eStr T 1 a (List.replicate n x) h) : TA T n x a 0 a h := by
  obtain ⟨vss, ⟨hl, h1⟩, hel⟩ := hs
  have hvs : vss.flatten = repV n x := by
    have : vss = List.replicate n [Value.string x] := by
      apply List.ext_getElem?
      intro i
      rw [List.getElem?_replicate]
      by_cases hi : i < n
      · obtain ⟨vs, g1, _, _, rfl, _⟩ := hel.2 i x (by rw [List.getElem?_replicate, if_pos hi])
        rw [g1, if_pos hi]
      · rw [if_neg hi, List.getElem?_eq_none (by rw [hel.1, List.length_replicate]; omega)]
    rw [this]
    simp [repV]
  rw [hvs] at h1
  rw [List.length_replicate] at h1
  rcases h1 with ⟨rfl, h2, rfl⟩ | ⟨b, cap, junk, rfl, rfl, h3, h4⟩
  · subst h2
    exact .inr ⟨[], [], rfl, SlOwn.nil T 1, .inl ⟨rfl, rfl, rfl⟩⟩
  · exact .inl ⟨b, cap, junk, rfl, rfl, rfl, by rw [Nat.mul_one] at h3; exact h3, h4⟩
/-- what is yet to be written over, of two -/
def Pend (σ : View) (T : Nat) (x : ByteArray) (a b : Value) (A B : List ByteArray) (i : Nat) (h : HList) : Prop :=
  (i = 0 ∧ ∃ h1 h2, h = h1 ++ h2 ∧ SlO σ eStr T 1 a A h1 ∧ SlO σ eStr T 1 b B h2) ∨
  (i = 1 ∧ SlE σ eStr 1 16 a (List.replicate A.length x) ∧ SlO σ eStr T 1 b B h) ∨
  (i = 2 ∧ SlE σ eStr 1 16 a (List.replicate A.length x) ∧ SlE σ eStr 1 16 b (List.replicate B.length x) ∧ h = [])
theorem Pend.open {σ : View} {T : Nat} {x : ByteArray} {a b : Value} {A B : List ByteArray} {i : Nat} {h : HList} (hp : Pend σ T x a b A B i h) (hi : i < 2) (hA : A.length ≤ 4194304) (hB : B.length ≤ 4194304) :
    ∃ tv L0 h0 hR, [a, b][i]? = some tv ∧ SlO σ eStr T 1 tv L0 h0 ∧ L0.length ≤ 4194304 ∧ h = h0 ++ hR ∧ ∀ σ', σ.le σ' → SlE σ' eStr 1 16 tv (List.replicate L0.length x) → Pend σ' T x a b A B (i + 1) hR := by
  rcases hp with ⟨rfl, h1, h2, rfl, g1, g2⟩ | ⟨rfl, g1, g2⟩ | ⟨rfl, _⟩
  · exact ⟨a, A, h1, h2, rfl, g1, hA, rfl, fun σ' hl hs => .inr (.inl ⟨rfl, hs, g2.mono eStr_mono hl⟩)⟩
  · exact ⟨b, B, h, [], rfl, g2, hB, by simp, fun σ' hl hs => .inr (.inr ⟨rfl, g1.mono eStr_mono hl, hs, rfl⟩)⟩
  · omega
theorem Pend.done {σ : View} {T : Nat} {x : ByteArray} {a b : Value} {A B : List ByteArray} {i : Nat} {h : HList} (hp : Pend σ T x a b A B i h) (hi : ¬ i < 2) : SlE σ eStr 1 16 a (List.replicate A.length x) ∧ SlE σ eStr 1 16 b (List.replicate B.length x) ∧ h = [] := by
  rcases hp with ⟨rfl, _⟩ | ⟨rfl, _⟩ | ⟨rfl, h1, h2, h3⟩
  · omega
  · omega
  · exact ⟨h1, h2, h3⟩
def eVal : Enc Value := fun _ v vs => vs = [v] ∧ v.oneCell' = true
theorem eVal_mono : Enc.Mono eVal := fun _ _ _ _ _ h => h
/-- the mark of a round -/
def mB (i : Nat) : ByteArray := Utf8.encode ((65 + i : Nat) : Int)
theorem mB_ok (i : Nat) (hi : i < 4) : StrOk (mB i) := by
  unfold StrOk
  rcases i with _ | _ | _ | _ | i
  · decide
  · decide
  · decide
  · decide
  · omega
theorem i32_small (i : Nat) (hi : i < 4) : IntKind.i32.wrap ((65 + i : Nat) : Int) = ((65 + i : Nat) : Int) := by
  rcases i with _ | _ | _ | _ | i
  · decide
  · decide
  · decide
  · decide
  · omega
/-- what was told and written over -/
def ToldM (σ : View) (TL : List Value) : Prop := ∀ (j : Nat) (v : Value), TL[j]? = some v → ∃ n, n ≤ 4194304 ∧ SlE σ eStr 1 16 v (List.replicate n (mB (j / 2)))
theorem ToldM.mono {σ σ' : View} {TL : List Value} (h : ToldM σ TL) (hl : σ.le σ') : ToldM σ' TL := fun j v hj => let ⟨n, h1, h2⟩ := h j v hj; ⟨n, h1, h2.mono eStr_mono hl⟩
theorem ToldM.two {σ : View} {TL : List Value} {a b : Value} {A B i : Nat} (h : ToldM σ TL) (hl : TL.length = 2 * i) (hA : A ≤ 4194304) (hB : B ≤ 4194304) (ha : SlE σ eStr 1 16 a (List.replicate A (mB i))) (hb : SlE σ eStr 1 16 b (List.replicate B (mB i))) : ToldM σ (TL ++ [a, b]) := by
  intro j v hj
  by_cases h1 : j < TL.length
  · rw [List.getElem?_append_left h1] at hj; exact h j v hj
  · rw [List.getElem?_append_right (by omega)] at hj
    have h2 := (List.getElem?_eq_some_iff.1 hj).1
    simp at h2
    rcases Nat.lt_or_ge j (2 * i + 1) with h3 | h3
    · have : j = 2 * i := by omega
      subst this
      rw [hl, Nat.sub_self] at hj
      simp at hj; subst hj
      exact ⟨A, hA, by rw [show 2 * i / 2 = i by omega]; exact ha⟩
    · have : j = 2 * i + 1 := by omega
      subst this
      rw [hl, show 2 * i + 1 - 2 * i = 1 by omega] at hj
      simp at hj; subst hj
      exact ⟨B, hB, by rw [show (2 * i + 1) / 2 = i by omega]; exact hb⟩
end Go.Sl
namespace Go.Sl
open Go
/-! ### one that has seen all: behind a history -/
theorem rowAcc_bit {rows : List Nat} {i : Nat} : ∀ (ks : List Nat) (a : Nat), (ks.foldl (fun r k => r ||| rows.getD k 0 ||| 2 ^ k) a).testBit i = true ↔ (a.testBit i = true ∨ ∃ k ∈ ks, ((rows.getD k 0).testBit i = true ∨ k = i))
  | [], a => by simp
  | k :: ks, a => by
    simp only [List.foldl_cons]
    rw [rowAcc_bit ks]
    simp only [Nat.testBit_or, Nat.testBit_two_pow, Bool.or_eq_true, decide_eq_true_eq, List.mem_cons, exists_eq_or_imp, or_assoc]
theorem sees_iff {L : List EntD} (h : OrdOk L) {i j : Nat} (hj : j < L.length) : seesN L i j = true ↔ ∃ k ∈ kidx L j, (seesN L i k = true ∨ k = i) := by
  have e : seesN L i j = (rowAcc (rowsN L j) (kidx L j)).testBit i := by
    unfold seesN
    rw [rowsN_get (j + 1) L.length j (by omega) hj, rowsN_at]
  rw [e]
  unfold rowAcc
  rw [rowAcc_bit]
  simp only [Nat.zero_testBit, Bool.false_eq_true, false_or]
  constructor
  · rintro ⟨k, hk, h1⟩
    refine ⟨k, hk, h1.imp_left fun h2 => ?_⟩
    unfold seesN
    rw [rowsN_get j L.length k (kidx_lt h hk) (by omega)]; exact h2
  · rintro ⟨k, hk, h1⟩
    refine ⟨k, hk, h1.imp_left fun h2 => ?_⟩
    unfold seesN at h2
    rw [rowsN_get j L.length k (kidx_lt h hk) (by omega)] at h2; exact h2
theorem sees_lt {L : List EntD} (h : OrdOk L) {i j : Nat} (hs : seesN L i j = true) : i < j ∧ j < L.length := by
  have hj : j < L.length := by
    refine Classical.byContradiction fun hc => ?_
    unfold seesN at hs
    rw [List.getD_eq_getElem?_getD, List.getElem?_eq_none (by rw [rowsN_len]; omega)] at hs
    simp at hs
  refine ⟨Classical.byContradiction fun hc => ?_, hj⟩
  have := Nat.testBit_lt_two_pow (Nat.lt_of_lt_of_le (rowsN_lt h L.length j hj) (Nat.pow_le_pow_right (by decide) (show j ≤ i by omega)))
  unfold seesN at hs
  rw [this] at hs; cases hs
theorem sees_trans {L : List EntD} (h : OrdOk L) : ∀ (k i j : Nat), seesN L i j = true → seesN L j k = true → seesN L i k = true := by
  intro k
  induction k using Nat.strongRecOn with
  | _ k ih =>
    intro i j h1 h2
    have hk := (sees_lt h h2).2
    obtain ⟨m, hm, h3⟩ := (sees_iff h hk).1 h2
    refine (sees_iff h hk).2 ⟨m, hm, .inl ?_⟩
    rcases h3 with h3 | rfl
    · exact ih m (kidx_lt h hm) i j h1 h3
    · exact h1
/-- seen by none -/
def topB (L : List EntD) (i : Nat) : Bool := (List.range L.length).all fun j => !seesN L i j
theorem topB_iff {L : List EntD} (h : OrdOk L) {i : Nat} : topB L i = true ↔ ∀ j, seesN L i j = false := by
  unfold topB
  simp only [List.all_eq_true, List.mem_range, Bool.not_eq_true']
  constructor
  · intro h1 j
    cases hs : seesN L i j with
    | false => rfl
    | true => rw [← hs]; exact h1 j (sees_lt h hs).2
  · intro h1 j _; exact h1 j
theorem under_top {L : List EntD} (h : OrdOk L) : ∀ (n i : Nat), L.length - i = n → i < L.length → ∃ k, k < L.length ∧ topB L k = true ∧ (k = i ∨ seesN L i k = true) := by
  intro n
  induction n using Nat.strongRecOn with
  | _ n ih =>
    intro i hn hi
    cases ht : topB L i with
    | true => exact ⟨i, hi, ht, .inl rfl⟩
    | false =>
      have : ∃ j, seesN L i j = true := by
        refine Classical.byContradiction fun hc => ?_
        have := (topB_iff h (i := i)).2 (fun j => by cases hs : seesN L i j with | false => rfl | true => exact absurd ⟨j, hs⟩ hc)
        rw [ht] at this; cases this
      obtain ⟨j, hj⟩ := this
      obtain ⟨h1, h2⟩ := sees_lt h hj
      obtain ⟨k, k1, k2, k3⟩ := ih (L.length - j) (by omega) j rfl h2
      refine ⟨k, k1, k2, .inr ?_⟩
      rcases k3 with rfl | k3
      · exact hj
      · exact sees_trans h k i j hj k3
/-- the heads, rising -/
def headsL (L : List EntD) : List Nat := ((rankL L 0 L.length).filter (topB L)).map (idAt L)
theorem mem_heads {L : List EntD} (p : Nat) : p ∈ headsL L ↔ ∃ k, k < L.length ∧ topB L k = true ∧ idAt L k = p := by
  unfold headsL
  simp only [List.mem_map, List.mem_filter, rankL_mem, Nat.zero_le, true_and, and_assoc]
/-- the clock of one behind all -/
def clB (L : List EntD) : Int := L.foldl (fun c e => if e.node.cl ≥ c then e.node.cl + 1 else c) 1
theorem clB_at : ∀ (L : List EntD) (c : Int), c ≤ L.foldl (fun c e => if e.node.cl ≥ c then e.node.cl + 1 else c) c ∧ (∀ e ∈ L, e.node.cl < L.foldl (fun c e => if e.node.cl ≥ c then e.node.cl + 1 else c) c) ∧ (L.foldl (fun c e => if e.node.cl ≥ c then e.node.cl + 1 else c) c = c ∨ ∃ e ∈ L, L.foldl (fun c e => if e.node.cl ≥ c then e.node.cl + 1 else c) c = e.node.cl + 1)
  | [], c => by simp
  | e :: L, c => by
    simp only [List.foldl_cons]
    obtain ⟨h1, h2, h3⟩ := clB_at L (if e.node.cl ≥ c then e.node.cl + 1 else c)
    by_cases hc : e.node.cl ≥ c
    · rw [if_pos hc] at h1 h2 h3 ⊢
      refine ⟨by omega, fun x hx => ?_, ?_⟩
      · rcases List.mem_cons.1 hx with rfl | hx
        · omega
        · exact h2 x hx
      · rcases h3 with h3 | ⟨x, hx, h3⟩
        · exact .inr ⟨e, by simp, h3⟩
        · exact .inr ⟨x, by simp [hx], h3⟩
    · rw [if_neg hc] at h1 h2 h3 ⊢
      refine ⟨by omega, fun x hx => ?_, ?_⟩
      · rcases List.mem_cons.1 hx with rfl | hx
        · omega
        · exact h2 x hx
      · rcases h3 with h3 | ⟨x, hx, h3⟩
        · exact .inl h3
        · exact .inr ⟨x, by simp [hx], h3⟩
/-- the entry behind all -/
def behindE (L : List EntD) (id : Nat) (ops : List OpD) : EntD := ⟨id, ⟨1, clB L, headsL L, ops⟩⟩
/-! ### the same entries -/
theorem mem_ordOf {l : List EntD} (hg : GoodE l) {i : Nat} : i ∈ ordOf l ↔ i < l.length := by
  refine ⟨fun h => (ordN_ok (l := l) l.length).2 i h, fun hi => Classical.byContradiction fun hc => ?_⟩
  have hok := ordN_ok (l := l) l.length
  have hl : (ordOf l).length = l.length := ordN_len hg l.length (Nat.le_refl _)
  have := List.Nodup.length_le_of_subset (l₁ := i :: ordOf l) (l₂ := List.range l.length) (List.nodup_cons.2 ⟨hc, hok.1⟩) (fun x hx => by
    rw [List.mem_range]
    rcases List.mem_cons.1 hx with rfl | hx
    · exact hi
    · exact hok.2 x hx)
  rw [List.length_cons, List.length_range] at this
  omega
theorem mem_ordE {l : List EntD} (hg : GoodE l) {e : EntD} : e ∈ ordE l ↔ e ∈ l := by
  constructor
  · intro he
    obtain ⟨i, _, hi⟩ := List.mem_filterMap.1 he
    exact List.mem_of_getElem? hi
  · intro he
    obtain ⟨k, hk⟩ := List.getElem?_of_mem he
    exact List.mem_filterMap.2 ⟨k, (mem_ordOf hg).2 (List.getElem?_eq_some_iff.1 hk).1, hk⟩
theorem idxOf_app {l : List EntD} {p k : Nat} (x : EntD) (h : idxOf l p = some k) : idxOf (l ++ [x]) p = some k := by
  induction l generalizing k with
  | nil => simp [idxOf] at h
  | cons e l ih =>
    rw [List.cons_append, idxOf_cons]
    rw [idxOf_cons] at h
    split at h
    · rename_i he; rw [if_pos he]; exact h
    · rename_i he
      rw [if_neg he]
      cases h2 : idxOf l p with
      | none => rw [h2] at h; cases h
      | some j => rw [ih h2]; rw [h2] at h; exact h
theorem idxOf_lt {l : List EntD} {p k : Nat} (h : idxOf l p = some k) : k < l.length := by
  obtain ⟨e, he, _⟩ := idxOf_some h
  exact (List.getElem?_eq_some_iff.1 he).1
theorem clAt_app {l : List EntD} {p k : Nat} (x : EntD) (h : idxOf l p = some k) : clAt (l ++ [x]) p = clAt l p := by
  unfold clAt
  rw [idxOf_app x h, h]
  simp only [Option.bind_some]
  rw [List.getElem?_append_left (idxOf_lt h)]
theorem mcl_app {l : List EntD} (x : EntD) {ps : List Nat} (h : ∀ p ∈ ps, ∃ k, idxOf l p = some k) : mcl (l ++ [x]) ps = mcl l ps := by
  unfold mcl
  have : ∀ (ps : List Nat) (m : Int), (∀ p ∈ ps, ∃ k, idxOf l p = some k) → ps.foldl (fun m p => max m (clAt (l ++ [x]) p)) m = ps.foldl (fun m p => max m (clAt l p)) m := by
    intro ps
    induction ps with
    | nil => intro m _; rfl
    | cons p ps ih =>
      intro m hp
      obtain ⟨k, hk⟩ := hp p (by simp)
      simp only [List.foldl_cons]
      rw [clAt_app x hk]
      exact ih _ (fun q hq => hp q (by simp [hq]))
  exact this ps 0 h
theorem mcl_le {l : List EntD} {ps : List Nat} {m : Int} (h0 : 0 ≤ m) (h : ∀ p ∈ ps, clAt l p ≤ m) : mcl l ps ≤ m := by
  unfold mcl
  have : ∀ (ps : List Nat) (a : Int), a ≤ m → (∀ p ∈ ps, clAt l p ≤ m) → ps.foldl (fun m p => max m (clAt l p)) a ≤ m := by
    intro ps
    induction ps with
    | nil => intro a ha _; exact ha
    | cons p ps ih =>
      intro a ha hp
      simp only [List.foldl_cons]
      exact ih _ (by have := hp p (by simp); omega) (fun q hq => hp q (by simp [hq]))
  exact this ps 0 h0 h
theorem le_mcl {l : List EntD} {ps : List Nat} {p : Nat} (h : p ∈ ps) : clAt l p ≤ mcl l ps := (foldl_max_le (f := clAt l) ps 0).2 p h
theorem right_of {l : List EntD} (hm : l.length ≤ 4096) (hn : ∀ e ∈ l, nodeErr e.node = 0) (hd : (l.map (·.id)).Nodup) (hp : ∀ e ∈ l, parErr l e = 0) : rightErr l = (0, 0) := by
  have h2 : ∀ (n i : Nat), l.length - i = n → err2 l i = (0, 0) := by
    intro n
    induction n with
    | zero => intro i hi; exact err2_end (by omega)
    | succ n ih =>
      intro i hi
      have he : l[i]? = some l[i] := List.getElem?_eq_getElem (by omega)
      rw [err2_at he, if_neg (by rw [hp _ (List.mem_of_getElem? he)]; simp)]
      exact ih (i + 1) (by omega)
  have h1 : ∀ (n i : Nat), l.length - i = n → err1 l i = (0, 0) := by
    intro n
    induction n with
    | zero => intro i hi; rw [err1_end (by omega)]; exact h2 _ 0 rfl
    | succ n ih =>
      intro i hi
      have he : l[i]? = some l[i] := List.getElem?_eq_getElem (by omega)
      have hno : idxOf (l.take i) (l[i]'(by omega)).id = none := by
        rw [idxOf_none]
        intro e hem heq
        obtain ⟨j, hj⟩ := List.getElem?_of_mem hem
        have hji : j < i := by have := (List.getElem?_eq_some_iff.1 hj).1; rw [List.length_take] at this; omega
        rw [List.getElem?_take_of_lt hji] at hj
        have a := idxOf_of hd hj
        have b := idxOf_of hd he
        rw [heq, b] at a
        cases a; omega
      rw [err1_at he, if_neg (by omega), if_neg (by rw [hn _ (List.mem_of_getElem? he)]; simp), if_neg (by rw [hno]; simp)]
      exact ih (i + 1) (by omega)
  exact h1 _ 0 rfl
end Go.Sl
namespace Go.Sl
open Go
/-! ### heads, as they are found -/
def orRow (L : List EntD) (i : Nat) : Nat := (rowsN L i).foldl (fun r x => r ||| x) 0
theorem orRow_zero (L : List EntD) : orRow L 0 = 0 := rfl
theorem orRow_succ {L : List EntD} {i : Nat} (hi : i < L.length) : orRow L i ||| (rowsN L L.length).getD i 0 = orRow L (i + 1) := by
  unfold orRow
  rw [rowsN_get (i + 1) L.length i (by omega) hi, rowsN_at]
  simp only [rowsN, List.foldl_append, List.foldl_cons, List.foldl_nil]
theorem or_bit : ∀ (l : List Nat) (a i : Nat), (l.foldl (fun r x => r ||| x) a).testBit i = true ↔ (a.testBit i = true ∨ ∃ x ∈ l, x.testBit i = true)
  | [], a, i => by simp
  | x :: l, a, i => by
    rw [List.foldl_cons, or_bit l]
    simp only [Nat.testBit_or, Bool.or_eq_true, List.mem_cons, exists_eq_or_imp, or_assoc]
theorem orRow_bit {L : List EntD} {i : Nat} : (orRow L L.length).testBit i = true ↔ ∃ j, seesN L i j = true := by
  unfold orRow
  rw [or_bit]
  simp only [Nat.zero_testBit, Bool.false_eq_true, false_or]
  constructor
  · rintro ⟨x, hx, h1⟩
    obtain ⟨j, hj⟩ := List.getElem?_of_mem hx
    exact ⟨j, by unfold seesN; rw [List.getD_eq_getElem?_getD, hj]; exact h1⟩
  · rintro ⟨j, hj⟩
    unfold seesN at hj
    rw [List.getD_eq_getElem?_getD] at hj
    cases hx : (rowsN L L.length)[j]? with
    | none => rw [hx] at hj; simp at hj
    | some x => rw [hx] at hj; exact ⟨x, List.mem_of_getElem? hx, hj⟩
theorem orRow_ask {L : List EntD} (h : OrdOk L) {k : Nat} : (wordN (orRow L L.length) (k / 64) / 2 ^ (k % 64)) &&& 1 = 0 ↔ topB L k = true := by
  have h1 := wordN_ask (orRow L L.length) k
  rw [Nat.shiftRight_eq_div_pow] at h1
  rw [topB_iff h]
  have h2 : (wordN (orRow L L.length) (k / 64) / 2 ^ (k % 64)) &&& 1 = 0 ↔ ¬ (orRow L L.length).testBit k = true := by
    rw [← h1, Nat.and_one_is_mod]
    omega
  rw [h2, orRow_bit]
  constructor
  · intro h3 j
    cases hs : seesN L k j with
    | false => rfl
    | true => exact absurd ⟨j, hs⟩ h3
  · rintro h3 ⟨j, hj⟩
    rw [h3 j] at hj; cases hj
def hUp (L : List EntD) (s : Nat) : List Nat := (((rankL L 0 L.length).take s).filter (topB L)).map (idAt L)
theorem hUp_zero (L : List EntD) : hUp L 0 = [] := by simp [hUp]
theorem hUp_step {L : List EntD} {s k : Nat} (h : (rankL L 0 L.length)[s]? = some k) : hUp L (s + 1) = hUp L s ++ (if topB L k = true then [idAt L k] else []) := by
  unfold hUp
  rw [List.take_add_one, h, Option.toList_some, List.filter_append, List.map_append]
  cases ht : topB L k
  · simp [ht]
  · simp [ht]
theorem hUp_len (L : List EntD) (s : Nat) : (hUp L s).length ≤ L.length := by
  unfold hUp
  rw [List.length_map]
  refine Nat.le_trans (List.length_filter_le _ _) ?_
  rw [List.length_take, rankL_len]
  omega
theorem hUp_all {L : List EntD} {s : Nat} (h : (rankL L 0 L.length).length ≤ s) : hUp L s = headsL L := by
  unfold hUp headsL; rw [List.take_of_length_le h]
theorem heads_len (L : List EntD) : (headsL L).length ≤ L.length := by rw [← hUp_all (Nat.le_refl _)]; exact hUp_len L _
/-- the clock, entry by entry -/
def clUp (L : List EntD) (i : Nat) : Int := clB (L.take i)
theorem clUp_zero (L : List EntD) : clUp L 0 = 1 := by simp [clUp, clB]
theorem clUp_step {L : List EntD} {i : Nat} {e : EntD} (h : L[i]? = some e) : clUp L (i + 1) = if e.node.cl ≥ clUp L i then e.node.cl + 1 else clUp L i := by
  unfold clUp clB
  rw [List.take_add_one, h, Option.toList_some, List.foldl_append]; rfl
theorem clUp_all {L : List EntD} {i : Nat} (h : L.length ≤ i) : clUp L i = clB L := by unfold clUp; rw [List.take_of_length_le h]
theorem clUp_i64 {L : List EntD} (ho : OrdOk L) (i : Nat) : 1 ≤ clUp L i ∧ clUp L i ≤ 4097 := by
  obtain ⟨h1, _, h3⟩ := clB_at (L.take i) 1
  refine ⟨h1, ?_⟩
  unfold clUp clB
  rcases h3 with h3 | ⟨e, he, h3⟩
  · omega
  · have := (nodeErr_zero (ho.node e (List.mem_of_mem_take he))).2.1
    omega
/-- may it stand behind? -/
def mayB (L : List EntD) (id : Nat) (ops : List OpD) : Prop := (L.length < 4096 ∧ numV (idxOf L id) < 0) ∧ nodeErr (behindE L id ops).node = 0
instance (L : List EntD) (id : Nat) (ops : List OpD) : Decidable (mayB L id ops) := by unfold mayB; exact inferInstance
theorem numV_none {o : Option Nat} : numV o < 0 ↔ o = none := by
  cases o with
  | none => simp [numV]
  | some k => simp [numV]
end Go.Sl
namespace Go.Sl
open Go
/-! ### counters: sums of all that was added -/
abbrev zeroOn (key : ByteArray) (o : OpD) : Prop := o.key = key ∧ o.kind = 7
def addN (key : ByteArray) (a : Int) (o : OpD) : Int := if o.key = key ∧ o.kind = 6 then IntKind.u64.wrap (a + IntKind.u64.wrap o.n) else a
def sumOps (key : ByteArray) (ops : List OpD) (a : Int) : Int := ops.foldl (addN key) a
theorem sumOps_snoc (key : ByteArray) (ops : List OpD) (o : OpD) (a : Int) : sumOps key (ops ++ [o]) a = addN key (sumOps key ops a) o := by
  unfold sumOps; rw [List.foldl_append]; rfl
def opsTo (l : List EntD) (i : Nat) : List OpD := (l.take i).flatMap (·.node.ops)
theorem opsTo_zero (l : List EntD) : opsTo l 0 = [] := by simp [opsTo]
theorem opsTo_step {l : List EntD} {i : Nat} {e : EntD} (h : l[i]? = some e) : opsTo l (i + 1) = opsTo l i ++ e.node.ops := by
  unfold opsTo; rw [List.take_add_one, h]; simp [List.flatMap_append]
theorem take_snoc {α : Type} {p l : List α} {q : Nat} {o : α} (h : l[q]? = some o) : p ++ l.take (q + 1) = (p ++ l.take q) ++ [o] := by
  rw [List.take_add_one, h, Option.toList_some, List.append_assoc]
theorem any_snoc {α : Type} {Z : α → Prop} {zp : Prop} {p : List α} {o : α} (h : zp ↔ ∃ x ∈ p, Z x) : (zp ∨ Z o) ↔ ∃ x ∈ p ++ [o], Z x := by
  rw [h]
  simp only [List.mem_append, List.mem_singleton]
  constructor
  · rintro (⟨x, hx, hz⟩ | hz)
    · exact ⟨x, .inl hx, hz⟩
    · exact ⟨o, .inr rfl, hz⟩
  · rintro ⟨x, hx | rfl, hz⟩
    · exact .inl ⟨x, hx, hz⟩
    · exact .inr hz
end Go.Sl
namespace Go.Sl
open Go
def ClUp (L : List EntD) : Prop := ∀ e ∈ L, ∀ p ∈ e.node.ps, ∃ k e2, idxOf L p = some k ∧ L[k]? = some e2 ∧ e2.node.cl < e.node.cl
theorem clUp_ordE {l : List EntD} (hg : GoodE l) : ClUp (ordE l) := by
  intro e he p hp
  obtain ⟨k, e2, h1, h2, h3⟩ := hg.par e ((mem_ordE hg).1 he) p hp
  obtain ⟨e3, h4, h5⟩ := idxOf_some h1
  rw [h2] at h4; cases h4
  obtain ⟨k', hk'⟩ := List.getElem?_of_mem ((mem_ordE hg).2 (List.mem_of_getElem? h2))
  exact ⟨k', e2, by rw [← h5]; exact idxOf_of (ordE_ok hg).nodup hk', hk', h3⟩
theorem sees_cl {L : List EntD} (h : OrdOk L) (hc : ClUp L) : ∀ (j i : Nat) (ei ej : EntD), seesN L i j = true → L[i]? = some ei → L[j]? = some ej → ei.node.cl < ej.node.cl := by
  intro j
  induction j using Nat.strongRecOn with
  | _ j ih =>
    intro i ei ej hs hi hj
    obtain ⟨k, hk, h1⟩ := (sees_iff h (sees_lt h hs).2).1 hs
    have hkj := kidx_lt h hk
    unfold kidx at hk
    rw [parsAt_of hj] at hk
    obtain ⟨p, hp, hpk⟩ := List.mem_filterMap.1 hk
    obtain ⟨k', e2, a1, a2, a3⟩ := hc ej (List.mem_of_getElem? hj) p hp
    rw [hpk] at a1; cases a1
    rcases h1 with h1 | rfl
    · have := ih k hkj i ei e2 h1 hi a2; omega
    · rw [hi] at a2; cases a2; exact a3
theorem head_at {l : List EntD} (hg : GoodE l) {p : Nat} (hp : p ∈ headsL (ordE l)) : ∃ (k : Nat) (e : EntD), (ordE l)[k]? = some e ∧ e.id = p ∧ e ∈ l ∧ ∃ i : Nat, idxOf l p = some i ∧ l[i]? = some e := by
  obtain ⟨k, h1, _, h3⟩ := (mem_heads p).1 hp
  have hk : (ordE l)[k]? = some (ordE l)[k] := List.getElem?_eq_getElem h1
  rw [idAt_of hk] at h3
  have hm := (mem_ordE hg).1 (List.mem_of_getElem? hk)
  obtain ⟨i, hi⟩ := List.getElem?_of_mem hm
  exact ⟨k, _, hk, h3, hm, i, by rw [← h3]; exact idxOf_of hg.nodup hi, hi⟩
theorem behind_cl {l : List EntD} (hg : GoodE l) : clB (ordE l) = mcl l (headsL (ordE l)) + 1 := by
  obtain ⟨h1, h2, h3⟩ := clB_at (ordE l) 1
  have a : mcl l (headsL (ordE l)) ≤ clB (ordE l) - 1 := by
    refine mcl_le (by unfold clB; omega) fun p hp => ?_
    obtain ⟨k, e, hk, _, hm, i, hi, hie⟩ := head_at hg hp
    have := h2 e (List.mem_of_getElem? hk)
    unfold clAt
    rw [hi]
    simp only [Option.bind_some, hie]
    unfold clB; omega
  have b : clB (ordE l) - 1 ≤ mcl l (headsL (ordE l)) := by
    rcases h3 with h3 | ⟨e, he, h3⟩
    · have := (foldl_max_le (f := clAt l) (headsL (ordE l)) 0).1
      unfold clB mcl; omega
    · obtain ⟨k, hk⟩ := List.getElem?_of_mem he
      have ht : topB (ordE l) k = true := (topB_iff (ordE_ok hg)).2 fun j => by
        cases hs : seesN (ordE l) k j with
        | false => rfl
        | true =>
          have hj := (sees_lt (ordE_ok hg) hs).2
          have := sees_cl (ordE_ok hg) (clUp_ordE hg) j k e _ hs hk (List.getElem?_eq_getElem hj)
          have := h2 _ (List.getElem_mem hj)
          omega
      have hp : e.id ∈ headsL (ordE l) := (mem_heads _).2 ⟨k, (List.getElem?_eq_some_iff.1 hk).1, ht, idAt_of hk⟩
      obtain ⟨i, hi⟩ := List.getElem?_of_mem ((mem_ordE hg).1 he)
      have h4 := le_mcl (l := l) hp
      unfold clAt at h4
      rw [idxOf_of hg.nodup hi] at h4
      simp only [Option.bind_some, hi] at h4
      unfold clB; omega
  omega
theorem par_zero {l : List EntD} (h : (rightErr l).1 = 0) : ∀ e ∈ l, parErr l e = 0 := by
  obtain ⟨_, h2⟩ := err1_zero _ 0 rfl (Nat.zero_le _) h (Fine1.zero l)
  intro e he
  obtain ⟨k, hk⟩ := List.getElem?_of_mem he
  exact err2_zero _ 0 rfl h2 k e (Nat.zero_le _) hk
/-- it may stand behind -/
theorem behind_right {l : List EntD} (h0 : (rightErr l).1 = 0) {id : Nat} {ops : List OpD} (hid : ∀ e ∈ l, e.id ≠ id) (hlen : l.length < 4096) (hx : nodeErr (behindE (ordE l) id ops).node = 0) :
    (rightErr (l ++ [behindE (ordE l) id ops])).1 = 0 := by
  have hg := good_of_right h0
  have hp0 := par_zero h0
  rw [right_of]
  · rw [List.length_append]; simp only [List.length_cons, List.length_nil]; omega
  · intro e he
    rcases List.mem_append.1 he with he | he
    · exact hg.node e he
    · simp at he; subst he; exact hx
  · rw [List.map_append, List.nodup_append]
    refine ⟨hg.nodup, by simp, ?_⟩
    intro a ha b hb hab
    simp at hb; subst hb; subst hab
    obtain ⟨e, he, h1⟩ := List.mem_map.1 ha
    exact hid e he h1
  · intro e he
    rcases List.mem_append.1 he with he | he
    · have h1 := hp0 e he
      have hall : ∀ p ∈ e.node.ps, ∃ k, idxOf l p = some k := fun p hp => by obtain ⟨k, _, h2, _⟩ := hg.par e he p hp; exact ⟨k, h2⟩
      unfold parErr at h1 ⊢
      rw [if_neg (by rintro ⟨p, hp, h2⟩; obtain ⟨k, h3⟩ := hall p hp; rw [idxOf_app _ h3] at h2; cases h2), mcl_app _ hall]
      rw [if_neg (by rintro ⟨p, hp, h2⟩; obtain ⟨k, h3⟩ := hall p hp; rw [h3] at h2; cases h2)] at h1
      exact h1
    · simp at he; subst he
      have hall : ∀ p ∈ headsL (ordE l), ∃ k, idxOf l p = some k := fun p hp => by obtain ⟨_, _, _, _, _, i, h2, _⟩ := head_at hg hp; exact ⟨i, h2⟩
      unfold parErr
      rw [if_neg (by rintro ⟨p, hp, h2⟩; obtain ⟨k, h3⟩ := hall p hp; rw [idxOf_app _ h3] at h2; cases h2)]
      rw [show (behindE (ordE l) id ops).node.ps = headsL (ordE l) from rfl, mcl_app _ hall, show (behindE (ordE l) id ops).node.cl = clB (ordE l) from rfl, behind_cl hg]
      simp
/-! ### it stands last -/
theorem idAt_app {l : List EntD} {x : EntD} {j : Nat} (h : j < l.length) : idAt (l ++ [x]) j = idAt l j := by
  rw [idAt_of (List.getElem?_eq_getElem h)]
  exact idAt_of (by rw [List.getElem?_append_left h]; exact List.getElem?_eq_getElem h)
theorem parsAt_app {l : List EntD} {x : EntD} {j : Nat} (h : j < l.length) : parsAt (l ++ [x]) j = parsAt l j := by
  rw [parsAt_of (List.getElem?_eq_getElem h)]
  exact parsAt_of (by rw [List.getElem?_append_left h]; exact List.getElem?_eq_getElem h)
theorem parsAt_last {l : List EntD} {x : EntD} : parsAt (l ++ [x]) l.length = x.node.ps := parsAt_of (by simp)
theorem inOut_app {l : List EntD} {x : EntD} {out : List Nat} {p k : Nat} (h : idxOf l p = some k) : inOut (l ++ [x]) out p = inOut l out p := by
  unfold inOut; rw [idxOf_app x h, h]
theorem ready_app {l : List EntD} (hg : GoodE l) {x : EntD} {out : List Nat} {j : Nat} (hj : j < l.length) : readyB (l ++ [x]) out j = true ↔ readyB l out j = true := by
  have hall : ∀ p ∈ parsAt l j, ∃ k, idxOf l p = some k := by
    intro p hp
    rw [parsAt_of (List.getElem?_eq_getElem hj)] at hp
    obtain ⟨k, _, h, _⟩ := hg.par _ (List.getElem_mem hj) p hp
    exact ⟨k, h⟩
  rw [readyB_iff, readyB_iff, lackN_zero, lackN_zero, parsAt_app hj, List.length_append]
  have e : (∀ p ∈ parsAt l j, inOut (l ++ [x]) out p = true) ↔ ∀ p ∈ parsAt l j, inOut l out p = true := by
    constructor
    · intro h p hp; obtain ⟨k, hk⟩ := hall p hp; rw [← inOut_app hk]; exact h p hp
    · intro h p hp; obtain ⟨k, hk⟩ := hall p hp; rw [inOut_app hk]; exact h p hp
  rw [e]
  exact ⟨fun h => ⟨hj, h.2⟩, fun h => ⟨Nat.lt_of_lt_of_le hj (Nat.le_add_right _ _), h.2⟩⟩
theorem last_top {L : List EntD} (h : OrdOk L) (hl : 0 < L.length) : topB L (L.length - 1) = true := (topB_iff h).2 fun j => by
  cases hs : seesN L (L.length - 1) j with
  | false => rfl
  | true => have := sees_lt h hs; omega
theorem ordN_app {l : List EntD} (hg : GoodE l) {x : EntD} (hg2 : GoodE (l ++ [x])) (hx : x.node.ps = headsL (ordE l)) : ∀ n, n ≤ l.length → ordN (l ++ [x]) n = ordN l n := by
  intro n
  induction n with
  | zero => intro _; rfl
  | succ n ih =>
    intro hn
    have ih := ih (by omega)
    obtain ⟨i0, hi0⟩ := next_ex hg (show n < l.length by omega)
    obtain ⟨h1, h2⟩ := nextR_some hi0
    have hi0l := (readyB_iff.1 h1).1
    have hne : ∀ j, readyB (l ++ [x]) (ordN l n) j = true → j < l.length := by
      intro j hj
      have hj1 := (readyB_iff.1 hj).1
      rw [List.length_append] at hj1
      simp only [List.length_cons, List.length_nil] at hj1
      refine Classical.byContradiction fun hc => ?_
      have : j = l.length := by omega
      subst this
      have hlk := lackN_zero.1 (readyB_iff.1 hj).2.2
      rw [parsAt_last, hx] at hlk
      have hL := ordE_len hg
      have hlp : 0 < (ordE l).length := by omega
      have hk : (ordE l)[l.length - 1]? = some ((ordE l)[l.length - 1]'(by omega)) := List.getElem?_eq_getElem (by omega)
      have hp : ((ordE l)[l.length - 1]'(by omega)).id ∈ headsL (ordE l) := (mem_heads _).2 ⟨l.length - 1, by omega, by have := last_top (ordE_ok hg) hlp; rw [hL] at this; exact this, idAt_of hk⟩
      have hin := hlk _ hp
      obtain ⟨k, e, a1, a2, a3, i, a4, a5⟩ := head_at hg hp
      unfold inOut at hin
      rw [idxOf_app x a4] at hin
      have hmem : i ∈ ordN l n := by simpa using hin
      obtain ⟨q, hq⟩ := List.getElem?_of_mem hmem
      have hqn : q < n := by have := (List.getElem?_eq_some_iff.1 hq).1; rw [ordN_len hg n (by omega)] at this; exact this
      have hq2 : (ordOf l)[q]? = some i := by unfold ordOf; rw [ordN_prefix hg l.length n q (by omega) (Nat.le_refl _) hqn]; exact hq
      have hqe : (ordE l)[q]? = some e := by rw [ordE_get, hq2]; exact a5
      have e1 := idxOf_of (ordE_ok hg).nodup hqe
      have e2 := idxOf_of (ordE_ok hg).nodup hk
      rw [a2] at e1
      rw [e1] at e2
      cases e2; omega
    have hnx : nextR (l ++ [x]) (ordN l n) = some i0 := by
      refine nextR_of hg2.nodup ((ready_app hg hi0l).2 h1) fun j hj => ?_
      have hjl := hne j hj
      rw [idAt_app hi0l, idAt_app hjl]
      exact h2 j ((ready_app hg hjl).1 hj)
    have hnx' : nextR (l ++ [x]) (ordN (l ++ [x]) n) = some i0 := by rw [ih]; exact hnx
    rw [ordN_succ hnx', ordN_succ hi0, ih]
theorem behind_ord {l : List EntD} (hg : GoodE l) {x : EntD} (hg2 : GoodE (l ++ [x])) (hx : x.node.ps = headsL (ordE l)) : ordE (l ++ [x]) = ordE l ++ [x] := by
  have h0 := ordN_app hg hg2 hx l.length (Nat.le_refl _)
  have hok := ordN_ok (l := l) l.length
  have hnx : nextR (l ++ [x]) (ordN l l.length) = some l.length := by
    refine nextR_of hg2.nodup (readyB_iff.2 ⟨by simp, fun h => Nat.lt_irrefl _ (hok.2 _ h), lackN_zero.2 fun p hp => ?_⟩) fun j hj => ?_
    · rw [parsAt_last, hx] at hp
      obtain ⟨k, e, _, _, _, i, a4, a5⟩ := head_at hg hp
      unfold inOut
      rw [idxOf_app x a4]
      have := (mem_ordOf hg).2 (idxOf_lt a4)
      unfold ordOf at this
      simpa using this
    · have h1 := readyB_iff.1 hj
      have hj1 := h1.1
      rw [List.length_append] at hj1
      simp only [List.length_cons, List.length_nil] at hj1
      have : j = l.length := by
        refine Classical.byContradiction fun hc => ?_
        exact h1.2.1 ((mem_ordOf hg).2 (by omega))
      subst this; exact Nat.le_refl _
  have hnx' : nextR (l ++ [x]) (ordN (l ++ [x]) l.length) = some l.length := by rw [h0]; exact hnx
  have ho : ordOf (l ++ [x]) = ordOf l ++ [l.length] := by
    unfold ordOf
    rw [List.length_append, show l.length + [x].length = l.length + 1 from rfl, ordN_succ hnx', h0]
  unfold ordE
  rw [ho, List.filterMap_append]
  congr 1
  · have : ∀ (is : List Nat), (∀ i ∈ is, i < l.length) → is.filterMap ((l ++ [x])[·]?) = is.filterMap (l[·]?) := by
      intro is
      induction is with
      | nil => intro _; rfl
      | cons i is ih =>
        intro hi
        rw [List.filterMap_cons, List.filterMap_cons, List.getElem?_append_left (hi i (by simp)), ih (fun k hk => hi k (by simp [hk]))]
    exact this _ hok.2
  · simp
/-! ### whom it has seen -/
theorem kidx_app {L : List EntD} (h : OrdOk L) {x : EntD} {j : Nat} (hj : j < L.length) : kidx (L ++ [x]) j = kidx L j := by
  unfold kidx
  rw [parsAt_app hj]
  have hall : ∀ p ∈ parsAt L j, ∃ k, idxOf L p = some k := by
    intro p hp
    have he : L[j]? = some L[j] := List.getElem?_eq_getElem hj
    rw [parsAt_of he] at hp
    obtain ⟨k, _, h2⟩ := h.par j _ he p hp
    exact ⟨k, h2⟩
  revert hall
  generalize parsAt L j = ps
  induction ps with
  | nil => intro _; rfl
  | cons p ps ih =>
    intro hall
    obtain ⟨k, hk⟩ := hall p (by simp)
    rw [List.filterMap_cons, List.filterMap_cons, idxOf_app x hk, hk, ih (fun q hq => hall q (by simp [hq]))]
theorem rowsN_app {L : List EntD} (h : OrdOk L) {x : EntD} : ∀ n, n ≤ L.length → rowsN (L ++ [x]) n = rowsN L n
  | 0, _ => rfl
  | n + 1, hn => by
    simp only [rowsN]
    rw [rowsN_app h n (by omega), kidx_app h (by omega)]
theorem sees_app {L : List EntD} (h : OrdOk L) {x : EntD} {i j : Nat} (hj : j < L.length) : seesN (L ++ [x]) i j = seesN L i j := by
  unfold seesN
  rw [rowsN_get (L := L ++ [x]) L.length (L ++ [x]).length j hj (by rw [List.length_append]; omega), rowsN_app h _ (Nat.le_refl _)]
theorem sees_last {L : List EntD} (h : OrdOk L) {x : EntD} (h2 : OrdOk (L ++ [x])) (hx : x.node.ps = headsL L) {i : Nat} (hi : i < L.length) : seesN (L ++ [x]) i L.length = true := by
  obtain ⟨k, k1, k2, k3⟩ := under_top h _ i rfl hi
  refine (sees_iff h2 (by simp)).2 ⟨k, ?_, ?_⟩
  · unfold kidx
    rw [parsAt_last, hx]
    have hk : L[k]? = some L[k] := List.getElem?_eq_getElem k1
    exact List.mem_filterMap.2 ⟨idAt L k, (mem_heads _).2 ⟨k, k1, k2, rfl⟩, by rw [idAt_of hk]; exact idxOf_app x (idxOf_of h.nodup hk)⟩
  · rcases k3 with rfl | k3
    · exact .inr rfl
    · exact .inl (by rw [sees_app h k1]; exact k3)
end Go.Sl
namespace Go.Sl
open Go
/-! ### what a register holds behind an entry that has seen all -/
/-- an operation of one who has seen all -/
def putOn (key : ByteArray) (want : List ByteArray) (o : OpD) : List ByteArray :=
  if o.key = key ∧ o.kind = 1 then [o.text] else if o.key = key ∧ o.kind = 2 then [] else want
def followS (key : ByteArray) (ops : List OpD) (want : List ByteArray) : List ByteArray := ops.foldl (putOn key) want
theorem heldS_snoc (L : List EntD) (x : Nat × OpD) : ∀ (S : List (Nat × OpD)), (∀ q ∈ S, q.1 = x.1 ∨ seesN L q.1 x.1 = true) → heldS L (S ++ [x]) = if x.2.kind = 1 then [x.2.text] else []
  | [], _ => by simp [heldS, overB]
  | y :: S, h => by
    rw [List.cons_append, heldS, heldS_snoc L x S (fun q hq => h q (by simp [hq]))]
    have : overB L y.1 (S ++ [x]) = true := by
      unfold overB
      rw [List.any_append]
      have hy := h y (by simp)
      rcases hy with hy | hy
      · simp [hy]
      · simp [hy]
    rw [if_neg (by rw [this]; simp)]; rfl
theorem heldS_app {L : List EntD} (h : OrdOk L) (x : EntD) : ∀ (S : List (Nat × OpD)), (∀ q ∈ S, q.1 < L.length) → heldS (L ++ [x]) S = heldS L S
  | [], _ => rfl
  | y :: S, hS => by
    rw [heldS, heldS, heldS_app h x S (fun q hq => hS q (by simp [hq]))]
    have : overB (L ++ [x]) y.1 S = overB L y.1 S := by
      have hS' : ∀ q ∈ S, q.1 < L.length := fun q hq => hS q (by simp [hq])
      unfold overB
      clear hS
      induction S with
      | nil => rfl
      | cons q S ih =>
        rw [List.any_cons, List.any_cons, ih (fun r hr => hS' r (by simp [hr])), sees_app h (hS' q (by simp))]
    rw [this]
theorem opsAt_app {L : List EntD} {x : EntD} {i : Nat} (hi : i < L.length) : opsAt (L ++ [x]) i = opsAt L i := by
  unfold opsAt; rw [List.getElem?_append_left hi]
theorem opsN_app {L : List EntD} {x : EntD} (p : OpD → Bool) : ∀ n, n ≤ L.length → opsN (L ++ [x]) p n = opsN L p n
  | 0, _ => rfl
  | n + 1, hn => by rw [opsN_succ, opsN_succ, opsN_app p n (by omega), opsAt_app (by omega)]
theorem keyOps_app {L : List EntD} {x : EntD} (p : OpD → Bool) (key : ByteArray) : keyOps (L ++ [x]) p key = keyOps L p key ++ (pickOps L.length p x.node.ops).filter (onKey key) := by
  unfold keyOps
  rw [List.length_append, show L.length + [x].length = L.length + 1 from rfl, opsN_succ, opsN_app p _ (Nat.le_refl _), List.filter_append]
  congr 3
  exact opsAt_of (by simp)
theorem keyOps_lt {L : List EntD} {p : OpD → Bool} {key : ByteArray} {q : Nat × OpD} (h : q ∈ keyOps L p key) : q.1 < L.length := (opsN_fst (List.mem_filter.1 h).1).1
theorem follow_reg {L : List EntD} (h : OrdOk L) {x : EntD} (h2 : OrdOk (L ++ [x])) (hx : x.node.ps = headsL L) (key : ByteArray) :
    ∀ (ops : List OpD), heldS (L ++ [x]) (keyOps L isReg key ++ (pickOps L.length isReg ops).filter (onKey key)) = followS key ops (regHeld L key) := by
  intro ops0
  refine snoc_ind (p := fun ops => heldS (L ++ [x]) (keyOps L isReg key ++ (pickOps L.length isReg ops).filter (onKey key)) = followS key ops (regHeld L key)) ?_ ?_ ops0
  · rw [show (pickOps L.length isReg []).filter (onKey key) = [] from rfl, List.append_nil]
    exact heldS_app h x _ (fun q hq => keyOps_lt hq)
  · intro ops o ih
    have hpk : pickOps L.length isReg (ops ++ [o]) = pickOps L.length isReg ops ++ (if isReg o then [(L.length, o)] else []) := by
      unfold pickOps
      rw [List.filter_append, List.map_append]
      by_cases ho : isReg o = true
      · simp [ho]
      · simp [ho]
    have hf : followS key (ops ++ [o]) (regHeld L key) = putOn key (followS key ops (regHeld L key)) o := by unfold followS; rw [List.foldl_append]; rfl
    rw [hf, hpk, List.filter_append, ← List.append_assoc]
    unfold putOn
    by_cases hk : o.key = key
    · by_cases hr : isReg o = true
      · rw [if_pos hr]
        have e1 : [(L.length, o)].filter (onKey key) = [(L.length, o)] := by simp [onKey, hk]
        rw [e1, heldS_snoc]
        · have hr2 : o.kind = 1 ∨ o.kind = 2 := by simpa [isReg] using hr
          simp only [hk, true_and]
          rcases hr2 with hr2 | hr2
          · rw [if_pos hr2, if_pos hr2]
          · rw [if_neg (by rw [hr2]; decide), if_neg (by rw [hr2]; decide), if_pos hr2]
        · intro q hq
          rcases List.mem_append.1 hq with hq | hq
          · exact .inr (sees_last h h2 hx (keyOps_lt hq))
          · obtain ⟨o2, _, he⟩ := List.mem_map.1 (List.mem_filter.1 hq).1
            exact .inl (by rw [← he])
      · have hr2 : ¬ (o.kind = 1 ∨ o.kind = 2) := by simpa [isReg] using hr
        have n1 : ¬ (o.key = key ∧ o.kind = 1) := fun h => hr2 (.inl h.2)
        have n2 : ¬ (o.key = key ∧ o.kind = 2) := fun h => hr2 (.inr h.2)
        rw [if_neg hr, List.filter_nil, List.append_nil, ih, if_neg n1, if_neg n2]
    · have n1 : ¬ (o.key = key ∧ o.kind = 1) := fun h => hk h.1
      have n2 : ¬ (o.key = key ∧ o.kind = 2) := fun h => hk h.1
      rw [if_neg n1, if_neg n2, ← ih]
      congr 1
      have : (if isReg o = true then [(L.length, o)] else []).filter (onKey key) = [] := by
        by_cases hr : isReg o = true
        · rw [if_pos hr]; simp [onKey, hk]
        · rw [if_neg hr]; rfl
      rw [this, List.append_nil]
/-- the law -/
theorem regHeld_behind {L : List EntD} (h : OrdOk L) {x : EntD} (h2 : OrdOk (L ++ [x])) (hx : x.node.ps = headsL L) (key : ByteArray) : regHeld (L ++ [x]) key = followS key x.node.ops (regHeld L key) := by
  unfold regHeld
  rw [keyOps_app]
  exact follow_reg h h2 hx key _
theorem follow_len {key : ByteArray} : ∀ (ops : List OpD) {want : List ByteArray} {n : Nat}, want.length ≤ n → 1 ≤ n → (followS key ops want).length ≤ n
  | [], want, n, h, _ => h
  | o :: ops, want, n, h, h1 => by
    unfold followS
    rw [List.foldl_cons]
    refine follow_len ops ?_ h1
    unfold putOn
    split
    · simpa using h1
    · split
      · simp
      · exact h
theorem followS_take {key : ByteArray} {ops : List OpD} {want : List ByteArray} {q : Nat} {o : OpD} (h : ops[q]? = some o) : followS key (ops.take (q + 1)) want = putOn key (followS key (ops.take q) want) o := by
  unfold followS
  rw [List.take_add_one, h, Option.toList_some, List.foldl_append]; rfl
end Go.Sl
namespace Go.Sl
open Go
/-! ### counters: the plain law -/
/-- has the operation c seen the operation a? -/
abbrev knowsT (L : List EntD) (a c : Trip) : Prop := (a.1 = c.1 ∧ a.2.1 < c.2.1) ∨ seesN L a.1 c.1 = true
abbrev goneT (L : List EntD) (S : List Trip) (t : Trip) : Prop := ∃ z ∈ S, z.2.2.kind = 7 ∧ knowsT L t z
def cntA (L : List EntD) (S : List Trip) (a : Int) (t : Trip) : Int := if t.2.2.kind = 6 ∧ ¬ goneT L S t then IntKind.u64.wrap (a + IntKind.u64.wrap t.2.2.n) else a
def cntS (L : List EntD) (key : ByteArray) : List Trip := tripsN L (isKey key 6 7) L.length
/-- what a counter comes to -/
def cntV (L : List EntD) (key : ByteArray) : Int := IntKind.i64.wrap ((cntS L key).foldl (cntA L (cntS L key)) 0)
/-- .. as the program adds it up -/
def cntI (L : List EntD) (S : List Trip) (a : Int) (t : Trip) : Int := if t.2.2.kind = 6 ∧ ¬ goneT L S t then IntKind.i64.wrap (a + t.2.2.n) else a
theorem wrap_step (x n : Int) : IntKind.i64.wrap (IntKind.u64.wrap (x + IntKind.u64.wrap n)) = IntKind.i64.wrap (IntKind.i64.wrap x + n) := by
  simp only [IntKind.wrap_i64, IntKind.wrap_u64]
  omega
theorem cnt_fold (L : List EntD) (S : List Trip) : ∀ (l : List Trip) (a b : Int), IntKind.i64.wrap a = b → IntKind.i64.wrap (l.foldl (cntA L S) a) = l.foldl (cntI L S) b
  | [], a, b, h => h
  | t :: l, a, b, h => by
    rw [List.foldl_cons, List.foldl_cons]
    refine cnt_fold L S l _ _ ?_
    unfold cntA cntI
    split
    · rw [wrap_step, h]
    · exact h
theorem cntV_int (L : List EntD) (key : ByteArray) : cntV L key = (cntS L key).foldl (cntI L (cntS L key)) 0 := cnt_fold L _ _ 0 0 (by rw [IntKind.wrap_i64]; omega)
end Go.Sl
namespace Go.Sl
open Go
/-! ### counters: sums, and one who stands behind all -/
def sumW {α : Type} (f : α → Int) : List α → Int
  | [] => 0
  | x :: l => f x + sumW f l
theorem sumW_append {α : Type} (f : α → Int) : ∀ (a b : List α), sumW f (a ++ b) = sumW f a + sumW f b
  | [], b => by simp [sumW]
  | x :: a, b => by simp only [List.cons_append, sumW, sumW_append f a b]; omega
theorem sumW_perm {α : Type} (f : α → Int) {a b : List α} (h : a.Perm b) : sumW f a = sumW f b := by
  induction h with
  | nil => rfl
  | cons x _ ih => simp only [sumW, ih]
  | swap x y l => simp only [sumW]; omega
  | trans _ _ h1 h2 => exact h1.trans h2
theorem sumW_congr {α : Type} {f g : α → Int} : ∀ {l : List α}, (∀ x ∈ l, f x = g x) → sumW f l = sumW g l
  | [], _ => rfl
  | x :: l, h => by simp only [sumW]; rw [h x (by simp), sumW_congr fun y hy => h y (by simp [hy])]
theorem sumW_zero {α : Type} {f : α → Int} : ∀ {l : List α}, (∀ x ∈ l, f x = 0) → sumW f l = 0
  | [], _ => rfl
  | x :: l, h => by simp only [sumW]; rw [h x (by simp), sumW_zero fun y hy => h y (by simp [hy])]; omega
theorem sumW_map {α β : Type} (f : β → Int) (g : α → β) : ∀ (l : List α), sumW f (l.map g) = sumW (fun x => f (g x)) l
  | [] => rfl
  | x :: l => by simp only [List.map_cons, sumW, sumW_map f g l]
theorem sumW_filter {α : Type} {f : α → Int} {p : α → Bool} : ∀ {l : List α}, (∀ x ∈ l, p x = false → f x = 0) → sumW f (l.filter p) = sumW f l
  | [], _ => rfl
  | x :: l, h => by
    have ih := sumW_filter (f := f) (p := p) (l := l) fun y hy => h y (by simp [hy])
    cases hp : p x with
    | true => simp only [List.filter_cons, hp, if_true, sumW, ih]
    | false => simp only [List.filter_cons, hp, sumW, h x (by simp) hp]; simp only [Bool.false_eq_true, if_false]; omega
/-- what an operation adds to a key -/
def wOn (key : ByteArray) (o : OpD) : Int := if o.key = key ∧ o.kind = 6 then o.n else 0
theorem sumOps_w (key : ByteArray) : ∀ (ops : List OpD) (a : Int), IntKind.i64.wrap (sumOps key ops a) = IntKind.i64.wrap (a + sumW (wOn key) ops)
  | [], a => by simp [sumOps, sumW]
  | o :: ops, a => by
    have ih := sumOps_w key ops (addN key a o)
    unfold sumOps at ih ⊢
    rw [List.foldl_cons, ih]
    simp only [sumW]
    unfold addN wOn
    split
    · simp only [IntKind.wrap_i64, IntKind.wrap_u64]; omega
    · congr 1; omega
/-- .. of the trips of a counter that are not gone -/
def wT (L : List EntD) (S : List Trip) (t : Trip) : Int := if t.2.2.kind = 6 ∧ ¬ goneT L S t then t.2.2.n else 0
theorem cntA_w (L : List EntD) (S : List Trip) : ∀ (l : List Trip) (a : Int), IntKind.i64.wrap (l.foldl (cntA L S) a) = IntKind.i64.wrap (a + sumW (wT L S) l)
  | [], a => by simp [sumW]
  | t :: l, a => by
    rw [List.foldl_cons, cntA_w L S l]
    simp only [sumW]
    unfold cntA wT
    split
    · simp only [IntKind.wrap_i64, IntKind.wrap_u64]; omega
    · congr 1; omega
theorem cntV_w (L : List EntD) (key : ByteArray) : cntV L key = IntKind.i64.wrap (sumW (wT L (cntS L key)) (cntS L key)) := by
  unfold cntV; rw [cntA_w]; congr 1; omega
theorem isKey67 {key : ByteArray} {o : OpD} : isKey key 6 7 o = true ↔ o.key = key ∧ (o.kind = 6 ∨ o.kind = 7) := by
  unfold isKey
  simp only [decide_eq_true_eq]
  constructor
  · rintro ⟨h1, h2, h3⟩; exact ⟨h1, by omega⟩
  · rintro ⟨h1, h2⟩; exact ⟨h1, by omega, by omega⟩
theorem wOn_off {key : ByteArray} {o : OpD} (h : isKey key 6 7 o = false) : wOn key o = 0 := by
  unfold wOn
  rw [if_neg]
  intro h1
  have := isKey67.2 ⟨h1.1, .inl h1.2⟩
  rw [h] at this; cases this
theorem tripsAt_sum (key : ByteArray) (i : Nat) (ops : List OpD) : sumW (fun t : Trip => wOn key t.2.2) (tripsAt (isKey key 6 7) i ops) = sumW (wOn key) ops := by
  unfold tripsAt
  rw [sumW_map (fun t : Trip => wOn key t.2.2), sumW_filter (fun x _ hx => wOn_off hx)]
  have : ∀ (l : List OpD) (k : Nat), sumW (fun x : OpD × Nat => wOn key x.1) (l.zipIdx k) = sumW (wOn key) l := by
    intro l
    induction l with
    | nil => intro k; rfl
    | cons o l ih => intro k; simp only [List.zipIdx_cons, sumW, ih]
  exact this ops 1
theorem tripsN_sum (L : List EntD) (key : ByteArray) : ∀ n, n ≤ L.length → sumW (fun t : Trip => wOn key t.2.2) (tripsN L (isKey key 6 7) n) = sumW (wOn key) (opsTo L n)
  | 0, _ => by simp [tripsN, opsTo, sumW]
  | n + 1, hn => by
    have he : L[n]? = some L[n] := List.getElem?_eq_getElem hn
    rw [tripsN_succ, sumW_append, tripsN_sum L key n (by omega), tripsAt_sum, opsTo_step he, sumW_append, opsAt_of he]
theorem ordE_perm {l : List EntD} (hg : GoodE l) : (ordE l).Perm l := by
  have nd : ∀ {k : List EntD}, (k.map (·.id)).Nodup → k.Nodup := fun h => List.Pairwise.of_map _ (fun a b h e => h (congrArg _ e)) h
  exact (List.perm_ext_iff_of_nodup (nd (ordE_ok hg).nodup) (nd hg.nodup)).2 fun a => mem_ordE hg
theorem opsTo_all (l : List EntD) : opsTo l l.length = l.flatMap (·.node.ops) := by unfold opsTo; rw [List.take_length]
theorem flat_perm {α β : Type} (f : α → List β) {a b : List α} (h : a.Perm b) : (a.flatMap f).Perm (b.flatMap f) := by
  induction h with
  | nil => exact List.Perm.refl _
  | cons x _ ih => simp only [List.flatMap_cons]; exact List.Perm.append_left _ ih
  | swap x y l =>
    simp only [List.flatMap_cons, ← List.append_assoc]
    exact List.Perm.append_right _ List.perm_append_comm
  | trans _ _ h1 h2 => exact h1.trans h2
theorem cntS_zero {L : List EntD} {key : ByteArray} {z : Trip} (hz : z ∈ cntS L key) (h7 : z.2.2.kind = 7) : zeroOn key z.2.2 := ⟨(isKey67.1 (tripsN_mem hz).2.2.2).1, h7⟩
theorem wT_wOn {L : List EntD} {S : List Trip} {key : ByteArray} {t : Trip} (ht : isKey key 6 7 t.2.2 = true) (hg : ¬ goneT L S t) : wT L S t = wOn key t.2.2 := by
  have h1 := (isKey67.1 ht).1
  unfold wT wOn
  by_cases h6 : t.2.2.kind = 6
  · rw [if_pos ⟨h6, hg⟩, if_pos ⟨h1, h6⟩]
  · rw [if_neg (fun h => h6 h.1), if_neg (fun h => h6 h.2)]
/-- without a zero all is added up -/
theorem cntV_all {l : List EntD} (hg : GoodE l) {key : ByteArray} (h : ¬ ∃ o ∈ opsTo l l.length, zeroOn key o) : cntV (ordE l) key = IntKind.i64.wrap (sumOps key (opsTo l l.length) 0) := by
  have hp := ordE_perm hg
  rw [cntV_w, sumOps_w]
  have hng : ∀ t ∈ cntS (ordE l) key, ¬ goneT (ordE l) (cntS (ordE l) key) t := by
    rintro t _ ⟨z, hz, h7, _⟩
    refine h ⟨z.2.2, ?_, cntS_zero hz h7⟩
    have hm := tripsN_mem hz
    have ho : z.2.2 ∈ opsAt (ordE l) z.1 := List.mem_of_getElem? hm.2.2.1
    have he : (ordE l)[z.1]? = some (ordE l)[z.1] := List.getElem?_eq_getElem hm.1
    rw [opsAt_of he] at ho
    rw [opsTo_all]
    exact List.mem_flatMap.2 ⟨_, (mem_ordE hg).1 (List.mem_of_getElem? he), ho⟩
  have e1 : sumW (wT (ordE l) (cntS (ordE l) key)) (cntS (ordE l) key) = sumW (fun t : Trip => wOn key t.2.2) (cntS (ordE l) key) :=
    sumW_congr fun t ht => wT_wOn (tripsN_mem ht).2.2.2 (hng t ht)
  rw [e1]
  unfold cntS
  rw [tripsN_sum _ _ _ (Nat.le_refl _), opsTo_all, opsTo_all, sumW_perm _ (flat_perm _ hp)]
  congr 1; omega
/-! ### behind all -/
theorem tripsN_app {L : List EntD} {x : EntD} (p : OpD → Bool) : ∀ n, n ≤ L.length → tripsN (L ++ [x]) p n = tripsN L p n
  | 0, _ => rfl
  | n + 1, hn => by rw [tripsN_succ, tripsN_succ, tripsN_app p n (by omega), opsAt_app (by omega)]
theorem cntS_app {L : List EntD} {x : EntD} (key : ByteArray) : cntS (L ++ [x]) key = cntS L key ++ tripsAt (isKey key 6 7) L.length x.node.ops := by
  unfold cntS
  rw [List.length_append, show L.length + [x].length = L.length + 1 from rfl, tripsN_succ, tripsN_app _ _ (Nat.le_refl _)]
  congr 2
  exact opsAt_of (by simp)
theorem tripsAt_of {p : OpD → Bool} {i j : Nat} {ops : List OpD} {o : OpD} (h : ops[j]? = some o) (hp : p o = true) : (i, j + 1, o) ∈ tripsAt p i ops := by
  unfold tripsAt
  refine List.mem_map.2 ⟨(o, j + 1), List.mem_filter.2 ⟨?_, hp⟩, rfl⟩
  rw [List.mem_iff_getElem?]
  exact ⟨j, by rw [List.getElem?_zipIdx, h]; simp [Nat.add_comm]⟩
/-- the last zero of a key stands ahead of k -/
def LastZ (key : ByteArray) (ops : List OpD) (k : Nat) : Prop := (k = 0 ∨ ∃ o, ops[k - 1]? = some o ∧ zeroOn key o) ∧ k ≤ ops.length ∧ ∀ j o, k ≤ j → ops[j]? = some o → ¬ zeroOn key o
theorem take_take_get {α : Type} {l : List α} {q j : Nat} {o : α} (h : (l.take q)[j]? = some o) : l[j]? = some o := by
  rw [List.getElem?_take] at h
  split at h
  · exact h
  · cases h
theorem LastZ.zero (key : ByteArray) (ops : List OpD) : LastZ key (ops.take 0) 0 := ⟨.inl rfl, by omega, fun j o _ h => by simp at h⟩
theorem LastZ.yes {key : ByteArray} {ops : List OpD} {q : Nat} {o : OpD} (h : ops[q]? = some o) (hz : zeroOn key o) : LastZ key (ops.take (q + 1)) (q + 1) := by
  have hq := (List.getElem?_eq_some_iff.1 h).1
  refine ⟨.inr ⟨o, by rw [Nat.add_sub_cancel, List.getElem?_take_of_lt (by omega)]; exact h, hz⟩, by rw [List.length_take]; omega, fun j o2 hj h2 => ?_⟩
  have := (List.getElem?_eq_some_iff.1 h2).1
  rw [List.length_take] at this
  omega
theorem LastZ.no {key : ByteArray} {ops : List OpD} {q k : Nat} {o : OpD} (hl : LastZ key (ops.take q) k) (h : ops[q]? = some o) (hz : ¬ zeroOn key o) : LastZ key (ops.take (q + 1)) k := by
  obtain ⟨h1, h2, h3⟩ := hl
  have hq := (List.getElem?_eq_some_iff.1 h).1
  rw [List.length_take] at h2
  have hA : ∀ o2, (ops.take q)[k - 1]? = some o2 → (ops.take (q + 1))[k - 1]? = some o2 := fun o2 e1 => by
    have hlt := (List.getElem?_eq_some_iff.1 e1).1
    rw [List.length_take] at hlt
    rw [List.getElem?_take_of_lt (by omega)]; exact take_take_get e1
  refine ⟨h1.imp id fun ⟨o2, e1, e2⟩ => ⟨o2, hA o2 e1, e2⟩, by rw [List.length_take]; omega, fun j o2 hj h4 => ?_⟩
  have hjl := (List.getElem?_eq_some_iff.1 h4).1
  rw [List.length_take] at hjl
  have h5 := take_take_get h4
  by_cases hj2 : j < q
  · exact h3 j o2 hj (by rw [List.getElem?_take_of_lt hj2]; exact h5)
  · have : j = q := by omega
    subst this
    rw [h] at h5; cases h5; exact hz
theorem knows_old {L : List EntD} (h : OrdOk L) {x : EntD} {t z : Trip} (hz : z.1 < L.length) : knowsT (L ++ [x]) t z ↔ knowsT L t z := by
  unfold knowsT; rw [sees_app h hz]
theorem knows_new {L : List EntD} (h : OrdOk L) {x : EntD} (h2 : OrdOk (L ++ [x])) (hx : x.node.ps = headsL L) {t z : Trip} (ht : t.1 < L.length) (hz : z.1 = L.length) : knowsT (L ++ [x]) t z := by
  refine .inr ?_
  rw [hz]; exact sees_last h h2 hx ht
theorem knows_back {L : List EntD} {x : EntD} (h2 : OrdOk (L ++ [x])) {t z : Trip} (ht : t.1 = L.length) (hz : z.1 ≤ L.length) : knowsT (L ++ [x]) t z ↔ z.1 = L.length ∧ t.2.1 < z.2.1 := by
  unfold knowsT
  constructor
  · rintro (⟨e1, e2⟩ | h)
    · exact ⟨by omega, e2⟩
    · have := sees_lt h2 h; omega
  · rintro ⟨e1, e2⟩; exact .inl ⟨by omega, e2⟩
theorem wT_gone {L : List EntD} {S : List Trip} {t : Trip} (h : goneT L S t) : wT L S t = 0 := by unfold wT; rw [if_neg (fun h1 => h1.2 h)]
/-- the trips of the last entry: those behind the last zero count -/
theorem last_sum {L : List EntD} {x : EntD} (h2 : OrdOk (L ++ [x])) {key : ByteArray} {k : Nat} (hl : LastZ key x.node.ops k) :
    sumW (wT (L ++ [x]) (cntS (L ++ [x]) key)) (tripsAt (isKey key 6 7) L.length x.node.ops) = sumW (wOn key) (x.node.ops.drop k) := by
  obtain ⟨hk1, hk2, hk3⟩ := hl
  have hgone : ∀ t ∈ tripsAt (isKey key 6 7) L.length x.node.ops, (goneT (L ++ [x]) (cntS (L ++ [x]) key) t ↔ t.2.1 < k) := by
    intro t ht
    obtain ⟨t1, t2, t3, t4⟩ := tripsAt_mem ht
    constructor
    · rintro ⟨z, hz, h7, hkn⟩
      have hzm := tripsN_mem hz
      have hzl := hzm.1
      rw [List.length_append] at hzl
      simp only [List.length_cons, List.length_nil] at hzl
      obtain ⟨e1, e2⟩ := (knows_back h2 t1 (by omega)).1 hkn
      have hz3 := hzm.2.2.1
      rw [e1, opsAt_of (show (L ++ [x])[L.length]? = some x by simp)] at hz3
      refine Classical.byContradiction fun hc => ?_
      exact hk3 _ _ (show k ≤ z.2.1 - 1 by omega) hz3 (cntS_zero hz h7)
    · intro hlt
      rcases hk1 with hk1 | ⟨o, ho, hzo⟩
      · omega
      · have hm : (L.length, k - 1 + 1, o) ∈ cntS (L ++ [x]) key := by
          rw [cntS_app]
          exact List.mem_append_right _ (tripsAt_of ho (isKey67.2 ⟨hzo.1, .inr hzo.2⟩))
        exact ⟨_, hm, hzo.2, (knows_back h2 t1 (Nat.le_refl _)).2 ⟨rfl, by show t.2.1 < k - 1 + 1; omega⟩⟩
  -- cell by cell
  have hsum : sumW (wT (L ++ [x]) (cntS (L ++ [x]) key)) (tripsAt (isKey key 6 7) L.length x.node.ops) = sumW (fun t : Trip => if t.2.1 < k then 0 else wOn key t.2.2) (tripsAt (isKey key 6 7) L.length x.node.ops) := by
    refine sumW_congr fun t ht => ?_
    obtain ⟨t1, t2, t3, t4⟩ := tripsAt_mem ht
    by_cases hg : t.2.1 < k
    · rw [if_pos hg]; exact wT_gone ((hgone t ht).2 hg)
    · rw [if_neg hg]; exact wT_wOn t4 (fun h => hg ((hgone t ht).1 h))
  rw [hsum]
  unfold tripsAt
  rw [sumW_map (fun t : Trip => if t.2.1 < k then 0 else wOn key t.2.2), sumW_filter (fun y _ hy => by simp only []; split; rfl; exact wOn_off hy)]
  have hgen : ∀ (l : List OpD) (s : Nat), sumW (fun y : OpD × Nat => if y.2 < k then 0 else wOn key y.1) (l.zipIdx (s + 1)) = sumW (wOn key) (l.drop (k - 1 - s)) := by
    intro l
    induction l with
    | nil => intro s; simp [sumW]
    | cons o l ih =>
      intro s
      rw [List.zipIdx_cons]
      simp only [sumW]
      rw [ih (s + 1)]
      by_cases hs : s + 1 < k
      · rw [if_pos hs, show k - 1 - s = (k - 1 - (s + 1)) + 1 by omega, List.drop_succ_cons]; omega
      · rw [if_neg hs, show k - 1 - s = 0 by omega, show k - 1 - (s + 1) = 0 by omega]; simp [sumW]
  have := hgen x.node.ops 0
  rw [show (0 : Nat) + 1 = 1 from rfl] at this
  rw [this]
  rcases hk1 with rfl | ⟨o, ho, hzo⟩
  · rfl
  · by_cases hk0 : k = 0
    · subst hk0; rfl
    · have hlt := (List.getElem?_eq_some_iff.1 ho).1
      rw [Nat.sub_zero, List.drop_eq_getElem_cons hlt, show k - 1 + 1 = k by omega]
      simp only [sumW]
      have ho2 : x.node.ops[k - 1] = o := (List.getElem?_eq_some_iff.1 ho).2
      rw [ho2]
      have : wOn key o = 0 := by
        unfold wOn; rw [if_neg]
        intro h; have := hzo.2; omega
      omega
theorem old_sum0 {L : List EntD} (h : OrdOk L) {x : EntD} (h2 : OrdOk (L ++ [x])) (hx : x.node.ps = headsL L) {key : ByteArray} {k : Nat} (hl : LastZ key x.node.ops k) (hk : k ≠ 0) :
    sumW (wT (L ++ [x]) (cntS (L ++ [x]) key)) (cntS L key) = 0 := by
  refine sumW_zero fun t ht => wT_gone ?_
  obtain ⟨hk1, _, _⟩ := hl
  rcases hk1 with hk1 | ⟨o, ho, hzo⟩
  · exact absurd hk1 hk
  · have hm : (L.length, k - 1 + 1, o) ∈ cntS (L ++ [x]) key := by
      rw [cntS_app]
      exact List.mem_append_right _ (tripsAt_of ho (isKey67.2 ⟨hzo.1, .inr hzo.2⟩))
    exact ⟨_, hm, hzo.2, knows_new h h2 hx (tripsN_mem ht).1 rfl⟩
theorem old_sum {L : List EntD} (h : OrdOk L) {x : EntD} (key : ByteArray) (hl : LastZ key x.node.ops 0) :
    sumW (wT (L ++ [x]) (cntS (L ++ [x]) key)) (cntS L key) = sumW (wT L (cntS L key)) (cntS L key) := by
  refine sumW_congr fun t ht => ?_
  have : goneT (L ++ [x]) (cntS (L ++ [x]) key) t ↔ goneT L (cntS L key) t := by
    rw [cntS_app]
    constructor
    · rintro ⟨z, hz, h7, hkn⟩
      rcases List.mem_append.1 hz with hz | hz
      · exact ⟨z, hz, h7, (knows_old h (tripsN_mem hz).1).1 hkn⟩
      · obtain ⟨_, z2, z3, z4⟩ := tripsAt_mem hz
        exact absurd ⟨(isKey67.1 z4).1, h7⟩ (hl.2.2 _ _ (Nat.zero_le _) z3)
    · rintro ⟨z, hz, h7, hkn⟩
      exact ⟨z, List.mem_append_left _ hz, h7, (knows_old h (tripsN_mem hz).1).2 hkn⟩
  unfold wT
  simp only [this]
/-- the law -/
theorem cntV_behind {L : List EntD} (h : OrdOk L) {x : EntD} (h2 : OrdOk (L ++ [x])) (hx : x.node.ps = headsL L) {key : ByteArray} {k : Nat} (hl : LastZ key x.node.ops k) :
    cntV (L ++ [x]) key = if k = 0 then IntKind.i64.wrap (IntKind.u64.wrap (IntKind.u64.wrap (IntKind.i64.wrap (sumOps key (x.node.ops.drop k) 0)) + IntKind.u64.wrap (cntV L key))) else IntKind.i64.wrap (sumOps key (x.node.ops.drop k) 0) := by
  have hs := sumOps_w key (x.node.ops.drop k) 0
  have hlast := last_sum h2 hl
  have hv : cntV (L ++ [x]) key = IntKind.i64.wrap (sumW (wT (L ++ [x]) (cntS (L ++ [x]) key)) (cntS L key) + sumW (wOn key) (x.node.ops.drop k)) := by
    rw [cntV_w]
    conv => lhs; rw [cntS_app key]
    rw [sumW_append, ← cntS_app key, hlast]
  split
  · rename_i hk0
    subst hk0
    rw [hv, old_sum h key hl, hs, cntV_w L key]
    simp only [IntKind.wrap_i64, IntKind.wrap_u64]
    omega
  · rename_i hk0
    rw [hv, old_sum0 h h2 hx hl hk0, hs]
end Go.Sl
namespace Go.Sl
open Go
/-! ### the one order by its definition, and its closed parts -/
/-- none behind that could stand here has a lesser hash -/
def Greedy (L : List EntD) : Prop := ∀ (i j : Nat) (ei ej : EntD), i < j → L[i]? = some ei → L[j]? = some ej → (∀ p ∈ ej.node.ps, ∃ k, k < i ∧ idxOf L p = some k) → ei.id ≤ ej.id
structure OneOrd (L : List EntD) : Prop where
  ok : OrdOk L
  greedy : Greedy L
  clk : ∀ e ∈ L, e.node.cl = mcl L e.node.ps + 1
theorem clAt_mem {b : List EntD} (hd : (b.map (·.id)).Nodup) {e : EntD} (he : e ∈ b) : clAt b e.id = e.node.cl := by
  obtain ⟨k, hk⟩ := List.getElem?_of_mem he
  unfold clAt
  rw [idxOf_of hd hk]
  simp only [Option.bind_some, hk]
theorem mcl_congr {a b : List EntD} {ps : List Nat} (h : ∀ p ∈ ps, clAt a p = clAt b p) : mcl a ps = mcl b ps := by
  unfold mcl
  have : ∀ (ps : List Nat) (m : Int), (∀ p ∈ ps, clAt a p = clAt b p) → ps.foldl (fun m p => max m (clAt a p)) m = ps.foldl (fun m p => max m (clAt b p)) m := by
    intro ps
    induction ps with
    | nil => intro m _; rfl
    | cons p ps ih =>
      intro m hp
      simp only [List.foldl_cons]
      rw [hp p (by simp), ih _ (fun q hq => hp q (by simp [hq]))]
  exact this ps 0 h
theorem ordE_greedy {l : List EntD} (hg : GoodE l) : Greedy (ordE l) := by
  intro i j ei ej hij hi hj hps
  have hL := ordE_len hg
  have hjl : j < l.length := by rw [← hL]; exact (List.getElem?_eq_some_iff.1 hj).1
  obtain ⟨oi, hn⟩ := next_ex hg (show i < l.length by omega)
  have hat := ordN_at hg (by omega) hn
  rw [ordE_get, hat] at hi
  have hi' : l[oi]? = some ei := hi
  obtain ⟨oj, hnj⟩ := next_ex hg hjl
  have hatj := ordN_at hg hjl hnj
  rw [ordE_get, hatj] at hj
  have hj' : l[oj]? = some ej := hj
  have hnd : (ordOf l).Nodup := (ordN_ok (l := l) l.length).1
  have hr : readyB l (ordN l i) oj = true := by
    refine readyB_iff.2 ⟨(List.getElem?_eq_some_iff.1 hj').1, fun hm => ?_, lackN_zero.2 fun p hp => ?_⟩
    · obtain ⟨k, hk⟩ := List.getElem?_of_mem hm
      have hki : k < i := by have := (List.getElem?_eq_some_iff.1 hk).1; rw [ordN_len hg i (by omega)] at this; exact this
      have hk2 : (ordOf l)[k]? = some oj := by unfold ordOf; rw [ordN_prefix hg l.length i k (by omega) (Nat.le_refl _) hki]; exact hk
      obtain ⟨h1, e1⟩ := List.getElem?_eq_some_iff.1 hk2
      obtain ⟨h2, e2⟩ := List.getElem?_eq_some_iff.1 hatj
      exact absurd (e1.trans e2.symm) (List.pairwise_iff_getElem.1 hnd k j h1 h2 (by omega))
    · rw [parsAt_of hj'] at hp
      obtain ⟨k, hki, hk⟩ := hps p hp
      obtain ⟨e2, he2, hid⟩ := idxOf_some hk
      rw [ordE_get] at he2
      cases hok : (ordOf l)[k]? with
      | none => rw [hok] at he2; cases he2
      | some k0 =>
        rw [hok] at he2
        have he2' : l[k0]? = some e2 := he2
        unfold inOut
        rw [← hid, idxOf_of hg.nodup he2']
        have : (ordN l i)[k]? = some k0 := by rw [← ordN_prefix hg l.length i k (by omega) (Nat.le_refl _) hki]; exact hok
        simpa using List.mem_of_getElem? this
  have := (nextR_some hn).2 oj hr
  rwa [idAt_of hi', idAt_of hj'] at this
theorem oneOrd_ordE {l : List EntD} (h0 : (rightErr l).1 = 0) : OneOrd (ordE l) := by
  have hg := good_of_right h0
  have hok := ordE_ok hg
  refine ⟨hok, ordE_greedy hg, fun e he => ?_⟩
  have hel := (mem_ordE hg).1 he
  have hp := par_zero h0 e hel
  unfold parErr at hp
  split at hp
  · cases hp
  · split at hp
    · cases hp
    · rename_i h1 h2
      have h3 : e.node.cl = mcl l e.node.ps + 1 := Decidable.not_not.1 h2
      rw [h3]
      congr 1
      refine mcl_congr fun p hpp => ?_
      obtain ⟨k, e2, k1, k2, _⟩ := hg.par e hel p hpp
      obtain ⟨e3, k3, k4⟩ := idxOf_some k1
      rw [k2] at k3; cases k3
      rw [← k4, clAt_mem hg.nodup (List.mem_of_getElem? k2), clAt_mem hok.nodup ((mem_ordE hg).2 (List.mem_of_getElem? k2))]
theorem OneOrd.good {L : List EntD} (h : OneOrd L) : GoodE L := by
  refine ⟨h.ok.nodup, h.ok.node, h.ok.most, fun e he p hp => ?_⟩
  obtain ⟨i, hi⟩ := List.getElem?_of_mem he
  obtain ⟨k, hk, h1⟩ := h.ok.par i e hi p hp
  obtain ⟨e2, h2, h3⟩ := idxOf_some h1
  refine ⟨k, e2, h1, h2, ?_⟩
  have h4 := le_mcl (l := L) hp
  rw [← h3, clAt_mem h.ok.nodup (List.mem_of_getElem? h2)] at h4
  rw [h.clk e he]; omega
theorem OneOrd.right {L : List EntD} (h : OneOrd L) : (rightErr L).1 = 0 := by
  rw [right_of h.ok.most h.ok.node h.ok.nodup]
  intro e he
  unfold parErr
  rw [if_neg, if_neg (fun hc => hc (h.clk e he))]
  rintro ⟨p, hp, hn⟩
  obtain ⟨k, _, h1, _⟩ := h.good.par e he p hp
  rw [h1] at hn; cases hn
theorem OneOrd.fix {L : List EntD} (h : OneOrd L) : ordE L = L := by
  have hg := h.good
  have key : ∀ n, n ≤ L.length → ordN L n = List.range n := by
    intro n
    induction n with
    | zero => intro _; rfl
    | succ n ih =>
      intro hn
      have ih := ih (by omega)
      have he : L[n]? = some L[n] := List.getElem?_eq_getElem hn
      have hnx : nextR L (ordN L n) = some n := by
        rw [ih]
        refine nextR_of hg.nodup (readyB_iff.2 ⟨hn, by simp, lackN_zero.2 fun p hp => ?_⟩) fun j hj => ?_
        · rw [parsAt_of he] at hp
          obtain ⟨k, hk, h1⟩ := h.ok.par n _ he p hp
          unfold inOut; rw [h1]; simpa using hk
        · obtain ⟨j1, j2, j3⟩ := readyB_iff.1 hj
          have hnj : n ≤ j := by simpa using j2
          by_cases hne : j = n
          · subst hne; exact Nat.le_refl _
          · have hje : L[j]? = some L[j] := List.getElem?_eq_getElem j1
            rw [idAt_of he, idAt_of hje]
            refine h.greedy n j _ _ (by omega) he hje fun p hp => ?_
            have := lackN_zero.1 j3 p (by rw [parsAt_of hje]; exact hp)
            unfold inOut at this
            cases hx : idxOf L p with
            | none => rw [hx] at this; cases this
            | some k => rw [hx] at this; exact ⟨k, by simpa using this, rfl⟩
      rw [ordN_succ hnx, ih, List.range_succ]
  unfold ordE ordOf
  rw [key _ (Nat.le_refl _)]
  apply List.ext_getElem?
  intro k
  rw [filt_get _ k (fun i hi => List.mem_range.1 hi)]
  by_cases hk : k < L.length
  · rw [List.getElem?_range hk]; rfl
  · rw [List.getElem?_eq_none (by simpa using hk), List.getElem?_eq_none (by omega)]; rfl
/-! ### closed parts -/
def ClosedP (L : List EntD) (q : Nat → Prop) : Prop := ∀ i j, q j → seesN L i j = true → q i
section
variable {L : List EntD} {q : Nat → Prop} [DecidablePred q]
def atI (L : List EntD) (q : Nat → Prop) [DecidablePred q] (n : Nat) : List Nat := (List.range n).filter fun i => decide (q i)
def atL (L : List EntD) (q : Nat → Prop) [DecidablePred q] (n : Nat) : List EntD := (atI L q n).filterMap (L[·]?)
theorem atL_zero : atL L q 0 = [] := by simp [atL, atI]
theorem atL_succ {n : Nat} {e : EntD} (h : L[n]? = some e) : atL L q (n + 1) = atL L q n ++ (if q n then [e] else []) := by
  unfold atL atI
  rw [List.range_succ, List.filter_append, List.filterMap_append]
  congr 1
  by_cases hq : q n
  · simp [hq, h]
  · simp [hq]
theorem atL_len (n : Nat) : (atL L q n).length ≤ n := by
  unfold atL atI
  refine Nat.le_trans (List.length_filterMap_le _ _) (Nat.le_trans (List.length_filter_le _ _) ?_)
  simp
theorem range_all : (List.range L.length).filterMap (L[·]?) = L := by
  apply List.ext_getElem?
  intro k
  rw [filt_get _ k (fun i hi => List.mem_range.1 hi)]
  by_cases hk : k < L.length
  · rw [List.getElem?_range hk]; rfl
  · rw [List.getElem?_eq_none (by simpa using hk), List.getElem?_eq_none (by omega)]; rfl
theorem atL_sub : (atL L q L.length).Sublist L := by
  have h : (atL L q L.length).Sublist ((List.range L.length).filterMap (L[·]?)) := List.Sublist.filterMap _ List.filter_sublist
  rwa [range_all] at h
theorem atI_mem {i : Nat} : i ∈ atI L q L.length ↔ i < L.length ∧ q i := by unfold atI; simp
theorem atI_up : (atI L q L.length).Pairwise (· < ·) := List.Pairwise.sublist List.filter_sublist List.pairwise_lt_range
theorem atL_get (k : Nat) : (atL L q L.length)[k]? = ((atI L q L.length)[k]?).bind (L[·]?) := filt_get _ k fun i hi => (atI_mem.1 hi).1
theorem atL_at {i : Nat} {e : EntD} (h : (atL L q L.length)[i]? = some e) : ∃ a, (atI L q L.length)[i]? = some a ∧ L[a]? = some e ∧ q a := by
  rw [atL_get] at h
  cases ha : (atI L q L.length)[i]? with
  | none => rw [ha] at h; cases h
  | some a =>
    rw [ha] at h
    exact ⟨a, rfl, h, (atI_mem.1 (List.mem_of_getElem? ha)).2⟩
theorem atI_lt {i j a b : Nat} (hi : (atI L q L.length)[i]? = some a) (hj : (atI L q L.length)[j]? = some b) : a < b ↔ i < j := by
  obtain ⟨h1, e1⟩ := List.getElem?_eq_some_iff.1 hi
  obtain ⟨h2, e2⟩ := List.getElem?_eq_some_iff.1 hj
  have hup := List.pairwise_iff_getElem.1 (atI_up (L := L) (q := q))
  constructor
  · intro hab
    rcases Nat.lt_trichotomy i j with h | h | h
    · exact h
    · subst h; rw [e1] at e2; omega
    · have := hup j i h2 h1 h; rw [e1, e2] at this; omega
  · intro hij
    have := hup i j h1 h2 hij; rw [e1, e2] at this; exact this
theorem oneOrd_at (h : OneOrd L) (hc : ClosedP L q) : OneOrd (atL L q L.length) := by
  have hnd : ((atL L q L.length).map (·.id)).Nodup := h.ok.nodup.sublist (List.Sublist.map _ atL_sub)
  have hback : ∀ {a b : Nat} {e : EntD} {p : Nat}, L[a]? = some e → p ∈ e.node.ps → idxOf L p = some b → seesN L b a = true := by
    intro a b e p ha hp hb
    refine (sees_iff h.ok (List.getElem?_eq_some_iff.1 ha).1).2 ⟨b, ?_, .inr rfl⟩
    unfold kidx
    rw [parsAt_of ha]
    exact List.mem_filterMap.2 ⟨p, hp, hb⟩
  have hpar : ∀ (i a : Nat) (e : EntD), (atI L q L.length)[i]? = some a → L[a]? = some e → q a → ∀ p ∈ e.node.ps, ∃ k b e2, k < i ∧ (atI L q L.length)[k]? = some b ∧ L[b]? = some e2 ∧ e2.id = p ∧ (atL L q L.length)[k]? = some e2 := by
    intro i a e hi ha hqa p hp
    obtain ⟨b, hba, hb⟩ := h.ok.par a e ha p hp
    obtain ⟨e2, he2, hid⟩ := idxOf_some hb
    have hqb := hc b a hqa (hback ha hp hb)
    have hm : b ∈ atI L q L.length := atI_mem.2 ⟨(List.getElem?_eq_some_iff.1 he2).1, hqb⟩
    obtain ⟨k, hk⟩ := List.getElem?_of_mem hm
    exact ⟨k, b, e2, (atI_lt hk hi).1 hba, hk, he2, hid, by rw [atL_get, hk]; exact he2⟩
  refine ⟨⟨hnd, fun e he => h.ok.node e (atL_sub.subset he), Nat.le_trans atL_sub.length_le h.ok.most, fun i e he p hp => ?_⟩, ?_, fun e he => ?_⟩
  · obtain ⟨a, ha, hae, hqa⟩ := atL_at he
    obtain ⟨k, b, e2, hk, hkb, hb, hid, hke⟩ := hpar i a e ha hae hqa p hp
    exact ⟨k, hk, by rw [← hid]; exact idxOf_of hnd hke⟩
  · intro i j ei ej hij hi hj hps
    obtain ⟨a, ha, hae, _⟩ := atL_at hi
    obtain ⟨b, hb, hbe, _⟩ := atL_at hj
    refine h.greedy a b ei ej ((atI_lt ha hb).2 hij) hae hbe fun p hp => ?_
    obtain ⟨k, hk, hkp⟩ := hps p hp
    obtain ⟨e2, he2, hid⟩ := idxOf_some hkp
    obtain ⟨c, hc2, hce, _⟩ := atL_at he2
    exact ⟨c, (atI_lt hc2 ha).2 hk, by rw [← hid]; exact idxOf_of h.ok.nodup hce⟩
  · rw [h.clk e (atL_sub.subset he)]
    congr 1
    refine mcl_congr fun p hp => ?_
    obtain ⟨i, hi⟩ := List.getElem?_of_mem he
    obtain ⟨a, ha, hae, hqa⟩ := atL_at hi
    obtain ⟨k, b, e2, _, _, hb, hid, hke⟩ := hpar i a e ha hae hqa p hp
    rw [← hid, clAt_mem h.ok.nodup (List.mem_of_getElem? hb), clAt_mem hnd (List.mem_of_getElem? hke)]
end
/-! ### under some heads -/
/-- is the entry i one of these, or seen by one? -/
def inH (L : List EntD) (hs : List Nat) (i : Nat) : Prop := ∃ h ∈ hs, ∃ k ∈ idxOf L h, i = k ∨ seesN L i k = true
instance (L : List EntD) (hs : List Nat) : DecidablePred (inH L hs) := fun i => by unfold inH; infer_instance
def allH (L : List EntD) (hs : List Nat) : Prop := ∀ h ∈ hs, idxOf L h ≠ none
instance (L : List EntD) (hs : List Nat) : Decidable (allH L hs) := by unfold allH; infer_instance
theorem inH_closed {L : List EntD} (ho : OrdOk L) (hs : List Nat) : ClosedP L (inH L hs) := by
  rintro i j ⟨h, hh, k, hk, h1⟩ hij
  refine ⟨h, hh, k, hk, .inr ?_⟩
  rcases h1 with rfl | h1
  · exact hij
  · exact sees_trans ho _ _ _ hij h1
theorem inH_nil (L : List EntD) (i : Nat) : ¬ inH L [] i := by rintro ⟨h, hh, _⟩; simp at hh
theorem inH_snoc {L : List EntD} {hs : List Nat} {h k : Nat} (hk : idxOf L h = some k) (i : Nat) : inH L (hs ++ [h]) i ↔ inH L hs i ∨ (i = k ∨ seesN L i k = true) := by
  unfold inH
  constructor
  · rintro ⟨x, hx, k', hk', h1⟩
    rcases List.mem_append.1 hx with hx | hx
    · exact .inl ⟨x, hx, k', hk', h1⟩
    · simp at hx; subst hx
      have : k' = k := by have h2 : idxOf L x = some k' := hk'; rw [hk] at h2; cases h2; rfl
      subst this; exact .inr h1
  · rintro (⟨x, hx, r⟩ | h1)
    · exact ⟨x, List.mem_append_left _ hx, r⟩
    · exact ⟨h, by simp, k, hk, h1⟩
end Go.Sl
namespace Go.Sl
open Go
/-! ### texts -/
def sD (a : List ByteArray) (i : Nat) : ByteArray := a.getD i ByteArray.empty
theorem sD_some {a : List ByteArray} {i : Nat} (h : i < a.length) : a[i]? = some (sD a i) := by
  unfold sD; rw [List.getD_eq_getElem?_getD, List.getElem?_eq_getElem h]; rfl
theorem drop_sD {a : List ByteArray} {i : Nat} (h : i < a.length) : a.drop i = sD a i :: a.drop (i + 1) := by
  rw [List.drop_eq_getElem_cons h]; congr 1; unfold sD; rw [List.getD_eq_getElem?_getD, List.getElem?_eq_getElem h]; rfl
theorem str_rd {σ : View} {b off n cap : Nat} {ad : Option Addr} {a : List ByteArray} (h : Strs σ (.slice ad n cap) a) (e : 0 < a.length → ad = some ⟨b, off, none⟩) {i : Nat} (hi : i < a.length) : RdV σ b (off + i * 1) [.string (sD a i)] ∧ StrOk (sD a i) := by
  obtain ⟨b2, off2, e2, hat⟩ := h.rds
  have h1 := e (by omega)
  rw [e2 (by omega)] at h1
  cases h1
  obtain ⟨vs, _, _, ⟨rfl, hk⟩, hr⟩ := hat i _ (sD_some hi)
  exact ⟨hr, hk⟩
theorem mergeS_drop {a b : List ByteArray} {i k : Nat} (hx : i < a.length) (hy : k < b.length) :
    List.merge (a.drop i) (b.drop k) leB = if leB (sD a i) (sD b k) then sD a i :: List.merge (a.drop (i + 1)) (b.drop k) leB else sD b k :: List.merge (a.drop i) (b.drop (k + 1)) leB := by
  rw [drop_sD hx, drop_sD hy, List.cons_merge_cons]
theorem mergeS_left {a b : List ByteArray} {i k : Nat} (hx : i < a.length) (hk : b.length ≤ k) :
    List.merge (a.drop i) (b.drop k) leB = sD a i :: List.merge (a.drop (i + 1)) (b.drop k) leB := by
  rw [List.drop_eq_nil_of_le hk, List.merge_right, List.merge_right, drop_sD hx]
theorem mergeS_right {a b : List ByteArray} {i k : Nat} (hy : k < b.length) (hi : a.length ≤ i) :
    List.merge (a.drop i) (b.drop k) leB = sD b k :: List.merge (a.drop i) (b.drop (k + 1)) leB := by
  rw [List.drop_eq_nil_of_le hi, List.nil_merge, List.nil_merge, drop_sD hy]
theorem row_nilS (σ : View) (b : Nat) : SlO σ eStr 9 1 (.slice (some ⟨b, 0, none⟩) 0 0) ([] : List ByteArray) [(b, rowO 9 [])] := SlO.row (b := b) (ElR.nil (σ := σ) (E := eStr) (sz := 1))
/-! ### keys -/
def isKind (kl kh : Int) (o : OpD) : Bool := decide (kl ≤ o.kind ∧ o.kind ≤ kh)
def keysOf (S : List (Nat × OpD)) : List ByteArray := S.map (·.2.key)
theorem keysOf_app (a b : List (Nat × OpD)) : keysOf (a ++ b) = keysOf a ++ keysOf b := List.map_append
theorem keysR_eq (L : List EntD) (p : OpD → Bool) : keysR L p = dedup (textsL (keysOf (opsN L p L.length))) := rfl
theorem dedup_take {A : List ByteArray} {i : Nat} (hi : i < A.length) : dedup (A.take (i + 1)) = if i = 0 ∨ sD A i ≠ sD A (i - 1) then dedup (A.take i) ++ [sD A i] else dedup (A.take i) := by
  rw [List.take_add_one, sD_some hi]
  simp only [Option.toList_some]
  rw [dedup_snoc]
  by_cases h0 : i = 0
  · subst h0; simp
  · have hl : (A.take i).getLast? = some (sD A (i - 1)) := by
      rw [List.getLast?_eq_getElem?, List.length_take, Nat.min_eq_left (by omega), List.getElem?_take_of_lt (by omega), sD_some (by omega)]
    rw [hl]
    by_cases hx : sD A i = sD A (i - 1)
    · simp [h0, hx]
    · simp [h0, hx, Ne.symm hx]
theorem dedup_len : ∀ (l : List ByteArray), (dedup l).length ≤ l.length
  | [] => by simp [dedup]
  | [a] => by simp [dedup]
  | a :: b :: r => by
    have ih := dedup_len (b :: r)
    simp only [dedup]
    split
    · simp only [List.length_cons] at ih ⊢; omega
    · simp only [List.length_cons] at ih ⊢; omega
theorem keysR_reg (L : List EntD) : keysR L (isKind 1 2) = keysR L isReg := by
  rw [keysR_eq, keysR_eq, opsN_congr (q := isReg)]
  intro o
  unfold isKind isReg
  rw [Bool.eq_iff_iff]
  simp only [decide_eq_true_eq]
  omega
theorem opsN_keyOk {L : List EntD} {p : OpD → Bool} {n : Nat} (h : ∀ i, ∀ o ∈ opsAt L i, StrOk o.key) : ∀ x ∈ opsN L p n, StrOk x.2.key := fun x hx => h _ _ (opsN_fst hx).2.2
/-! ### is an operation put over? -/
theorem overB_step {L : List EntD} {i q : Nat} {r : List (Nat × OpD)} {x : Nat × OpD} (h : r[q]? = some x) : overB L i (r.take (q + 1)) = (overB L i (r.take q) || (decide (x.1 = i) || seesN L i x.1)) := by
  unfold overB
  rw [List.take_add_one, h]
  simp
theorem overB_zero (L : List EntD) (i : Nat) (r : List (Nat × OpD)) : overB L i (r.take 0) = false := by simp [overB]
theorem overB_mono {L : List EntD} {i q : Nat} {r : List (Nat × OpD)} (h : overB L i (r.take q) = true) : overB L i r = true := by
  unfold overB at h ⊢
  rw [List.any_eq_true] at h ⊢
  obtain ⟨x, hx, hp⟩ := h
  exact ⟨x, List.mem_of_mem_take hx, hp⟩
theorem heldS_cons (L : List EntD) (x : Nat × OpD) (r : List (Nat × OpD)) : heldS L (x :: r) = (if x.2.kind = 1 ∧ overB L x.1 r = false then [x.2.text] else []) ++ heldS L r := rfl
theorem regHeld_trips (L : List EntD) (key : ByteArray) : regHeld L key = heldS L ((tripsN L (isKey key 1 2) L.length).map tOp) := by
  unfold regHeld; rw [keyOps_reg, tripsN_ops]
theorem heldS_drop {L : List EntD} {T : List Trip} {i : Nat} {t : Trip} (h : T[i]? = some t) : heldS L ((T.map tOp).drop i) = (if t.2.2.kind = 1 ∧ overB L t.1 ((T.map tOp).drop (i + 1)) = false then [t.2.2.text] else []) ++ heldS L ((T.map tOp).drop (i + 1)) := by
  have h1 : (T.map tOp)[i]? = some (tOp t) := by simp [h]
  obtain ⟨hlt, he⟩ := List.getElem?_eq_some_iff.1 h1
  rw [List.drop_eq_getElem_cons hlt, he, heldS_cons]; rfl
theorem heldS_done {L : List EntD} {T : List Trip} {i : Nat} (h : T.length ≤ i) : heldS L ((T.map tOp).drop i) = [] := by
  rw [List.drop_eq_nil_of_le (by simpa using h)]; rfl
theorem filter_take_step {A : List ByteArray} {p : ByteArray → Bool} {i : Nat} (hi : i < A.length) : (A.take (i + 1)).filter p = (A.take i).filter p ++ (if p (sD A i) then [sD A i] else []) := by
  rw [List.take_add_one, sD_some hi, List.filter_append]
  simp only [Option.toList_some]
  cases hp : p (sD A i) <;> simp [hp]
end Go.Sl
namespace Go.Sl
open Go
/-! ### a history of one entry -/
def kB : ByteArray := ⟨#[107]⟩
def oneB : ByteArray := ⟨#[49]⟩
def lB : ByteArray := ⟨#[108]⟩
def op0 : OpD := ⟨1, kB, oneB, 0, 0, 0⟩
def e0 : EntD := ⟨2 ^ 248, ⟨1, 1, [], [op0]⟩⟩
theorem opsErr0 : (opsErr [op0]).1 = 0 := by
  unfold opsErr
  rw [if_neg (by decide), opsErrFrom, dif_pos (by decide), if_neg (by decide), opsErrFrom, dif_neg (by decide)]
theorem nodeErr0 : nodeErr e0.node = 0 := by
  unfold nodeErr
  rw [if_neg (by decide), if_neg (by decide), if_neg (by decide)]
  exact opsErr0
theorem right0 : (rightErr [e0]).1 = 0 := by
  unfold rightErr
  rw [err1_at (e := e0) rfl, if_neg (by decide), if_neg (by rw [nodeErr0]; decide), if_neg (by simp [idxOf]), err1_end (by simp), err2_at (e := e0) rfl, if_neg, err2_end (by simp)]
  unfold parErr
  rw [if_neg (by simp [e0]), if_neg (by simp [e0, mcl])]
  decide
theorem good0 : GoodE [e0] := good_of_right right0
theorem ordE_single {e : EntD} (hg : GoodE [e]) : ordE [e] = [e] := by
  have hl := ordE_len hg
  match h : ordE [e], hl with
  | [x], _ =>
    have hx : x ∈ ordE [e] := by rw [h]; simp
    obtain ⟨i, _, hi⟩ := List.mem_filterMap.1 hx
    have := List.mem_of_getElem? hi
    simp at this
    rw [this]
theorem held_k : regHeld [e0] kB = [oneB] := by rfl
theorem held_l : regHeld [e0] lB = [] := by rfl
theorem keys_0 : regKeys [e0] = [kB] := by
  unfold regKeys keysR
  rw [textsL_one (by decide)]
  rfl
end Go.Sl
namespace Go.Sl
open Go
/-- the counters that do not come to nothing -/
def cntKeys (L : List EntD) : List ByteArray := (keysR L (isKind 6 7)).filter fun k => decide (cntV L k ≠ 0)
/-! ### the two histories whose counters the document fixes -/
def opA : OpD := ⟨6, kB, ByteArray.empty, 5, 0, 0⟩
def opB1 : OpD := ⟨7, kB, ByteArray.empty, 0, 0, 0⟩
def opB2 : OpD := ⟨6, kB, ByteArray.empty, 2, 0, 0⟩
def fA : EntD := ⟨2 ^ 248, ⟨1, 1, [], [opA]⟩⟩
def fB : EntD := ⟨2 ^ 249, ⟨1, 2, [2 ^ 248], [opB1, opB2]⟩⟩
theorem opsErrA : (opsErr [opA]).1 = 0 := by
  unfold opsErr
  rw [if_neg (by decide), opsErrFrom, dif_pos (by decide), if_neg (by decide), opsErrFrom, dif_neg (by decide)]
theorem opsErrB : (opsErr [opB1, opB2]).1 = 0 := by
  unfold opsErr
  rw [if_neg (by decide), opsErrFrom, dif_pos (by decide), if_neg (by decide), opsErrFrom, dif_pos (by decide), if_neg (by decide), opsErrFrom, dif_neg (by decide)]
theorem nodeErrA : nodeErr fA.node = 0 := by
  unfold nodeErr
  rw [if_neg (by decide), if_neg (by decide), if_neg (by decide)]
  exact opsErrA
theorem nodeErrB : nodeErr fB.node = 0 := by
  unfold nodeErr
  rw [if_neg (by decide), if_neg (by decide), if_neg (by decide)]
  exact opsErrB
theorem rightA : (rightErr [fA]).1 = 0 := by
  rw [right_of (by decide) (by intro e he; simp at he; subst he; exact nodeErrA) (by simp)]
  intro e he
  simp at he; subst he
  rfl
theorem rightB : (rightErr [fB, fA]).1 = 0 := by
  rw [right_of (by decide) (by intro e he; simp at he; rcases he with rfl | rfl; exact nodeErrB; exact nodeErrA) (by decide)]
  intro e he
  simp at he
  rcases he with rfl | rfl
  · rfl
  · rfl
theorem goodA : GoodE [fA] := good_of_right rightA
theorem goodB : GoodE [fB, fA] := good_of_right rightB
theorem ordA : ordE [fA] = [fA] := ordE_single goodA
theorem ordB : ordE [fB, fA] = [fA, fB] := by
  have hp := ordE_perm goodB
  have hl := ordE_len goodB
  have ho := ordE_ok goodB
  match h : ordE [fB, fA], hl with
  | [x, y], _ =>
    rw [h] at hp ho
    have hx : x ∈ [fB, fA] := hp.mem_iff.1 (by simp)
    have hxA : x = fA := by
      simp only [List.mem_cons, List.not_mem_nil, or_false] at hx
      rcases hx with rfl | rfl
      · obtain ⟨k, hk, _⟩ := ho.par 0 fB rfl (2 ^ 248) (by simp [fB])
        omega
      · rfl
    subst hxA
    have hp2 : [fA, y].Perm [fA, fB] := hp.trans (List.Perm.swap _ _ _)
    have := List.perm_singleton.1 ((List.perm_cons _).1 hp2)
    rw [this]
theorem okA : OrdOk [fA] := by have := ordE_ok goodA; rwa [ordA] at this
theorem okB : OrdOk [fA, fB] := by have := ordE_ok goodB; rwa [ordB] at this
theorem cntA_k : cntV [fA] kB = 5 := by rfl
theorem cntB_k : cntV [fA, fB] kB = 2 := by rfl
theorem opA_ok : opA.ok := ⟨by unfold I64; decide, by unfold StrOk; decide, by unfold StrOk; decide, by unfold I64; decide, isH0, by unfold I64; decide⟩
theorem opB1_ok : opB1.ok := ⟨by unfold I64; decide, by unfold StrOk; decide, by unfold StrOk; decide, by unfold I64; decide, isH0, by unfold I64; decide⟩
theorem opB2_ok : opB2.ok := ⟨by unfold I64; decide, by unfold StrOk; decide, by unfold StrOk; decide, by unfold I64; decide, isH0, by unfold I64; decide⟩
theorem idA_isH : IsH (2 ^ 248) := by unfold IsH HashMax; exact Nat.pow_lt_pow_right (by decide) (by decide)
theorem idB_isH : IsH (2 ^ 249) := by unfold IsH HashMax; exact Nat.pow_lt_pow_right (by decide) (by decide)
end Go.Sl
namespace Go.Sl
open Go
/-! ### a history of two, whose order is not that of their hashes -/
def gA : EntD := ⟨2 ^ 249, ⟨1, 1, [], []⟩⟩
def gB : EntD := ⟨2 ^ 248, ⟨2, 2, [2 ^ 249], []⟩⟩
theorem opsErr_nil : (opsErr []).1 = 0 := by
  unfold opsErr
  rw [if_neg (by decide), opsErrFrom, dif_neg (by decide)]
theorem nodeErr_gA : nodeErr gA.node = 0 := by
  unfold nodeErr
  rw [if_neg (by decide), if_neg (by decide), if_neg (by decide)]
  exact opsErr_nil
theorem nodeErr_gB : nodeErr gB.node = 0 := by
  unfold nodeErr
  rw [if_neg (by decide), if_neg (by decide), if_neg (by decide)]
  exact opsErr_nil
theorem right_g : (rightErr [gB, gA]).1 = 0 := by
  rw [right_of (by decide) (by intro e he; simp at he; rcases he with rfl | rfl; exact nodeErr_gB; exact nodeErr_gA) (by decide)]
  intro e he
  simp at he
  rcases he with rfl | rfl
  · rfl
  · rfl
theorem good_g : GoodE [gB, gA] := good_of_right right_g
theorem ord_g : ordE [gB, gA] = [gA, gB] := by
  have hp := ordE_perm good_g
  have hl := ordE_len good_g
  have ho := ordE_ok good_g
  match h : ordE [gB, gA], hl with
  | [x, y], _ =>
    rw [h] at hp ho
    have hx : x ∈ [gB, gA] := hp.mem_iff.1 (by simp)
    have hxA : x = gA := by
      simp only [List.mem_cons, List.not_mem_nil, or_false] at hx
      rcases hx with rfl | rfl
      · obtain ⟨k, hk, _⟩ := ho.par 0 gB rfl (2 ^ 249) (by simp [gB])
        omega
      · rfl
    subst hxA
    have hp2 : [gA, y].Perm [gA, gB] := hp.trans (List.Perm.swap _ _ _)
    have := List.perm_singleton.1 ((List.perm_cons _).1 hp2)
    rw [this]
theorem ok_g : OrdOk [gA, gB] := by have := ordE_ok good_g; rwa [ord_g] at this
theorem sees01_g : seesN [gA, gB] 0 1 = true := by rfl
theorem sees10_g : ¬ seesN [gA, gB] 1 0 = true := fun h => by have := sees_lt ok_g h; omega
theorem num_g : numV (idxOf [gA, gB] (2 ^ 248)) = 1 := by rfl
theorem heads_g : headsL [gA, gB] = [2 ^ 248] := by
  have h1 : rankL [gA, gB] 0 2 = [1, 0] := by
    rw [rankL_more (by decide) (by decide), rankL_one (by decide), rankL_one (by decide)]
    show List.merge [0] [1] (leId [gA, gB]) = [1, 0]
    rw [List.cons_merge_cons, if_neg (by decide), List.merge_right]
  unfold headsL
  rw [show [gA, gB].length = 2 from rfl, h1]
  rfl
theorem i1 : I64 1 := by unfold I64; decide
theorem i2 : I64 2 := by unfold I64; decide
end Go.Sl
