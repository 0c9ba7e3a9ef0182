/-
  The plain law: what entries, histories and their one order are, without a program in sight.
-/
import Derived.Test.YtgoooilgmabkmaaPa
set_option linter.unusedVariables false
set_option linter.unusedSimpArgs false
set_option linter.unusedSectionVars false
namespace Go.Sl
open Go
/-! ### whatever the order in which entries are handed in, it is the same history -/
theorem right_perm {l m : List EntD} (h0 : (rightErr l).1 = 0) (hp : m.Perm l) : (rightErr m).1 = 0 := by
  have hg := good_of_right h0
  have hnd : (m.map (·.id)).Nodup := (hp.map _).nodup_iff.2 hg.nodup
  rw [right_of (by rw [hp.length_eq]; exact hg.most) (fun e he => hg.node e (hp.mem_iff.1 he)) hnd]
  intro e he
  have hz := par_zero h0 e (hp.mem_iff.1 he)
  have hall : ∀ p ∈ e.node.ps, ∃ e2 ∈ l, e2.id = p := by
    intro p hpp
    obtain ⟨k, e2, _, h2, _⟩ := hg.par e (hp.mem_iff.1 he) p hpp
    obtain ⟨k', e3, h3, h4, _⟩ := hg.par e (hp.mem_iff.1 he) p hpp
    obtain ⟨e4, h5, h6⟩ := idxOf_some h3
    exact ⟨e4, List.mem_of_getElem? h5, h6⟩
  unfold parErr at hz ⊢
  split at hz
  · cases hz
  · split at hz
    · cases hz
    · rename_i h1 h2
      rw [if_neg, if_neg]
      · rw [mcl_congr (b := l) fun p hpp => ?_]
        · exact h2
        · obtain ⟨e2, he2, rfl⟩ := hall p hpp
          rw [clAt_mem hnd (hp.mem_iff.2 he2), clAt_mem hg.nodup he2]
      · rintro ⟨p, hpp, hn⟩
        obtain ⟨e2, he2, hid⟩ := hall p hpp
        exact idxOf_none.1 hn e2 (hp.mem_iff.2 he2) hid
theorem oneOrd_unique {a b : List EntD} (ha : OneOrd a) (hb : OneOrd b) (hp : a.Perm b) : a = b := by
  have hlen := hp.length_eq
  have key : ∀ n, n ≤ a.length → ∀ i, i < n → a[i]? = b[i]? := by
    intro n
    induction n with
    | zero => intro _ i hi; omega
    | succ n ih =>
      intro hn i hi
      by_cases hin : i < n
      · exact ih (by omega) i hin
      · have : i = n := by omega
        subst this
        have hpre := ih (by omega)
        have hx : a[i]? = some a[i] := List.getElem?_eq_getElem (by omega)
        have hy : b[i]? = some (b[i]'(by omega)) := List.getElem?_eq_getElem (by omega)
        -- where each stands in the other
        have half : ∀ {u v : List EntD} (hu : OneOrd u) (hv : OneOrd v) (hm : ∀ e, e ∈ u → e ∈ v) (hpre : ∀ k, k < i → u[k]? = v[k]?) {x y : EntD}, u[i]? = some x → v[i]? = some y → y.id ≤ x.id := by
          intro u v hu hv hm hpre x y hx hy
          obtain ⟨j, hj⟩ := List.getElem?_of_mem (hm x (List.mem_of_getElem? hx))
          by_cases hji : j < i
          · have h1 := hpre j hji
            rw [hj] at h1
            obtain ⟨q1, e1⟩ := List.getElem?_eq_some_iff.1 h1
            obtain ⟨q2, e2⟩ := List.getElem?_eq_some_iff.1 hx
            have f1 := idxOf_of hu.ok.nodup h1
            have f2 := idxOf_of hu.ok.nodup hx
            rw [f1] at f2; cases f2; omega
          · by_cases hje : j = i
            · subst hje; rw [hj] at hy; cases hy; exact Nat.le_refl _
            · refine hv.greedy i j y x (by omega) hy hj fun p hp => ?_
              obtain ⟨k, hk, h1⟩ := hu.ok.par i x hx p hp
              obtain ⟨e2, h2, h3⟩ := idxOf_some h1
              rw [hpre k hk] at h2
              exact ⟨k, hk, by rw [← h3]; exact idxOf_of hv.ok.nodup h2⟩
        have h1 := half ha hb (fun e he => hp.mem_iff.1 he) hpre hx hy
        have h2 := half hb ha (fun e he => hp.mem_iff.2 he) (fun k hk => (hpre k hk).symm) hy hx
        have hid : a[i].id = (b[i]'(by omega)).id := by omega
        have hm : a[i] ∈ b := hp.mem_iff.1 (List.getElem_mem _)
        obtain ⟨j, hj⟩ := List.getElem?_of_mem hm
        have f1 := idxOf_of hb.ok.nodup hj
        have f2 := idxOf_of hb.ok.nodup hy
        rw [← hid, f1] at f2
        cases f2
        rw [hx, ← hj]
  apply List.ext_getElem?
  intro i
  by_cases hi : i < a.length
  · exact key (i + 1) hi i (by omega)
  · rw [List.getElem?_eq_none (by omega), List.getElem?_eq_none (by omega)]
theorem ordE_perm2 {l m : List EntD} (h0 : (rightErr l).1 = 0) (hp : m.Perm l) : ordE m = ordE l := by
  have h1 := right_perm h0 hp
  exact oneOrd_unique (oneOrd_ordE h1) (oneOrd_ordE h0) ((ordE_perm (good_of_right h1)).trans (hp.trans (ordE_perm (good_of_right h0)).symm))
/-! ### a permutation, as it is picked -/
/-- the numbers that are taken, in the order in which they come up -/
def picks (n : Nat) : List Int → List Nat
  | l => l.foldl (fun acc x => if 0 ≤ x ∧ x < (n : Int) ∧ x.toNat ∉ acc then acc ++ [x.toNat] else acc) []
theorem picks_snoc (n : Nat) (l : List Int) (x : Int) : picks n (l ++ [x]) = if 0 ≤ x ∧ x < (n : Int) ∧ x.toNat ∉ picks n l then picks n l ++ [x.toNat] else picks n l := by
  unfold picks; rw [List.foldl_append]; rfl
theorem picks_take {n : Nat} {l : List Int} {i : Nat} {x : Int} (h : l[i]? = some x) : picks n (l.take (i + 1)) = if 0 ≤ x ∧ x < (n : Int) ∧ x.toNat ∉ picks n (l.take i) then picks n (l.take i) ++ [x.toNat] else picks n (l.take i) := by
  rw [List.take_add_one, h, Option.toList_some, picks_snoc]
theorem picks_ok (n : Nat) (l : List Int) : (picks n l).Nodup ∧ ∀ i ∈ picks n l, i < n := by
  refine snoc_ind (p := fun l => (picks n l).Nodup ∧ ∀ i ∈ picks n l, i < n) ⟨by simp [picks], by simp [picks]⟩ ?_ l
  intro l x ih
  rw [picks_snoc]
  split
  · rename_i h
    refine ⟨List.nodup_append.2 ⟨ih.1, by simp, fun a ha b hb hab => ?_⟩, fun i hi => ?_⟩
    · simp at hb; subst hb; subst hab; exact h.2.2 ha
    · rcases List.mem_append.1 hi with hi | hi
      · exact ih.2 i hi
      · simp at hi; omega
  · exact ih
/-- .. and the others, in their order -/
def restN (n : Nat) (U : List Nat) : List Nat := (List.range n).filter fun i => decide (i ∉ U)
theorem restN_zero (U : List Nat) : restN 0 U = [] := rfl
theorem restN_succ (n : Nat) (U : List Nat) : restN (n + 1) U = restN n U ++ (if n ∉ U then [n] else []) := by
  unfold restN
  rw [List.range_succ, List.filter_append]
  congr 1
  by_cases h : n ∈ U <;> simp [h]
theorem restN_len (n : Nat) (U : List Nat) : (restN n U).length ≤ n := by
  unfold restN
  refine Nat.le_trans (List.length_filter_le _ _) ?_
  simp
theorem picks_perm {n : Nat} {U : List Nat} (h : U.Nodup) (hb : ∀ i ∈ U, i < n) : (U ++ restN n U).Perm (List.range n) := by
  refine (List.perm_ext_iff_of_nodup ?_ List.nodup_range).2 fun i => ?_
  · refine List.nodup_append.2 ⟨h, List.nodup_range.sublist List.filter_sublist, fun a ha b hb2 hab => ?_⟩
    subst hab
    have := (List.mem_filter.1 hb2).2
    simp at this; exact this ha
  · rw [List.mem_append, List.mem_range]
    unfold restN
    rw [List.mem_filter, List.mem_range, decide_eq_true_eq]
    constructor
    · rintro (h1 | h1)
      · exact hb i h1
      · exact h1.1
    · intro h1
      by_cases h2 : i ∈ U
      · exact .inl h2
      · exact .inr ⟨h1, h2⟩
theorem nodup_len_le {U : List Nat} {n : Nat} (h : U.Nodup) (hb : ∀ i ∈ U, i < n) : U.length ≤ n := by
  have := (picks_perm h hb).length_eq
  rw [List.length_append, List.length_range] at this; omega
/-- entries by their numbers -/
def byN (l : List EntD) (is : List Nat) : List EntD := is.filterMap (l[·]?)
theorem byN_snoc {l : List EntD} {is : List Nat} {i : Nat} {e : EntD} (h : l[i]? = some e) : byN l (is ++ [i]) = byN l is ++ [e] := by
  unfold byN; rw [List.filterMap_append]; simp [h]
theorem byN_len (l : List EntD) (is : List Nat) : (byN l is).length ≤ is.length := List.length_filterMap_le _ _
theorem byN_perm {l : List EntD} {U : List Nat} (h : U.Nodup) (hb : ∀ i ∈ U, i < l.length) : (byN l (U ++ restN l.length U)).Perm l := by
  have h1 := (picks_perm h hb).filterMap (l[·]?)
  rwa [range_all] at h1
end Go.Sl
