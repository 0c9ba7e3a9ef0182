/-
  The plain law: what entries, histories, their one order, registers and their keys are, without a program in sight.
-/
import Derived.Test.YtgoooilgmabkmaaGreatPa
set_option linter.unusedVariables false
set_option linter.unusedSimpArgs false
set_option linter.unusedSectionVars false
namespace Go.Sl
open Go
/-! ### the one order by its definition, and its closed parts -/
/-- none behind that could stand here has a lesser hash -/
def Greedy (L : List EntD) : Prop := ∀ (i j : Nat) (ei ej : EntD), i < j → L[i]? = some ei → L[j]? = some ej → (∀ p ∈ ej.node.ps, ∃ k, k < i ∧ idxOf L p = some k) → ei.id ≤ ej.id
structure OneOrd (L : List EntD) : Prop where
  ok : OrdOk L
  greedy : Greedy L
  clk : ∀ e ∈ L, e.node.cl = mcl L e.node.ps + 1
theorem clAt_mem {b : List EntD} (hd : (b.map (·.id)).Nodup) {e : EntD} (he : e ∈ b) : clAt b e.id = e.node.cl := by
  obtain ⟨k, hk⟩ := List.getElem?_of_mem he
  unfold clAt
  rw [idxOf_of hd hk]
  simp only [Option.bind_some, hk]
theorem mcl_congr {a b : List EntD} {ps : List Nat} (h : ∀ p ∈ ps, clAt a p = clAt b p) : mcl a ps = mcl b ps := by
  unfold mcl
  have : ∀ (ps : List Nat) (m : Int), (∀ p ∈ ps, clAt a p = clAt b p) → ps.foldl (fun m p => max m (clAt a p)) m = ps.foldl (fun m p => max m (clAt b p)) m := by
    intro ps
    induction ps with
    | nil => intro m _; rfl
    | cons p ps ih =>
      intro m hp
      simp only [List.foldl_cons]
      rw [hp p (by simp), ih _ (fun q hq => hp q (by simp [hq]))]
  exact this ps 0 h
theorem ordE_greedy {l : List EntD} (hg : GoodE l) : Greedy (ordE l) := by
  intro i j ei ej hij hi hj hps
  have hL := ordE_len hg
  have hjl : j < l.length := by rw [← hL]; exact (List.getElem?_eq_some_iff.1 hj).1
  obtain ⟨oi, hn⟩ := next_ex hg (show i < l.length by omega)
  have hat := ordN_at hg (by omega) hn
  rw [ordE_get, hat] at hi
  have hi' : l[oi]? = some ei := hi
  obtain ⟨oj, hnj⟩ := next_ex hg hjl
  have hatj := ordN_at hg hjl hnj
  rw [ordE_get, hatj] at hj
  have hj' : l[oj]? = some ej := hj
  have hnd : (ordOf l).Nodup := (ordN_ok (l := l) l.length).1
  have hr : readyB l (ordN l i) oj = true := by
    refine readyB_iff.2 ⟨(List.getElem?_eq_some_iff.1 hj').1, fun hm => ?_, lackN_zero.2 fun p hp => ?_⟩
    · obtain ⟨k, hk⟩ := List.getElem?_of_mem hm
      have hki : k < i := by have := (List.getElem?_eq_some_iff.1 hk).1; rw [ordN_len hg i (by omega)] at this; exact this
      have hk2 : (ordOf l)[k]? = some oj := by unfold ordOf; rw [ordN_prefix hg l.length i k (by omega) (Nat.le_refl _) hki]; exact hk
      obtain ⟨h1, e1⟩ := List.getElem?_eq_some_iff.1 hk2
      obtain ⟨h2, e2⟩ := List.getElem?_eq_some_iff.1 hatj
      exact absurd (e1.trans e2.symm) (List.pairwise_iff_getElem.1 hnd k j h1 h2 (by omega))
    · rw [parsAt_of hj'] at hp
      obtain ⟨k, hki, hk⟩ := hps p hp
      obtain ⟨e2, he2, hid⟩ := idxOf_some hk
      rw [ordE_get] at he2
      cases hok : (ordOf l)[k]? with
      | none => rw [hok] at he2; cases he2
      | some k0 =>
        rw [hok] at he2
        have he2' : l[k0]? = some e2 := he2
        unfold inOut
        rw [← hid, idxOf_of hg.nodup he2']
        have : (ordN l i)[k]? = some k0 := by rw [← ordN_prefix hg l.length i k (by omega) (Nat.le_refl _) hki]; exact hok
        simpa using List.mem_of_getElem? this
  have := (nextR_some hn).2 oj hr
  rwa [idAt_of hi', idAt_of hj'] at this
theorem oneOrd_ordE {l : List EntD} (h0 : (rightErr l).1 = 0) : OneOrd (ordE l) := by
  have hg := good_of_right h0
  have hok := ordE_ok hg
  refine ⟨hok, ordE_greedy hg, fun e he => ?_⟩
  have hel := (mem_ordE hg).1 he
  have hp := par_zero h0 e hel
  unfold parErr at hp
  split at hp
  · cases hp
  · split at hp
    · cases hp
    · rename_i h1 h2
      have h3 : e.node.cl = mcl l e.node.ps + 1 := Decidable.not_not.1 h2
      rw [h3]
      congr 1
      refine mcl_congr fun p hpp => ?_
      obtain ⟨k, e2, k1, k2, _⟩ := hg.par e hel p hpp
      obtain ⟨e3, k3, k4⟩ := idxOf_some k1
      rw [k2] at k3; cases k3
      rw [← k4, clAt_mem hg.nodup (List.mem_of_getElem? k2), clAt_mem hok.nodup ((mem_ordE hg).2 (List.mem_of_getElem? k2))]
theorem OneOrd.good {L : List EntD} (h : OneOrd L) : GoodE L := by
  refine ⟨h.ok.nodup, h.ok.node, h.ok.most, fun e he p hp => ?_⟩
  obtain ⟨i, hi⟩ := List.getElem?_of_mem he
  obtain ⟨k, hk, h1⟩ := h.ok.par i e hi p hp
  obtain ⟨e2, h2, h3⟩ := idxOf_some h1
  refine ⟨k, e2, h1, h2, ?_⟩
  have h4 := le_mcl (l := L) hp
  rw [← h3, clAt_mem h.ok.nodup (List.mem_of_getElem? h2)] at h4
  rw [h.clk e he]; omega
theorem OneOrd.right {L : List EntD} (h : OneOrd L) : (rightErr L).1 = 0 := by
  rw [right_of h.ok.most h.ok.node h.ok.nodup]
  intro e he
  unfold parErr
  rw [if_neg, if_neg (fun hc => hc (h.clk e he))]
  rintro ⟨p, hp, hn⟩
  obtain ⟨k, _, h1, _⟩ := h.good.par e he p hp
  rw [h1] at hn; cases hn
theorem OneOrd.fix {L : List EntD} (h : OneOrd L) : ordE L = L := by
  have hg := h.good
  have key : ∀ n, n ≤ L.length → ordN L n = List.range n := by
    intro n
    induction n with
    | zero => intro _; rfl
    | succ n ih =>
      intro hn
      have ih := ih (by omega)
      have he : L[n]? = some L[n] := List.getElem?_eq_getElem hn
      have hnx : nextR L (ordN L n) = some n := by
        rw [ih]
        refine nextR_of hg.nodup (readyB_iff.2 ⟨hn, by simp, lackN_zero.2 fun p hp => ?_⟩) fun j hj => ?_
        · rw [parsAt_of he] at hp
          obtain ⟨k, hk, h1⟩ := h.ok.par n _ he p hp
          unfold inOut; rw [h1]; simpa using hk
        · obtain ⟨j1, j2, j3⟩ := readyB_iff.1 hj
          have hnj : n ≤ j := by simpa using j2
          by_cases hne : j = n
          · subst hne; exact Nat.le_refl _
          · have hje : L[j]? = some L[j] := List.getElem?_eq_getElem j1
            rw [idAt_of he, idAt_of hje]
            refine h.greedy n j _ _ (by omega) he hje fun p hp => ?_
            have := lackN_zero.1 j3 p (by rw [parsAt_of hje]; exact hp)
            unfold inOut at this
            cases hx : idxOf L p with
            | none => rw [hx] at this; cases this
            | some k => rw [hx] at this; exact ⟨k, by simpa using this, rfl⟩
      rw [ordN_succ hnx, ih, List.range_succ]
  unfold ordE ordOf
  rw [key _ (Nat.le_refl _)]
  apply List.ext_getElem?
  intro k
  rw [filt_get _ k (fun i hi => List.mem_range.1 hi)]
  by_cases hk : k < L.length
  · rw [List.getElem?_range hk]; rfl
  · rw [List.getElem?_eq_none (by simpa using hk), List.getElem?_eq_none (by omega)]; rfl
/-! ### closed parts -/
def ClosedP (L : List EntD) (q : Nat → Prop) : Prop := ∀ i j, q j → seesN L i j = true → q i
section
variable {L : List EntD} {q : Nat → Prop} [DecidablePred q]
def atI (L : List EntD) (q : Nat → Prop) [DecidablePred q] (n : Nat) : List Nat := (List.range n).filter fun i => decide (q i)
def atL (L : List EntD) (q : Nat → Prop) [DecidablePred q] (n : Nat) : List EntD := (atI L q n).filterMap (L[·]?)
theorem atL_zero : atL L q 0 = [] := by simp [atL, atI]
theorem atL_succ {n : Nat} {e : EntD} (h : L[n]? = some e) : atL L q (n + 1) = atL L q n ++ (if q n then [e] else []) := by
  unfold atL atI
  rw [List.range_succ, List.filter_append, List.filterMap_append]
  congr 1
  by_cases hq : q n
  · simp [hq, h]
  · simp [hq]
theorem atL_len (n : Nat) : (atL L q n).length ≤ n := by
  unfold atL atI
  refine Nat.le_trans (List.length_filterMap_le _ _) (Nat.le_trans (List.length_filter_le _ _) ?_)
  simp
theorem range_all : (List.range L.length).filterMap (L[·]?) = L := by
  apply List.ext_getElem?
  intro k
  rw [filt_get _ k (fun i hi => List.mem_range.1 hi)]
  by_cases hk : k < L.length
  · rw [List.getElem?_range hk]; rfl
  · rw [List.getElem?_eq_none (by simpa using hk), List.getElem?_eq_none (by omega)]; rfl
theorem atL_sub : (atL L q L.length).Sublist L := by
  have h : (atL L q L.length).Sublist ((List.range L.length).filterMap (L[·]?)) := List.Sublist.filterMap _ List.filter_sublist
  rwa [range_all] at h
theorem atI_mem {i : Nat} : i ∈ atI L q L.length ↔ i < L.length ∧ q i := by unfold atI; simp
theorem atI_up : (atI L q L.length).Pairwise (· < ·) := List.Pairwise.sublist List.filter_sublist List.pairwise_lt_range
theorem atL_get (k : Nat) : (atL L q L.length)[k]? = ((atI L q L.length)[k]?).bind (L[·]?) := filt_get _ k fun i hi => (atI_mem.1 hi).1
theorem atL_at {i : Nat} {e : EntD} (h : (atL L q L.length)[i]? = some e) : ∃ a, (atI L q L.length)[i]? = some a ∧ L[a]? = some e ∧ q a := by
  rw [atL_get] at h
  cases ha : (atI L q L.length)[i]? with
  | none => rw [ha] at h; cases h
  | some a =>
    rw [ha] at h
    exact ⟨a, rfl, h, (atI_mem.1 (List.mem_of_getElem? ha)).2⟩
theorem atI_lt {i j a b : Nat} (hi : (atI L q L.length)[i]? = some a) (hj : (atI L q L.length)[j]? = some b) : a < b ↔ i < j := by
  obtain ⟨h1, e1⟩ := List.getElem?_eq_some_iff.1 hi
  obtain ⟨h2, e2⟩ := List.getElem?_eq_some_iff.1 hj
  have hup := List.pairwise_iff_getElem.1 (atI_up (L := L) (q := q))
  constructor
  · intro hab
    rcases Nat.lt_trichotomy i j with h | h | h
    · exact h
    · subst h; rw [e1] at e2; omega
    · have := hup j i h2 h1 h; rw [e1, e2] at this; omega
  · intro hij
    have := hup i j h1 h2 hij; rw [e1, e2] at this; exact this
theorem oneOrd_at (h : OneOrd L) (hc : ClosedP L q) : OneOrd (atL L q L.length) := by
  have hnd : ((atL L q L.length).map (·.id)).Nodup := h.ok.nodup.sublist (List.Sublist.map _ atL_sub)
  have hback : ∀ {a b : Nat} {e : EntD} {p : Nat}, L[a]? = some e → p ∈ e.node.ps → idxOf L p = some b → seesN L b a = true := by
    intro a b e p ha hp hb
    refine (sees_iff h.ok (List.getElem?_eq_some_iff.1 ha).1).2 ⟨b, ?_, .inr rfl⟩
    unfold kidx
    rw [parsAt_of ha]
    exact List.mem_filterMap.2 ⟨p, hp, hb⟩
  have hpar : ∀ (i a : Nat) (e : EntD), (atI L q L.length)[i]? = some a → L[a]? = some e → q a → ∀ p ∈ e.node.ps, ∃ k b e2, k < i ∧ (atI L q L.length)[k]? = some b ∧ L[b]? = some e2 ∧ e2.id = p ∧ (atL L q L.length)[k]? = some e2 := by
    intro i a e hi ha hqa p hp
    obtain ⟨b, hba, hb⟩ := h.ok.par a e ha p hp
    obtain ⟨e2, he2, hid⟩ := idxOf_some hb
    have hqb := hc b a hqa (hback ha hp hb)
    have hm : b ∈ atI L q L.length := atI_mem.2 ⟨(List.getElem?_eq_some_iff.1 he2).1, hqb⟩
    obtain ⟨k, hk⟩ := List.getElem?_of_mem hm
    exact ⟨k, b, e2, (atI_lt hk hi).1 hba, hk, he2, hid, by rw [atL_get, hk]; exact he2⟩
  refine ⟨⟨hnd, fun e he => h.ok.node e (atL_sub.subset he), Nat.le_trans atL_sub.length_le h.ok.most, fun i e he p hp => ?_⟩, ?_, fun e he => ?_⟩
  · obtain ⟨a, ha, hae, hqa⟩ := atL_at he
    obtain ⟨k, b, e2, hk, hkb, hb, hid, hke⟩ := hpar i a e ha hae hqa p hp
    exact ⟨k, hk, by rw [← hid]; exact idxOf_of hnd hke⟩
  · intro i j ei ej hij hi hj hps
    obtain ⟨a, ha, hae, _⟩ := atL_at hi
    obtain ⟨b, hb, hbe, _⟩ := atL_at hj
    refine h.greedy a b ei ej ((atI_lt ha hb).2 hij) hae hbe fun p hp => ?_
    obtain ⟨k, hk, hkp⟩ := hps p hp
    obtain ⟨e2, he2, hid⟩ := idxOf_some hkp
    obtain ⟨c, hc2, hce, _⟩ := atL_at he2
    exact ⟨c, (atI_lt hc2 ha).2 hk, by rw [← hid]; exact idxOf_of h.ok.nodup hce⟩
  · rw [h.clk e (atL_sub.subset he)]
    congr 1
    refine mcl_congr fun p hp => ?_
    obtain ⟨i, hi⟩ := List.getElem?_of_mem he
    obtain ⟨a, ha, hae, hqa⟩ := atL_at hi
    obtain ⟨k, b, e2, _, _, hb, hid, hke⟩ := hpar i a e ha hae hqa p hp
    rw [← hid, clAt_mem h.ok.nodup (List.mem_of_getElem? hb), clAt_mem hnd (List.mem_of_getElem? hke)]
end
/-! ### under some heads -/
/-- is the entry i one of these, or seen by one? -/
def inH (L : List EntD) (hs : List Nat) (i : Nat) : Prop := ∃ h ∈ hs, ∃ k ∈ idxOf L h, i = k ∨ seesN L i k = true
instance (L : List EntD) (hs : List Nat) : DecidablePred (inH L hs) := fun i => by unfold inH; infer_instance
def allH (L : List EntD) (hs : List Nat) : Prop := ∀ h ∈ hs, idxOf L h ≠ none
instance (L : List EntD) (hs : List Nat) : Decidable (allH L hs) := by unfold allH; infer_instance
theorem inH_closed {L : List EntD} (ho : OrdOk L) (hs : List Nat) : ClosedP L (inH L hs) := by
  rintro i j ⟨h, hh, k, hk, h1⟩ hij
  refine ⟨h, hh, k, hk, .inr ?_⟩
  rcases h1 with rfl | h1
  · exact hij
  · exact sees_trans ho _ _ _ hij h1
theorem inH_nil (L : List EntD) (i : Nat) : ¬ inH L [] i := by rintro ⟨h, hh, _⟩; simp at hh
theorem inH_snoc {L : List EntD} {hs : List Nat} {h k : Nat} (hk : idxOf L h = some k) (i : Nat) : inH L (hs ++ [h]) i ↔ inH L hs i ∨ (i = k ∨ seesN L i k = true) := by
  unfold inH
  constructor
  · rintro ⟨x, hx, k', hk', h1⟩
    rcases List.mem_append.1 hx with hx | hx
    · exact .inl ⟨x, hx, k', hk', h1⟩
    · simp at hx; subst hx
      have : k' = k := by have h2 : idxOf L x = some k' := hk'; rw [hk] at h2; cases h2; rfl
      subst this; exact .inr h1
  · rintro (⟨x, hx, r⟩ | h1)
    · exact ⟨x, List.mem_append_left _ hx, r⟩
    · exact ⟨h, by simp, k, hk, h1⟩
end Go.Sl
