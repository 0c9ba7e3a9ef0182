/-
  Contracts of the functions of the program and of its references: what each call hands back, from what is known and owned.
-/
import Derived.Test.YtgoooilgmabkmaaGreatCf
set_option linter.unusedVariables false
set_option linter.unusedSimpArgs false
set_option linter.unusedSectionVars false
namespace Go.Proofs.YtgoooilgmabkmaaGreat
open Go Go.Sl
set_option linter.unusedVariables false
set_option linter.unusedSimpArgs false
set_option maxRecDepth 100000

theorem Tri_giveS {P : Program} {f : FuncId} {args : Array Value} {σ : View} {H : HList} {α : Type} {E : Enc α} (hE : E.Mono) {T : TypeId} {sz : Nat} (byt : Nat) {Φ : Value → Value → List α → Prop} (h : Tri P f args σ H (fun v σ' H' => ∃ sv l, Φ v sv l ∧ l.length * byt ≤ 140737488355328 ∧ SlO σ' E T sz sv l H')) :
    Tri P f args σ H (fun v σ' H' => (∃ sv l, Φ v sv l ∧ SlE σ' E sz byt sv l) ∧ H' = []) := fun Hr w hs =>
  (h Hr w hs).mono fun _ w' ⟨v, σ', H', e, ⟨sv, l, hΦ, hb, hso⟩, hle, hst⟩ => by
    obtain ⟨σ2, h1, h2, h3⟩ := St.giveS (byt := byt) (H1 := []) (H2 := Hr) hE hso hb (by simpa using hst)
    exact ⟨v, σ2, [], e, ⟨⟨sv, l, hΦ, h2⟩, rfl⟩, View.le_trans hle h1, by simpa using h3⟩
/-- what came since -/
def sinceL (L : List EntD) (os ns : List Nat) : List Nat := if allH L os ∧ allH L ns then selN L (sinceP L os ns) L.length else []
def commonL (L : List EntD) (a b : Nat) : List Nat := if allH L [a] ∧ allH L [b] then sortN (topsN L (bothP L a b) L.length) else []
/-- which complaint -/
def errH (p : Prop) [Decidable p] : Int := if p then 0 else 6
theorem past_Since2 (σ : View) (pv ov nv : Value) (L : List EntD) (os ns : List Nat) (h : PastV σ pv L) (ho : OrdOk L) (hO : Hashes σ ov os) (hN : Hashes σ nv ns) :
    Tri Tryz.prog 68 #[pv, ov, nv] σ [] (fun v σ' H' => (∃ sv, v = .tuple #[sv, .int .i64 (errH (allH L os ∧ allH L ns))] ∧ Hashes σ' sv (sinceL L os ns)) ∧ H' = []) := by
  have hmost := ho.most
  refine (Tri_giveS (T := 39) (sz := 32) eHash_mono 32 (Φ := fun v sv l => v = .tuple #[sv, .int .i64 (errH (allH L os ∧ allH L ns))] ∧ l = sinceL L os ns) ((past_Since σ pv ov nv L os ns h ho hO hN).mono ?_)).mono ?_
  · rintro v σ' H' ⟨sv, ev, rfl, ⟨rfl, h1, h2, h3, hso, rfl⟩ | ⟨rfl, h1, rfl, rfl⟩⟩
    · refine ⟨sv, _, ⟨by unfold errH; rw [if_pos ⟨h1, h2⟩], rfl⟩, ?_, by unfold sinceL; rw [if_pos ⟨h1, h2⟩]; exact hso⟩
      unfold sinceL; rw [if_pos ⟨h1, h2⟩]
      have := selN_len L (sinceP L os ns) L.length
      omega
    · refine ⟨_, _, ⟨by unfold errH; rw [if_neg h1], rfl⟩, ?_, by unfold sinceL; rw [if_neg h1]; exact SlO.nil⟩
      unfold sinceL; rw [if_neg h1]; simp
  · rintro v σ' H' ⟨⟨sv, l, ⟨rfl, rfl⟩, hs⟩, rfl⟩
    exact ⟨⟨sv, rfl, hs⟩, rfl⟩
theorem r11_Since2 (σ : View) (pv ov nv : Value) (L : List EntD) (os ns : List Nat) (h : R11V σ pv L) (ho : OrdOk L) (hO : Hashes σ ov os) (hN : Hashes σ nv ns) :
    Tri Tryz.prog 132 #[pv, ov, nv] σ [] (fun v σ' H' => (∃ sv, v = .tuple #[sv, .int .i64 (errH (allH L os ∧ allH L ns))] ∧ Hashes σ' sv (sinceL L os ns)) ∧ H' = []) := by
  have hmost := ho.most
  refine (Tri_giveS (T := 39) (sz := 32) eHash_mono 32 (Φ := fun v sv l => v = .tuple #[sv, .int .i64 (errH (allH L os ∧ allH L ns))] ∧ l = sinceL L os ns) ((r11_Since σ pv ov nv L os ns h ho hO hN).mono ?_)).mono ?_
  · rintro v σ' H' ⟨sv, ev, rfl, ⟨rfl, h1, h2, h3, hso, rfl⟩ | ⟨rfl, h1, rfl, rfl⟩⟩
    · refine ⟨sv, _, ⟨by unfold errH; rw [if_pos ⟨h1, h2⟩], rfl⟩, ?_, by unfold sinceL; rw [if_pos ⟨h1, h2⟩]; exact hso⟩
      unfold sinceL; rw [if_pos ⟨h1, h2⟩]
      have := selN_len L (sinceP L os ns) L.length
      omega
    · refine ⟨_, _, ⟨by unfold errH; rw [if_neg h1], rfl⟩, ?_, by unfold sinceL; rw [if_neg h1]; exact SlO.nil⟩
      unfold sinceL; rw [if_neg h1]; simp
  · rintro v σ' H' ⟨⟨sv, l, ⟨rfl, rfl⟩, hs⟩, rfl⟩
    exact ⟨⟨sv, rfl, hs⟩, rfl⟩
theorem r11_Common2 (σ : View) (pv : Value) (L : List EntD) (a b : Nat) (h : R11V σ pv L) (ho : OrdOk L) (ha : IsH a) (hb : IsH b) :
    Tri Tryz.prog 133 #[pv, hashV a, hashV b] σ [] (fun v σ' H' => (∃ sv, v = .tuple #[sv, .int .i64 (errH (allH L [a] ∧ allH L [b]))] ∧ Hashes σ' sv (commonL L a b)) ∧ H' = []) := by
  have hmost := ho.most
  refine (Tri_giveS (T := 39) (sz := 32) eHash_mono 32 (Φ := fun v sv l => v = .tuple #[sv, .int .i64 (errH (allH L [a] ∧ allH L [b]))] ∧ l = commonL L a b) ((r11_Common σ pv L a b h ho ha hb).mono ?_)).mono ?_
  · rintro v σ' H' ⟨sv, ev, rfl, ⟨rfl, h1, h2, h3, hso, rfl⟩ | ⟨rfl, h1, rfl, rfl⟩⟩
    · refine ⟨sv, _, ⟨by unfold errH; rw [if_pos ⟨h1, h2⟩], rfl⟩, ?_, by unfold commonL; rw [if_pos ⟨h1, h2⟩]; exact hso⟩
      unfold commonL; rw [if_pos ⟨h1, h2⟩, (sortN_perm _).length_eq]
      have := topsN_len L (bothP L a b) L.length
      omega
    · refine ⟨_, _, ⟨by unfold errH; rw [if_neg h1], rfl⟩, ?_, by unfold commonL; rw [if_neg h1]; exact SlO.nil⟩
      unfold commonL; rw [if_neg h1]; simp
  · rintro v σ' H' ⟨⟨sv, l, ⟨rfl, rfl⟩, hs⟩, rfl⟩
    exact ⟨⟨sv, rfl, hs⟩, rfl⟩
theorem past_Common2 (σ : View) (pv : Value) (L : List EntD) (a b : Nat) (h : PastV σ pv L) (ho : OrdOk L) (ha : IsH a) (hb : IsH b) :
    Tri Tryz.prog 69 #[pv, hashV a, hashV b] σ [] (fun v σ' H' => (∃ sv, v = .tuple #[sv, .int .i64 (errH (allH L [a] ∧ allH L [b]))] ∧ Hashes σ' sv (commonL L a b)) ∧ H' = []) := by
  refine (past_Common σ pv L a b h ho ha hb).mono ?_
  rintro v σ' H' ⟨⟨sv, ev, rfl, ⟨rfl, h1, h2, hs⟩ | ⟨rfl, h1, rfl⟩⟩, rfl⟩
  · exact ⟨⟨sv, by unfold errH; rw [if_pos ⟨h1, h2⟩], by unfold commonL; rw [if_pos ⟨h1, h2⟩]; exact hs⟩, rfl⟩
  · exact ⟨⟨_, by unfold errH; rw [if_neg h1], by unfold commonL; rw [if_neg h1]; exact SlE.nilS⟩, rfl⟩
/-- what is asked -/
structure AskD where
  a : List Nat
  b : List Nat
  i : Int
  j : Int
def eAsk : Enc AskD := fun σ q vs => ∃ av bv, vs = [av, bv, .int .i64 q.i, .int .i64 q.j] ∧ Hashes σ av q.a ∧ Hashes σ bv q.b ∧ I64 q.i ∧ I64 q.j
theorem eAsk_mono : Enc.Mono eAsk := fun σ σ' x vs hl ⟨av, bv, h1, h2, h3, h4⟩ => ⟨av, bv, h1, h2.mono eHash_mono hl, h3.mono eHash_mono hl, h4⟩
abbrev Asks (σ : View) (v : Value) (l : List AskD) : Prop := SlE σ eAsk 4 64 v l
theorem hash_rd0 {σ : View} {a : Option Addr} {n c b off : Nat} {l : List Nat} (h : Hashes σ (.slice a n c) l) (e : 0 < l.length → a = some ⟨b, off, none⟩) (hl : 0 < l.length) : ∃ x, IsH x ∧ l[0]? = some x ∧ RdV σ b (off + 0 * 32) (hashCells x) := by
  obtain ⟨b2, off2, e2, hat⟩ := h.rds
  have e3 := e hl
  rw [e2 hl] at e3
  cases e3
  obtain ⟨_, _, _, ⟨rfl, hxh⟩, hxr⟩ := hat 0 l[0] (List.getElem?_eq_getElem hl)
  exact ⟨l[0], hxh, List.getElem?_eq_getElem hl, hxr⟩
def E0D : EntD := ⟨0, ⟨0, 0, [], []⟩⟩
theorem nodeR0 (σ : View) : NodeR σ E0D.node (.slice none 0 0) (.slice none 0 0) := ⟨SlE.nilS, SlE.nilS, ⟨by decide, by decide⟩, ⟨by decide, by decide⟩⟩
theorem same0 (σ : View) (x : EntD) (pv ov : Value) (hx : NodeR σ x.node pv ov) (hi : IsH x.id) :
    TriP Tryz.prog 45 #[.agg (entCells x.id x.node.au x.node.cl pv ov).toArray, .agg (entCells 0 0 0 (.slice none 0 0) (.slice none 0 0)).toArray] σ (.bool (decide (x = E0D))) :=
  r5_SameEntry σ x ⟨0, ⟨0, 0, [], []⟩⟩ pv ov (.slice none 0 0) (.slice none 0 0) hx (nodeR0 σ) hi isH0
/-- an entry that was asked for -/
theorem ent_told {σ σ' : View} {pv v : Value} {L : List EntD} {I : Int} (hp : PastV σ pv L)
    (h : (∃ (k : Nat) (e : EntD) (qv ov : Value), I = (k : Int) ∧ L[k]? = some e ∧ v = .tuple #[.agg (entCells e.id e.node.au e.node.cl qv ov).toArray, .int .i64 0] ∧ NodeR σ' e.node qv ov) ∨ ((I < 0 ∨ (L.length : Int) ≤ I) ∧ v = .tuple #[.agg (entCells 0 0 0 (.slice none 0 0) (.slice none 0 0)).toArray, .int .i64 2])) :
    ∃ e qv ov er, v = .tuple #[.agg (entCells e.id e.node.au e.node.cl qv ov).toArray, .int .i64 er] ∧ NodeR σ' e.node qv ov ∧ IsH e.id ∧ ((∃ k : Nat, I = (k : Int) ∧ L[k]? = some e ∧ er = 0) ∨ ((I < 0 ∨ (L.length : Int) ≤ I) ∧ e = E0D ∧ er = 2)) := by
  rcases h with ⟨k, e, qv, ov, h1, h2, h3, h4⟩ | ⟨h1, h2⟩
  · obtain ⟨_, _, lv, _, _, _, hl, _⟩ := hp
    exact ⟨e, qv, ov, 0, h3, h4, ents_isH hl e (List.mem_of_getElem? h2), .inl ⟨k, h1, h2, rfl⟩⟩
  · exact ⟨E0D, _, _, 2, h2, nodeR0 σ', isH0, .inr ⟨h1, rfl, rfl⟩⟩

set_option maxHeartbeats 4000000 in
theorem law11_asked (σ : View) (pv qv av bv : Value) (L : List EntD) (A B : List Nat) (I J : Int) (hp : PastV σ pv L) (hq : R11V σ qv L) (h1 : OneOrd L) (hA : Hashes σ av A) (hB : Hashes σ bv B) (hI : I64 I) (hJ : I64 J) :
    Tri Tryz.prog 64 #[pv, qv, .agg #[av, bv, .int .i64 I, .int .i64 J]] σ [] (fun v σ' H' => v = .bool true ∧ H' = []) := by
  have ho := h1.ok
  have hmost := ho.most
  have hone2 := oneOrd_at h1 (inH_closed ho A)
  have hq' := hq
  obtain ⟨qb, _, _, _, rfl, _⟩ := hq'
  have hp1 : pv.oneCell' = true := by obtain ⟨_, _, _, _, rfl, _⟩ := hp; rfl
  obtain ⟨aa, ac, rfl, hac, hab⟩ := hA.shape
  obtain ⟨ba, bc, rfl, hbc, hbb⟩ := hB.shape
  obtain ⟨ab2, aoff, hea⟩ := addr_of hA
  obtain ⟨bb2, boff, heb⟩ := addr_of hB
  obtain ⟨hI1, hI2⟩ := hI
  refine Tri.of_body [(0, pv), (1, .pointer (some ⟨qb, 0, none⟩)), (2, .agg #[.slice aa A.length ac, .slice ba B.length bc, .int .i64 I, .int .i64 J])] Tryz.func64 rfl Tryz.ntmps64 (by simp) rfl (fun Hr => ?_)
  rw [List.nil_append]
  refine WC.seq ?_
  refine WC.region ?_
  refine WL.new (New.boxN rfl) (fun b5 => ?_)
  refine WL.pur (Pur.assign rfl) ?_
  refine WL.nil ?_
  refine WQ.thn ?_
  refine WC.seq ?_
  refine WC.region ?_
  refine WL.pur (Pur.move rfl) ?_
  refine WL.pur (Pur.fieldAddr rfl fo_102_0) ?_
  refine' WL.pur (Pur.load1 rfl ty_41 ?h1_0) ?k1
  case h1_0 => first | (apply Rd.own1; exact zmE; rfl) | (apply RdV.rd; apply RdV.idx (i := 0); assumption; rfl)
  refine WL.call (H0 := []) (Hr := (b5, _) :: Hr) rfl Tryz.call52 (List.Perm.refl _) (past_At _ _ _ L A hp h1 hA) ?_
  rintro _ σ3 _ ⟨⟨pa2, ev, rfl, hor3⟩, rfl⟩ hle3
  rw [List.nil_append]
  refine WL.pur (Pur.move rfl) ?_
  first | refine WL.pur (Pur.ex2_0 rfl) ?_ | refine WL.pur (Pur.ex3_0 rfl) ?_ | refine WL.pur (Pur.extractNext rfl) ?_ | refine WL.pur (Pur.extract rfl rfl) ?_
  first | refine WL.pur (Pur.ex2_1 rfl) ?_ | refine WL.pur (Pur.ex3_1 rfl) ?_ | refine WL.pur (Pur.extract rfl rfl) ?_
  refine WL.pur (Pur.assign rfl) ?_
  refine WL.pur (Pur.assign rfl) ?_
  refine WL.nil ?_
  refine WQ.thn ?_
  refine WC.seq ?_
  refine WC.region ?_
  refine WL.pur (Pur.move rfl) ?_
  refine WL.pur (Pur.fieldAddr rfl fo_102_0) ?_
  refine' WL.pur (Pur.load1 rfl ty_41 ?h2_0) ?k2
  case h2_0 => first | (apply Rd.own1; exact zmE; rfl) | (apply RdV.rd; apply RdV.idx (i := 0); assumption; rfl)
  refine WL.call (H0 := []) (Hr := (b5, _) :: Hr) rfl Tryz.call53 (List.Perm.refl _) (r11_At _ _ _ L A (hq.mono hle3) h1 (hA.mono eHash_mono hle3)) ?_
  rintro _ σ4 _ ⟨⟨qa2, ev2, rfl, hor4⟩, rfl⟩ hle4
  rw [List.nil_append]
  have hpq : ev = ev2 ∧ ((pa2 = none ∧ qa2 = none) ∨ (PastV σ4 (.pointer pa2) (atL L (inH L A) L.length) ∧ R11V σ4 (.pointer qa2) (atL L (inH L A) L.length))) := by
    rcases hor3 with ⟨e1, hal, h3⟩ | ⟨e1, hal, h3⟩
    · rcases hor4 with ⟨e2, _, h4⟩ | ⟨e2, hal2, h4⟩
      · exact ⟨by rw [e1, e2], .inr ⟨h3.mono hle4, h4⟩⟩
      · exact absurd hal hal2
    · rcases hor4 with ⟨e2, hal2, h4⟩ | ⟨e2, _, h4⟩
      · exact absurd hal2 hal
      · exact ⟨by rw [e1, e2], .inl ⟨h3, h4⟩⟩
  have hle04 := View.le_trans hle3 hle4
  have hp4 := hp.mono hle04
  have hq4 := hq.mono hle04
  have hA4 := hA.mono eHash_mono hle04
  have hB4 := hB.mono eHash_mono hle04
  refine WL.pur (Pur.move rfl) ?_
  first | refine WL.pur (Pur.ex2_0 rfl) ?_ | refine WL.pur (Pur.ex3_0 rfl) ?_ | refine WL.pur (Pur.extractNext rfl) ?_ | refine WL.pur (Pur.extract rfl rfl) ?_
  first | refine WL.pur (Pur.ex2_1 rfl) ?_ | refine WL.pur (Pur.ex3_1 rfl) ?_ | refine WL.pur (Pur.extract rfl rfl) ?_
  refine WL.pur (Pur.assign rfl) ?_
  refine WL.pur (Pur.assign rfl) ?_
  refine WL.nil ?_
  refine WQ.thn ?_
  refine WC.seq ?_
  refine WC.seq ?_
  refine WC.region ?_
  refine WL.pur (Pur.move rfl) ?_
  refine WL.pur (Pur.move rfl) ?_
  refine' WL.pur (Pur.bin rfl rfl ?h3_0) ?k3
  case h3_0 => first | exact Bin.neN | exact Bin.neI
  refine WL.pur (Pur.move rfl) ?_
  refine' WL.orp (u := 32) (t := 38) rfl ?h4_0 ?h4_1 ?h4_2 rfl ?k4
  case h4_0 =>
    intro hg32 K32
    refine WL.gpur (u := 32) rfl rfl (gF hg32) (Pur.move rfl) ?_
    refine' WL.gpur (u := 32) rfl rfl (gF hg32) (Pur.bin rfl rfl ?h5_0) ?k5
    case h5_0 => exact Bin.eqP isPtr_25
    refine WL.gpur (u := 32) rfl rfl (gF hg32) (Pur.move rfl) ?_
    refine' WL.gpur (u := 32) rfl rfl (gF hg32) (Pur.bin rfl rfl ?h6_0) ?k6
    case h6_0 => exact Bin.eqP isPtr_29
    refine' WL.gpur (u := 32) rfl rfl (gF hg32) (Pur.bin rfl rfl ?h7_0) ?k7
    case h7_0 => exact Bin.neB isBool_4
    exact K32 _ zcR rfl
  case h4_1 =>
    intro hg32 K32
    refine WL.gskip (u := 32) rfl rfl (sF hg32) ?_
    refine WL.gskip (u := 32) rfl rfl (sF hg32) ?_
    refine WL.gskip (u := 32) rfl rfl (sF hg32) ?_
    refine WL.gskip (u := 32) rfl rfl (sF hg32) ?_
    refine WL.gskip (u := 32) rfl rfl (sF hg32) ?_
    exact K32 _ zcR
  case h4_2 => exact Wanted.plain rfl
  refine WL.pur (Pur.move rfl) ?_
  refine' WL.orp (u := 39) (t := 48) rfl ?h8_0 ?h8_1 ?h8_2 rfl ?k8
  case h8_0 =>
    intro hg39 K39
    refine WL.gpur (u := 39) rfl rfl (gF hg39) (Pur.move rfl) ?_
    refine' WL.gpur (u := 39) rfl rfl (gF hg39) (Pur.bin rfl rfl ?h9_0) ?k9
    case h9_0 => exact Bin.neP isPtr_29
    refine WL.gpur (u := 39) rfl rfl (gF hg39) (Pur.move rfl) ?_
    refine' WL.andp (u := 42) (t := 47) rfl ?h10_0 ?h10_1 ?h10_2 rfl ?k10
    case h10_0 =>
      intro hg42 K42
      have hal := hpq.2.resolve_left (fun h => hg42 (by rw [h.2]))
      refine WL.gpur (u := 42) rfl rfl (gT hg42) (Pur.move rfl) ?_
      refine WL.gpur (u := 42) rfl rfl (gT hg42) (Pur.move rfl) ?_
      refine WL.gcallR (H0 := []) (u := 42) rfl rfl (gT hg42) rfl Tryz.call38 (List.Perm.refl _) (law11_alike _ _ _ _ hal.1 hal.2 hone2.ok) ?_
      rintro v45 σf _ ⟨hfv, rfl⟩ hlef
      obtain rfl : v45 = .bool (decide True) := hfv
      rw [List.nil_append]
      first | refine WL.gpur (u := 42) rfl rfl (gT hg42) (Pur.not rfl) ?_ | refine WL.gpur (u := 42) rfl rfl (gT hg42) (Pur.notB rfl) ?_
      refine WL.le hlef ?_
      exact K42 _ zcR rfl
    case h10_1 =>
      intro hg42 K42
      refine WL.gskip (u := 42) rfl rfl (sT hg42) ?_
      refine WL.gskip (u := 42) rfl rfl (sT hg42) ?_
      refine WL.gskip (u := 42) rfl rfl (sT hg42) ?_
      refine WL.gskip (u := 42) rfl rfl (sT hg42) ?_
      exact K42 _ zcR
    case h10_2 => exact Wanted.guard (u := 39) rfl rfl rfl (gF hg39)
    exact K39 _ zcR rfl
  case h8_1 =>
    intro hg39 K39
    refine WL.gskip (u := 39) rfl rfl (sF hg39) ?_
    refine WL.gskip (u := 39) rfl rfl (sF hg39) ?_
    refine WL.gskip (u := 39) rfl rfl (sF hg39) ?_
    refine WL.gskipU (u := 42) rfl rfl ?_
    refine WL.gskipU (u := 42) rfl rfl ?_
    refine WL.gskipU (u := 42) rfl rfl ?_
    refine WL.gskipU (u := 42) rfl rfl ?_
    refine WL.gskip (u := 39) rfl rfl (sF hg39) ?_
    exact K39 _ zcR
  case h8_2 => exact Wanted.plain rfl
  refine WL.nil ?_
  refine WQ.thn ?_
  first | refine WC.cond rfl (fun hc0 => ?_) (fun hc0 => ?_) | refine WC.condB rfl (fun hc0 => ?_) (fun hc0 => ?_)
  · rcases hc0 with (hc | hc) | hc
    · exact absurd hpq.1 hc
    · rcases hpq.2 with ⟨rfl, rfl⟩ | ⟨h3, h4⟩
      · exact absurd rfl hc
      · obtain ⟨_, _, _, _, e3, _⟩ := h3
        obtain ⟨_, _, _, _, e4, _⟩ := h4
        cases e3; cases e4
        exact absurd rfl hc
    · exact absurd trivial hc.2
  · refine WC.skip ?_
    refine WQ.thn ?_
    refine WC.seq ?_
    refine WC.region ?_
    refine WL.pur (Pur.move rfl) ?_
    refine WL.pur (Pur.fieldAddr rfl fo_102_0) ?_
    refine' WL.pur (Pur.load1 rfl ty_41 ?h11_0) ?k11
    case h11_0 => first | (apply Rd.own1; exact zmE; rfl) | (apply RdV.rd; apply RdV.idx (i := 0); assumption; rfl)
    refine WL.pur (Pur.fieldAddr rfl fo_102_1) ?_
    refine' WL.pur (Pur.load1 rfl ty_41 ?h12_0) ?k12
    case h12_0 => first | (apply Rd.own1; exact zmE; rfl) | (apply RdV.rd; apply RdV.idx (i := 1); assumption; rfl) | (apply RdV.rd; apply RdV.idx (off := 0) (i := 1); assumption; rfl)
    refine WL.call (H0 := []) (Hr := (b5, _) :: Hr) rfl Tryz.call68 (List.Perm.refl _) (past_Since2 _ _ _ _ L A B hp4 ho hA4 hB4) ?_
    rintro _ σ5 _ ⟨⟨sv5, rfl, hs5⟩, rfl⟩ hle5
    rw [List.nil_append]
    refine WL.pur (Pur.move rfl) ?_
    first | refine WL.pur (Pur.ex2_0 rfl) ?_ | refine WL.pur (Pur.ex3_0 rfl) ?_ | refine WL.pur (Pur.extractNext rfl) ?_ | refine WL.pur (Pur.extract rfl rfl) ?_
    first | refine WL.pur (Pur.ex2_1 rfl) ?_ | refine WL.pur (Pur.ex3_1 rfl) ?_ | refine WL.pur (Pur.extract rfl rfl) ?_
    refine WL.pur (Pur.assign rfl) ?_
    refine WL.pur (Pur.assign rfl) ?_
    refine WL.nil ?_
    refine WQ.thn ?_
    refine WC.seq ?_
    refine WC.region ?_
    refine WL.pur (Pur.move rfl) ?_
    refine WL.pur (Pur.fieldAddr rfl fo_102_0) ?_
    refine' WL.pur (Pur.load1 rfl ty_41 ?h13_0) ?k13
    case h13_0 => first | (apply Rd.own1; exact zmE; rfl) | (apply RdV.rd; apply RdV.idx (i := 0); assumption; rfl)
    refine WL.pur (Pur.fieldAddr rfl fo_102_1) ?_
    refine' WL.pur (Pur.load1 rfl ty_41 ?h14_0) ?k14
    case h14_0 => first | (apply Rd.own1; exact zmE; rfl) | (apply RdV.rd; apply RdV.idx (i := 1); assumption; rfl) | (apply RdV.rd; apply RdV.idx (off := 0) (i := 1); assumption; rfl)
    refine WL.call (H0 := []) (Hr := (b5, _) :: Hr) rfl Tryz.call132 (List.Perm.refl _) (r11_Since2 _ _ _ _ L A B (hq4.mono hle5) ho (hA4.mono eHash_mono hle5) (hB4.mono eHash_mono hle5)) ?_
    rintro _ σ6 _ ⟨⟨sv6, rfl, hs6⟩, rfl⟩ hle6
    rw [List.nil_append]
    have hs56 := hs5.mono eHash_mono hle6
    have hle46 := View.le_trans hle5 hle6
    have hp6 := hp4.mono hle46
    have hq6 := hq4.mono hle46
    have hA6 := hA4.mono eHash_mono hle46
    have hB6 := hB4.mono eHash_mono hle46
    have hle06 := View.le_trans hle04 hle46
    refine WL.pur (Pur.move rfl) ?_
    first | refine WL.pur (Pur.ex2_0 rfl) ?_ | refine WL.pur (Pur.ex3_0 rfl) ?_ | refine WL.pur (Pur.extractNext rfl) ?_ | refine WL.pur (Pur.extract rfl rfl) ?_
    first | refine WL.pur (Pur.ex2_1 rfl) ?_ | refine WL.pur (Pur.ex3_1 rfl) ?_ | refine WL.pur (Pur.extract rfl rfl) ?_
    refine WL.pur (Pur.assign rfl) ?_
    refine WL.pur (Pur.assign rfl) ?_
    refine WL.nil ?_
    refine WQ.thn ?_
    refine WC.seq ?_
    refine WC.seq ?_
    refine WC.draw 24 24 ([(b5, rowO 102 [.slice aa A.length ac, .slice ba B.length bc, .int .i64 I, .int .i64 J])]) mixed (by kernel_rfl) rfl ?_
    refine SA.take 0 (by kernel_rfl) rfl rfl rfl (Wanted.plain rfl) zsL (by first | exact View.le_refl _ | assumption) (Pur.move rfl) ?_
    refine SA.take 1 (by kernel_rfl) rfl rfl rfl (Wanted.plain rfl) zsL (by first | exact View.le_refl _ | assumption) (Pur.move rfl) ?_
    refine' SA.take 2 (by kernel_rfl) rfl rfl rfl (Wanted.plain rfl) zsL (by first | exact View.le_refl _ | assumption) (Pur.bin rfl rfl ?h15_0) ?k15
    case h15_0 => first | exact Bin.neN | exact Bin.neI
    refine SA.take 3 (by kernel_rfl) rfl rfl rfl (Wanted.plain rfl) zsL (by first | exact View.le_refl _ | assumption) (Pur.move rfl) ?_
    refine' SA.orp 8 (u := 70) rfl ?h16_0 ?h16_1 ?h16_2 rfl zsL (View.le_refl _) ?h16_3 rfl ?k16
    case h16_0 =>
      intro hg70 K70
      refine SA.take 4 (by kernel_rfl) rfl rfl rfl (Wanted.guard (u := 70) rfl rfl rfl (gF hg70)) zsL (by first | exact View.le_refl _ | assumption) (Pur.move rfl) ?_
      refine SA.take 5 (by kernel_rfl) rfl rfl rfl (Wanted.guard (u := 70) rfl rfl rfl (gF hg70)) zsL (by first | exact View.le_refl _ | assumption) (Pur.move rfl) ?_
      refine SA.callP 6 rfl rfl (Wanted.guard (u := 70) rfl rfl rfl (gF hg70)) (by kernel_rfl) rfl Tryz.call114 zsL (by first | exact View.le_refl _ | assumption) ((r1_Same _ _ _ _ _ hs56 hs6)) ?_
      first | refine SA.take 7 (by kernel_rfl) rfl rfl rfl (Wanted.guard (u := 70) rfl rfl rfl (gF hg70)) zsL (by first | exact View.le_refl _ | assumption) (Pur.not rfl) ?_ | refine SA.take 7 (by kernel_rfl) rfl rfl rfl (Wanted.guard (u := 70) rfl rfl rfl (gF hg70)) zsL (by first | exact View.le_refl _ | assumption) (Pur.notB rfl) ?_
      exact K70 _ zcR rfl
    case h16_1 =>
      intro hg70 K70
      refine SA.gskip 4 (u := 70) (by kernel_rfl) rfl rfl rfl rfl rfl rfl (sF hg70) zsL (by first | exact View.le_refl _ | assumption) ?_
      refine SA.gskip 5 (u := 70) (by kernel_rfl) rfl rfl rfl rfl rfl rfl (sF hg70) zsL (by first | exact View.le_refl _ | assumption) ?_
      refine SA.gskip 6 (u := 70) (by kernel_rfl) rfl rfl rfl rfl rfl rfl (sF hg70) zsL (by first | exact View.le_refl _ | assumption) ?_
      refine SA.gskip 7 (u := 70) (by kernel_rfl) rfl rfl rfl rfl rfl rfl (sF hg70) zsL (by first | exact View.le_refl _ | assumption) ?_
      exact K70 _ zcR
    case h16_2 => kernel_rfl
    case h16_3 => exact Wanted.plain rfl
    refine SA.take 9 (by kernel_rfl) rfl rfl rfl (Wanted.plain rfl) zsL (by first | exact View.le_refl _ | assumption) (Pur.move rfl) ?_
    refine' SA.orp 23 (u := 76) rfl ?h17_0 ?h17_1 ?h17_2 rfl zsL (View.le_refl _) ?h17_3 rfl ?k17
    case h17_0 =>
      intro hg76 K76
      refine SA.take 10 (by kernel_rfl) rfl rfl rfl (Wanted.guard (u := 76) rfl rfl rfl (gF hg76)) zsL (by first | exact View.le_refl _ | assumption) (Pur.move rfl) ?_
      refine SA.take 11 (by kernel_rfl) rfl rfl rfl (Wanted.guard (u := 76) rfl rfl rfl (gF hg76)) zsL (by first | exact View.le_refl _ | assumption) (Pur.fieldAddr rfl fo_102_2) ?_
      refine' SA.take 12 (by kernel_rfl) rfl rfl rfl (Wanted.guard (u := 76) rfl rfl rfl (gF hg76)) zsL (by first | exact View.le_refl _ | assumption) (Pur.load1 rfl ty_3 ?h18_0) ?k18
      case h18_0 => first | (apply Rd.own1; exact zmE; rfl) | (apply RdV.rd; apply RdV.idx (i := 2); assumption; rfl) | (apply RdV.rd; apply RdV.idx (off := 0) (i := 2); assumption; rfl)
      refine SA.take 13 (by kernel_rfl) rfl rfl rfl (Wanted.guard (u := 76) rfl rfl rfl (gF hg76)) zsL (by first | exact View.le_refl _ | assumption) (Pur.fieldAddr rfl fo_102_3) ?_
      refine' SA.take 14 (by kernel_rfl) rfl rfl rfl (Wanted.guard (u := 76) rfl rfl rfl (gF hg76)) zsL (by first | exact View.le_refl _ | assumption) (Pur.load1 rfl ty_3 ?h19_0) ?k19
      case h19_0 => first | (apply Rd.own1; exact zmE; rfl) | (apply RdV.rd; apply RdV.idx (i := 3); assumption; rfl) | (apply RdV.rd; apply RdV.idx (off := 0) (i := 3); assumption; rfl)
      refine SA.take 16 (by kernel_rfl) rfl rfl rfl (Wanted.guard (u := 76) rfl rfl rfl (gF hg76)) zsL (by first | exact View.le_refl _ | assumption) (Pur.move rfl) ?_
      refine SA.take 17 (by kernel_rfl) rfl rfl rfl (Wanted.guard (u := 76) rfl rfl rfl (gF hg76)) zsL (by first | exact View.le_refl _ | assumption) (Pur.fieldAddr rfl fo_102_2) ?_
      refine' SA.take 18 (by kernel_rfl) rfl rfl rfl (Wanted.guard (u := 76) rfl rfl rfl (gF hg76)) zsL (by first | exact View.le_refl _ | assumption) (Pur.load1 rfl ty_3 ?h20_0) ?k20
      case h20_0 => first | (apply Rd.own1; exact zmE; rfl) | (apply RdV.rd; apply RdV.idx (i := 2); assumption; rfl) | (apply RdV.rd; apply RdV.idx (off := 0) (i := 2); assumption; rfl)
      refine SA.take 19 (by kernel_rfl) rfl rfl rfl (Wanted.guard (u := 76) rfl rfl rfl (gF hg76)) zsL (by first | exact View.le_refl _ | assumption) (Pur.fieldAddr rfl fo_102_3) ?_
      refine' SA.take 20 (by kernel_rfl) rfl rfl rfl (Wanted.guard (u := 76) rfl rfl rfl (gF hg76)) zsL (by first | exact View.le_refl _ | assumption) (Pur.load1 rfl ty_3 ?h21_0) ?k21
      case h21_0 => first | (apply Rd.own1; exact zmE; rfl) | (apply RdV.rd; apply RdV.idx (i := 3); assumption; rfl) | (apply RdV.rd; apply RdV.idx (off := 0) (i := 3); assumption; rfl)
      refine SA.callP 15 rfl rfl (Wanted.guard (u := 76) rfl rfl rfl (gF hg76)) (by kernel_rfl) rfl Tryz.call113 zsL (by first | exact View.le_refl _ | assumption) ((past_SeesI _ _ L I J hp6 ho hI2)) ?_
      refine SA.callP 21 rfl rfl (Wanted.guard (u := 76) rfl rfl rfl (gF hg76)) (by kernel_rfl) rfl Tryz.call115 zsL (by first | exact View.le_refl _ | assumption) ((r11_SeesI _ _ L I J hq6 ho)) ?_
      refine' SA.take 22 (by kernel_rfl) rfl rfl rfl (Wanted.guard (u := 76) rfl rfl rfl (gF hg76)) zsL (by first | exact View.le_refl _ | assumption) (Pur.bin rfl rfl ?h22_0) ?k22
      case h22_0 => exact Bin.neB isBool_4
      exact K76 _ zcR rfl
    case h17_1 =>
      intro hg76 K76
      refine SA.gskip 10 (u := 76) (by kernel_rfl) rfl rfl rfl rfl rfl rfl (sF hg76) zsL (by first | exact View.le_refl _ | assumption) ?_
      refine SA.gskip 11 (u := 76) (by kernel_rfl) rfl rfl rfl rfl rfl rfl (sF hg76) zsL (by first | exact View.le_refl _ | assumption) ?_
      refine SA.gskip 12 (u := 76) (by kernel_rfl) rfl rfl rfl rfl rfl rfl (sF hg76) zsL (by first | exact View.le_refl _ | assumption) ?_
      refine SA.gskip 13 (u := 76) (by kernel_rfl) rfl rfl rfl rfl rfl rfl (sF hg76) zsL (by first | exact View.le_refl _ | assumption) ?_
      refine SA.gskip 14 (u := 76) (by kernel_rfl) rfl rfl rfl rfl rfl rfl (sF hg76) zsL (by first | exact View.le_refl _ | assumption) ?_
      refine SA.gskip 15 (u := 76) (by kernel_rfl) rfl rfl rfl rfl rfl rfl (sF hg76) zsL (by first | exact View.le_refl _ | assumption) ?_
      refine SA.gskip 16 (u := 76) (by kernel_rfl) rfl rfl rfl rfl rfl rfl (sF hg76) zsL (by first | exact View.le_refl _ | assumption) ?_
      refine SA.gskip 17 (u := 76) (by kernel_rfl) rfl rfl rfl rfl rfl rfl (sF hg76) zsL (by first | exact View.le_refl _ | assumption) ?_
      refine SA.gskip 18 (u := 76) (by kernel_rfl) rfl rfl rfl rfl rfl rfl (sF hg76) zsL (by first | exact View.le_refl _ | assumption) ?_
      refine SA.gskip 19 (u := 76) (by kernel_rfl) rfl rfl rfl rfl rfl rfl (sF hg76) zsL (by first | exact View.le_refl _ | assumption) ?_
      refine SA.gskip 20 (u := 76) (by kernel_rfl) rfl rfl rfl rfl rfl rfl (sF hg76) zsL (by first | exact View.le_refl _ | assumption) ?_
      refine SA.gskip 21 (u := 76) (by kernel_rfl) rfl rfl rfl rfl rfl rfl (sF hg76) zsL (by first | exact View.le_refl _ | assumption) ?_
      refine SA.gskip 22 (u := 76) (by kernel_rfl) rfl rfl rfl rfl rfl rfl (sF hg76) zsL (by first | exact View.le_refl _ | assumption) ?_
      exact K76 _ zcR
    case h17_2 => kernel_rfl
    case h17_3 => exact Wanted.plain rfl
    refine SA.done (by kernel_rfl) ?_
    refine WQ.thn ?_
    first | refine WC.cond rfl (fun hc1 => ?_) (fun hc1 => ?_) | refine WC.condB rfl (fun hc1 => ?_) (fun hc1 => ?_)
    · rcases hc1 with (hc | hc) | hc
      · exact absurd rfl hc
      · exact absurd rfl hc
      · exact absurd rfl hc
    · refine WC.skip ?_
      refine WQ.thn ?_
      refine WC.seqK (fun m σ' H' => σ.le σ' ∧ m = [(0, pv), (1, .pointer (some ⟨qb, 0, none⟩)), (5, .pointer (some ⟨b5, 0, none⟩))] ∧ H' = (b5, rowO 102 [.slice aa A.length ac, .slice ba B.length bc, .int .i64 I, .int .i64 J]) :: Hr) (fun KM => ?_) ?_
      · refine WC.seq ?_
        refine WC.region ?_
        refine WL.pur (Pur.fieldAddr rfl fo_102_0) ?_
        refine' WL.pur (Pur.load1 rfl ty_41 ?h23_0) ?k23
        case h23_0 => first | (apply Rd.own1; exact zmE; rfl) | (apply RdV.rd; apply RdV.idx (i := 0); assumption; rfl)
        refine WL.pur (Pur.len rfl isSlice_41) ?_
        refine' WL.pur (Pur.bin rfl rfl ?h24_0) ?k24
        case h24_0 => first | exact Bin.gtN (b := 0) | exact Bin.gtI
        refine WL.pur (Pur.move rfl) ?_
        refine' WL.andp (u := 95) (t := 100) rfl ?h25_0 ?h25_1 ?h25_2 rfl ?k25
        case h25_0 =>
          intro hg95 K95
          refine WL.gpur (u := 95) rfl rfl (gT hg95) (Pur.fieldAddr rfl fo_102_1) ?_
          refine' WL.gpur (u := 95) rfl rfl (gT hg95) (Pur.load1 rfl ty_41 ?h26_0) ?k26
          case h26_0 => first | (apply Rd.own1; exact zmE; rfl) | (apply RdV.rd; apply RdV.idx (i := 1); assumption; rfl) | (apply RdV.rd; apply RdV.idx (off := 0) (i := 1); assumption; rfl)
          refine WL.gpur (u := 95) rfl rfl (gT hg95) (Pur.len rfl isSlice_41) ?_
          refine' WL.gpur (u := 95) rfl rfl (gT hg95) (Pur.bin rfl rfl ?h27_0) ?k27
          case h27_0 => first | exact Bin.gtN (b := 0) | exact Bin.gtI
          exact K95 _ zcR rfl
        case h25_1 =>
          intro hg95 K95
          refine WL.gskip (u := 95) rfl rfl (sT hg95) ?_
          refine WL.gskip (u := 95) rfl rfl (sT hg95) ?_
          refine WL.gskip (u := 95) rfl rfl (sT hg95) ?_
          refine WL.gskip (u := 95) rfl rfl (sT hg95) ?_
          exact K95 _ zcR
        case h25_2 => exact Wanted.plain rfl
        refine WL.nil ?_
        refine WQ.thn ?_
        first | refine WC.cond rfl (fun hc2 => ?_) (fun hc2 => ?_) | refine WC.condB rfl (fun hc2 => ?_) (fun hc2 => ?_)
        · obtain ⟨ha0, hha, hxa0, hxa⟩ := hash_rd0 hA6 hea (by omega)
          obtain ⟨hb0, hhb, hxb0, hxb⟩ := hash_rd0 hB6 heb (by omega)
          refine WC.seq ?_
          refine WC.draw 15 15 ([(b5, rowO 102 [.slice aa A.length ac, .slice ba B.length bc, .int .i64 I, .int .i64 J])]) mixed (by kernel_rfl) rfl ?_
          refine SA.take 0 (by kernel_rfl) rfl rfl rfl (Wanted.plain rfl) zsL (by first | exact View.le_refl _ | assumption) (Pur.move rfl) ?_
          refine SA.take 1 (by kernel_rfl) rfl rfl rfl (Wanted.plain rfl) zsL (by first | exact View.le_refl _ | assumption) (Pur.fieldAddr rfl fo_102_0) ?_
          refine' SA.take 2 (by kernel_rfl) rfl rfl rfl (Wanted.plain rfl) zsL (by first | exact View.le_refl _ | assumption) (Pur.load1 rfl ty_41 ?h28_0) ?k28
          case h28_0 => first | (apply Rd.own1; exact zmE; rfl) | (apply RdV.rd; apply RdV.idx (i := 0); assumption; rfl)
          refine' SA.take 3 (by kernel_rfl) rfl rfl rfl (Wanted.plain rfl) zsL (by first | exact View.le_refl _ | assumption) (Pur.indexAddr (i := 0) (eqA (hea (by omega))) rfl sl_41 ?h29_0) ?k29
          case h29_0 => omega
          refine' SA.take 4 (by kernel_rfl) rfl rfl rfl (Wanted.plain rfl) zsL (by first | exact View.le_refl _ | assumption) (Pur.loadN rfl ty_39 ?h30_0 ?h30_1) ?k30
          case h30_0 => exact RdV.rd hxa
          case h30_1 => first | rfl | assumption
          refine SA.take 5 (by kernel_rfl) rfl rfl rfl (Wanted.plain rfl) zsL (by first | exact View.le_refl _ | assumption) (Pur.fieldAddr rfl fo_102_1) ?_
          refine' SA.take 6 (by kernel_rfl) rfl rfl rfl (Wanted.plain rfl) zsL (by first | exact View.le_refl _ | assumption) (Pur.load1 rfl ty_41 ?h31_0) ?k31
          case h31_0 => first | (apply Rd.own1; exact zmE; rfl) | (apply RdV.rd; apply RdV.idx (i := 1); assumption; rfl) | (apply RdV.rd; apply RdV.idx (off := 0) (i := 1); assumption; rfl)
          refine' SA.take 7 (by kernel_rfl) rfl rfl rfl (Wanted.plain rfl) zsL (by first | exact View.le_refl _ | assumption) (Pur.indexAddr (i := 0) (eqA (heb (by omega))) rfl sl_41 ?h32_0) ?k32
          case h32_0 => omega
          refine' SA.take 8 (by kernel_rfl) rfl rfl rfl (Wanted.plain rfl) zsL (by first | exact View.le_refl _ | assumption) (Pur.loadN rfl ty_39 ?h33_0 ?h33_1) ?k33
          case h33_0 => exact RdV.rd hxb
          case h33_1 => first | rfl | assumption
          refine SA.callR 9 (H1 := []) (Hr := (b5, _) :: Hr) rfl rfl (Wanted.plain rfl) (by kernel_rfl) rfl Tryz.call69 (List.Perm.refl _) (.inr ⟨List.Sublist.cons_cons _ (List.nil_sublist _), View.le_refl _⟩) (past_Common2 _ _ L ha0 hb0 hp6 ho hha hhb) ?_
          rintro _ σ7 _ ⟨⟨sv7, rfl, hs7⟩, rfl⟩ hle7
          rw [List.nil_append]
          refine SA.take 10 (by kernel_rfl) rfl rfl rfl (Wanted.plain rfl) zsL (by first | exact View.le_refl _ | assumption) (Pur.move rfl) ?_
          first | refine SA.take 11 (by kernel_rfl) rfl rfl rfl (Wanted.plain rfl) zsL (by first | exact View.le_refl _ | assumption) (Pur.ex2_0 rfl) ?_ | refine SA.take 11 (by kernel_rfl) rfl rfl rfl (Wanted.plain rfl) zsL (by first | exact View.le_refl _ | assumption) (Pur.ex3_0 rfl) ?_ | refine SA.take 11 (by kernel_rfl) rfl rfl rfl (Wanted.plain rfl) zsL (by first | exact View.le_refl _ | assumption) (Pur.extractNext rfl) ?_ | refine SA.take 11 (by kernel_rfl) rfl rfl rfl (Wanted.plain rfl) zsL (by first | exact View.le_refl _ | assumption) (Pur.extract rfl rfl) ?_
          first | refine SA.take 12 (by kernel_rfl) rfl rfl rfl (Wanted.plain rfl) zsL (by first | exact View.le_refl _ | assumption) (Pur.ex2_1 rfl) ?_ | refine SA.take 12 (by kernel_rfl) rfl rfl rfl (Wanted.plain rfl) zsL (by first | exact View.le_refl _ | assumption) (Pur.ex3_1 rfl) ?_ | refine SA.take 12 (by kernel_rfl) rfl rfl rfl (Wanted.plain rfl) zsL (by first | exact View.le_refl _ | assumption) (Pur.extract rfl rfl) ?_
          refine SA.take 13 (by kernel_rfl) rfl rfl rfl (Wanted.plain rfl) zsL (by first | exact View.le_refl _ | assumption) (Pur.assign rfl) ?_
          refine SA.take 14 (by kernel_rfl) rfl rfl rfl (Wanted.plain rfl) zsL (by first | exact View.le_refl _ | assumption) (Pur.assign rfl) ?_
          refine SA.done (by kernel_rfl) ?_
          refine WQ.thn ?_
          refine WC.seq ?_
          refine WC.draw 15 15 ([(b5, rowO 102 [.slice aa A.length ac, .slice ba B.length bc, .int .i64 I, .int .i64 J])]) mixed (by kernel_rfl) rfl ?_
          refine SA.take 0 (by kernel_rfl) rfl rfl rfl (Wanted.plain rfl) zsL (by first | exact View.le_refl _ | assumption) (Pur.move rfl) ?_
          refine SA.take 1 (by kernel_rfl) rfl rfl rfl (Wanted.plain rfl) zsL (by first | exact View.le_refl _ | assumption) (Pur.fieldAddr rfl fo_102_0) ?_
          refine' SA.take 2 (by kernel_rfl) rfl rfl rfl (Wanted.plain rfl) zsL (by first | exact View.le_refl _ | assumption) (Pur.load1 rfl ty_41 ?h34_0) ?k34
          case h34_0 => first | (apply Rd.own1; exact zmE; rfl) | (apply RdV.rd; apply RdV.idx (i := 0); assumption; rfl)
          refine' SA.take 3 (by kernel_rfl) rfl rfl rfl (Wanted.plain rfl) zsL (by first | exact View.le_refl _ | assumption) (Pur.indexAddr (i := 0) (eqA (hea (by omega))) rfl sl_41 ?h35_0) ?k35
          case h35_0 => omega
          refine' SA.take 4 (by kernel_rfl) rfl rfl rfl (Wanted.plain rfl) zsL (by first | exact View.le_refl _ | assumption) (Pur.loadN rfl ty_39 ?h36_0 ?h36_1) ?k36
          case h36_0 => exact RdV.rd (hxa.mono hle7)
          case h36_1 => first | rfl | assumption
          refine SA.take 5 (by kernel_rfl) rfl rfl rfl (Wanted.plain rfl) zsL (by first | exact View.le_refl _ | assumption) (Pur.fieldAddr rfl fo_102_1) ?_
          refine' SA.take 6 (by kernel_rfl) rfl rfl rfl (Wanted.plain rfl) zsL (by first | exact View.le_refl _ | assumption) (Pur.load1 rfl ty_41 ?h37_0) ?k37
          case h37_0 => first | (apply Rd.own1; exact zmE; rfl) | (apply RdV.rd; apply RdV.idx (i := 1); assumption; rfl) | (apply RdV.rd; apply RdV.idx (off := 0) (i := 1); assumption; rfl)
          refine' SA.take 7 (by kernel_rfl) rfl rfl rfl (Wanted.plain rfl) zsL (by first | exact View.le_refl _ | assumption) (Pur.indexAddr (i := 0) (eqA (heb (by omega))) rfl sl_41 ?h38_0) ?k38
          case h38_0 => omega
          refine' SA.take 8 (by kernel_rfl) rfl rfl rfl (Wanted.plain rfl) zsL (by first | exact View.le_refl _ | assumption) (Pur.loadN rfl ty_39 ?h39_0 ?h39_1) ?k39
          case h39_0 => exact RdV.rd (hxb.mono hle7)
          case h39_1 => first | rfl | assumption
          refine SA.callR 9 (H1 := []) (Hr := (b5, _) :: Hr) rfl rfl (Wanted.plain rfl) (by kernel_rfl) rfl Tryz.call133 (List.Perm.refl _) (.inr ⟨List.Sublist.cons_cons _ (List.nil_sublist _), View.le_refl _⟩) (r11_Common2 _ _ L ha0 hb0 (hq6.mono hle7) ho hha hhb) ?_
          rintro _ σ8 _ ⟨⟨sv8, rfl, hs8⟩, rfl⟩ hle8
          rw [List.nil_append]
          have hs78 := hs7.mono eHash_mono hle8
          have hle68 := View.le_trans hle7 hle8
          have hxa8 := hxa.mono hle68
          refine SA.take 10 (by kernel_rfl) rfl rfl rfl (Wanted.plain rfl) zsL (by first | exact View.le_refl _ | assumption) (Pur.move rfl) ?_
          first | refine SA.take 11 (by kernel_rfl) rfl rfl rfl (Wanted.plain rfl) zsL (by first | exact View.le_refl _ | assumption) (Pur.ex2_0 rfl) ?_ | refine SA.take 11 (by kernel_rfl) rfl rfl rfl (Wanted.plain rfl) zsL (by first | exact View.le_refl _ | assumption) (Pur.ex3_0 rfl) ?_ | refine SA.take 11 (by kernel_rfl) rfl rfl rfl (Wanted.plain rfl) zsL (by first | exact View.le_refl _ | assumption) (Pur.extractNext rfl) ?_ | refine SA.take 11 (by kernel_rfl) rfl rfl rfl (Wanted.plain rfl) zsL (by first | exact View.le_refl _ | assumption) (Pur.extract rfl rfl) ?_
          first | refine SA.take 12 (by kernel_rfl) rfl rfl rfl (Wanted.plain rfl) zsL (by first | exact View.le_refl _ | assumption) (Pur.ex2_1 rfl) ?_ | refine SA.take 12 (by kernel_rfl) rfl rfl rfl (Wanted.plain rfl) zsL (by first | exact View.le_refl _ | assumption) (Pur.ex3_1 rfl) ?_ | refine SA.take 12 (by kernel_rfl) rfl rfl rfl (Wanted.plain rfl) zsL (by first | exact View.le_refl _ | assumption) (Pur.extract rfl rfl) ?_
          refine SA.take 13 (by kernel_rfl) rfl rfl rfl (Wanted.plain rfl) zsL (by first | exact View.le_refl _ | assumption) (Pur.assign rfl) ?_
          refine SA.take 14 (by kernel_rfl) rfl rfl rfl (Wanted.plain rfl) zsL (by first | exact View.le_refl _ | assumption) (Pur.assign rfl) ?_
          refine SA.done (by kernel_rfl) ?_
          refine WQ.thn ?_
          refine WC.seq ?_
          refine WC.draw 24 24 ([(b5, rowO 102 [.slice aa A.length ac, .slice ba B.length bc, .int .i64 I, .int .i64 J])]) mixed (by kernel_rfl) rfl ?_
          refine SA.take 0 (by kernel_rfl) rfl rfl rfl (Wanted.plain rfl) zsL (by first | exact View.le_refl _ | assumption) (Pur.move rfl) ?_
          refine SA.take 1 (by kernel_rfl) rfl rfl rfl (Wanted.plain rfl) zsL (by first | exact View.le_refl _ | assumption) (Pur.move rfl) ?_
          refine' SA.take 2 (by kernel_rfl) rfl rfl rfl (Wanted.plain rfl) zsL (by first | exact View.le_refl _ | assumption) (Pur.bin rfl rfl ?h40_0) ?k40
          case h40_0 => first | exact Bin.neN | exact Bin.neI
          refine SA.take 3 (by kernel_rfl) rfl rfl rfl (Wanted.plain rfl) zsL (by first | exact View.le_refl _ | assumption) (Pur.move rfl) ?_
          refine' SA.orp 8 (u := 130) rfl ?h41_0 ?h41_1 ?h41_2 rfl zsL (View.le_refl _) ?h41_3 rfl ?k41
          case h41_0 =>
            intro hg130 K130
            refine SA.take 4 (by kernel_rfl) rfl rfl rfl (Wanted.guard (u := 130) rfl rfl rfl (gF hg130)) zsL (by first | exact View.le_refl _ | assumption) (Pur.move rfl) ?_
            refine SA.take 5 (by kernel_rfl) rfl rfl rfl (Wanted.guard (u := 130) rfl rfl rfl (gF hg130)) zsL (by first | exact View.le_refl _ | assumption) (Pur.move rfl) ?_
            refine SA.callP 6 rfl rfl (Wanted.guard (u := 130) rfl rfl rfl (gF hg130)) (by kernel_rfl) rfl Tryz.call114 zsL (by first | exact View.le_refl _ | assumption) ((r1_Same _ _ _ _ _ hs78 hs8)) ?_
            first | refine SA.take 7 (by kernel_rfl) rfl rfl rfl (Wanted.guard (u := 130) rfl rfl rfl (gF hg130)) zsL (by first | exact View.le_refl _ | assumption) (Pur.not rfl) ?_ | refine SA.take 7 (by kernel_rfl) rfl rfl rfl (Wanted.guard (u := 130) rfl rfl rfl (gF hg130)) zsL (by first | exact View.le_refl _ | assumption) (Pur.notB rfl) ?_
            exact K130 _ zcR rfl
          case h41_1 =>
            intro hg130 K130
            refine SA.gskip 4 (u := 130) (by kernel_rfl) rfl rfl rfl rfl rfl rfl (sF hg130) zsL (by first | exact View.le_refl _ | assumption) ?_
            refine SA.gskip 5 (u := 130) (by kernel_rfl) rfl rfl rfl rfl rfl rfl (sF hg130) zsL (by first | exact View.le_refl _ | assumption) ?_
            refine SA.gskip 6 (u := 130) (by kernel_rfl) rfl rfl rfl rfl rfl rfl (sF hg130) zsL (by first | exact View.le_refl _ | assumption) ?_
            refine SA.gskip 7 (u := 130) (by kernel_rfl) rfl rfl rfl rfl rfl rfl (sF hg130) zsL (by first | exact View.le_refl _ | assumption) ?_
            exact K130 _ zcR
          case h41_2 => kernel_rfl
          case h41_3 => exact Wanted.plain rfl
          refine SA.take 9 (by kernel_rfl) rfl rfl rfl (Wanted.plain rfl) zsL (by first | exact View.le_refl _ | assumption) (Pur.move rfl) ?_
          refine' SA.orp 23 (u := 136) rfl ?h42_0 ?h42_1 ?h42_2 rfl zsL (View.le_refl _) ?h42_3 rfl ?k42
          case h42_0 =>
            intro hg136 K136
            refine SA.take 10 (by kernel_rfl) rfl rfl rfl (Wanted.guard (u := 136) rfl rfl rfl (gF hg136)) zsL (by first | exact View.le_refl _ | assumption) (Pur.move rfl) ?_
            refine SA.take 11 (by kernel_rfl) rfl rfl rfl (Wanted.guard (u := 136) rfl rfl rfl (gF hg136)) zsL (by first | exact View.le_refl _ | assumption) (Pur.fieldAddr rfl fo_102_0) ?_
            refine' SA.take 12 (by kernel_rfl) rfl rfl rfl (Wanted.guard (u := 136) rfl rfl rfl (gF hg136)) zsL (by first | exact View.le_refl _ | assumption) (Pur.load1 rfl ty_41 ?h43_0) ?k43
            case h43_0 => first | (apply Rd.own1; exact zmE; rfl) | (apply RdV.rd; apply RdV.idx (i := 0); assumption; rfl)
            refine' SA.take 13 (by kernel_rfl) rfl rfl rfl (Wanted.guard (u := 136) rfl rfl rfl (gF hg136)) zsL (by first | exact View.le_refl _ | assumption) (Pur.indexAddr (i := 0) (eqA (hea (by omega))) rfl sl_41 ?h44_0) ?k44
            case h44_0 => omega
            refine' SA.take 14 (by kernel_rfl) rfl rfl rfl (Wanted.guard (u := 136) rfl rfl rfl (gF hg136)) zsL (by first | exact View.le_refl _ | assumption) (Pur.loadN rfl ty_39 ?h45_0 ?h45_1) ?k45
            case h45_0 => exact RdV.rd hxa8
            case h45_1 => first | rfl | assumption
            refine SA.take 16 (by kernel_rfl) rfl rfl rfl (Wanted.guard (u := 136) rfl rfl rfl (gF hg136)) zsL (by first | exact View.le_refl _ | assumption) (Pur.move rfl) ?_
            refine SA.take 17 (by kernel_rfl) rfl rfl rfl (Wanted.guard (u := 136) rfl rfl rfl (gF hg136)) zsL (by first | exact View.le_refl _ | assumption) (Pur.fieldAddr rfl fo_102_0) ?_
            refine' SA.take 18 (by kernel_rfl) rfl rfl rfl (Wanted.guard (u := 136) rfl rfl rfl (gF hg136)) zsL (by first | exact View.le_refl _ | assumption) (Pur.load1 rfl ty_41 ?h46_0) ?k46
            case h46_0 => first | (apply Rd.own1; exact zmE; rfl) | (apply RdV.rd; apply RdV.idx (i := 0); assumption; rfl)
            refine' SA.take 19 (by kernel_rfl) rfl rfl rfl (Wanted.guard (u := 136) rfl rfl rfl (gF hg136)) zsL (by first | exact View.le_refl _ | assumption) (Pur.indexAddr (i := 0) (eqA (hea (by omega))) rfl sl_41 ?h47_0) ?k47
            case h47_0 => omega
            refine' SA.take 20 (by kernel_rfl) rfl rfl rfl (Wanted.guard (u := 136) rfl rfl rfl (gF hg136)) zsL (by first | exact View.le_refl _ | assumption) (Pur.loadN rfl ty_39 ?h48_0 ?h48_1) ?k48
            case h48_0 => exact RdV.rd hxa8
            case h48_1 => first | rfl | assumption
            refine SA.callP 15 rfl rfl (Wanted.guard (u := 136) rfl rfl rfl (gF hg136)) (by kernel_rfl) rfl Tryz.call36 zsL (by first | exact View.le_refl _ | assumption) ((past_Number _ _ L ha0 (hp6.mono hle68) hha)) ?_
            refine SA.callP 21 rfl rfl (Wanted.guard (u := 136) rfl rfl rfl (gF hg136)) (by kernel_rfl) rfl Tryz.call37 zsL (by first | exact View.le_refl _ | assumption) ((r11_Number _ _ L ha0 (hq6.mono hle68) ho hha)) ?_
            refine' SA.take 22 (by kernel_rfl) rfl rfl rfl (Wanted.guard (u := 136) rfl rfl rfl (gF hg136)) zsL (by first | exact View.le_refl _ | assumption) (Pur.bin rfl rfl ?h49_0) ?k49
            case h49_0 => first | exact Bin.neN | exact Bin.neI
            exact K136 _ zcR rfl
          case h42_1 =>
            intro hg136 K136
            refine SA.gskip 10 (u := 136) (by kernel_rfl) rfl rfl rfl rfl rfl rfl (sF hg136) zsL (by first | exact View.le_refl _ | assumption) ?_
            refine SA.gskip 11 (u := 136) (by kernel_rfl) rfl rfl rfl rfl rfl rfl (sF hg136) zsL (by first | exact View.le_refl _ | assumption) ?_
            refine SA.gskip 12 (u := 136) (by kernel_rfl) rfl rfl rfl rfl rfl rfl (sF hg136) zsL (by first | exact View.le_refl _ | assumption) ?_
            refine SA.gskip 13 (u := 136) (by kernel_rfl) rfl rfl rfl rfl rfl rfl (sF hg136) zsL (by first | exact View.le_refl _ | assumption) ?_
            refine SA.gskip 14 (u := 136) (by kernel_rfl) rfl rfl rfl rfl rfl rfl (sF hg136) zsL (by first | exact View.le_refl _ | assumption) ?_
            refine SA.gskip 15 (u := 136) (by kernel_rfl) rfl rfl rfl rfl rfl rfl (sF hg136) zsL (by first | exact View.le_refl _ | assumption) ?_
            refine SA.gskip 16 (u := 136) (by kernel_rfl) rfl rfl rfl rfl rfl rfl (sF hg136) zsL (by first | exact View.le_refl _ | assumption) ?_
            refine SA.gskip 17 (u := 136) (by kernel_rfl) rfl rfl rfl rfl rfl rfl (sF hg136) zsL (by first | exact View.le_refl _ | assumption) ?_
            refine SA.gskip 18 (u := 136) (by kernel_rfl) rfl rfl rfl rfl rfl rfl (sF hg136) zsL (by first | exact View.le_refl _ | assumption) ?_
            refine SA.gskip 19 (u := 136) (by kernel_rfl) rfl rfl rfl rfl rfl rfl (sF hg136) zsL (by first | exact View.le_refl _ | assumption) ?_
            refine SA.gskip 20 (u := 136) (by kernel_rfl) rfl rfl rfl rfl rfl rfl (sF hg136) zsL (by first | exact View.le_refl _ | assumption) ?_
            refine SA.gskip 21 (u := 136) (by kernel_rfl) rfl rfl rfl rfl rfl rfl (sF hg136) zsL (by first | exact View.le_refl _ | assumption) ?_
            refine SA.gskip 22 (u := 136) (by kernel_rfl) rfl rfl rfl rfl rfl rfl (sF hg136) zsL (by first | exact View.le_refl _ | assumption) ?_
            exact K136 _ zcR
          case h42_2 => kernel_rfl
          case h42_3 => exact Wanted.plain rfl
          refine SA.done (by kernel_rfl) ?_
          refine WQ.thn ?_
          first | refine WC.cond rfl (fun hc3 => ?_) (fun hc3 => ?_) | refine WC.condB rfl (fun hc3 => ?_) (fun hc3 => ?_)
          · rcases hc3 with (hc | hc) | hc
            · exact absurd rfl hc
            · exact absurd rfl hc
            · exact absurd rfl hc
          · refine WC.skip ?_
            have hleE := View.le_trans hle06 hle68
            exact WQ.thnK (KM _ _ _ ⟨hleE, rfl, rfl⟩) zcV zsL
        · refine WC.skip ?_
          have hleE := hle06
          exact WQ.thnK (KM _ _ _ ⟨hleE, rfl, rfl⟩) zcV zsL
      · rintro _ σ Hr ⟨hlem, rfl, rfl⟩
        have hp9 := hp.mono hlem
        have hq9 := hq.mono hlem
        refine WC.seq ?_
        refine WC.region ?_
        refine WL.pur (Pur.move rfl) ?_
        refine WL.pur (Pur.fieldAddr rfl fo_102_2) ?_
        refine' WL.pur (Pur.load1 rfl ty_3 ?h50_0) ?k50
        case h50_0 => first | (apply Rd.own1; exact zmE; rfl) | (apply RdV.rd; apply RdV.idx (i := 2); assumption; rfl) | (apply RdV.rd; apply RdV.idx (off := 0) (i := 2); assumption; rfl)
        refine WL.call (H0 := []) (Hr := (b5, _) :: Hr) rfl Tryz.call44 (List.Perm.refl _) (past_Entry _ _ L I hp9) ?_
        rintro _ σ9 _ ⟨hd, rfl⟩ hle9
        rw [List.nil_append]
        obtain ⟨e9, q9v, o9v, er9, rfl, hN9, hi9, hd9⟩ := ent_told hp9 hd
        have hN92 := hN9
        obtain ⟨xpa, xpc, rfl, _, _⟩ := hN92.1.shape
        obtain ⟨xoa, xoc, rfl, _, _⟩ := hN92.2.1.shape
        have hq9b := hq9.mono hle9
        have hle09 := View.le_trans hlem hle9
        obtain ⟨_, qlv, qsv, qqv, hqe, hrq, hEq, _, _⟩ := hq9b
        cases hqe
        obtain ⟨ea, ec, rfl, hec, heb⟩ := hEq.shape
        obtain ⟨eb, eoff, hel⟩ := addr_of hEq
        refine WL.pur (Pur.move rfl) ?_
        first | refine WL.pur (Pur.ex2_0 rfl) ?_ | refine WL.pur (Pur.ex3_0 rfl) ?_ | refine WL.pur (Pur.extractNext rfl) ?_ | refine WL.pur (Pur.extract rfl rfl) ?_
        first | refine WL.pur (Pur.ex2_1 rfl) ?_ | refine WL.pur (Pur.ex3_1 rfl) ?_ | refine WL.pur (Pur.extract rfl rfl) ?_
        refine WL.new (New.alloc zc_45) (fun b13 => ?_)
        refine' WL.run0 (Run.storeAll rfl rfl ty_45 ?h51_0 (by first | rfl | assumption) ?h51_1 (by first | rfl | assumption)) ?k51
        case h51_0 => repeat (first | exact Part.one | exact Part.here | apply Part.cons | apply Part.app)
        case h51_1 => first | rfl | assumption
        refine WL.pur (Pur.assign rfl) ?_
        refine WL.nil ?_
        refine WQ.thn ?_
        refine WC.seq ?_
        refine WC.seq ?_
        refine WC.draw 13 13 ([(b13, rowO 45 (entCells e9.id e9.node.au e9.node.cl (.slice xpa e9.node.ps.length xpc) (.slice xoa e9.node.ops.length xoc))), (b5, rowO 102 [.slice aa A.length ac, .slice ba B.length bc, .int .i64 I, .int .i64 J])]) mixed (by kernel_rfl) rfl ?_
        refine SA.take 0 (by kernel_rfl) rfl rfl rfl (Wanted.plain rfl) zsL (by first | exact View.le_refl _ | assumption) (Pur.fieldAddr rfl fo_102_2) ?_
        refine' SA.take 1 (by kernel_rfl) rfl rfl rfl (Wanted.plain rfl) zsL (by first | exact View.le_refl _ | assumption) (Pur.load1 rfl ty_3 ?h52_0) ?k52
        case h52_0 => first | (apply Rd.own1; exact zmE; rfl) | (apply RdV.rd; apply RdV.idx (i := 2); assumption; rfl) | (apply RdV.rd; apply RdV.idx (off := 0) (i := 2); assumption; rfl)
        refine' SA.take 2 (by kernel_rfl) rfl rfl rfl (Wanted.plain rfl) zsL (by first | exact View.le_refl _ | assumption) (Pur.bin rfl rfl ?h53_0) ?k53
        case h53_0 => first | exact Bin.ltN (b := 0) | exact Bin.ltI | exact Bin.ltS
        refine SA.take 3 (by kernel_rfl) rfl rfl rfl (Wanted.plain rfl) zsL (by first | exact View.le_refl _ | assumption) (Pur.move rfl) ?_
        refine' SA.orp 12 (u := 161) rfl ?h54_0 ?h54_1 ?h54_2 rfl zsL (View.le_refl _) ?h54_3 rfl ?k54
        case h54_0 =>
          intro hg161 K161
          refine SA.take 4 (by kernel_rfl) rfl rfl rfl (Wanted.guard (u := 161) rfl rfl rfl (gF hg161)) zsL (by first | exact View.le_refl _ | assumption) (Pur.fieldAddr rfl fo_102_2) ?_
          refine' SA.take 5 (by kernel_rfl) rfl rfl rfl (Wanted.guard (u := 161) rfl rfl rfl (gF hg161)) zsL (by first | exact View.le_refl _ | assumption) (Pur.load1 rfl ty_3 ?h55_0) ?k55
          case h55_0 => first | (apply Rd.own1; exact zmE; rfl) | (apply RdV.rd; apply RdV.idx (i := 2); assumption; rfl) | (apply RdV.rd; apply RdV.idx (off := 0) (i := 2); assumption; rfl)
          refine SA.take 6 (by kernel_rfl) rfl rfl rfl (Wanted.guard (u := 161) rfl rfl rfl (gF hg161)) zsL (by first | exact View.le_refl _ | assumption) (Pur.move rfl) ?_
          refine SA.take 7 (by kernel_rfl) rfl rfl rfl (Wanted.guard (u := 161) rfl rfl rfl (gF hg161)) zsL (by first | exact View.le_refl _ | assumption) (Pur.nilCheck rfl) ?_
          refine SA.take 8 (by kernel_rfl) rfl rfl rfl (Wanted.guard (u := 161) rfl rfl rfl (gF hg161)) zsL (by first | exact View.le_refl _ | assumption) (Pur.fieldAddr rfl fo_74_0) ?_
          refine' SA.take 9 (by kernel_rfl) rfl rfl rfl (Wanted.guard (u := 161) rfl rfl rfl (gF hg161)) zsL (by first | exact View.le_refl _ | assumption) (Pur.load1 rfl ty_22 ?h56_0) ?k56
          case h56_0 => exact RdV.rd (RdV.idx (off := 0) (i := 0) hrq rfl)
          refine SA.take 10 (by kernel_rfl) rfl rfl rfl (Wanted.guard (u := 161) rfl rfl rfl (gF hg161)) zsL (by first | exact View.le_refl _ | assumption) (Pur.len rfl isSlice_22) ?_
          refine' SA.take 11 (by kernel_rfl) rfl rfl rfl (Wanted.guard (u := 161) rfl rfl rfl (gF hg161)) zsL (by first | exact View.le_refl _ | assumption) (Pur.bin rfl rfl ?h57_0) ?k57
          case h57_0 => first | exact Bin.geN | exact Bin.geI
          exact K161 _ zcR rfl
        case h54_1 =>
          intro hg161 K161
          refine SA.gskip 4 (u := 161) (by kernel_rfl) rfl rfl rfl rfl rfl rfl (sF hg161) zsL (by first | exact View.le_refl _ | assumption) ?_
          refine SA.gskip 5 (u := 161) (by kernel_rfl) rfl rfl rfl rfl rfl rfl (sF hg161) zsL (by first | exact View.le_refl _ | assumption) ?_
          refine SA.gskip 6 (u := 161) (by kernel_rfl) rfl rfl rfl rfl rfl rfl (sF hg161) zsL (by first | exact View.le_refl _ | assumption) ?_
          refine SA.gskip 7 (u := 161) (by kernel_rfl) rfl rfl rfl rfl rfl rfl (sF hg161) zsL (by first | exact View.le_refl _ | assumption) ?_
          refine SA.gskip 8 (u := 161) (by kernel_rfl) rfl rfl rfl rfl rfl rfl (sF hg161) zsL (by first | exact View.le_refl _ | assumption) ?_
          refine SA.gskip 9 (u := 161) (by kernel_rfl) rfl rfl rfl rfl rfl rfl (sF hg161) zsL (by first | exact View.le_refl _ | assumption) ?_
          refine SA.gskip 10 (u := 161) (by kernel_rfl) rfl rfl rfl rfl rfl rfl (sF hg161) zsL (by first | exact View.le_refl _ | assumption) ?_
          refine SA.gskip 11 (u := 161) (by kernel_rfl) rfl rfl rfl rfl rfl rfl (sF hg161) zsL (by first | exact View.le_refl _ | assumption) ?_
          exact K161 _ zcR
        case h54_2 => kernel_rfl
        case h54_3 => exact Wanted.plain rfl
        refine SA.done (by kernel_rfl) ?_
        refine WQ.thn ?_
        first | refine WC.cond rfl (fun hc4 => ?_) (fun hc4 => ?_) | refine WC.condB rfl (fun hc4 => ?_) (fun hc4 => ?_)
        · have hd9 := hd9.resolve_left (fun ⟨k, h2, h3, _⟩ => by have := (List.getElem?_eq_some_iff.1 h3).1; omega)
          refine WC.seq ?_
          refine WC.region ?_
          refine WL.pur (Pur.move rfl) ?_
          refine' WL.pur (Pur.bin rfl rfl ?h58_0) ?k58
          case h58_0 => first | exact Bin.eqN (b := 2) | exact Bin.eqI
          refine WL.pur (Pur.move rfl) ?_
          refine' WL.andp (u := 173) (t := 177) rfl ?h59_0 ?h59_1 ?h59_2 rfl ?k59
          case h59_0 =>
            intro hg173 K173
            refine' WL.gpur (u := 173) rfl rfl (gT hg173) (Pur.loadN rfl ty_45 ?h60_0 ?h60_1) ?k60
            case h60_0 => first | (apply Rd.own_sub; exact zmE; exact Sub.refl _) | (apply RdV.rd; assumption)
            case h60_1 => first | rfl | assumption
            refine WL.gpur (u := 173) rfl rfl (gT hg173) (Pur.build (l := (entCells 0 0 0 (.slice none 0 0) (.slice none 0 0))) pl_45 zc_45 rfl rfl) ?_
            refine WL.gcallP (u := 173) rfl rfl (gT hg173) rfl Tryz.call45 ((same0 _ e9 _ _ hN9 hi9)) ?_
            exact K173 _ zcR rfl
          case h59_1 =>
            intro hg173 K173
            refine WL.gskip (u := 173) rfl rfl (sT hg173) ?_
            refine WL.gskip (u := 173) rfl rfl (sT hg173) ?_
            refine WL.gskip (u := 173) rfl rfl (sT hg173) ?_
            exact K173 _ zcR
          case h59_2 => exact Wanted.plain rfl
          refine WL.pur (Pur.assign rfl) ?_
          refine WL.nil ?_
          refine WQ.thn ?_
          refine WC.ret ?_
          refine WQ.thn_ret ?_
          refine WQ.ret1 Tryz.results64 rfl [] zsL hle09 ?_
          exact ⟨(boolT ⟨hd9.2.2, hd9.2.1⟩).symm, rfl⟩
        · obtain ⟨k, hIk, hLk, her⟩ := hd9.resolve_right (fun h => by have := h.1; omega)
          have hkl := (List.getElem?_eq_some_iff.1 hLk).1
          obtain ⟨q2v, o2v, hrd2, heH2, hNR2⟩ := ent_rd hEq hel hLk
          have hNR3 := hNR2
          obtain ⟨zpa, zpc, rfl, _, _⟩ := hNR3.1.shape
          obtain ⟨zoa, zoc, rfl, _, _⟩ := hNR3.2.1.shape
          refine WC.skip ?_
          refine WQ.thn ?_
          refine WC.seq ?_
          refine WC.draw 15 15 ([(b13, rowO 45 (entCells e9.id e9.node.au e9.node.cl (.slice xpa e9.node.ps.length xpc) (.slice xoa e9.node.ops.length xoc))), (b5, rowO 102 [.slice aa A.length ac, .slice ba B.length bc, .int .i64 I, .int .i64 J])]) mixed (by kernel_rfl) rfl ?_
          refine SA.take 0 (by kernel_rfl) rfl rfl rfl (Wanted.plain rfl) zsL (by first | exact View.le_refl _ | assumption) (Pur.move rfl) ?_
          refine' SA.take 1 (by kernel_rfl) rfl rfl rfl (Wanted.plain rfl) zsL (by first | exact View.le_refl _ | assumption) (Pur.bin rfl rfl ?h61_0) ?k61
          case h61_0 => first | exact Bin.eqN (b := 0) | exact Bin.eqI
          refine SA.take 2 (by kernel_rfl) rfl rfl rfl (Wanted.plain rfl) zsL (by first | exact View.le_refl _ | assumption) (Pur.move rfl) ?_
          refine' SA.andp 13 (u := 180) rfl ?h62_0 ?h62_1 ?h62_2 rfl zsL (View.le_refl _) ?h62_3 rfl ?k62
          case h62_0 =>
            intro hg180 K180
            refine' SA.take 3 (by kernel_rfl) rfl rfl rfl (Wanted.guard (u := 180) rfl rfl rfl (gT hg180)) zsL (by first | exact View.le_refl _ | assumption) (Pur.loadN rfl ty_45 ?h63_0 ?h63_1) ?k63
            case h63_0 => first | (apply Rd.own_sub; exact zmE; exact Sub.refl _) | (apply RdV.rd; assumption)
            case h63_1 => first | rfl | assumption
            refine SA.take 4 (by kernel_rfl) rfl rfl rfl (Wanted.guard (u := 180) rfl rfl rfl (gT hg180)) zsL (by first | exact View.le_refl _ | assumption) (Pur.move rfl) ?_
            refine SA.take 5 (by kernel_rfl) rfl rfl rfl (Wanted.guard (u := 180) rfl rfl rfl (gT hg180)) zsL (by first | exact View.le_refl _ | assumption) (Pur.nilCheck rfl) ?_
            refine SA.take 6 (by kernel_rfl) rfl rfl rfl (Wanted.guard (u := 180) rfl rfl rfl (gT hg180)) zsL (by first | exact View.le_refl _ | assumption) (Pur.fieldAddr rfl fo_74_0) ?_
            refine' SA.take 7 (by kernel_rfl) rfl rfl rfl (Wanted.guard (u := 180) rfl rfl rfl (gT hg180)) zsL (by first | exact View.le_refl _ | assumption) (Pur.load1 rfl ty_22 ?h64_0) ?k64
            case h64_0 => exact RdV.rd (RdV.idx (off := 0) (i := 0) hrq rfl)
            refine SA.take 8 (by kernel_rfl) rfl rfl rfl (Wanted.guard (u := 180) rfl rfl rfl (gT hg180)) zsL (by first | exact View.le_refl _ | assumption) (Pur.fieldAddr rfl fo_102_2) ?_
            refine' SA.take 9 (by kernel_rfl) rfl rfl rfl (Wanted.guard (u := 180) rfl rfl rfl (gT hg180)) zsL (by first | exact View.le_refl _ | assumption) (Pur.load1 rfl ty_3 ?h65_0) ?k65
            case h65_0 => first | (apply Rd.own1; exact zmE; rfl) | (apply RdV.rd; apply RdV.idx (i := 2); assumption; rfl) | (apply RdV.rd; apply RdV.idx (off := 0) (i := 2); assumption; rfl)
            refine' SA.take 10 (by kernel_rfl) rfl rfl rfl (Wanted.guard (u := 180) rfl rfl rfl (gT hg180)) zsL (by first | exact View.le_refl _ | assumption) (Pur.indexAddr (i := k) (eqA (hel (by omega))) (by rw [← hIk]; rfl) sl_22 ?h66_0) ?k66
            case h66_0 => omega
            refine' SA.take 11 (by kernel_rfl) rfl rfl rfl (Wanted.guard (u := 180) rfl rfl rfl (gT hg180)) zsL (by first | exact View.le_refl _ | assumption) (Pur.loadN rfl ty_45 ?h67_0 ?h67_1) ?k67
            case h67_0 => exact RdV.rd hrd2
            case h67_1 => first | rfl | assumption
            refine SA.callP 12 rfl rfl (Wanted.guard (u := 180) rfl rfl rfl (gT hg180)) (by kernel_rfl) rfl Tryz.call45 zsL (by first | exact View.le_refl _ | assumption) ((r5_SameEntry _ e9 e9 _ _ _ _ hN9 hNR2 hi9 heH2)) ?_
            exact K180 _ zcR rfl
          case h62_1 =>
            intro hg180 K180
            refine SA.gskip 3 (u := 180) (by kernel_rfl) rfl rfl rfl rfl rfl rfl (sT hg180) zsL (by first | exact View.le_refl _ | assumption) ?_
            refine SA.gskip 4 (u := 180) (by kernel_rfl) rfl rfl rfl rfl rfl rfl (sT hg180) zsL (by first | exact View.le_refl _ | assumption) ?_
            refine SA.gskip 5 (u := 180) (by kernel_rfl) rfl rfl rfl rfl rfl rfl (sT hg180) zsL (by first | exact View.le_refl _ | assumption) ?_
            refine SA.gskip 6 (u := 180) (by kernel_rfl) rfl rfl rfl rfl rfl rfl (sT hg180) zsL (by first | exact View.le_refl _ | assumption) ?_
            refine SA.gskip 7 (u := 180) (by kernel_rfl) rfl rfl rfl rfl rfl rfl (sT hg180) zsL (by first | exact View.le_refl _ | assumption) ?_
            refine SA.gskip 8 (u := 180) (by kernel_rfl) rfl rfl rfl rfl rfl rfl (sT hg180) zsL (by first | exact View.le_refl _ | assumption) ?_
            refine SA.gskip 9 (u := 180) (by kernel_rfl) rfl rfl rfl rfl rfl rfl (sT hg180) zsL (by first | exact View.le_refl _ | assumption) ?_
            refine SA.gskip 10 (u := 180) (by kernel_rfl) rfl rfl rfl rfl rfl rfl (sT hg180) zsL (by first | exact View.le_refl _ | assumption) ?_
            refine SA.gskip 11 (u := 180) (by kernel_rfl) rfl rfl rfl rfl rfl rfl (sT hg180) zsL (by first | exact View.le_refl _ | assumption) ?_
            refine SA.gskip 12 (u := 180) (by kernel_rfl) rfl rfl rfl rfl rfl rfl (sT hg180) zsL (by first | exact View.le_refl _ | assumption) ?_
            exact K180 _ zcR
          case h62_2 => kernel_rfl
          case h62_3 => exact Wanted.plain rfl
          refine SA.take 14 (by kernel_rfl) rfl rfl rfl (Wanted.plain rfl) zsL (by first | exact View.le_refl _ | assumption) (Pur.assign rfl) ?_
          refine SA.done (by kernel_rfl) ?_
          refine WQ.thn ?_
          refine WC.ret ?_
          refine WQ.ret1 Tryz.results64 rfl [] zsL hle09 ?_
          exact ⟨(boolT ⟨her, rfl⟩).symm, rfl⟩

end Go.Proofs.YtgoooilgmabkmaaGreat
namespace Go.Proofs.YtgoooilgmabkmaaGreat
open Go Go.Sl
set_option linter.unusedVariables false
set_option linter.unusedSimpArgs false
set_option maxRecDepth 100000

set_option maxHeartbeats 2000000 in
theorem law11_PastAsks (σ : View) (lv kv : Value) (l : List EntD) (asks : List AskD) (h : Ents σ lv l) (hk : Asks σ kv asks) :
    Tri Tryz.prog 14 #[lv, kv] σ [] (fun v σ' H' => v = .bool true) := by
  have h' := h
  obtain ⟨la, lc, rfl, hlc, hlby⟩ := h.shape
  obtain ⟨ka, kc, rfl, hkc, hkby⟩ := hk.shape
  obtain ⟨kb, koff, hek⟩ := addr_of hk
  refine Tri.of_body [(0, .slice la l.length lc), (1, .slice ka asks.length kc)] Tryz.func14 rfl Tryz.ntmps14 (by simp) rfl (fun Hr => ?_)
  rw [List.nil_append]
  refine WC.seq ?_
  refine WC.region ?_
  refine WL.pur (Pur.assign rfl) ?_
  refine WL.nil ?_
  refine WQ.thn ?_
  refine WC.seq ?_
  refine WC.seq ?_
  refine WC.region ?_
  refine WL.call (H0 := []) (Hr := Hr) rfl Tryz.call35 (List.Perm.refl _) (law11_awake _) ?_
  rintro _ σ0 _ ⟨rfl, rfl⟩ hle0
  rw [List.nil_append]
  first | refine WL.pur (Pur.not rfl) ?_ | refine WL.pur (Pur.notB rfl) ?_
  refine WL.nil ?_
  refine WQ.thn ?_
  refine WC.condF rfl ?_
  refine WC.skip ?_
  refine WQ.thn ?_
  refine WC.seq ?_
  refine WC.region ?_
  refine WL.pur (Pur.move rfl) ?_
  refine WL.call (H0 := []) (Hr := Hr) rfl Tryz.call23 (List.Perm.refl _) (past_Of2 _ _ l (h'.mono eEnt_mono hle0)) ?_
  rintro _ σ1 _ ⟨⟨pa, n1, rfl, hpp, hpn⟩, rfl⟩ hle1
  rw [List.nil_append]
  refine WL.pur (Pur.move rfl) ?_
  first | refine WL.pur (Pur.ex2_0 rfl) ?_ | refine WL.pur (Pur.ex3_0 rfl) ?_ | refine WL.pur (Pur.extractNext rfl) ?_ | refine WL.pur (Pur.extract rfl rfl) ?_
  first | refine WL.pur (Pur.ex2_1 rfl) ?_ | refine WL.pur (Pur.ex3_1 rfl) ?_ | refine WL.pur (Pur.extract rfl rfl) ?_
  first | refine WL.pur (Pur.ex3_2 rfl) ?_ | refine WL.pur (Pur.extract rfl rfl) ?_
  refine WL.pur (Pur.assign rfl) ?_
  refine WL.pur (Pur.assign rfl) ?_
  refine WL.pur (Pur.assign rfl) ?_
  refine WL.nil ?_
  refine WQ.thn ?_
  refine WC.seq ?_
  refine WC.region ?_
  refine WL.pur (Pur.move rfl) ?_
  refine WL.call (H0 := []) (Hr := Hr) rfl Tryz.call24 (List.Perm.refl _) (r11_Of2 _ _ l (h'.mono eEnt_mono (View.le_trans hle0 hle1))) ?_
  rintro _ σ2 _ ⟨⟨qa, m3, rfl, hqq, hqn⟩, rfl⟩ hle2
  rw [List.nil_append]
  refine WL.pur (Pur.move rfl) ?_
  first | refine WL.pur (Pur.ex2_0 rfl) ?_ | refine WL.pur (Pur.ex3_0 rfl) ?_ | refine WL.pur (Pur.extractNext rfl) ?_ | refine WL.pur (Pur.extract rfl rfl) ?_
  first | refine WL.pur (Pur.ex2_1 rfl) ?_ | refine WL.pur (Pur.ex3_1 rfl) ?_ | refine WL.pur (Pur.extract rfl rfl) ?_
  first | refine WL.pur (Pur.ex3_2 rfl) ?_ | refine WL.pur (Pur.extract rfl rfl) ?_
  refine WL.pur (Pur.assign rfl) ?_
  refine WL.pur (Pur.assign rfl) ?_
  refine WL.pur (Pur.assign rfl) ?_
  refine WL.nil ?_
  refine WQ.thn ?_
  refine WC.seq ?_
  refine WC.seq ?_
  refine WC.region ?_
  refine WL.pur (Pur.move rfl) ?_
  refine' WL.pur (Pur.bin rfl rfl ?h1_0) ?k1
  case h1_0 => first | exact Bin.neN (b := 0) | exact Bin.neI
  refine WL.pur (Pur.move rfl) ?_
  refine' WL.orp (u := 29) (t := 32) rfl ?h2_0 ?h2_1 ?h2_2 rfl ?k2
  case h2_0 =>
    intro hg29 K29
    refine WL.gpur (u := 29) rfl rfl (gF hg29) (Pur.move rfl) ?_
    refine' WL.gpur (u := 29) rfl rfl (gF hg29) (Pur.bin rfl rfl ?h3_0) ?k3
    case h3_0 => exact Bin.eqP isPtr_25
    exact K29 _ zcR rfl
  case h2_1 =>
    intro hg29 K29
    refine WL.gskip (u := 29) rfl rfl (sF hg29) ?_
    refine WL.gskip (u := 29) rfl rfl (sF hg29) ?_
    exact K29 _ zcR
  case h2_2 => exact Wanted.plain rfl
  refine WL.nil ?_
  refine WQ.thn ?_
  first | refine WC.cond rfl (fun hc1 => ?_) (fun hc1 => ?_) | refine WC.condB rfl (fun hc1 => ?_) (fun hc1 => ?_)
  · have hne : (rightErr l).1 ≠ 0 := by
      rcases hc1 with h | h
      · exact h
      · intro h0
        obtain ⟨_, _, _, _, e, _⟩ := hpp h0
        rw [h] at e
        cases e
    refine WC.seq ?_
    refine WC.region ?_
    refine WL.pur (Pur.move rfl) ?_
    refine' WL.pur (Pur.bin rfl rfl ?h4_0) ?k4
    case h4_0 => first | exact Bin.neN (b := 0) | exact Bin.neI
    refine WL.pur (Pur.move rfl) ?_
    refine' WL.andp (u := 35) (t := 38) rfl ?h5_0 ?h5_1 ?h5_2 rfl ?k5
    case h5_0 =>
      intro hg35 K35
      refine WL.gpur (u := 35) rfl rfl (gT hg35) (Pur.move rfl) ?_
      refine' WL.gpur (u := 35) rfl rfl (gT hg35) (Pur.bin rfl rfl ?h6_0) ?k6
      case h6_0 => exact Bin.eqP isPtr_25
      exact K35 _ zcR rfl
    case h5_1 =>
      intro hg35 K35
      refine WL.gskip (u := 35) rfl rfl (sT hg35) ?_
      refine WL.gskip (u := 35) rfl rfl (sT hg35) ?_
      exact K35 _ zcR
    case h5_2 => exact Wanted.plain rfl
    refine WL.pur (Pur.assign rfl) ?_
    refine WL.nil ?_
    refine WQ.thn ?_
    refine WC.ret ?_
    refine WQ.thn_ret ?_
    refine WQ.ret1 Tryz.results14 rfl [] zsL (View.le_trans hle0 (View.le_trans hle1 hle2)) ?_
    exact (boolT ⟨hne, hpn hne⟩).symm
  · have h0 : (rightErr l).1 = 0 := Decidable.not_not.1 fun h => hc1 (.inl h)
    have hone := oneOrd_ordE h0
    have ho := hone.ok
    have hq2 := hqq h0
    have hp2 := (hpp h0).mono hle2
    have hk2 := hk.mono eAsk_mono (View.le_trans hle0 (View.le_trans hle1 hle2))
    refine WC.skip ?_
    refine WQ.thn ?_
    refine WC.seq ?_
    refine WC.seq ?_
    refine WC.region ?_
    refine WL.pur (Pur.move rfl) ?_
    refine WL.pur (Pur.len rfl isSlice_100) ?_
    refine WL.pur (Pur.move rfl) ?_
    refine WL.nil ?_
    refine WQ.thn ?_
    refine WC.block ?_
    refine WC.loop (fun j m σ' H' => ∃ i : Nat, j = asks.length - i ∧ i ≤ asks.length ∧ σ2.le σ' ∧ m = [(5, .pointer pa), (8, .pointer qa), (39, .slice ka asks.length kc), (40, .int .i64 (asks.length : Int)), (41, .int .i64 (i : Int))] ∧ H' = Hr) ⟨0, rfl, by omega, View.le_refl _, rfl, rfl⟩ zcV zsL ?_
    rintro _ _ σ Hr ⟨i, rfl, hi, hlei, rfl, rfl⟩
    refine WC.seq ?_
    refine WC.region ?_
    refine' WL.pur (Pur.bin rfl rfl ?h7_0) ?k7
    case h7_0 => first | exact Bin.ltN | exact Bin.ltI | exact Bin.ltS
    refine WL.nil ?_
    refine WQ.thn ?_
    refine WC.seq ?_
    first | refine WC.cond rfl (fun hc2 => ?_) (fun hc2 => ?_) | refine WC.condB rfl (fun hc2 => ?_) (fun hc2 => ?_)
    · obtain ⟨a, ha⟩ : ∃ a, asks[i]? = some a := ⟨_, List.getElem?_eq_getElem (by omega)⟩
      have hki := hk2.mono eAsk_mono hlei
      obtain ⟨kb2, koff2, ek2, kat2⟩ := hki.rds
      have ek1 := hek (by omega)
      rw [ek2 (by omega)] at ek1
      cases ek1
      obtain ⟨_, _, _, ⟨qav, qbv, rfl, hqA, hqB, hqI, hqJ⟩, hrd⟩ := kat2 i a ha
      have hpi := hp2.mono hlei
      have hqi := hq2.mono hlei
      have hqA1 : qav.oneCell' = true := by obtain ⟨_, _, rfl, _⟩ := hqA.shape; rfl
      have hqB1 : qbv.oneCell' = true := by obtain ⟨_, _, rfl, _⟩ := hqB.shape; rfl
      refine WC.skip ?_
      refine WQ.thn ?_
      refine WC.seq ?_
      refine WC.block ?_
      refine WC.seq ?_
      refine WC.region ?_
      refine' WL.pur (Pur.indexAddr (eqA (hek (by omega))) rfl sl_100 ?h8_0) ?k8
      case h8_0 => omega
      refine' WL.pur (Pur.loadN rfl ty_102 ?h9_0 ?h9_1) ?k9
      case h9_0 => exact RdV.rd hrd
      case h9_1 => first | rfl | assumption
      refine WL.new (New.alloc zc_102) (fun b12 => ?_)
      refine' WL.run0 (Run.storeAll rfl rfl ty_102 ?h10_0 (by first | rfl | assumption) ?h10_1 (by first | rfl | assumption)) ?k10
      case h10_0 => repeat (first | exact Part.one | exact Part.here | apply Part.cons | apply Part.app)
      case h10_1 => first | rfl | assumption
      refine WL.nil ?_
      refine WQ.thn ?_
      refine WC.seq ?_
      refine WC.region ?_
      refine WL.pur (Pur.move rfl) ?_
      refine WL.pur (Pur.move rfl) ?_
      refine' WL.pur (Pur.loadN rfl ty_102 ?h11_0 ?h11_1) ?k11
      case h11_0 => first | (apply Rd.own_sub; exact zmE; exact Sub.refl _) | (apply RdV.rd; assumption)
      case h11_1 => first | rfl | assumption
      refine WL.call (H0 := []) (Hr := (b12, _) :: Hr) rfl Tryz.call64 (List.Perm.refl _) (law11_asked _ _ _ _ _ (ordE l) a.a a.b a.i a.j hpi hqi hone hqA hqB hqI hqJ) ?_
      rintro _ σ4 _ ⟨rfl, rfl⟩ hle4
      rw [List.nil_append]
      first | refine WL.pur (Pur.not rfl) ?_ | refine WL.pur (Pur.notB rfl) ?_
      refine WL.nil ?_
      refine WQ.thn ?_
      first | refine WC.cond rfl (fun hc3 => ?_) (fun hc3 => ?_) | refine WC.condB rfl (fun hc3 => ?_) (fun hc3 => ?_)
      · exact absurd hc3 (by decide)
      · refine WC.skip ?_
        refine WQ.blk ?_
        refine WQ.thn ?_
        refine WC.region ?_
        refine' WL.pur (Pur.bin rfl rfl ?h12_0) ?k12
        case h12_0 => first | (refine Bin.addN (b := 1) ?_; omega) | (refine Bin.addI ?_; omega)
        refine WL.pur (Pur.move rfl) ?_
        refine WL.nil ?_
        refine WQ.back _ ⟨i + 1, rfl, by omega, View.le_trans hlei hle4, rfl, rfl⟩ (by omega) zcV zsL
    · refine WC.exit ?_
      refine WQ.thn_exit ?_
      refine WQ.back_exit ?_
      refine WQ.blk_here ?_
      refine WQ.thn ?_
      refine WC.seq ?_
      refine WC.region ?_
      refine WL.pur (Pur.move rfl) ?_
      refine WL.pur (Pur.move rfl) ?_
      refine WL.call (H0 := []) (Hr := Hr) rfl Tryz.call38 (List.Perm.refl _) (law11_alike _ _ _ (ordE l) (hp2.mono hlei) (hq2.mono hlei) ho) ?_
      rintro _ σ5 _ ⟨rfl, rfl⟩ hle5
      rw [List.nil_append]
      refine WL.pur (Pur.assign rfl) ?_
      refine WL.nil ?_
      refine WQ.thn ?_
      refine WC.ret ?_
      refine WQ.ret1 Tryz.results14 rfl [] zsL (View.le_trans hle0 (View.le_trans hle1 (View.le_trans hle2 (View.le_trans hlei hle5)))) ?_
      rfl

end Go.Proofs.YtgoooilgmabkmaaGreat
