/-
  Contracts of the functions of the program and of its references: what each call hands back, from what is known and owned.
-/
import Derived.Test.YtgoooilgmabkmaaGreatCd
import Derived.Shelf.SlSortCmp.NoneTotal
set_option linter.unusedVariables false
set_option linter.unusedSimpArgs false
set_option linter.unusedSectionVars false
namespace Go.Proofs.YtgoooilgmabkmaaGreat
open Go Go.Sl
set_option linter.unusedVariables false
set_option linter.unusedSimpArgs false
set_option maxRecDepth 100000

theorem ents_isH {σ : View} {lv : Value} {L : List EntD} (h : Ents σ lv L) : ∀ e ∈ L, IsH e.id := by
  intro e he
  obtain ⟨i, hi⟩ := List.getElem?_of_mem he
  obtain ⟨a, c, rfl, _⟩ := h.shape
  obtain ⟨b, off, hb⟩ := addr_of h
  obtain ⟨_, _, _, hH, _⟩ := ent_rd h hb hi
  exact hH

theorem past_Len (σ : View) (pv : Value) (L : List EntD) (h : PastV σ pv L) :
    TriP Tryz.prog 43 #[pv] σ (.int .i64 (L.length : Int)) := by
  obtain ⟨b, mb, lv, sv, rfl, hr, hl, hm, hs⟩ := h
  obtain ⟨la, lc, rfl, hlc, hlb⟩ := hl.shape
  obtain ⟨sa, sc, rfl, hsc, hsb⟩ := hs.shape
  refine Tri.of_body [(0, .pointer (some ⟨b, 0, none⟩))] Tryz.func43 rfl Tryz.ntmps43 (by simp) rfl (fun Hr => ?_)
  rw [List.nil_append]
  refine WC.seq ?_
  refine WC.region ?_
  refine WL.pur (Pur.assign rfl) ?_
  refine WL.nil ?_
  refine WQ.thn ?_
  refine WC.seq ?_
  refine WC.region ?_
  refine WL.pur (Pur.move rfl) ?_
  refine WL.pur (Pur.nilCheck rfl) ?_
  refine WL.pur (Pur.fieldAddr rfl fo_173_0) ?_
  refine' WL.pur (Pur.load1 rfl ty_22 ?h1_0) ?k1
  case h1_0 => first | (apply Rd.own1; exact zmE; rfl) | (apply RdV.rd; apply RdV.idx (i := 0); assumption; rfl)
  refine WL.pur (Pur.len rfl isSlice_22) ?_
  refine WL.pur (Pur.assign rfl) ?_
  refine WL.nil ?_
  refine WQ.thn ?_
  refine WC.ret ?_
  refine WQ.ret1 Tryz.results43 rfl [] zsL (View.le_refl _) ?_
  refine ⟨?_, rfl, rfl⟩
  rfl

theorem past_Number (σ : View) (pv : Value) (L : List EntD) (id : Nat) (h : PastV σ pv L) (hid : IsH id) :
    TriP Tryz.prog 36 #[pv, hashV id] σ (.int .i64 (numV (idxOf L id))) := by
  obtain ⟨b, mb, lv, sv, rfl, hr, hl, hm, hs⟩ := h
  have hok := ids_ok (ents_isH hl) 0
  have hmg := mget_ids0 L id
  obtain ⟨la, lc, rfl, hlc, hlb⟩ := hl.shape
  obtain ⟨sa, sc, rfl, hsc, hsb⟩ := hs.shape
  refine Tri.of_body [(0, .pointer (some ⟨b, 0, none⟩)), (1, hashV id)] Tryz.func36 rfl Tryz.ntmps36 (by simp) rfl (fun Hr => ?_)
  rw [List.nil_append]
  refine WC.seq ?_
  refine WC.region ?_
  refine WL.new (New.boxN rfl) (fun b3 => ?_)
  refine WL.pur (Pur.assign rfl) ?_
  refine WL.nil ?_
  refine WQ.thn ?_
  refine WC.seq ?_
  refine WC.seq ?_
  refine WC.drawH 11 11 mixed (by kernel_rfl) rfl ?_
  refine SA.take 0 (by kernel_rfl) rfl rfl rfl (Wanted.plain rfl) zsL (View.le_refl _) (Pur.move rfl) ?_
  refine SA.take 1 (by kernel_rfl) rfl rfl rfl (Wanted.plain rfl) zsL (View.le_refl _) (Pur.nilCheck rfl) ?_
  refine SA.take 2 (by kernel_rfl) rfl rfl rfl (Wanted.plain rfl) zsL (View.le_refl _) (Pur.fieldAddr rfl fo_173_1) ?_
  refine' SA.take 3 (by kernel_rfl) rfl rfl rfl (Wanted.plain rfl) zsL (View.le_refl _) (Pur.load1 rfl ty_142 ?h1_0) ?k1
  case h1_0 => first | (apply Rd.own1; exact zmE; rfl) | (apply RdV.rd; apply RdV.idx (i := 1); assumption; rfl) | (apply RdV.rd; apply RdV.idx (off := 0) (i := 1); assumption; rfl)
  refine' SA.take 4 (by kernel_rfl) rfl rfl rfl (Wanted.plain rfl) zsL (View.le_refl _) (Pur.loadN rfl ty_39 ?h2_0 ?h2_1) ?k2
  case h2_0 => first | (apply Rd.own_sub; exact zmE; exact Sub.refl _) | (apply RdV.rd; assumption)
  case h2_1 => first | rfl | assumption
  refine' SA.take 5 (by kernel_rfl) rfl rfl rfl (Wanted.plain rfl) zsL (View.le_refl _) (Pur.lookupOk rfl rfl mt_142 (K := hashV) (keyC_hash isHKey_39) zv_3 ?h3_0 ?h3_1 ?h3_2) ?k3
  case h3_0 => first | (right; assumption) | (left; focus repeat (first | exact List.Mem.head _ | apply List.Mem.tail | apply List.mem_append_right))
  case h3_1 => first | assumption | exact fun _ _ => trivial
  case h3_2 => first | assumption | trivial
  refine SA.take 6 (by kernel_rfl) rfl rfl rfl (Wanted.plain rfl) zsL (View.le_refl _) (Pur.move rfl) ?_
  first | refine SA.take 7 (by kernel_rfl) rfl rfl rfl (Wanted.plain rfl) zsL (View.le_refl _) (Pur.ex2_0 rfl) ?_ | refine SA.take 7 (by kernel_rfl) rfl rfl rfl (Wanted.plain rfl) zsL (View.le_refl _) (Pur.ex3_0 rfl) ?_ | refine SA.take 7 (by kernel_rfl) rfl rfl rfl (Wanted.plain rfl) zsL (View.le_refl _) (Pur.extractNext rfl) ?_ | refine SA.take 7 (by kernel_rfl) rfl rfl rfl (Wanted.plain rfl) zsL (View.le_refl _) (Pur.extract rfl rfl) ?_
  first | refine SA.take 8 (by kernel_rfl) rfl rfl rfl (Wanted.plain rfl) zsL (View.le_refl _) (Pur.ex2_1 rfl) ?_ | refine SA.take 8 (by kernel_rfl) rfl rfl rfl (Wanted.plain rfl) zsL (View.le_refl _) (Pur.ex3_1 rfl) ?_ | refine SA.take 8 (by kernel_rfl) rfl rfl rfl (Wanted.plain rfl) zsL (View.le_refl _) (Pur.extract rfl rfl) ?_
  refine SA.take 9 (by kernel_rfl) rfl rfl rfl (Wanted.plain rfl) zsL (View.le_refl _) (Pur.assign rfl) ?_
  refine SA.take 10 (by kernel_rfl) rfl rfl rfl (Wanted.plain rfl) zsL (View.le_refl _) (Pur.assign rfl) ?_
  refine SA.done (by kernel_rfl) ?_
  refine WQ.thn ?_
  refine WC.seq ?_
  refine WC.region ?_
  refine WL.pur (Pur.move rfl) ?_
  refine WL.nil ?_
  refine WQ.thn ?_
  first | refine WC.cond rfl (fun hc0 => ?_) (fun hc0 => ?_) | refine WC.condB rfl (fun hc0 => ?_) (fun hc0 => ?_)
  · obtain ⟨k, hk⟩ : ∃ k, idxOf L id = some k := by cases hx : idxOf L id with | none => rw [hx] at hmg; rw [hmg] at hc0; cases hc0 | some k => exact ⟨k, rfl⟩
    rw [hk] at hmg
    refine WC.seq ?_
    refine WC.region ?_
    refine WL.pur (Pur.move rfl) ?_
    refine WL.pur (Pur.assign rfl) ?_
    refine WL.nil ?_
    refine WQ.thn ?_
    refine WC.ret ?_
    refine WQ.thn_ret ?_
    refine WQ.ret1 Tryz.results36 rfl [] zsL (View.le_refl _) ?_
    refine ⟨?_, rfl, rfl⟩
    rw [hmg, hk]; rfl
  · have hk : idxOf L id = none := by cases hx : idxOf L id with | none => rfl | some k => rw [hx] at hmg; rw [hmg] at hc0; cases hc0
    refine WC.skip ?_
    refine WQ.thn ?_
    refine WC.seq ?_
    refine WC.region ?_
    refine WL.pur (Pur.assign rfl) ?_
    refine WL.nil ?_
    refine WQ.thn ?_
    refine WC.ret ?_
    refine WQ.ret1 Tryz.results36 rfl [] zsL (View.le_refl _) ?_
    refine ⟨?_, rfl, rfl⟩
    rw [hk]; rfl

theorem past_Entry (σ : View) (pv : Value) (L : List EntD) (i : Int) (h : PastV σ pv L) :
    Tri Tryz.prog 44 #[pv, .int .i64 i] σ [] (fun v σ' H' => ((∃ (k : Nat) (e : EntD) (qv ov : Value), i = (k : Int) ∧ L[k]? = some e ∧ v = .tuple #[.agg (entCells e.id e.node.au e.node.cl qv ov).toArray, .int .i64 0] ∧ NodeR σ' e.node qv ov) ∨ ((i < 0 ∨ (L.length : Int) ≤ i) ∧ v = .tuple #[.agg (entCells 0 0 0 (.slice none 0 0) (.slice none 0 0)).toArray, .int .i64 2])) ∧ H' = []) := by
  obtain ⟨b, mb, lv, sv, rfl, hr, hl, hm, hs⟩ := h
  obtain ⟨la, lc, rfl, hlc, hlb⟩ := hl.shape
  obtain ⟨sa, sc, rfl, hsc, hsb⟩ := hs.shape
  obtain ⟨ab, aoff, hel⟩ := addr_of hl
  refine Tri.of_body [(0, .pointer (some ⟨b, 0, none⟩)), (1, .int .i64 i)] Tryz.func44 rfl Tryz.ntmps44 (by simp) rfl (fun Hr => ?_)
  rw [List.nil_append]
  refine WC.seq ?_
  refine WC.region ?_
  refine WL.new (New.alloc zc_45) (fun b4 => ?_)
  refine WL.pur (Pur.assign rfl) ?_
  refine WL.nil ?_
  refine WQ.thn ?_
  refine WC.seq ?_
  refine WC.seq ?_
  refine WC.region ?_
  refine WL.pur (Pur.move rfl) ?_
  refine' WL.pur (Pur.bin rfl rfl ?h1_0) ?k1
  case h1_0 => first | exact Bin.ltN (b := 0) | exact Bin.ltI | exact Bin.ltS
  refine WL.pur (Pur.move rfl) ?_
  refine' WL.orp (u := 8) (t := 16) rfl ?h2_0 ?h2_1 ?h2_2 rfl ?k2
  case h2_0 =>
    intro hg8 K8
    refine WL.gpur (u := 8) rfl rfl (gF hg8) (Pur.move rfl) ?_
    refine WL.gpur (u := 8) rfl rfl (gF hg8) (Pur.move rfl) ?_
    refine WL.gpur (u := 8) rfl rfl (gF hg8) (Pur.nilCheck rfl) ?_
    refine WL.gpur (u := 8) rfl rfl (gF hg8) (Pur.fieldAddr rfl fo_173_0) ?_
    refine' WL.gpur (u := 8) rfl rfl (gF hg8) (Pur.load1 rfl ty_22 ?h3_0) ?k3
    case h3_0 => first | (apply Rd.own1; exact zmE; rfl) | (apply RdV.rd; apply RdV.idx (i := 0); assumption; rfl)
    refine WL.gpur (u := 8) rfl rfl (gF hg8) (Pur.len rfl isSlice_22) ?_
    refine' WL.gpur (u := 8) rfl rfl (gF hg8) (Pur.bin rfl rfl ?h4_0) ?k4
    case h4_0 => first | exact Bin.geN | exact Bin.geI
    exact K8 _ zcR rfl
  case h2_1 =>
    intro hg8 K8
    refine WL.gskip (u := 8) rfl rfl (sF hg8) ?_
    refine WL.gskip (u := 8) rfl rfl (sF hg8) ?_
    refine WL.gskip (u := 8) rfl rfl (sF hg8) ?_
    refine WL.gskip (u := 8) rfl rfl (sF hg8) ?_
    refine WL.gskip (u := 8) rfl rfl (sF hg8) ?_
    refine WL.gskip (u := 8) rfl rfl (sF hg8) ?_
    refine WL.gskip (u := 8) rfl rfl (sF hg8) ?_
    exact K8 _ zcR
  case h2_2 => exact Wanted.plain rfl
  refine WL.nil ?_
  refine WQ.thn ?_
  first | refine WC.cond rfl (fun hc0 => ?_) (fun hc0 => ?_) | refine WC.condB rfl (fun hc0 => ?_) (fun hc0 => ?_)
  · refine WC.seq ?_
    refine WC.region ?_
    refine WL.pur (Pur.build (l := (entCells 0 0 0 (.slice none 0 0) (.slice none 0 0))) pl_45 zc_45 rfl rfl) ?_
    refine' WL.run0 (Run.storeAll rfl rfl ty_45 ?h5_0 (by first | rfl | assumption) ?h5_1 (by first | rfl | assumption)) ?k5
    case h5_0 => repeat (first | exact Part.one | exact Part.here | apply Part.cons | apply Part.app)
    case h5_1 => first | rfl | assumption
    refine WL.pur (Pur.assign rfl) ?_
    refine WL.nil ?_
    refine WQ.thn ?_
    refine WC.ret ?_
    refine WQ.thn_ret ?_
    refine' WQ.retCT Tryz.results44 rfl rfl ty_45 ?h6_0 ?h6_1 [] zsL (View.le_refl _) ?k6
    case h6_0 => apply Rd.own_sub; exact zmE; exact Sub.refl _
    case h6_1 => rfl
    exact ⟨.inr ⟨by omega, rfl⟩, rfl⟩
  · obtain ⟨k, rfl⟩ : ∃ k : Nat, i = (k : Int) := Int.eq_ofNat_of_zero_le (by omega)
    obtain ⟨e, he⟩ : ∃ e, L[k]? = some e := ⟨_, List.getElem?_eq_getElem (by omega)⟩
    obtain ⟨qv, ov, hrd, heH, hNR⟩ := ent_rd hl hel he
    obtain ⟨pa, pc, rfl, hpc, hpb⟩ := hNR.1.shape
    obtain ⟨oa, oc, rfl, hoc, hob⟩ := hNR.2.1.shape
    refine WC.skip ?_
    refine WQ.thn ?_
    refine WC.seq ?_
    refine WC.region ?_
    refine WL.pur (Pur.move rfl) ?_
    refine WL.pur (Pur.nilCheck rfl) ?_
    refine WL.pur (Pur.fieldAddr rfl fo_173_0) ?_
    refine' WL.pur (Pur.load1 rfl ty_22 ?h7_0) ?k7
    case h7_0 => first | (apply Rd.own1; exact zmE; rfl) | (apply RdV.rd; apply RdV.idx (i := 0); assumption; rfl)
    refine WL.pur (Pur.move rfl) ?_
    refine' WL.pur (Pur.indexAddr (eqA (hel (by omega))) rfl sl_22 ?h8_0) ?k8
    case h8_0 => omega
    refine' WL.pur (Pur.loadN rfl ty_45 ?h9_0 ?h9_1) ?k9
    case h9_0 => exact RdV.rd hrd
    case h9_1 => first | rfl | assumption
    refine WL.call (H0 := []) (Hr := (b4, _) :: Hr) rfl Tryz.call112 (List.Perm.refl _) (past_own _ _ _ _ _ hNR) ?_
    rintro _ σ1 _ ⟨⟨qv2, ov2, rfl, hN2⟩, rfl⟩ hle1
    rw [List.nil_append]
    obtain ⟨pa2, pc2, rfl, _⟩ := hN2.1.shape
    obtain ⟨oa2, oc2, rfl, _⟩ := hN2.2.1.shape
    refine' WL.run0 (Run.storeAll rfl rfl ty_45 ?h10_0 (by first | rfl | assumption) ?h10_1 (by first | rfl | assumption)) ?k10
    case h10_0 => repeat (first | exact Part.one | exact Part.here | apply Part.cons | apply Part.app)
    case h10_1 => first | rfl | assumption
    refine WL.pur (Pur.assign rfl) ?_
    refine WL.nil ?_
    refine WQ.thn ?_
    refine WC.ret ?_
    refine' WQ.retCT Tryz.results44 rfl rfl ty_45 ?h11_0 ?h11_1 [] zsL hle1 ?k11
    case h11_0 => apply Rd.own_sub; exact zmE; exact Sub.refl _
    case h11_1 => rfl
    exact ⟨.inl ⟨k, e, _, _, rfl, he, rfl, hN2⟩, rfl⟩

end Go.Proofs.YtgoooilgmabkmaaGreat
namespace Go.Proofs.YtgoooilgmabkmaaGreat
open Go Go.Sl
set_option linter.unusedVariables false
set_option linter.unusedSimpArgs false
set_option maxRecDepth 100000

theorem r11_Number (σ : View) (pv : Value) (L : List EntD) (id : Nat) (h : R11V σ pv L) (ho : OrdOk L) (hid : IsH id) :
    TriP Tryz.prog 37 #[pv, hashV id] σ (.int .i64 (numV (idxOf L id))) := by
  obtain ⟨b, plv, psv, pqv, rfl, hr, hE, hS, hQ⟩ := h
  obtain ⟨pla, plc, rfl, hplc, hplb⟩ := hE.shape
  obtain ⟨qa, qc, rfl, hqc, hqb⟩ := hQ.shape
  refine Tri.of_body [(0, .pointer (some ⟨b, 0, none⟩)), (1, hashV id)] Tryz.func37 rfl Tryz.ntmps37 (by simp) rfl (fun Hr => ?_)
  rw [List.nil_append]
  refine WC.seq ?_
  refine WC.region ?_
  refine WL.new (New.boxN rfl) (fun b3 => ?_)
  refine WL.pur (Pur.assign rfl) ?_
  refine WL.nil ?_
  refine WQ.thn ?_
  refine WC.seq ?_
  refine WC.drawH 11 11 mixed (by kernel_rfl) rfl ?_
  refine SA.take 0 (by kernel_rfl) rfl rfl rfl (Wanted.plain rfl) zsL (View.le_refl _) (Pur.move rfl) ?_
  refine SA.take 1 (by kernel_rfl) rfl rfl rfl (Wanted.plain rfl) zsL (View.le_refl _) (Pur.nilCheck rfl) ?_
  refine SA.take 2 (by kernel_rfl) rfl rfl rfl (Wanted.plain rfl) zsL (View.le_refl _) (Pur.fieldAddr rfl fo_74_0) ?_
  refine' SA.take 3 (by kernel_rfl) rfl rfl rfl (Wanted.plain rfl) zsL (View.le_refl _) (Pur.load1 rfl ty_22 ?h1_0) ?k1
  case h1_0 => first | (apply Rd.own1; exact zmE; rfl) | (apply RdV.rd; apply RdV.idx (i := 0); assumption; rfl)
  refine SA.take 4 (by kernel_rfl) rfl rfl rfl (Wanted.plain rfl) zsL (View.le_refl _) (Pur.move rfl) ?_
  refine SA.take 5 (by kernel_rfl) rfl rfl rfl (Wanted.plain rfl) zsL (View.le_refl _) (Pur.nilCheck rfl) ?_
  refine SA.take 6 (by kernel_rfl) rfl rfl rfl (Wanted.plain rfl) zsL (View.le_refl _) (Pur.fieldAddr rfl fo_74_2) ?_
  refine' SA.take 7 (by kernel_rfl) rfl rfl rfl (Wanted.plain rfl) zsL (View.le_refl _) (Pur.load1 rfl ty_72 ?h2_0) ?k2
  case h2_0 => first | (apply Rd.own1; exact zmE; rfl) | (apply RdV.rd; apply RdV.idx (i := 2); assumption; rfl) | (apply RdV.rd; apply RdV.idx (off := 0) (i := 2); assumption; rfl)
  refine' SA.take 8 (by kernel_rfl) rfl rfl rfl (Wanted.plain rfl) zsL (View.le_refl _) (Pur.loadN rfl ty_39 ?h3_0 ?h3_1) ?k3
  case h3_0 => first | (apply Rd.own_sub; exact zmE; exact Sub.refl _) | (apply RdV.rd; assumption)
  case h3_1 => first | rfl | assumption
  refine SA.callP 9 rfl rfl (Wanted.plain rfl) (by kernel_rfl) rfl Tryz.call97 zsL (View.le_refl _) (r11_find _ _ _ L _ id hE hQ (rankL_ranked _) ho.nodup hid) ?_
  refine SA.take 10 (by kernel_rfl) rfl rfl rfl (Wanted.plain rfl) zsL (View.le_refl _) (Pur.assign rfl) ?_
  refine SA.done (by kernel_rfl) ?_
  refine WQ.thn ?_
  refine WC.ret ?_
  refine WQ.ret1 Tryz.results37 rfl [] zsL (View.le_refl _) ?_
  refine ⟨?_, rfl, rfl⟩
  rfl

theorem r11_Heads (σ : View) (pv : Value) (L : List EntD) (h : R11V σ pv L) (ho : OrdOk L) :
    Tri Tryz.prog 107 #[pv] σ [] (fun v σ' H' => (∃ h, SlO σ eHash 39 32 v (headsL L) h ∧ H' = h) ∧ σ' = σ) := by
  obtain ⟨b, plv, psv, pqv, rfl, hr, hE, hS, hQ⟩ := h
  obtain ⟨pla, plc, rfl, hplc, hplb⟩ := hE.shape
  obtain ⟨plb, ploff, hel⟩ := addr_of hE
  have hmost := ho.most
  obtain ⟨psa, psc, rfl, hpsc, hpsb⟩ := hS.shape
  obtain ⟨sb, soff, hes, hsat⟩ := hS.rds
  rw [List.length_range] at hes
  obtain ⟨qa, qc, rfl, hqc, hqb⟩ := hQ.shape
  obtain ⟨qb, qoff, heq⟩ := addr_of hQ
  have hlr : (List.range L.length).length = L.length := List.length_range
  have hrl := rankL_len L 0 L.length
  refine Tri.of_body [(0, .pointer (some ⟨b, 0, none⟩))] Tryz.func107 rfl Tryz.ntmps107 (by simp) rfl (fun Hr => ?_)
  rw [List.nil_append]
  refine WC.seq ?_
  refine WC.region ?_
  refine WL.pur (Pur.assign rfl) ?_
  refine WL.nil ?_
  refine WQ.thn ?_
  refine WC.seq ?_
  refine WC.region ?_
  refine WL.pur (Pur.move rfl) ?_
  refine WL.pur (Pur.nilCheck rfl) ?_
  refine WL.pur (Pur.fieldAddr rfl fo_74_0) ?_
  refine' WL.pur (Pur.load1 rfl ty_22 ?h1_0) ?k1
  case h1_0 => first | (apply Rd.own1; exact zmE; rfl) | (apply RdV.rd; apply RdV.idx (i := 0); assumption; rfl)
  refine WL.pur (Pur.len rfl isSlice_22) ?_
  refine' WL.pur (Pur.bin rfl rfl ?h2_0) ?k2
  case h2_0 => first | (refine Bin.addN (b := 63) ?_; omega) | (refine Bin.addI ?_; omega)
  refine' WL.pur (Pur.bin rfl rfl ?h3_0) ?k3
  case h3_0 => first | (refine Bin.quoN (b := 64) ?_ ?_ <;> omega)
  refine WL.any (Any.make1 sl_151 zc_60 by_60 rfl rfl (by omega) (by omega)) ?_
  rintro _ σ _ ⟨b16, rfl, rfl, rfl⟩ _
  refine WL.pur (Pur.assign rfl) ?_
  refine WL.nil ?_
  refine WQ.thn ?_
  refine WC.seq ?_
  refine WC.seq ?_
  refine WC.region ?_
  refine WL.pur (Pur.assign rfl) ?_
  refine WL.nil ?_
  refine WQ.thn ?_
  refine WC.block ?_
  rw [words_zero]
  refine WC.loop (fun j m σ' H' => ∃ i : Nat, j = L.length - i ∧ i ≤ L.length ∧ m = [(0, .pointer (some ⟨b, 0, none⟩)), (3, .slice (some ⟨b16, 0, none⟩) ((L.length + 63) / 64) ((L.length + 63) / 64)), (4, .int .i64 (i : Int))] ∧ σ' = σ ∧ H' = (b16, rowO 60 ((List.range ((L.length + 63) / 64)).map (wordV (orRow L i)))) :: Hr) ⟨0, rfl, by omega, rfl, rfl, rfl⟩ zcV zsL ?_
  rintro _ _ σ Hr ⟨i, rfl, hi, rfl, rfl, rfl⟩
  refine WC.seq ?_
  refine WC.seq ?_
  refine WC.region ?_
  refine WL.pur (Pur.move rfl) ?_
  refine WL.pur (Pur.move rfl) ?_
  refine WL.pur (Pur.nilCheck rfl) ?_
  refine WL.pur (Pur.fieldAddr rfl fo_74_0) ?_
  refine' WL.pur (Pur.load1 rfl ty_22 ?h4_0) ?k4
  case h4_0 => first | (apply Rd.own1; exact zmE; rfl) | (apply RdV.rd; apply RdV.idx (i := 0); assumption; rfl)
  refine WL.pur (Pur.len rfl isSlice_22) ?_
  refine' WL.pur (Pur.bin rfl rfl ?h5_0) ?k5
  case h5_0 => first | exact Bin.ltN | exact Bin.ltI | exact Bin.ltS
  refine WL.nil ?_
  refine WQ.thn ?_
  first | refine WC.cond rfl (fun hc0 => ?_) (fun hc0 => ?_) | refine WC.condB rfl (fun hc0 => ?_) (fun hc0 => ?_)
  · obtain ⟨vs, _, _, ⟨wv, rfl, _, hw⟩, hwr⟩ := hsat i i (List.getElem?_range hc0)
    obtain ⟨wa, wc, rfl, hwc, hwb⟩ := hw.shape
    obtain ⟨wb, woff, hew, hwat⟩ := hw.rds
    have hwl := wordsN_len L i
    refine WC.skip ?_
    refine WQ.thn ?_
    refine WC.seq ?_
    refine WC.block ?_
    refine WC.seq ?_
    refine WC.region ?_
    refine WL.pur (Pur.assign rfl) ?_
    refine WL.nil ?_
    refine WQ.thn ?_
    refine WC.block ?_
    refine WC.loop (fun j m σ' H' => ∃ u : Nat, j = ((L.length + 63) / 64) - u ∧ u ≤ ((L.length + 63) / 64) ∧ m = [(0, .pointer (some ⟨b, 0, none⟩)), (3, .slice (some ⟨b16, 0, none⟩) ((L.length + 63) / 64) ((L.length + 63) / 64)), (4, .int .i64 (i : Int)), (5, .int .i64 (u : Int))] ∧ σ' = σ ∧ H' = (b16, rowO 60 ((List.range ((L.length + 63) / 64)).map (wordUpTo (orRow L i) ((rowsN L L.length).getD i 0) u))) :: Hr) ⟨0, rfl, by omega, rfl, rfl, by rw [wordUp_zero]⟩ zcV zsL ?_
    rintro _ _ σ Hr ⟨u, rfl, hu, rfl, rfl, rfl⟩
    refine WC.seq ?_
    refine WC.seq ?_
    refine WC.region ?_
    refine WL.pur (Pur.move rfl) ?_
    refine WL.pur (Pur.move rfl) ?_
    refine WL.pur (Pur.len rfl isSlice_151) ?_
    refine' WL.pur (Pur.bin rfl rfl ?h6_0) ?k6
    case h6_0 => first | exact Bin.ltN | exact Bin.ltI | exact Bin.ltS
    refine WL.nil ?_
    refine WQ.thn ?_
    first | refine WC.cond rfl (fun hc1 => ?_) (fun hc1 => ?_) | refine WC.condB rfl (fun hc1 => ?_) (fun hc1 => ?_)
    · have hww := wordsN_get (L := L) (j := i) hc1
      obtain ⟨ws, _, _, rfl, hwd⟩ := hwat _ _ hww
      refine WC.skip ?_
      refine WQ.thn ?_
      refine WC.seq ?_
      refine WC.block ?_
      refine WC.drawH 15 17 mixed (by kernel_rfl) rfl ?_
      refine SA.takeW 0 (by kernel_rfl) rfl rfl rfl (Wanted.plain rfl) (tells_move rfl) ?_
      refine SA.takeW 1 (by kernel_rfl) rfl rfl rfl (Wanted.plain rfl) (tells_move rfl) ?_
      refine' SA.takeP 2 (by kernel_rfl) rfl rfl rfl (Wanted.plain rfl) (fun _ _ => Pur.indexAddr rfl rfl sl_151 ?h7_0) ?k7
      case h7_0 => omega
      refine' SA.take 3 (by kernel_rfl) rfl rfl rfl (Wanted.plain rfl) zsL (View.le_refl _) (Pur.load1 rfl ty_60 ?h8_0) ?k8
      case h8_0 => apply Rd.own1; exact zmE; exact (get_range_map1 hc1).trans (congrArg some wordUp_at)
      refine SA.takeW 4 (by kernel_rfl) rfl rfl rfl (Wanted.plain rfl) (tells_move rfl) ?_
      refine SA.takeP 5 (by kernel_rfl) rfl rfl rfl (Wanted.plain rfl) (fun _ _ => Pur.nilCheck rfl) ?_
      refine SA.takeP 6 (by kernel_rfl) rfl rfl rfl (Wanted.plain rfl) (fun _ _ => Pur.fieldAddr rfl fo_74_1) ?_
      refine' SA.take 7 (by kernel_rfl) rfl rfl rfl (Wanted.plain rfl) zsL (View.le_refl _) (Pur.load1 rfl ty_71 ?h9_0) ?k9
      case h9_0 => first | (apply Rd.own1; exact zmE; rfl) | (apply RdV.rd; apply RdV.idx (i := 1); assumption; rfl) | (apply RdV.rd; apply RdV.idx (off := 0) (i := 1); assumption; rfl)
      refine SA.takeW 8 (by kernel_rfl) rfl rfl rfl (Wanted.plain rfl) (tells_move rfl) ?_
      refine' SA.takeP 9 (by kernel_rfl) rfl rfl rfl (Wanted.plain rfl) (fun _ _ => Pur.indexAddr (eqA (hes (by omega))) rfl sl_71 ?h10_0) ?k10
      case h10_0 => omega
      refine' SA.take 10 (by kernel_rfl) rfl rfl rfl (Wanted.plain rfl) zsL (View.le_refl _) (Pur.load1 rfl ty_151 ?h11_0) ?k11
      case h11_0 => exact RdV.rd hwr
      refine SA.takeW 11 (by kernel_rfl) rfl rfl rfl (Wanted.plain rfl) (tells_move rfl) ?_
      refine' SA.takeP 12 (by kernel_rfl) rfl rfl rfl (Wanted.plain rfl) (fun _ _ => Pur.indexAddr (eqA (hew (by omega))) rfl sl_151 ?h12_0) ?k12
      case h12_0 => omega
      refine' SA.take 13 (by kernel_rfl) rfl rfl rfl (Wanted.plain rfl) zsL (View.le_refl _) (Pur.load1 rfl ty_60 ?h13_0) ?k13
      case h13_0 => exact RdV.rd hwd
      refine' SA.takeP 14 (by kernel_rfl) rfl rfl rfl (Wanted.plain rfl) (fun _ _ => Pur.bin rfl rfl ?h14_0) ?k14
      case h14_0 => exact Bin.orU (wordN_lt _ _) (wordN_lt _ _)
      refine' SA.run 15 rfl (fun _ e => by cases e; rfl) (Wanted.plain rfl) (by kernel_rfl) (Pur.run (Pur.indexAddr rfl rfl sl_151 ?h15_0)) (.inl (by decide)) ?k15
      case h15_0 => omega
      refine' SA.run 16 rfl (fun _ e => by cases e) (Wanted.plain rfl) (by kernel_rfl) (Run.storeF rfl rfl ty_60 (by first | rfl | assumption) ?h16_0 ?h16_1 sz_60) (.inl (by decide)) ?k16
      case h16_0 => repeat (first | exact Part.one | exact Part.here | apply Part.cons | apply Part.app)
      case h16_1 => first | assumption | omega
      refine SA.done (by kernel_rfl) ?_
      refine WQ.blk ?_
      refine WQ.thn ?_
      refine WC.region ?_
      refine WL.pur (Pur.move rfl) ?_
      refine' WL.pur (Pur.bin rfl rfl ?h17_0) ?k17
      case h17_0 => first | (refine Bin.addN (b := 1) ?_; omega) | (refine Bin.addI ?_; omega)
      refine WL.pur (Pur.assign rfl) ?_
      refine WL.nil ?_
      rw [wordUp_step]
      refine WQ.back _ ⟨u + 1, rfl, by omega, rfl, rfl, rfl⟩ (by omega) zcV zsL
    · have huu : u = ((L.length + 63) / 64) := by omega
      subst huu
      rw [wordUp_all, orRow_succ hc0]
      refine WC.exit ?_
      refine WQ.thn_exit ?_
      refine WQ.back_exit ?_
      refine WQ.blk_here ?_
      refine WQ.blk ?_
      refine WQ.thn ?_
      refine WC.region ?_
      refine WL.pur (Pur.move rfl) ?_
      refine' WL.pur (Pur.bin rfl rfl ?h18_0) ?k18
      case h18_0 => first | (refine Bin.addN (b := 1) ?_; omega) | (refine Bin.addI ?_; omega)
      refine WL.pur (Pur.assign rfl) ?_
      refine WL.nil ?_
      refine WQ.back _ ⟨i + 1, rfl, by omega, rfl, rfl, rfl⟩ (by omega) zcV zsL
  · have hil : i = L.length := by omega
    subst hil
    refine WC.exit ?_
    refine WQ.thn_exit ?_
    refine WQ.back_exit ?_
    refine WQ.blk_here ?_
    refine WQ.thn ?_
    refine WC.seq ?_
    refine WC.region ?_
    refine WL.new (New.buildSlice0 sl_41) (fun b48 => ?_)
    refine WL.pur (Pur.assign rfl) ?_
    refine WL.nil ?_
    refine WQ.thn ?_
    refine WC.seq ?_
    refine WC.seq ?_
    refine WC.region ?_
    refine WL.pur (Pur.assign rfl) ?_
    refine WL.nil ?_
    refine WQ.thn ?_
    refine WC.block ?_
    refine WC.loop (fun j m σ' H' => ∃ (s : Nat) (sv : Value) (hh : HList), j = (rankL L 0 L.length).length - s ∧ s ≤ (rankL L 0 L.length).length ∧ SlO σ eHash 39 32 sv (hUp L s) hh ∧ m = [(0, .pointer (some ⟨b, 0, none⟩)), (3, .slice (some ⟨b16, 0, none⟩) ((L.length + 63) / 64) ((L.length + 63) / 64)), (6, sv), (7, .int .i64 (s : Int))] ∧ σ' = σ ∧ H' = hh ++ ((b16, rowO 60 ((List.range ((L.length + 63) / 64)).map (wordV (orRow L L.length)))) :: Hr)) ⟨0, _, [(b48, rowO 39 [])], rfl, by omega, by rw [hUp_zero]; exact SlO.row (b := b48) (ElR.nil (σ := σ) (E := eHash) (sz := 32)), rfl, rfl, rfl⟩ zcV zsL ?_
    rintro _ _ σ Hr ⟨s, sv, hh, rfl, hs, hso, rfl, rfl, rfl⟩
    refine WC.seq ?_
    refine WC.seq ?_
    refine WC.region ?_
    refine WL.pur (Pur.move rfl) ?_
    refine WL.pur (Pur.move rfl) ?_
    refine WL.pur (Pur.nilCheck rfl) ?_
    refine WL.pur (Pur.fieldAddr rfl fo_74_2) ?_
    refine' WL.pur (Pur.load1 rfl ty_72 ?h19_0) ?k19
    case h19_0 => first | (apply Rd.own1; exact zmE; rfl) | (apply RdV.rd; apply RdV.idx (i := 2); assumption; rfl) | (apply RdV.rd; apply RdV.idx (off := 0) (i := 2); assumption; rfl)
    refine WL.pur (Pur.len rfl isSlice_72) ?_
    refine' WL.pur (Pur.bin rfl rfl ?h20_0) ?k20
    case h20_0 => first | exact Bin.ltN | exact Bin.ltI | exact Bin.ltS
    refine WL.nil ?_
    refine WQ.thn ?_
    first | refine WC.cond rfl (fun hc2 => ?_) (fun hc2 => ?_) | refine WC.condB rfl (fun hc2 => ?_) (fun hc2 => ?_)
    · obtain ⟨k, hk⟩ : ∃ k, (rankL L 0 L.length)[s]? = some k := ⟨_, List.getElem?_eq_getElem hc2⟩
      have hkl : k < L.length := (rankL_mem.1 (List.mem_of_getElem? hk)).2
      have hkr := natE_rd hQ heq hk
      have hkW : k / 64 < ((L.length + 63) / 64) := by omega
      have hwlt := wordN_lt (orRow L L.length) (k / 64)
      have hdl := Nat.div_le_self (wordN (orRow L L.length) (k / 64)) (2 ^ (k % 64))
      refine WC.skip ?_
      refine WQ.thn ?_
      refine WC.seq ?_
      refine WC.block ?_
      refine WC.seq ?_
      refine WC.region ?_
      refine WL.pur (Pur.move rfl) ?_
      refine WL.pur (Pur.nilCheck rfl) ?_
      refine WL.pur (Pur.fieldAddr rfl fo_74_2) ?_
      refine' WL.pur (Pur.load1 rfl ty_72 ?h21_0) ?k21
      case h21_0 => first | (apply Rd.own1; exact zmE; rfl) | (apply RdV.rd; apply RdV.idx (i := 2); assumption; rfl) | (apply RdV.rd; apply RdV.idx (off := 0) (i := 2); assumption; rfl)
      refine WL.pur (Pur.move rfl) ?_
      refine' WL.pur (Pur.indexAddr (eqA (heq (by omega))) rfl sl_72 ?h22_0) ?k22
      case h22_0 => omega
      refine' WL.pur (Pur.load1 rfl ty_3 ?h23_0) ?k23
      case h23_0 => exact RdV.rd hkr
      refine WL.pur (Pur.assign rfl) ?_
      refine WL.nil ?_
      refine WQ.thn ?_
      refine WC.seq ?_
      refine WC.region ?_
      refine WL.pur (Pur.move rfl) ?_
      refine WL.pur (Pur.move rfl) ?_
      refine' WL.pur (Pur.bin rfl rfl ?h24_0) ?k24
      case h24_0 => first | (refine Bin.quoN (b := 64) ?_ ?_ <;> omega)
      refine' WL.pur (Pur.indexAddr rfl rfl sl_151 ?h25_0) ?k25
      case h25_0 => omega
      refine' WL.pur (Pur.load1 rfl ty_60 ?h26_0) ?k26
      case h26_0 => apply Rd.own1; exact zmE; exact get_range_map1 hkW
      refine WL.pur (Pur.move rfl) ?_
      refine' WL.pur (Pur.bin rfl rfl ?h27_0) ?k27
      case h27_0 => first | (refine Bin.remN (b := 64) ?_; omega)
      refine' WL.pur (Pur.bin rfl rfl ?h28_0) ?k28
      case h28_0 => first | (refine Bin.shrU ?_; omega)
      refine' WL.pur (Pur.bin rfl rfl ?h29_0) ?k29
      case h29_0 => first | (refine Bin.andU (b := 1) ?_ ?_ <;> omega)
      refine' WL.pur (Pur.bin rfl rfl ?h30_0) ?k30
      case h30_0 => first | exact Bin.eqN (b := 0) | exact Bin.eqI
      refine WL.nil ?_
      refine WQ.thn ?_
      first | refine WC.cond rfl (fun hc3 => ?_) (fun hc3 => ?_) | refine WC.condB rfl (fun hc3 => ?_) (fun hc3 => ?_)
      · have htop := (orRow_ask ho).1 hc3
        obtain ⟨e, he⟩ : ∃ e, L[k]? = some e := ⟨_, List.getElem?_eq_getElem hkl⟩
        obtain ⟨qv, ov, hrd, heH, hNR⟩ := ent_rd hE hel he
        have hid : idAt L k = e.id := idAt_of he
        have hul := hUp_len L s
        refine WC.region ?_
        refine WL.pur (Pur.move rfl) ?_
        refine WL.pur (Pur.move rfl) ?_
        refine WL.pur (Pur.nilCheck rfl) ?_
        refine WL.pur (Pur.fieldAddr rfl fo_74_0) ?_
        refine' WL.pur (Pur.load1 rfl ty_22 ?h31_0) ?k31
        case h31_0 => first | (apply Rd.own1; exact zmE; rfl) | (apply RdV.rd; apply RdV.idx (i := 0); assumption; rfl)
        refine WL.pur (Pur.move rfl) ?_
        refine' WL.pur (Pur.indexAddr (eqA (hel (by omega))) rfl sl_22 ?h32_0) ?k32
        case h32_0 => omega
        refine WL.pur (Pur.fieldAddr rfl fo_45_0) ?_
        refine' WL.pur (Pur.loadN rfl ty_39 ?h33_0 ?h33_1) ?k33
        case h33_0 => (apply RdV.rd; apply RdV.sub0; exact hrd; exact Sub.ent_hash _ _ _ _ _)
        case h33_1 => first | rfl | assumption
        refine WL.new (New.buildSliceN (xs := [.tmp 83]) (vss := [hashCells e.id]) sl_41 zc_39 rfl rfl rfl (by rfl) (by rfl)) (fun b84 => ?_)
        refine' WL.any (Any.push (H1 := [(b84, _)]) (H2 := (b16, _) :: Hr) sl_41 zc_39 rfl by_39 rfl rfl hso ?h34_0 ?h34_1 ?h34_2 ?h34_3 rfl (by omega) (by omega)) ?k34
        case h34_0 => apply Rd.own_sub; exact zmE; exact Sub.refl _
        case h34_1 => first | rfl | assumption
        case h34_2 => first | rfl | assumption
        case h34_3 => exact ⟨rfl, heH⟩
        rintro v85 σ _ ⟨hh2, hso2, rfl, rfl⟩ _
        refine WL.pur (Pur.assign rfl) ?_
        refine WL.nil ?_
        refine WQ.blk ?_
        refine WQ.thn ?_
        refine WC.region ?_
        refine WL.pur (Pur.move rfl) ?_
        refine' WL.pur (Pur.bin rfl rfl ?h35_0) ?k35
        case h35_0 => first | (refine Bin.addN (b := 1) ?_; omega) | (refine Bin.addI ?_; omega)
        refine WL.pur (Pur.assign rfl) ?_
        refine WL.nil ?_
        refine WQ.back _ ⟨s + 1, _, _, rfl, by omega, by rw [hUp_step hk, if_pos htop, hid]; exact hso2, rfl, rfl, rfl⟩ (by omega) zcV zsL
      · have htop : ¬ topB L k = true := fun h => hc3 ((orRow_ask ho).2 h)
        refine WC.skip ?_
        refine WQ.blk ?_
        refine WQ.thn ?_
        refine WC.region ?_
        refine WL.pur (Pur.move rfl) ?_
        refine' WL.pur (Pur.bin rfl rfl ?h36_0) ?k36
        case h36_0 => first | (refine Bin.addN (b := 1) ?_; omega) | (refine Bin.addI ?_; omega)
        refine WL.pur (Pur.assign rfl) ?_
        refine WL.nil ?_
        refine WQ.back _ ⟨s + 1, sv, hh, rfl, by omega, by rw [hUp_step hk, if_neg htop, List.append_nil]; exact hso, rfl, rfl, rfl⟩ (by omega) zcV zsL
    · rw [hUp_all (by omega)] at hso
      refine WC.exit ?_
      refine WQ.thn_exit ?_
      refine WQ.back_exit ?_
      refine WQ.blk_here ?_
      refine WQ.thn ?_
      refine WC.seq ?_
      refine WC.region ?_
      refine WL.pur (Pur.move rfl) ?_
      refine WL.pur (Pur.assign rfl) ?_
      refine WL.nil ?_
      refine WQ.thn ?_
      refine WC.ret ?_
      refine WQ.ret1 Tryz.results107 rfl hh zsL (View.le_refl _) ?_
      exact ⟨⟨_, hso, rfl⟩, rfl⟩

theorem r11_Behind (σ : View) (pv ov : Value) (L : List EntD) (id : Nat) (ops : List OpD) (h : R11V σ pv L) (ho : OrdOk L) (hid : IsH id) (hops : SlE σ eOp 37 88 ov ops) :
    Tri Tryz.prog 30 #[pv, hashV id, ov] σ [] (fun v σ' H' => (∃ hv, v = .tuple #[.agg (entCells id 1 (clB L) hv ov).toArray, .bool (decide (mayB L id ops))] ∧ NodeR σ' (behindE L id ops).node hv ov) ∧ H' = []) := by
  have h' := h
  obtain ⟨b, plv, psv, pqv, rfl, hr, hE, hS, hQ⟩ := h
  obtain ⟨pla, plc, rfl, hplc, hplb⟩ := hE.shape
  obtain ⟨plb, ploff, hel⟩ := addr_of hE
  have hmost := ho.most
  obtain ⟨oa, oc, rfl, hoc, hob⟩ := hops.shape
  have hhl := heads_len L
  refine Tri.of_body [(0, .pointer (some ⟨b, 0, none⟩)), (1, hashV id), (2, .slice oa ops.length oc)] Tryz.func30 rfl Tryz.ntmps30 (by simp) rfl (fun Hr => ?_)
  rw [List.nil_append]
  refine WC.seq ?_
  refine WC.region ?_
  refine WL.new (New.boxN rfl) (fun b4 => ?_)
  refine WL.new (New.alloc zc_45) (fun b6 => ?_)
  refine WL.pur (Pur.assign rfl) ?_
  refine WL.nil ?_
  refine WQ.thn ?_
  refine WC.seq ?_
  refine WC.drawH 7 8 mixed (by kernel_rfl) rfl ?_
  refine' SA.take 0 (by kernel_rfl) rfl rfl rfl (Wanted.plain rfl) zsL (View.le_refl _) (Pur.loadN rfl ty_39 ?h1_0 ?h1_1) ?k1
  case h1_0 => first | (apply Rd.own_sub; exact zmE; exact Sub.refl _) | (apply RdV.rd; assumption)
  case h1_1 => first | rfl | assumption
  refine SA.takeW 1 (by kernel_rfl) rfl rfl rfl (Wanted.plain rfl) (tells_move rfl) ?_
  refine SA.takeW 3 (by kernel_rfl) rfl rfl rfl (Wanted.plain rfl) (tells_move rfl) ?_
  refine SA.two 2 6 (by kernel_rfl) ?_ ?_
  · refine SStep.callR 2 (H1 := []) rfl rfl (Wanted.plain rfl) rfl Tryz.call107 (List.Perm.refl _) (.inr ⟨(by first | exact List.Sublist.refl _ | exact List.sublist_cons_self _ _), View.le_refl _⟩) (r11_Heads _ _ L h' ho) ?_
    rintro v13 σ _ ⟨⟨hh, hsH, rfl⟩, rfl⟩ _
    obtain ⟨ha, hc, rfl, hhc⟩ := hsH.shape
    refine SA.takeP 4 (by kernel_rfl) rfl rfl rfl (Wanted.plain rfl) (fun _ _ => Pur.build (l := nodeCells 1 1 (.slice ha (headsL L).length hc) (.slice oa ops.length oc)) pl_43 zc_43 rfl rfl) ?_
    refine SA.takeP 5 (by kernel_rfl) rfl rfl rfl (Wanted.plain rfl) (fun _ _ => Pur.build (l := (entCells id 1 1 (.slice ha (headsL L).length hc) (.slice oa ops.length oc))) pl_45 zc_45 rfl rfl) ?_
    refine SA.new 6 rfl rfl rfl (Wanted.plain rfl) (by kernel_rfl) (New.alloc zc_45) (.inr ⟨zsL, View.le_refl _⟩) (fun b8 => ?_)
    refine' SA.run 7 rfl (fun _ e => by cases e) (Wanted.plain rfl) (by kernel_rfl) (Run.storeAll rfl rfl ty_45 ?h2_0 (by first | rfl | assumption) ?h2_1 (by first | rfl | assumption)) (.inl (by decide)) ?k2
    case h2_0 => repeat (first | exact Part.one | exact Part.here | apply Part.cons | apply Part.app)
    case h2_1 => first | rfl | assumption
    refine SA.done (by kernel_rfl) ?_
    refine WQ.thn ?_
    refine WC.seq ?_
    refine WC.seq ?_
    refine WC.region ?_
    refine WL.pur (Pur.assign rfl) ?_
    refine WL.nil ?_
    refine WQ.thn ?_
    refine WC.block ?_
    first | refine WC.giveS (byt := 32) (H1 := [(b8, _)]) (H2 := (b6, rowO 45 (entCells 0 0 0 (.slice none 0 0) (.slice none 0 0))) :: (b4, rowO 39 (hashCells id)) :: Hr) eHash_mono hsH (by omega) rfl (fun σ hle1 hs1 => ?_) | refine WC.giveS (byt := 32) (H1 := []) (H2 := (b8, _) :: (b6, rowO 45 (entCells 0 0 0 (.slice none 0 0) (.slice none 0 0))) :: (b4, rowO 39 (hashCells id)) :: Hr) eHash_mono hsH (by omega) rfl (fun σ hle1 hs1 => ?_)
    first | rw [List.singleton_append] | rw [List.nil_append]
    have hE1 := hE.mono eEnt_mono hle1
    have hops1 := hops.mono eOp_mono hle1
    have hr1 := hr.mono hle1
    have h1' := h'.mono hle1
    refine WC.loop (fun j m σ' H' => ∃ i : Nat, j = L.length - i ∧ i ≤ L.length ∧ m = [(0, .pointer (some ⟨b, 0, none⟩)), (4, .pointer (some ⟨b4, 0, none⟩)), (6, .pointer (some ⟨b6, 0, none⟩)), (8, .pointer (some ⟨b8, 0, none⟩)), (9, .int .i64 (i : Int))] ∧ σ' = σ ∧ H' = (b8, rowO 45 (entCells id 1 (clUp L i) (.slice ha (headsL L).length hc) (.slice oa ops.length oc))) :: (b6, rowO 45 (entCells 0 0 0 (.slice none 0 0) (.slice none 0 0))) :: (b4, rowO 39 (hashCells id)) :: Hr) ⟨0, rfl, by omega, rfl, rfl, by rw [clUp_zero]⟩ zcV zsL ?_
    rintro _ _ σ Hr ⟨i, rfl, hi, rfl, rfl, rfl⟩
    refine WC.seq ?_
    refine WC.seq ?_
    refine WC.region ?_
    refine WL.pur (Pur.move rfl) ?_
    refine WL.pur (Pur.move rfl) ?_
    refine WL.pur (Pur.nilCheck rfl) ?_
    refine WL.pur (Pur.fieldAddr rfl fo_74_0) ?_
    refine' WL.pur (Pur.load1 rfl ty_22 ?h3_0) ?k3
    case h3_0 => first | (apply Rd.own1; exact zmE; rfl) | (apply RdV.rd; apply RdV.idx (i := 0); assumption; rfl)
    refine WL.pur (Pur.len rfl isSlice_22) ?_
    refine' WL.pur (Pur.bin rfl rfl ?h4_0) ?k4
    case h4_0 => first | exact Bin.ltN | exact Bin.ltI | exact Bin.ltS
    refine WL.nil ?_
    refine WQ.thn ?_
    first | refine WC.cond rfl (fun hc0 => ?_) (fun hc0 => ?_) | refine WC.condB rfl (fun hc0 => ?_) (fun hc0 => ?_)
    · obtain ⟨e, he⟩ : ∃ e, L[i]? = some e := ⟨_, List.getElem?_eq_getElem (by omega)⟩
      obtain ⟨qv, ov, hrd, heH, hNR⟩ := ent_rd hE1 hel he
      have hcb := (nodeErr_zero (ho.node e (List.mem_of_getElem? he))).2.1
      refine WC.skip ?_
      refine WQ.thn ?_
      refine WC.seq ?_
      refine WC.block ?_
      refine WC.seq ?_
      refine WC.drawH 13 13 mixed (by kernel_rfl) rfl ?_
      refine SA.take 0 (by kernel_rfl) rfl rfl rfl (Wanted.plain rfl) zsL (View.le_refl _) (Pur.move rfl) ?_
      refine SA.take 1 (by kernel_rfl) rfl rfl rfl (Wanted.plain rfl) zsL (View.le_refl _) (Pur.nilCheck rfl) ?_
      refine SA.take 2 (by kernel_rfl) rfl rfl rfl (Wanted.plain rfl) zsL (View.le_refl _) (Pur.fieldAddr rfl fo_74_0) ?_
      refine' SA.take 3 (by kernel_rfl) rfl rfl rfl (Wanted.plain rfl) zsL (View.le_refl _) (Pur.load1 rfl ty_22 ?h5_0) ?k5
      case h5_0 => first | (apply Rd.own1; exact zmE; rfl) | (apply RdV.rd; apply RdV.idx (i := 0); assumption; rfl)
      refine SA.take 4 (by kernel_rfl) rfl rfl rfl (Wanted.plain rfl) zsL (View.le_refl _) (Pur.move rfl) ?_
      refine' SA.take 5 (by kernel_rfl) rfl rfl rfl (Wanted.plain rfl) zsL (View.le_refl _) (Pur.indexAddr (eqA (hel (by omega))) rfl sl_22 ?h6_0) ?k6
      case h6_0 => omega
      refine SA.take 6 (by kernel_rfl) rfl rfl rfl (Wanted.plain rfl) zsL (View.le_refl _) (Pur.fieldAddr rfl fo_45_1) ?_
      refine SA.take 7 (by kernel_rfl) rfl rfl rfl (Wanted.plain rfl) zsL (View.le_refl _) (Pur.fieldAddr rfl fo_43_1) ?_
      refine' SA.take 8 (by kernel_rfl) rfl rfl rfl (Wanted.plain rfl) zsL (View.le_refl _) (Pur.load1 rfl ty_3 ?h7_0) ?k7
      case h7_0 => first | (apply Rd.own1; exact zmE; rfl) | (apply RdV.rd; apply RdV.idx (i := 33); assumption; rfl) | (apply RdV.rd; apply RdV.idx (off := 0) (i := 33); assumption; rfl)
      refine SA.take 9 (by kernel_rfl) rfl rfl rfl (Wanted.plain rfl) zsL (View.le_refl _) (Pur.fieldAddr rfl fo_45_1) ?_
      refine SA.take 10 (by kernel_rfl) rfl rfl rfl (Wanted.plain rfl) zsL (View.le_refl _) (Pur.fieldAddr rfl fo_43_1) ?_
      refine' SA.take 11 (by kernel_rfl) rfl rfl rfl (Wanted.plain rfl) zsL (View.le_refl _) (Pur.load1 rfl ty_3 ?h8_0) ?k8
      case h8_0 => first | (apply Rd.own1; exact zmE; rfl) | (apply RdV.rd; apply RdV.idx (i := 33); assumption; rfl) | (apply RdV.rd; apply RdV.idx (off := 0) (i := 33); assumption; rfl)
      refine' SA.take 12 (by kernel_rfl) rfl rfl rfl (Wanted.plain rfl) zsL (View.le_refl _) (Pur.bin rfl rfl ?h9_0) ?k9
      case h9_0 => first | exact Bin.geN | exact Bin.geI
      refine SA.done (by kernel_rfl) ?_
      refine WQ.thn ?_
      first | refine WC.cond rfl (fun hc1 => ?_) (fun hc1 => ?_) | refine WC.condB rfl (fun hc1 => ?_) (fun hc1 => ?_)
      · refine WC.region ?_
        refine WL.pur (Pur.move rfl) ?_
        refine WL.pur (Pur.nilCheck rfl) ?_
        refine WL.pur (Pur.fieldAddr rfl fo_74_0) ?_
        refine' WL.pur (Pur.load1 rfl ty_22 ?h10_0) ?k10
        case h10_0 => first | (apply Rd.own1; exact zmE; rfl) | (apply RdV.rd; apply RdV.idx (i := 0); assumption; rfl)
        refine WL.pur (Pur.move rfl) ?_
        refine' WL.pur (Pur.indexAddr (eqA (hel (by omega))) rfl sl_22 ?h11_0) ?k11
        case h11_0 => omega
        refine WL.pur (Pur.fieldAddr rfl fo_45_1) ?_
        refine WL.pur (Pur.fieldAddr rfl fo_43_1) ?_
        refine' WL.pur (Pur.load1 rfl ty_3 ?h12_0) ?k12
        case h12_0 => first | (apply Rd.own1; exact zmE; rfl) | (apply RdV.rd; apply RdV.idx (i := 33); assumption; rfl) | (apply RdV.rd; apply RdV.idx (off := 0) (i := 33); assumption; rfl)
        refine' WL.pur (Pur.bin rfl rfl ?h13_0) ?k13
        case h13_0 => first | (refine Bin.addN (b := 1) ?_; omega) | (refine Bin.addI ?_; omega)
        refine WL.pur (Pur.fieldAddr rfl fo_45_1) ?_
        refine WL.pur (Pur.fieldAddr rfl fo_43_1) ?_
        refine' WL.run0 (Run.store1 rfl rfl ty_3 (by first | rfl | assumption) ?h14_0 ?h14_1 sz_3) ?k14
        case h14_0 => repeat (first | exact Part.one | exact Part.here | apply Part.cons | apply Part.app)
        case h14_1 => first | exact Nat.le_of_ble_eq_true rfl | decide | (simp; done) | (simp; omega) | omega
        refine WL.nil ?_
        refine WQ.blk ?_
        refine WQ.thn ?_
        refine WC.region ?_
        refine WL.pur (Pur.move rfl) ?_
        refine' WL.pur (Pur.bin rfl rfl ?h15_0) ?k15
        case h15_0 => first | (refine Bin.addN (b := 1) ?_; omega) | (refine Bin.addI ?_; omega)
        refine WL.pur (Pur.assign rfl) ?_
        refine WL.nil ?_
        refine WQ.back _ ⟨i + 1, rfl, by omega, rfl, rfl, by rw [clUp_step he, if_pos hc1]⟩ (by omega) zcV zsL
      · refine WC.skip ?_
        refine WQ.blk ?_
        refine WQ.thn ?_
        refine WC.region ?_
        refine WL.pur (Pur.move rfl) ?_
        refine' WL.pur (Pur.bin rfl rfl ?h16_0) ?k16
        case h16_0 => first | (refine Bin.addN (b := 1) ?_; omega) | (refine Bin.addI ?_; omega)
        refine WL.pur (Pur.assign rfl) ?_
        refine WL.nil ?_
        refine WQ.back _ ⟨i + 1, rfl, by omega, rfl, rfl, by rw [clUp_step he, if_neg hc1]⟩ (by omega) zcV zsL
    · have hil : i = L.length := by omega
      subst hil
      rw [clUp_all (Nat.le_refl _)]
      have hcB := clUp_i64 ho L.length
      rw [clUp_all (Nat.le_refl _)] at hcB
      have hNB : NodeR σ (behindE L id ops).node (.slice ha (headsL L).length hc) (.slice oa ops.length oc) := ⟨hs1, hops1, by unfold I64 behindE; simp only; omega, by unfold I64 behindE; simp only; omega⟩
      refine WC.exit ?_
      refine WQ.thn_exit ?_
      refine WQ.back_exit ?_
      refine WQ.blk_here ?_
      refine WQ.thn ?_
      refine WC.seq ?_
      refine WC.region ?_
      refine WL.pur (Pur.move rfl) ?_
      refine WL.pur (Pur.nilCheck rfl) ?_
      refine WL.pur (Pur.fieldAddr rfl fo_74_0) ?_
      refine' WL.pur (Pur.load1 rfl ty_22 ?h17_0) ?k17
      case h17_0 => first | (apply Rd.own1; exact zmE; rfl) | (apply RdV.rd; apply RdV.idx (i := 0); assumption; rfl)
      refine WL.pur (Pur.len rfl isSlice_22) ?_
      refine' WL.pur (Pur.bin rfl rfl ?h18_0) ?k18
      case h18_0 => first | exact Bin.ltN (b := 4096) | exact Bin.ltI | exact Bin.ltS
      refine WL.pur (Pur.move rfl) ?_
      refine' WL.andp (u := 57) (t := 62) rfl ?h19_0 ?h19_1 ?h19_2 rfl ?k19
      case h19_0 =>
        intro hg57 K57
        refine WL.gpur (u := 57) rfl rfl (gT hg57) (Pur.move rfl) ?_
        refine' WL.gpur (u := 57) rfl rfl (gT hg57) (Pur.loadN rfl ty_39 ?h20_0 ?h20_1) ?k20
        case h20_0 => first | (apply Rd.own_sub; exact zmE; exact Sub.refl _) | (apply RdV.rd; assumption)
        case h20_1 => first | rfl | assumption
        refine WL.gcallP (u := 57) rfl rfl (gT hg57) rfl Tryz.call37 ((r11_Number _ _ L id h1' ho hid)) ?_
        refine' WL.gpur (u := 57) rfl rfl (gT hg57) (Pur.bin rfl rfl ?h21_0) ?k21
        case h21_0 => first | exact Bin.ltN (b := 0) | exact Bin.ltI | exact Bin.ltS
        exact K57 _ zcR rfl
      case h19_1 =>
        intro hg57 K57
        refine WL.gskip (u := 57) rfl rfl (sT hg57) ?_
        refine WL.gskip (u := 57) rfl rfl (sT hg57) ?_
        refine WL.gskip (u := 57) rfl rfl (sT hg57) ?_
        refine WL.gskip (u := 57) rfl rfl (sT hg57) ?_
        exact K57 _ zcR
      case h19_2 => exact Wanted.plain rfl
      refine WL.pur (Pur.move rfl) ?_
      refine' WL.andp (u := 63) (t := 68) rfl ?h22_0 ?h22_1 ?h22_2 rfl ?k22
      case h22_0 =>
        intro hg63 K63
        refine WL.gpur (u := 63) rfl rfl (gT hg63) (Pur.fieldAddr rfl fo_45_1) ?_
        refine' WL.gpur (u := 63) rfl rfl (gT hg63) (Pur.loadN rfl ty_43 ?h23_0 ?h23_1) ?k23
        case h23_0 => first | (apply Rd.own_sub; exact zmE; exact Sub.ent_node _ _ _ _ _) | (apply RdV.rd; apply RdV.sub (i := 32); assumption; exact Sub.ent_node _ _ _ _ _)
        case h23_1 => first | rfl | assumption
        refine WL.gcallP (u := 63) rfl rfl (gT hg63) rfl Tryz.call108 ((r5_Check _ (behindE L id ops).node _ _ hNB)) ?_
        refine' WL.gpur (u := 63) rfl rfl (gT hg63) (Pur.bin rfl rfl ?h24_0) ?k24
        case h24_0 => first | exact Bin.eqN (b := 0) | exact Bin.eqI
        exact K63 _ zcR rfl
      case h22_1 =>
        intro hg63 K63
        refine WL.gskip (u := 63) rfl rfl (sT hg63) ?_
        refine WL.gskip (u := 63) rfl rfl (sT hg63) ?_
        refine WL.gskip (u := 63) rfl rfl (sT hg63) ?_
        refine WL.gskip (u := 63) rfl rfl (sT hg63) ?_
        exact K63 _ zcR
      case h22_2 => exact Wanted.plain rfl
      refine WL.pur (Pur.assign rfl) ?_
      refine WL.nil ?_
      refine WQ.thn ?_
      refine WC.seq ?_
      refine WC.region ?_
      refine' WL.pur (Pur.loadN rfl ty_45 ?h25_0 ?h25_1) ?k25
      case h25_0 => first | (apply Rd.own_sub; exact zmE; exact Sub.refl _) | (apply RdV.rd; assumption)
      case h25_1 => first | rfl | assumption
      refine WL.pur (Pur.move rfl) ?_
      refine' WL.run0 (Run.storeAll rfl rfl ty_45 ?h26_0 (by first | rfl | assumption) ?h26_1 (by first | rfl | assumption)) ?k26
      case h26_0 => repeat (first | exact Part.one | exact Part.here | apply Part.cons | apply Part.app)
      case h26_1 => first | rfl | assumption
      refine WL.pur (Pur.assign rfl) ?_
      refine WL.nil ?_
      refine WQ.thn ?_
      refine WC.ret ?_
      refine' WQ.retCT Tryz.results30 rfl rfl ty_45 ?h27_0 ?h27_1 [] zsL hle1 ?k27
      case h27_0 => apply Rd.own_sub; exact zmE; exact Sub.refl _
      case h27_1 => rfl
      exact ⟨⟨_, rfl, hNB⟩, rfl⟩
  · refine SStep.new 6 rfl rfl rfl (Wanted.plain rfl) (New.alloc zc_45) (.inr ⟨zsL, View.le_refl _⟩) (fun b8 => ?_)
    refine SA.callR 2 (H1 := []) rfl rfl (Wanted.plain rfl) (by kernel_rfl) rfl Tryz.call107 (List.Perm.refl _) (.inr ⟨(by first | exact List.Sublist.refl _ | exact List.sublist_cons_self _ _), View.le_refl _⟩) (r11_Heads _ _ L h' ho) ?_
    rintro v13 σ _ ⟨⟨hh, hsH, rfl⟩, rfl⟩ _
    obtain ⟨ha, hc, rfl, hhc⟩ := hsH.shape
    refine SA.takeP 4 (by kernel_rfl) rfl rfl rfl (Wanted.plain rfl) (fun _ _ => Pur.build (l := nodeCells 1 1 (.slice ha (headsL L).length hc) (.slice oa ops.length oc)) pl_43 zc_43 rfl rfl) ?_
    refine SA.takeP 5 (by kernel_rfl) rfl rfl rfl (Wanted.plain rfl) (fun _ _ => Pur.build (l := (entCells id 1 1 (.slice ha (headsL L).length hc) (.slice oa ops.length oc))) pl_45 zc_45 rfl rfl) ?_
    refine' SA.run 7 rfl (fun _ e => by cases e) (Wanted.plain rfl) (by kernel_rfl) (Run.storeAll rfl rfl ty_45 ?h28_0 (by first | rfl | assumption) ?h28_1 (by first | rfl | assumption)) (.inl (by decide)) ?k28
    case h28_0 => repeat (first | exact Part.one | exact Part.here | apply Part.cons | apply Part.app)
    case h28_1 => first | rfl | assumption
    refine SA.done (by kernel_rfl) ?_
    refine WQ.thn ?_
    refine WC.seq ?_
    refine WC.seq ?_
    refine WC.region ?_
    refine WL.pur (Pur.assign rfl) ?_
    refine WL.nil ?_
    refine WQ.thn ?_
    refine WC.block ?_
    first | refine WC.giveS (byt := 32) (H1 := [(b8, _)]) (H2 := (b6, rowO 45 (entCells 0 0 0 (.slice none 0 0) (.slice none 0 0))) :: (b4, rowO 39 (hashCells id)) :: Hr) eHash_mono hsH (by omega) rfl (fun σ hle1 hs1 => ?_) | refine WC.giveS (byt := 32) (H1 := []) (H2 := (b8, _) :: (b6, rowO 45 (entCells 0 0 0 (.slice none 0 0) (.slice none 0 0))) :: (b4, rowO 39 (hashCells id)) :: Hr) eHash_mono hsH (by omega) rfl (fun σ hle1 hs1 => ?_)
    first | rw [List.singleton_append] | rw [List.nil_append]
    have hE1 := hE.mono eEnt_mono hle1
    have hops1 := hops.mono eOp_mono hle1
    have hr1 := hr.mono hle1
    have h1' := h'.mono hle1
    refine WC.loop (fun j m σ' H' => ∃ i : Nat, j = L.length - i ∧ i ≤ L.length ∧ m = [(0, .pointer (some ⟨b, 0, none⟩)), (4, .pointer (some ⟨b4, 0, none⟩)), (6, .pointer (some ⟨b6, 0, none⟩)), (8, .pointer (some ⟨b8, 0, none⟩)), (9, .int .i64 (i : Int))] ∧ σ' = σ ∧ H' = (b8, rowO 45 (entCells id 1 (clUp L i) (.slice ha (headsL L).length hc) (.slice oa ops.length oc))) :: (b6, rowO 45 (entCells 0 0 0 (.slice none 0 0) (.slice none 0 0))) :: (b4, rowO 39 (hashCells id)) :: Hr) ⟨0, rfl, by omega, rfl, rfl, by rw [clUp_zero]⟩ zcV zsL ?_
    rintro _ _ σ Hr ⟨i, rfl, hi, rfl, rfl, rfl⟩
    refine WC.seq ?_
    refine WC.seq ?_
    refine WC.region ?_
    refine WL.pur (Pur.move rfl) ?_
    refine WL.pur (Pur.move rfl) ?_
    refine WL.pur (Pur.nilCheck rfl) ?_
    refine WL.pur (Pur.fieldAddr rfl fo_74_0) ?_
    refine' WL.pur (Pur.load1 rfl ty_22 ?h29_0) ?k29
    case h29_0 => first | (apply Rd.own1; exact zmE; rfl) | (apply RdV.rd; apply RdV.idx (i := 0); assumption; rfl)
    refine WL.pur (Pur.len rfl isSlice_22) ?_
    refine' WL.pur (Pur.bin rfl rfl ?h30_0) ?k30
    case h30_0 => first | exact Bin.ltN | exact Bin.ltI | exact Bin.ltS
    refine WL.nil ?_
    refine WQ.thn ?_
    first | refine WC.cond rfl (fun hc0 => ?_) (fun hc0 => ?_) | refine WC.condB rfl (fun hc0 => ?_) (fun hc0 => ?_)
    · obtain ⟨e, he⟩ : ∃ e, L[i]? = some e := ⟨_, List.getElem?_eq_getElem (by omega)⟩
      obtain ⟨qv, ov, hrd, heH, hNR⟩ := ent_rd hE1 hel he
      have hcb := (nodeErr_zero (ho.node e (List.mem_of_getElem? he))).2.1
      refine WC.skip ?_
      refine WQ.thn ?_
      refine WC.seq ?_
      refine WC.block ?_
      refine WC.seq ?_
      refine WC.drawH 13 13 mixed (by kernel_rfl) rfl ?_
      refine SA.take 0 (by kernel_rfl) rfl rfl rfl (Wanted.plain rfl) zsL (View.le_refl _) (Pur.move rfl) ?_
      refine SA.take 1 (by kernel_rfl) rfl rfl rfl (Wanted.plain rfl) zsL (View.le_refl _) (Pur.nilCheck rfl) ?_
      refine SA.take 2 (by kernel_rfl) rfl rfl rfl (Wanted.plain rfl) zsL (View.le_refl _) (Pur.fieldAddr rfl fo_74_0) ?_
      refine' SA.take 3 (by kernel_rfl) rfl rfl rfl (Wanted.plain rfl) zsL (View.le_refl _) (Pur.load1 rfl ty_22 ?h31_0) ?k31
      case h31_0 => first | (apply Rd.own1; exact zmE; rfl) | (apply RdV.rd; apply RdV.idx (i := 0); assumption; rfl)
      refine SA.take 4 (by kernel_rfl) rfl rfl rfl (Wanted.plain rfl) zsL (View.le_refl _) (Pur.move rfl) ?_
      refine' SA.take 5 (by kernel_rfl) rfl rfl rfl (Wanted.plain rfl) zsL (View.le_refl _) (Pur.indexAddr (eqA (hel (by omega))) rfl sl_22 ?h32_0) ?k32
      case h32_0 => omega
      refine SA.take 6 (by kernel_rfl) rfl rfl rfl (Wanted.plain rfl) zsL (View.le_refl _) (Pur.fieldAddr rfl fo_45_1) ?_
      refine SA.take 7 (by kernel_rfl) rfl rfl rfl (Wanted.plain rfl) zsL (View.le_refl _) (Pur.fieldAddr rfl fo_43_1) ?_
      refine' SA.take 8 (by kernel_rfl) rfl rfl rfl (Wanted.plain rfl) zsL (View.le_refl _) (Pur.load1 rfl ty_3 ?h33_0) ?k33
      case h33_0 => first | (apply Rd.own1; exact zmE; rfl) | (apply RdV.rd; apply RdV.idx (i := 33); assumption; rfl) | (apply RdV.rd; apply RdV.idx (off := 0) (i := 33); assumption; rfl)
      refine SA.take 9 (by kernel_rfl) rfl rfl rfl (Wanted.plain rfl) zsL (View.le_refl _) (Pur.fieldAddr rfl fo_45_1) ?_
      refine SA.take 10 (by kernel_rfl) rfl rfl rfl (Wanted.plain rfl) zsL (View.le_refl _) (Pur.fieldAddr rfl fo_43_1) ?_
      refine' SA.take 11 (by kernel_rfl) rfl rfl rfl (Wanted.plain rfl) zsL (View.le_refl _) (Pur.load1 rfl ty_3 ?h34_0) ?k34
      case h34_0 => first | (apply Rd.own1; exact zmE; rfl) | (apply RdV.rd; apply RdV.idx (i := 33); assumption; rfl) | (apply RdV.rd; apply RdV.idx (off := 0) (i := 33); assumption; rfl)
      refine' SA.take 12 (by kernel_rfl) rfl rfl rfl (Wanted.plain rfl) zsL (View.le_refl _) (Pur.bin rfl rfl ?h35_0) ?k35
      case h35_0 => first | exact Bin.geN | exact Bin.geI
      refine SA.done (by kernel_rfl) ?_
      refine WQ.thn ?_
      first | refine WC.cond rfl (fun hc1 => ?_) (fun hc1 => ?_) | refine WC.condB rfl (fun hc1 => ?_) (fun hc1 => ?_)
      · refine WC.region ?_
        refine WL.pur (Pur.move rfl) ?_
        refine WL.pur (Pur.nilCheck rfl) ?_
        refine WL.pur (Pur.fieldAddr rfl fo_74_0) ?_
        refine' WL.pur (Pur.load1 rfl ty_22 ?h36_0) ?k36
        case h36_0 => first | (apply Rd.own1; exact zmE; rfl) | (apply RdV.rd; apply RdV.idx (i := 0); assumption; rfl)
        refine WL.pur (Pur.move rfl) ?_
        refine' WL.pur (Pur.indexAddr (eqA (hel (by omega))) rfl sl_22 ?h37_0) ?k37
        case h37_0 => omega
        refine WL.pur (Pur.fieldAddr rfl fo_45_1) ?_
        refine WL.pur (Pur.fieldAddr rfl fo_43_1) ?_
        refine' WL.pur (Pur.load1 rfl ty_3 ?h38_0) ?k38
        case h38_0 => first | (apply Rd.own1; exact zmE; rfl) | (apply RdV.rd; apply RdV.idx (i := 33); assumption; rfl) | (apply RdV.rd; apply RdV.idx (off := 0) (i := 33); assumption; rfl)
        refine' WL.pur (Pur.bin rfl rfl ?h39_0) ?k39
        case h39_0 => first | (refine Bin.addN (b := 1) ?_; omega) | (refine Bin.addI ?_; omega)
        refine WL.pur (Pur.fieldAddr rfl fo_45_1) ?_
        refine WL.pur (Pur.fieldAddr rfl fo_43_1) ?_
        refine' WL.run0 (Run.store1 rfl rfl ty_3 (by first | rfl | assumption) ?h40_0 ?h40_1 sz_3) ?k40
        case h40_0 => repeat (first | exact Part.one | exact Part.here | apply Part.cons | apply Part.app)
        case h40_1 => first | exact Nat.le_of_ble_eq_true rfl | decide | (simp; done) | (simp; omega) | omega
        refine WL.nil ?_
        refine WQ.blk ?_
        refine WQ.thn ?_
        refine WC.region ?_
        refine WL.pur (Pur.move rfl) ?_
        refine' WL.pur (Pur.bin rfl rfl ?h41_0) ?k41
        case h41_0 => first | (refine Bin.addN (b := 1) ?_; omega) | (refine Bin.addI ?_; omega)
        refine WL.pur (Pur.assign rfl) ?_
        refine WL.nil ?_
        refine WQ.back _ ⟨i + 1, rfl, by omega, rfl, rfl, by rw [clUp_step he, if_pos hc1]⟩ (by omega) zcV zsL
      · refine WC.skip ?_
        refine WQ.blk ?_
        refine WQ.thn ?_
        refine WC.region ?_
        refine WL.pur (Pur.move rfl) ?_
        refine' WL.pur (Pur.bin rfl rfl ?h42_0) ?k42
        case h42_0 => first | (refine Bin.addN (b := 1) ?_; omega) | (refine Bin.addI ?_; omega)
        refine WL.pur (Pur.assign rfl) ?_
        refine WL.nil ?_
        refine WQ.back _ ⟨i + 1, rfl, by omega, rfl, rfl, by rw [clUp_step he, if_neg hc1]⟩ (by omega) zcV zsL
    · have hil : i = L.length := by omega
      subst hil
      rw [clUp_all (Nat.le_refl _)]
      have hcB := clUp_i64 ho L.length
      rw [clUp_all (Nat.le_refl _)] at hcB
      have hNB : NodeR σ (behindE L id ops).node (.slice ha (headsL L).length hc) (.slice oa ops.length oc) := ⟨hs1, hops1, by unfold I64 behindE; simp only; omega, by unfold I64 behindE; simp only; omega⟩
      refine WC.exit ?_
      refine WQ.thn_exit ?_
      refine WQ.back_exit ?_
      refine WQ.blk_here ?_
      refine WQ.thn ?_
      refine WC.seq ?_
      refine WC.region ?_
      refine WL.pur (Pur.move rfl) ?_
      refine WL.pur (Pur.nilCheck rfl) ?_
      refine WL.pur (Pur.fieldAddr rfl fo_74_0) ?_
      refine' WL.pur (Pur.load1 rfl ty_22 ?h43_0) ?k43
      case h43_0 => first | (apply Rd.own1; exact zmE; rfl) | (apply RdV.rd; apply RdV.idx (i := 0); assumption; rfl)
      refine WL.pur (Pur.len rfl isSlice_22) ?_
      refine' WL.pur (Pur.bin rfl rfl ?h44_0) ?k44
      case h44_0 => first | exact Bin.ltN (b := 4096) | exact Bin.ltI | exact Bin.ltS
      refine WL.pur (Pur.move rfl) ?_
      refine' WL.andp (u := 57) (t := 62) rfl ?h45_0 ?h45_1 ?h45_2 rfl ?k45
      case h45_0 =>
        intro hg57 K57
        refine WL.gpur (u := 57) rfl rfl (gT hg57) (Pur.move rfl) ?_
        refine' WL.gpur (u := 57) rfl rfl (gT hg57) (Pur.loadN rfl ty_39 ?h46_0 ?h46_1) ?k46
        case h46_0 => first | (apply Rd.own_sub; exact zmE; exact Sub.refl _) | (apply RdV.rd; assumption)
        case h46_1 => first | rfl | assumption
        refine WL.gcallP (u := 57) rfl rfl (gT hg57) rfl Tryz.call37 ((r11_Number _ _ L id h1' ho hid)) ?_
        refine' WL.gpur (u := 57) rfl rfl (gT hg57) (Pur.bin rfl rfl ?h47_0) ?k47
        case h47_0 => first | exact Bin.ltN (b := 0) | exact Bin.ltI | exact Bin.ltS
        exact K57 _ zcR rfl
      case h45_1 =>
        intro hg57 K57
        refine WL.gskip (u := 57) rfl rfl (sT hg57) ?_
        refine WL.gskip (u := 57) rfl rfl (sT hg57) ?_
        refine WL.gskip (u := 57) rfl rfl (sT hg57) ?_
        refine WL.gskip (u := 57) rfl rfl (sT hg57) ?_
        exact K57 _ zcR
      case h45_2 => exact Wanted.plain rfl
      refine WL.pur (Pur.move rfl) ?_
      refine' WL.andp (u := 63) (t := 68) rfl ?h48_0 ?h48_1 ?h48_2 rfl ?k48
      case h48_0 =>
        intro hg63 K63
        refine WL.gpur (u := 63) rfl rfl (gT hg63) (Pur.fieldAddr rfl fo_45_1) ?_
        refine' WL.gpur (u := 63) rfl rfl (gT hg63) (Pur.loadN rfl ty_43 ?h49_0 ?h49_1) ?k49
        case h49_0 => first | (apply Rd.own_sub; exact zmE; exact Sub.ent_node _ _ _ _ _) | (apply RdV.rd; apply RdV.sub (i := 32); assumption; exact Sub.ent_node _ _ _ _ _)
        case h49_1 => first | rfl | assumption
        refine WL.gcallP (u := 63) rfl rfl (gT hg63) rfl Tryz.call108 ((r5_Check _ (behindE L id ops).node _ _ hNB)) ?_
        refine' WL.gpur (u := 63) rfl rfl (gT hg63) (Pur.bin rfl rfl ?h50_0) ?k50
        case h50_0 => first | exact Bin.eqN (b := 0) | exact Bin.eqI
        exact K63 _ zcR rfl
      case h48_1 =>
        intro hg63 K63
        refine WL.gskip (u := 63) rfl rfl (sT hg63) ?_
        refine WL.gskip (u := 63) rfl rfl (sT hg63) ?_
        refine WL.gskip (u := 63) rfl rfl (sT hg63) ?_
        refine WL.gskip (u := 63) rfl rfl (sT hg63) ?_
        exact K63 _ zcR
      case h48_2 => exact Wanted.plain rfl
      refine WL.pur (Pur.assign rfl) ?_
      refine WL.nil ?_
      refine WQ.thn ?_
      refine WC.seq ?_
      refine WC.region ?_
      refine' WL.pur (Pur.loadN rfl ty_45 ?h51_0 ?h51_1) ?k51
      case h51_0 => first | (apply Rd.own_sub; exact zmE; exact Sub.refl _) | (apply RdV.rd; assumption)
      case h51_1 => first | rfl | assumption
      refine WL.pur (Pur.move rfl) ?_
      refine' WL.run0 (Run.storeAll rfl rfl ty_45 ?h52_0 (by first | rfl | assumption) ?h52_1 (by first | rfl | assumption)) ?k52
      case h52_0 => repeat (first | exact Part.one | exact Part.here | apply Part.cons | apply Part.app)
      case h52_1 => first | rfl | assumption
      refine WL.pur (Pur.assign rfl) ?_
      refine WL.nil ?_
      refine WQ.thn ?_
      refine WC.ret ?_
      refine' WQ.retCT Tryz.results30 rfl rfl ty_45 ?h53_0 ?h53_1 [] zsL hle1 ?k53
      case h53_0 => apply Rd.own_sub; exact zmE; exact Sub.refl _
      case h53_1 => rfl
      exact ⟨⟨_, rfl, hNB⟩, rfl⟩

end Go.Proofs.YtgoooilgmabkmaaGreat
namespace Go.Proofs.YtgoooilgmabkmaaGreat
open Go Go.Sl
set_option linter.unusedVariables false
set_option linter.unusedSimpArgs false
set_option maxRecDepth 100000

theorem r11_Sees (σ : View) (pv : Value) (L : List EntD) (i j : Nat) (h : R11V σ pv L) (ho : OrdOk L) (hj : j < L.length) (hi : i < L.length) :
    TriP Tryz.prog 115 #[pv, .int .i64 (i : Int), .int .i64 (j : Int)] σ (.bool (decide (seesN L i j = true))) := by
  obtain ⟨b, plv, psv, pqv, rfl, hr, hE, hS, hQ⟩ := h
  obtain ⟨pla, plc, rfl, hplc, hplb⟩ := hE.shape
  obtain ⟨plb, ploff, hel⟩ := addr_of hE
  have hmost := ho.most
  obtain ⟨psa, psc, rfl, hpsc, hpsb⟩ := hS.shape
  obtain ⟨sb, soff, hes, hsat⟩ := hS.rds
  rw [List.length_range] at hes
  obtain ⟨vs, _, _, ⟨wv, rfl, _, hw⟩, hwr⟩ := hsat j j (List.getElem?_range hj)
  obtain ⟨wa, wc, rfl, hwc, hwb⟩ := hw.shape
  obtain ⟨wb, woff, hew, hwat⟩ := hw.rds
  have hwl := wordsN_len L j
  have hiw : i / 64 < (L.length + 63) / 64 := by omega
  have hww := wordsN_get (L := L) (j := j) hiw
  obtain ⟨ws, _, _, rfl, hwd⟩ := hwat _ _ hww
  have hwlt := wordN_lt ((rowsN L L.length).getD j 0) (i / 64)
  have hask := wordN_ask ((rowsN L L.length).getD j 0) i
  rw [Nat.shiftRight_eq_div_pow] at hask
  have hdl := Nat.div_le_self (wordN ((rowsN L L.length).getD j 0) (i / 64)) (2 ^ (i % 64))
  have hlr : (List.range L.length).length = L.length := List.length_range
  refine Tri.of_body [(0, .pointer (some ⟨b, 0, none⟩)), (1, .int .i64 (i : Int)), (2, .int .i64 (j : Int))] Tryz.func115 rfl Tryz.ntmps115 (by simp) rfl (fun Hr => ?_)
  rw [List.nil_append]
  refine WC.seq ?_
  refine WC.region ?_
  refine WL.pur (Pur.assign rfl) ?_
  refine WL.nil ?_
  refine WQ.thn ?_
  refine WC.seq ?_
  refine WC.seq ?_
  refine WC.region ?_
  refine WL.pur (Pur.move rfl) ?_
  refine' WL.pur (Pur.bin rfl rfl ?h1_0) ?k1
  case h1_0 => first | exact Bin.ltN (b := 0) | exact Bin.ltI | exact Bin.ltS
  refine WL.pur (Pur.move rfl) ?_
  refine' WL.orp (u := 9) (t := 17) rfl ?h2_0 ?h2_1 ?h2_2 rfl ?k2
  case h2_0 =>
    intro hg9 K9
    refine WL.gpur (u := 9) rfl rfl (gF hg9) (Pur.move rfl) ?_
    refine WL.gpur (u := 9) rfl rfl (gF hg9) (Pur.move rfl) ?_
    refine WL.gpur (u := 9) rfl rfl (gF hg9) (Pur.nilCheck rfl) ?_
    refine WL.gpur (u := 9) rfl rfl (gF hg9) (Pur.fieldAddr rfl fo_74_0) ?_
    refine' WL.gpur (u := 9) rfl rfl (gF hg9) (Pur.load1 rfl ty_22 ?h3_0) ?k3
    case h3_0 => first | (apply Rd.own1; exact zmE; rfl) | (apply RdV.rd; apply RdV.idx (i := 0); assumption; rfl)
    refine WL.gpur (u := 9) rfl rfl (gF hg9) (Pur.len rfl isSlice_22) ?_
    refine' WL.gpur (u := 9) rfl rfl (gF hg9) (Pur.bin rfl rfl ?h4_0) ?k4
    case h4_0 => first | exact Bin.geN | exact Bin.geI
    exact K9 _ zcR rfl
  case h2_1 =>
    intro hg9 K9
    refine WL.gskip (u := 9) rfl rfl (sF hg9) ?_
    refine WL.gskip (u := 9) rfl rfl (sF hg9) ?_
    refine WL.gskip (u := 9) rfl rfl (sF hg9) ?_
    refine WL.gskip (u := 9) rfl rfl (sF hg9) ?_
    refine WL.gskip (u := 9) rfl rfl (sF hg9) ?_
    refine WL.gskip (u := 9) rfl rfl (sF hg9) ?_
    refine WL.gskip (u := 9) rfl rfl (sF hg9) ?_
    exact K9 _ zcR
  case h2_2 => exact Wanted.plain rfl
  refine WL.pur (Pur.move rfl) ?_
  refine' WL.orp (u := 18) (t := 21) rfl ?h5_0 ?h5_1 ?h5_2 rfl ?k5
  case h5_0 =>
    intro hg18 K18
    refine WL.gpur (u := 18) rfl rfl (gF hg18) (Pur.move rfl) ?_
    refine' WL.gpur (u := 18) rfl rfl (gF hg18) (Pur.bin rfl rfl ?h6_0) ?k6
    case h6_0 => first | exact Bin.ltN (b := 0) | exact Bin.ltI | exact Bin.ltS
    exact K18 _ zcR rfl
  case h5_1 =>
    intro hg18 K18
    refine WL.gskip (u := 18) rfl rfl (sF hg18) ?_
    refine WL.gskip (u := 18) rfl rfl (sF hg18) ?_
    exact K18 _ zcR
  case h5_2 => exact Wanted.plain rfl
  refine WL.pur (Pur.move rfl) ?_
  refine' WL.orp (u := 22) (t := 30) rfl ?h7_0 ?h7_1 ?h7_2 rfl ?k7
  case h7_0 =>
    intro hg22 K22
    refine WL.gpur (u := 22) rfl rfl (gF hg22) (Pur.move rfl) ?_
    refine WL.gpur (u := 22) rfl rfl (gF hg22) (Pur.move rfl) ?_
    refine WL.gpur (u := 22) rfl rfl (gF hg22) (Pur.nilCheck rfl) ?_
    refine WL.gpur (u := 22) rfl rfl (gF hg22) (Pur.fieldAddr rfl fo_74_0) ?_
    refine' WL.gpur (u := 22) rfl rfl (gF hg22) (Pur.load1 rfl ty_22 ?h8_0) ?k8
    case h8_0 => first | (apply Rd.own1; exact zmE; rfl) | (apply RdV.rd; apply RdV.idx (i := 0); assumption; rfl)
    refine WL.gpur (u := 22) rfl rfl (gF hg22) (Pur.len rfl isSlice_22) ?_
    refine' WL.gpur (u := 22) rfl rfl (gF hg22) (Pur.bin rfl rfl ?h9_0) ?k9
    case h9_0 => first | exact Bin.geN | exact Bin.geI
    exact K22 _ zcR rfl
  case h7_1 =>
    intro hg22 K22
    refine WL.gskip (u := 22) rfl rfl (sF hg22) ?_
    refine WL.gskip (u := 22) rfl rfl (sF hg22) ?_
    refine WL.gskip (u := 22) rfl rfl (sF hg22) ?_
    refine WL.gskip (u := 22) rfl rfl (sF hg22) ?_
    refine WL.gskip (u := 22) rfl rfl (sF hg22) ?_
    refine WL.gskip (u := 22) rfl rfl (sF hg22) ?_
    refine WL.gskip (u := 22) rfl rfl (sF hg22) ?_
    exact K22 _ zcR
  case h7_2 => exact Wanted.plain rfl
  refine WL.nil ?_
  refine WQ.thn ?_
  first | refine WC.cond rfl (fun hc0 => ?_) (fun hc0 => ?_) | refine WC.condB rfl (fun hc0 => ?_) (fun hc0 => ?_)
  · exfalso; omega
  · refine WC.skip ?_
    refine WQ.thn ?_
    refine WC.seq ?_
    refine WC.region ?_
    refine WL.pur (Pur.move rfl) ?_
    refine WL.pur (Pur.nilCheck rfl) ?_
    refine WL.pur (Pur.fieldAddr rfl fo_74_1) ?_
    refine' WL.pur (Pur.load1 rfl ty_71 ?h10_0) ?k10
    case h10_0 => first | (apply Rd.own1; exact zmE; rfl) | (apply RdV.rd; apply RdV.idx (i := 1); assumption; rfl) | (apply RdV.rd; apply RdV.idx (off := 0) (i := 1); assumption; rfl)
    refine WL.pur (Pur.move rfl) ?_
    refine' WL.pur (Pur.indexAddr (eqA (hes (by omega))) rfl sl_71 ?h11_0) ?k11
    case h11_0 => omega
    refine' WL.pur (Pur.load1 rfl ty_151 ?h12_0) ?k12
    case h12_0 => exact RdV.rd hwr
    refine WL.pur (Pur.move rfl) ?_
    refine' WL.pur (Pur.bin rfl rfl ?h13_0) ?k13
    case h13_0 => first | (refine Bin.quoN (b := 64) ?_ ?_ <;> omega)
    refine' WL.pur (Pur.indexAddr (eqA (hew (by omega))) rfl sl_151 ?h14_0) ?k14
    case h14_0 => omega
    refine' WL.pur (Pur.load1 rfl ty_60 ?h15_0) ?k15
    case h15_0 => exact RdV.rd hwd
    refine WL.pur (Pur.move rfl) ?_
    refine' WL.pur (Pur.bin rfl rfl ?h16_0) ?k16
    case h16_0 => first | (refine Bin.remN (b := 64) ?_; omega)
    refine' WL.pur (Pur.bin rfl rfl ?h17_0) ?k17
    case h17_0 => first | (refine Bin.shrU ?_; omega)
    refine' WL.pur (Pur.bin rfl rfl ?h18_0) ?k18
    case h18_0 => first | (refine Bin.andU (b := 1) ?_ ?_ <;> omega)
    refine' WL.pur (Pur.bin rfl rfl ?h19_0) ?k19
    case h19_0 => first | exact Bin.eqN (b := 1) | exact Bin.eqI
    refine WL.pur (Pur.assign rfl) ?_
    refine WL.nil ?_
    refine WQ.thn ?_
    refine WC.ret ?_
    refine WQ.ret1 Tryz.results115 rfl [] zsL (View.le_refl _) ?_
    refine ⟨?_, rfl, rfl⟩
    exact decB hask

theorem r11_Operation (σ : View) (pv : Value) (L : List EntD) (t : Trip) (h : R11V σ pv L) (ho : OrdOk L) (ht : t.1 < L.length) (h1 : 1 ≤ t.2.1) (h2 : (opsAt L t.1)[t.2.1 - 1]? = some t.2.2) :
    TriP Tryz.prog 105 #[pv, .agg #[.int .i64 (t.1 : Int), .int .i64 (t.2.1 : Int)]] σ (.agg t.2.2.cells.toArray) := by
  obtain ⟨b, plv, psv, pqv, rfl, hr, hE, hS, hQ⟩ := h
  obtain ⟨pla, plc, rfl, hplc, hplb⟩ := hE.shape
  obtain ⟨plb, ploff, hel⟩ := addr_of hE
  have hmost := ho.most
  obtain ⟨i, k, o⟩ := t
  simp only at ht h1 h2
  obtain ⟨e, he⟩ : ∃ e, L[i]? = some e := ⟨_, List.getElem?_eq_getElem (by omega)⟩
  obtain ⟨qv, ov, hrd, heH, hNR⟩ := ent_rd hE hel he
  have hops := hNR.2.1
  obtain ⟨pa, pc, rfl, hpc, hpb⟩ := hNR.1.shape
  obtain ⟨oa, oc, rfl, hoc, hob⟩ := hops.shape
  obtain ⟨ob, ooff, heo, hoat⟩ := hops.rds
  have hop := opsAt_of he
  have hol : e.node.ops.length ≤ 1024 := by rw [← hop]; exact opsAt_len ho i
  rw [hop] at h2
  have hkl := (List.getElem?_eq_some_iff.1 h2).1
  obtain ⟨vs, _, _, ⟨rfl, hook⟩, hord⟩ := hoat (k - 1) o h2
  refine Tri.of_body [(0, .pointer (some ⟨b, 0, none⟩)), (1, .agg #[.int .i64 (i : Int), .int .i64 (k : Int)])] Tryz.func105 rfl Tryz.ntmps105 (by simp) rfl (fun Hr => ?_)
  rw [List.nil_append]
  refine WC.seq ?_
  refine WC.region ?_
  refine WL.new (New.boxN rfl) (fun b3 => ?_)
  refine WL.new (New.alloc zc_51) (fun b4 => ?_)
  refine WL.nil ?_
  refine WQ.thn ?_
  refine WC.seq ?_
  refine WC.drawH 15 16 mixed (by kernel_rfl) rfl ?_
  refine SA.takeW 0 (by kernel_rfl) rfl rfl rfl (Wanted.plain rfl) (tells_move rfl) ?_
  refine SA.takeP 1 (by kernel_rfl) rfl rfl rfl (Wanted.plain rfl) (fun _ _ => Pur.nilCheck rfl) ?_
  refine SA.takeP 2 (by kernel_rfl) rfl rfl rfl (Wanted.plain rfl) (fun _ _ => Pur.fieldAddr rfl fo_74_0) ?_
  refine' SA.take 3 (by kernel_rfl) rfl rfl rfl (Wanted.plain rfl) zsL (View.le_refl _) (Pur.load1 rfl ty_22 ?h1_0) ?k1
  case h1_0 => first | (apply Rd.own1; exact zmE; rfl) | (apply RdV.rd; apply RdV.idx (i := 0); assumption; rfl)
  refine SA.takeP 4 (by kernel_rfl) rfl rfl rfl (Wanted.plain rfl) (fun _ _ => Pur.fieldAddr rfl fo_164_0) ?_
  refine' SA.take 5 (by kernel_rfl) rfl rfl rfl (Wanted.plain rfl) zsL (View.le_refl _) (Pur.load1 rfl ty_3 ?h2_0) ?k2
  case h2_0 => first | (apply Rd.own1; exact zmE; rfl) | (apply RdV.rd; apply RdV.idx (i := 0); assumption; rfl)
  refine' SA.takeP 6 (by kernel_rfl) rfl rfl rfl (Wanted.plain rfl) (fun _ _ => Pur.indexAddr (eqA (hel (by omega))) rfl sl_22 ?h3_0) ?k3
  case h3_0 => omega
  refine SA.takeP 7 (by kernel_rfl) rfl rfl rfl (Wanted.plain rfl) (fun _ _ => Pur.fieldAddr rfl fo_45_1) ?_
  refine SA.takeP 8 (by kernel_rfl) rfl rfl rfl (Wanted.plain rfl) (fun _ _ => Pur.fieldAddr rfl fo_43_3) ?_
  refine' SA.take 9 (by kernel_rfl) rfl rfl rfl (Wanted.plain rfl) zsL (View.le_refl _) (Pur.load1 rfl ty_40 ?h4_0) ?k4
  case h4_0 => first | (apply Rd.own1; exact zmE; rfl) | (apply RdV.rd; apply RdV.idx (i := 35); assumption; rfl) | (apply RdV.rd; apply RdV.idx (off := 0) (i := 35); assumption; rfl)
  refine SA.takeP 10 (by kernel_rfl) rfl rfl rfl (Wanted.plain rfl) (fun _ _ => Pur.fieldAddr rfl fo_164_1) ?_
  refine' SA.take 11 (by kernel_rfl) rfl rfl rfl (Wanted.plain rfl) zsL (View.le_refl _) (Pur.load1 rfl ty_3 ?h5_0) ?k5
  case h5_0 => first | (apply Rd.own1; exact zmE; rfl) | (apply RdV.rd; apply RdV.idx (i := 1); assumption; rfl) | (apply RdV.rd; apply RdV.idx (off := 0) (i := 1); assumption; rfl)
  refine' SA.takeP 12 (by kernel_rfl) rfl rfl rfl (Wanted.plain rfl) (fun _ _ => Pur.bin rfl rfl ?h6_0) ?k6
  case h6_0 => first | (refine Bin.subN (b := 1) ?_ ?_ <;> omega) | (refine Bin.subI ?_; omega)
  refine' SA.takeP 13 (by kernel_rfl) rfl rfl rfl (Wanted.plain rfl) (fun _ _ => Pur.indexAddr (eqA (heo (by omega))) rfl sl_40 ?h7_0) ?k7
  case h7_0 => omega
  refine' SA.take 14 (by kernel_rfl) rfl rfl rfl (Wanted.plain rfl) zsL (View.le_refl _) (Pur.loadN rfl ty_51 ?h8_0 ?h8_1) ?k8
  case h8_0 => exact RdV.rd hord
  case h8_1 => first | rfl | assumption
  refine' SA.run 15 rfl (fun _ e => by cases e) (Wanted.plain rfl) (by kernel_rfl) (Run.storeAll rfl rfl ty_51 ?h9_0 (by first | rfl | assumption) ?h9_1 (by first | rfl | assumption)) (.inl (by decide)) ?k9
  case h9_0 => repeat (first | exact Part.one | exact Part.here | apply Part.cons | apply Part.app)
  case h9_1 => first | rfl | assumption
  refine SA.done (by kernel_rfl) ?_
  refine WQ.thn ?_
  refine WC.ret ?_
  refine' WQ.retC Tryz.results105 rfl ty_51 ?h10_0 ?h10_1 [] zsL (View.le_refl _) ?k10
  case h10_0 => apply Rd.own_sub; exact zmE; exact Sub.refl _
  case h10_1 => rfl
  refine ⟨?_, rfl, rfl⟩
  rfl

theorem r11_Knows (σ : View) (pv : Value) (L : List EntD) (a c : Trip) (h : R11V σ pv L) (ho : OrdOk L) (ha : a.1 < L.length) (hc : c.1 < L.length) (hac : a.1 = c.1 → a.2.1 < c.2.1) :
    TriP Tryz.prog 106 #[pv, .agg #[.int .i64 (a.1 : Int), .int .i64 (a.2.1 : Int)], .agg #[.int .i64 (c.1 : Int), .int .i64 (c.2.1 : Int)]] σ (.bool (decide (a.1 = c.1 ∨ seesN L a.1 c.1 = true))) := by
  refine Tri.of_body [(0, pv), (1, .agg #[.int .i64 (a.1 : Int), .int .i64 (a.2.1 : Int)]), (2, .agg #[.int .i64 (c.1 : Int), .int .i64 (c.2.1 : Int)])] Tryz.func106 rfl Tryz.ntmps106 (by simp) rfl (fun Hr => ?_)
  rw [List.nil_append]
  refine WC.seq ?_
  refine WC.region ?_
  refine WL.new (New.boxN rfl) (fun b4 => ?_)
  refine WL.new (New.boxN rfl) (fun b5 => ?_)
  refine WL.pur (Pur.assign rfl) ?_
  refine WL.nil ?_
  refine WQ.thn ?_
  refine WC.seq ?_
  refine WC.seq ?_
  refine WC.region ?_
  refine WL.pur (Pur.fieldAddr rfl fo_164_0) ?_
  refine' WL.pur (Pur.load1 rfl ty_3 ?h1_0) ?k1
  case h1_0 => first | (apply Rd.own1; exact zmE; rfl) | (apply RdV.rd; apply RdV.idx (i := 0); assumption; rfl)
  refine WL.pur (Pur.fieldAddr rfl fo_164_0) ?_
  refine' WL.pur (Pur.load1 rfl ty_3 ?h2_0) ?k2
  case h2_0 => first | (apply Rd.own1; exact zmE; rfl) | (apply RdV.rd; apply RdV.idx (i := 0); assumption; rfl)
  refine' WL.pur (Pur.bin rfl rfl ?h3_0) ?k3
  case h3_0 => first | exact Bin.eqN | exact Bin.eqI
  refine WL.nil ?_
  refine WQ.thn ?_
  first | refine WC.cond rfl (fun hc0 => ?_) (fun hc0 => ?_) | refine WC.condB rfl (fun hc0 => ?_) (fun hc0 => ?_)
  · refine WC.seq ?_
    refine WC.region ?_
    refine WL.pur (Pur.fieldAddr rfl fo_164_1) ?_
    refine' WL.pur (Pur.load1 rfl ty_3 ?h4_0) ?k4
    case h4_0 => first | (apply Rd.own1; exact zmE; rfl) | (apply RdV.rd; apply RdV.idx (i := 1); assumption; rfl) | (apply RdV.rd; apply RdV.idx (off := 0) (i := 1); assumption; rfl)
    refine WL.pur (Pur.fieldAddr rfl fo_164_1) ?_
    refine' WL.pur (Pur.load1 rfl ty_3 ?h5_0) ?k5
    case h5_0 => first | (apply Rd.own1; exact zmE; rfl) | (apply RdV.rd; apply RdV.idx (i := 1); assumption; rfl) | (apply RdV.rd; apply RdV.idx (off := 0) (i := 1); assumption; rfl)
    refine' WL.pur (Pur.bin rfl rfl ?h6_0) ?k6
    case h6_0 => first | exact Bin.gtN | exact Bin.gtI
    refine WL.pur (Pur.assign rfl) ?_
    refine WL.nil ?_
    refine WQ.thn ?_
    refine WC.ret ?_
    refine WQ.thn_ret ?_
    refine WQ.ret1 Tryz.results106 rfl [] zsL (View.le_refl _) ?_
    refine ⟨?_, rfl, rfl⟩
    exact decB ⟨fun _ => .inl hc0, fun _ => hac hc0⟩
  · refine WC.skip ?_
    refine WQ.thn ?_
    refine WC.seq ?_
    refine WC.region ?_
    refine WL.pur (Pur.move rfl) ?_
    refine WL.pur (Pur.fieldAddr rfl fo_164_0) ?_
    refine' WL.pur (Pur.load1 rfl ty_3 ?h7_0) ?k7
    case h7_0 => first | (apply Rd.own1; exact zmE; rfl) | (apply RdV.rd; apply RdV.idx (i := 0); assumption; rfl)
    refine WL.pur (Pur.fieldAddr rfl fo_164_0) ?_
    refine' WL.pur (Pur.load1 rfl ty_3 ?h8_0) ?k8
    case h8_0 => first | (apply Rd.own1; exact zmE; rfl) | (apply RdV.rd; apply RdV.idx (i := 0); assumption; rfl)
    refine WL.callP rfl Tryz.call115 ((r11_Sees _ _ L a.1 c.1 h ho hc ha)) ?_
    refine WL.pur (Pur.assign rfl) ?_
    refine WL.nil ?_
    refine WQ.thn ?_
    refine WC.ret ?_
    refine WQ.ret1 Tryz.results106 rfl [] zsL (View.le_refl _) ?_
    refine ⟨?_, rfl, rfl⟩
    exact decB ⟨fun h => .inr h, fun h => h.resolve_left hc0⟩

theorem r11_Spots (σ : View) (pv : Value) (L : List EntD) (key : ByteArray) (kl kh : Int) (h : R11V σ pv L) (ho : OrdOk L) :
    Tri Tryz.prog 104 #[pv, .string key, .int .i64 kl, .int .i64 kh] σ [] (fun v σ' H' => (∃ h, SlO σ eSpot 164 2 v (tripsN L (isKey key kl kh) L.length) h ∧ H' = h) ∧ σ' = σ) := by
  obtain ⟨b, plv, psv, pqv, rfl, hr, hE, hS, hQ⟩ := h
  obtain ⟨pla, plc, rfl, hplc, hplb⟩ := hE.shape
  obtain ⟨plb, ploff, hel⟩ := addr_of hE
  have hmost := ho.most
  refine Tri.of_body [(0, .pointer (some ⟨b, 0, none⟩)), (1, .string key), (2, .int .i64 kl), (3, .int .i64 kh)] Tryz.func104 rfl Tryz.ntmps104 (by simp) rfl (fun Hr => ?_)
  rw [List.nil_append]
  refine WC.seq ?_
  refine WC.region ?_
  refine WL.pur (Pur.assign rfl) ?_
  refine WL.nil ?_
  refine WQ.thn ?_
  refine WC.seq ?_
  refine WC.region ?_
  refine WL.new (New.buildSlice0 sl_160) (fun b13 => ?_)
  refine WL.pur (Pur.assign rfl) ?_
  refine WL.nil ?_
  refine WQ.thn ?_
  refine WC.seq ?_
  refine WC.seq ?_
  refine WC.region ?_
  refine WL.pur (Pur.assign rfl) ?_
  refine WL.nil ?_
  refine WQ.thn ?_
  refine WC.block ?_
  refine WC.loop (fun j m σ' H' => ∃ (i : Nat) (sv : Value) (hl : HList), j = L.length - i ∧ i ≤ L.length ∧ SlO σ eSpot 164 2 sv (tripsN L (isKey key kl kh) i) hl ∧ m = [(0, .pointer (some ⟨b, 0, none⟩)), (1, .string key), (2, .int .i64 kl), (3, .int .i64 kh), (9, sv), (10, .int .i64 (i : Int))] ∧ σ' = σ ∧ H' = hl ++ Hr) ⟨0, _, [(b13, rowO 164 [])], rfl, by omega, SlO.row (b := b13) (ElR.nil (σ := σ) (E := eSpot) (sz := 2)), rfl, rfl, rfl⟩ zcV zsL ?_
  rintro _ _ σ Hr ⟨i, sv, hl, rfl, hi, hso, rfl, rfl, rfl⟩
  refine WC.seq ?_
  refine WC.seq ?_
  refine WC.region ?_
  refine WL.pur (Pur.move rfl) ?_
  refine WL.pur (Pur.move rfl) ?_
  refine WL.pur (Pur.nilCheck rfl) ?_
  refine WL.pur (Pur.fieldAddr rfl fo_74_0) ?_
  refine' WL.pur (Pur.load1 rfl ty_22 ?h1_0) ?k1
  case h1_0 => first | (apply Rd.own1; exact zmE; rfl) | (apply RdV.rd; apply RdV.idx (i := 0); assumption; rfl)
  refine WL.pur (Pur.len rfl isSlice_22) ?_
  refine' WL.pur (Pur.bin rfl rfl ?h2_0) ?k2
  case h2_0 => first | exact Bin.ltN | exact Bin.ltI | exact Bin.ltS
  refine WL.nil ?_
  refine WQ.thn ?_
  first | refine WC.cond rfl (fun hc0 => ?_) (fun hc0 => ?_) | refine WC.condB rfl (fun hc0 => ?_) (fun hc0 => ?_)
  · obtain ⟨e, he⟩ : ∃ e, L[i]? = some e := ⟨_, List.getElem?_eq_getElem (by omega)⟩
    obtain ⟨qv, ov, hrd, heH, hNR⟩ := ent_rd hE hel he
    have hops := hNR.2.1
    obtain ⟨pa, pc, rfl, hpc, hpb⟩ := hNR.1.shape
    obtain ⟨oa, oc, rfl, hoc, hob⟩ := hops.shape
    obtain ⟨ob, ooff, heo, hoat⟩ := hops.rds
    have hop := opsAt_of he
    have hol : e.node.ops.length ≤ 1024 := by rw [← hop]; exact opsAt_len ho i
    refine WC.skip ?_
    refine WQ.thn ?_
    refine WC.seq ?_
    refine WC.block ?_
    refine WC.seq ?_
    refine WC.region ?_
    refine WL.pur (Pur.assign rfl) ?_
    refine WL.nil ?_
    refine WQ.thn ?_
    refine WC.block ?_
    refine WC.loop (fun j m σ' H' => ∃ (q : Nat) (sv2 : Value) (hl2 : HList), j = e.node.ops.length - q ∧ q ≤ e.node.ops.length ∧ SlO σ eSpot 164 2 sv2 (tripsN L (isKey key kl kh) i ++ tripsAt (isKey key kl kh) i (e.node.ops.take q)) hl2 ∧ m = [(0, .pointer (some ⟨b, 0, none⟩)), (1, .string key), (2, .int .i64 kl), (3, .int .i64 kh), (9, sv2), (10, .int .i64 (i : Int)), (11, .int .i64 (q : Int))] ∧ σ' = σ ∧ H' = hl2 ++ Hr) ⟨0, sv, hl, rfl, by omega, by simpa [tripsAt] using hso, rfl, rfl, rfl⟩ zcV zsL ?_
    rintro _ _ σ Hr ⟨q, sv2, hl2, rfl, hq, hso2, rfl, rfl, rfl⟩
    refine WC.seq ?_
    refine WC.seq ?_
    refine WC.region ?_
    refine WL.pur (Pur.move rfl) ?_
    refine WL.pur (Pur.move rfl) ?_
    refine WL.pur (Pur.nilCheck rfl) ?_
    refine WL.pur (Pur.fieldAddr rfl fo_74_0) ?_
    refine' WL.pur (Pur.load1 rfl ty_22 ?h3_0) ?k3
    case h3_0 => first | (apply Rd.own1; exact zmE; rfl) | (apply RdV.rd; apply RdV.idx (i := 0); assumption; rfl)
    refine WL.pur (Pur.move rfl) ?_
    refine' WL.pur (Pur.indexAddr (eqA (hel (by omega))) rfl sl_22 ?h4_0) ?k4
    case h4_0 => omega
    refine WL.pur (Pur.fieldAddr rfl fo_45_1) ?_
    refine WL.pur (Pur.fieldAddr rfl fo_43_3) ?_
    refine' WL.pur (Pur.load1 rfl ty_40 ?h5_0) ?k5
    case h5_0 => first | (apply Rd.own1; exact zmE; rfl) | (apply RdV.rd; apply RdV.idx (i := 35); assumption; rfl) | (apply RdV.rd; apply RdV.idx (off := 0) (i := 35); assumption; rfl)
    refine WL.pur (Pur.len rfl isSlice_40) ?_
    refine' WL.pur (Pur.bin rfl rfl ?h6_0) ?k6
    case h6_0 => first | exact Bin.ltN | exact Bin.ltI | exact Bin.ltS
    refine WL.nil ?_
    refine WQ.thn ?_
    first | refine WC.cond rfl (fun hc1 => ?_) (fun hc1 => ?_) | refine WC.condB rfl (fun hc1 => ?_) (fun hc1 => ?_)
    · obtain ⟨o, hoq⟩ : ∃ o, e.node.ops[q]? = some o := ⟨_, List.getElem?_eq_getElem (by omega)⟩
      obtain ⟨vs, _, _, ⟨rfl, hook⟩, hord⟩ := hoat q o hoq
      have htl := tripsN_len ho (isKey key kl kh) i
      have htq := Nat.le_trans (tripsAt_len (isKey key kl kh) i (e.node.ops.take q)) (List.length_take_le q e.node.ops)
      refine WC.skip ?_
      refine WQ.thn ?_
      refine WC.seq ?_
      refine WC.block ?_
      refine WC.seq ?_
      refine WC.region ?_
      refine WL.pur (Pur.move rfl) ?_
      refine WL.pur (Pur.nilCheck rfl) ?_
      refine WL.pur (Pur.fieldAddr rfl fo_74_0) ?_
      refine' WL.pur (Pur.load1 rfl ty_22 ?h7_0) ?k7
      case h7_0 => first | (apply Rd.own1; exact zmE; rfl) | (apply RdV.rd; apply RdV.idx (i := 0); assumption; rfl)
      refine WL.pur (Pur.move rfl) ?_
      refine' WL.pur (Pur.indexAddr (eqA (hel (by omega))) rfl sl_22 ?h8_0) ?k8
      case h8_0 => omega
      refine WL.pur (Pur.fieldAddr rfl fo_45_1) ?_
      refine WL.pur (Pur.fieldAddr rfl fo_43_3) ?_
      refine' WL.pur (Pur.load1 rfl ty_40 ?h9_0) ?k9
      case h9_0 => first | (apply Rd.own1; exact zmE; rfl) | (apply RdV.rd; apply RdV.idx (i := 35); assumption; rfl) | (apply RdV.rd; apply RdV.idx (off := 0) (i := 35); assumption; rfl)
      refine WL.pur (Pur.move rfl) ?_
      refine' WL.pur (Pur.indexAddr (eqA (heo (by omega))) rfl sl_40 ?h10_0) ?k10
      case h10_0 => omega
      refine' WL.pur (Pur.loadN rfl ty_51 ?h11_0 ?h11_1) ?k11
      case h11_0 => exact RdV.rd hord
      case h11_1 => first | rfl | assumption
      refine WL.new (New.alloc zc_51) (fun b12 => ?_)
      refine' WL.run0 (Run.storeAll rfl rfl ty_51 ?h12_0 (by first | rfl | assumption) ?h12_1 (by first | rfl | assumption)) ?k12
      case h12_0 => repeat (first | exact Part.one | exact Part.here | apply Part.cons | apply Part.app)
      case h12_1 => first | rfl | assumption
      refine WL.nil ?_
      refine WQ.thn ?_
      refine WC.seq ?_
      refine WC.region ?_
      refine WL.pur (Pur.fieldAddr rfl fo_51_1) ?_
      refine' WL.pur (Pur.load1 rfl ty_9 ?h13_0) ?k13
      case h13_0 => first | (apply Rd.own1; exact zmE; rfl) | (apply RdV.rd; apply RdV.idx (i := 1); assumption; rfl) | (apply RdV.rd; apply RdV.idx (off := 0) (i := 1); assumption; rfl)
      refine WL.pur (Pur.move rfl) ?_
      refine' WL.pur (Pur.bin rfl rfl ?h14_0) ?k14
      case h14_0 => exact Bin.eqS
      refine WL.pur (Pur.move rfl) ?_
      refine' WL.andp (u := 53) (t := 58) rfl ?h15_0 ?h15_1 ?h15_2 rfl ?k15
      case h15_0 =>
        intro hg53 K53
        refine WL.gpur (u := 53) rfl rfl (gT hg53) (Pur.fieldAddr rfl fo_51_0) ?_
        refine' WL.gpur (u := 53) rfl rfl (gT hg53) (Pur.load1 rfl ty_3 ?h16_0) ?k16
        case h16_0 => first | (apply Rd.own1; exact zmE; rfl) | (apply RdV.rd; apply RdV.idx (i := 0); assumption; rfl)
        refine WL.gpur (u := 53) rfl rfl (gT hg53) (Pur.move rfl) ?_
        refine' WL.gpur (u := 53) rfl rfl (gT hg53) (Pur.bin rfl rfl ?h17_0) ?k17
        case h17_0 => first | exact Bin.geN | exact Bin.geI
        exact K53 _ zcR rfl
      case h15_1 =>
        intro hg53 K53
        refine WL.gskip (u := 53) rfl rfl (sT hg53) ?_
        refine WL.gskip (u := 53) rfl rfl (sT hg53) ?_
        refine WL.gskip (u := 53) rfl rfl (sT hg53) ?_
        refine WL.gskip (u := 53) rfl rfl (sT hg53) ?_
        exact K53 _ zcR
      case h15_2 => exact Wanted.plain rfl
      refine WL.pur (Pur.move rfl) ?_
      refine' WL.andp (u := 59) (t := 64) rfl ?h18_0 ?h18_1 ?h18_2 rfl ?k18
      case h18_0 =>
        intro hg59 K59
        refine WL.gpur (u := 59) rfl rfl (gT hg59) (Pur.fieldAddr rfl fo_51_0) ?_
        refine' WL.gpur (u := 59) rfl rfl (gT hg59) (Pur.load1 rfl ty_3 ?h19_0) ?k19
        case h19_0 => first | (apply Rd.own1; exact zmE; rfl) | (apply RdV.rd; apply RdV.idx (i := 0); assumption; rfl)
        refine WL.gpur (u := 59) rfl rfl (gT hg59) (Pur.move rfl) ?_
        refine' WL.gpur (u := 59) rfl rfl (gT hg59) (Pur.bin rfl rfl ?h20_0) ?k20
        case h20_0 => first | exact Bin.leN | exact Bin.leI | exact Bin.leS
        exact K59 _ zcR rfl
      case h18_1 =>
        intro hg59 K59
        refine WL.gskip (u := 59) rfl rfl (sT hg59) ?_
        refine WL.gskip (u := 59) rfl rfl (sT hg59) ?_
        refine WL.gskip (u := 59) rfl rfl (sT hg59) ?_
        refine WL.gskip (u := 59) rfl rfl (sT hg59) ?_
        exact K59 _ zcR
      case h18_2 => exact Wanted.plain rfl
      refine WL.nil ?_
      refine WQ.thn ?_
      first | refine WC.cond rfl (fun hc2 => ?_) (fun hc2 => ?_) | refine WC.condB rfl (fun hc2 => ?_) (fun hc2 => ?_)
      · have hreg : isKey key kl kh o = true := by simp only [isKey, decide_eq_true_eq]; exact ⟨hc2.1.1, hc2.1.2, hc2.2⟩
        refine WC.region ?_
        refine WL.pur (Pur.move rfl) ?_
        refine WL.pur (Pur.move rfl) ?_
        refine WL.pur (Pur.move rfl) ?_
        refine' WL.pur (Pur.bin rfl rfl ?h21_0) ?k21
        case h21_0 => first | (refine Bin.addN (b := 1) ?_; omega) | (refine Bin.addI ?_; omega)
        refine WL.pur (Pur.build (l := [.int .i64 (i : Int), .int .i64 ((q + 1 : Nat) : Int)]) pl_164 zc_164 rfl rfl) ?_
        refine WL.new (New.buildSliceN (xs := [.tmp 69]) (vss := [[.int .i64 (i : Int), .int .i64 ((q + 1 : Nat) : Int)]]) sl_160 zc_164 rfl rfl rfl (by rfl) (by rfl)) (fun b70 => ?_)
        refine' WL.any (Any.push (H1 := [(b70, _), (b12, _)]) (H2 := Hr) sl_160 zc_164 rfl by_164 rfl rfl hso2 ?h22_0 ?h22_1 ?h22_2 ?h22_3 rfl (by simp only [List.length_append]; omega) (by simp only [List.length_append]; omega)) ?k22
        case h22_0 => apply Rd.own_sub; exact zmE; exact Sub.refl _
        case h22_1 => first | rfl | assumption
        case h22_2 => first | rfl | assumption
        case h22_3 => exact (show eSpot _ (i, q + 1, o) _ from rfl)
        rintro v71 σ _ ⟨hl3, hso3, rfl, rfl⟩ _
        refine WL.pur (Pur.assign rfl) ?_
        refine WL.nil ?_
        refine WQ.blk ?_
        refine WQ.thn ?_
        refine WC.region ?_
        refine WL.pur (Pur.move rfl) ?_
        refine' WL.pur (Pur.bin rfl rfl ?h23_0) ?k23
        case h23_0 => first | (refine Bin.addN (b := 1) ?_; omega) | (refine Bin.addI ?_; omega)
        refine WL.pur (Pur.assign rfl) ?_
        refine WL.nil ?_
        refine WQ.back _ ⟨q + 1, _, _, rfl, by omega, by rw [tripsAt_step hoq, if_pos hreg, ← List.append_assoc]; exact hso3, rfl, rfl, rfl⟩ (by omega) zcV zsL
      · have hreg : ¬ isKey key kl kh o = true := by simp only [isKey, decide_eq_true_eq]; exact fun h => hc2 ⟨⟨h.1, h.2.1⟩, h.2.2⟩
        refine WC.skip ?_
        refine WQ.blk ?_
        refine WQ.thn ?_
        refine WC.region ?_
        refine WL.pur (Pur.move rfl) ?_
        refine' WL.pur (Pur.bin rfl rfl ?h24_0) ?k24
        case h24_0 => first | (refine Bin.addN (b := 1) ?_; omega) | (refine Bin.addI ?_; omega)
        refine WL.pur (Pur.assign rfl) ?_
        refine WL.nil ?_
        refine WQ.back _ ⟨q + 1, sv2, hl2, rfl, by omega, by rw [tripsAt_step hoq, if_neg hreg, List.append_nil]; exact hso2, rfl, rfl, rfl⟩ (by omega) zcV zsL
    · refine WC.exit ?_
      refine WQ.thn_exit ?_
      refine WQ.back_exit ?_
      refine WQ.blk_here ?_
      refine WQ.blk ?_
      refine WQ.thn ?_
      refine WC.region ?_
      refine WL.pur (Pur.move rfl) ?_
      refine' WL.pur (Pur.bin rfl rfl ?h25_0) ?k25
      case h25_0 => first | (refine Bin.addN (b := 1) ?_; omega) | (refine Bin.addI ?_; omega)
      refine WL.pur (Pur.assign rfl) ?_
      refine WL.nil ?_
      refine WQ.back _ ⟨i + 1, sv2, hl2, rfl, by omega, by rw [tripsN_succ, hop]; rw [List.take_of_length_le (show e.node.ops.length ≤ q by omega)] at hso2; exact hso2, rfl, rfl, rfl⟩ (by omega) zcV zsL
  · have hil : i = L.length := by omega
    subst hil
    refine WC.exit ?_
    refine WQ.thn_exit ?_
    refine WQ.back_exit ?_
    refine WQ.blk_here ?_
    refine WQ.thn ?_
    refine WC.seq ?_
    refine WC.region ?_
    refine WL.pur (Pur.move rfl) ?_
    refine WL.pur (Pur.assign rfl) ?_
    refine WL.nil ?_
    refine WQ.thn ?_
    refine WC.ret ?_
    refine WQ.ret1 Tryz.results104 rfl hl (List.Sublist.refl _) (View.le_refl _) ?_
    exact ⟨⟨_, hso, rfl⟩, rfl⟩

end Go.Proofs.YtgoooilgmabkmaaGreat
namespace Go.Proofs.YtgoooilgmabkmaaGreat
open Go Go.Sl
set_option linter.unusedVariables false
set_option linter.unusedSimpArgs false
set_option maxRecDepth 100000

theorem rowB_new {N : Nat} {Q : Nat → Prop} [DecidablePred Q] (h : ∀ j, ¬ Q j) : List.replicate N (Value.bool false) = (List.range N).map (fun j => Value.bool (decide (Q j))) := by
  rw [replicate_range]
  exact map_range_congr fun j _ => by simp [h j]
theorem rowB_put1 {N k : Nat} {Q Q' : Nat → Prop} [DecidablePred Q] [DecidablePred Q'] (h : ∀ j, j < N → (Q' j ↔ Q j ∨ j = k)) : (List.range N).map (fun j => if j = k then Value.bool true else Value.bool (decide (Q j))) = (List.range N).map (fun j => Value.bool (decide (Q' j))) :=
  map_range_congr fun j hj => by
    by_cases hk : j = k
    · rw [if_pos hk]; exact boolT ((h j hj).2 (.inr hk))
    · rw [if_neg hk]; exact decB ⟨fun hq => (h j hj).2 (.inl hq), fun hq => ((h j hj).1 hq).resolve_right hk⟩
theorem rowB_put {N k : Nat} {Q Q' : Nat → Prop} {p : Prop} [DecidablePred Q] [DecidablePred Q'] [Decidable p] (h1 : Q' k ↔ p) (h2 : ∀ j, j ≠ k → (Q' j ↔ Q j)) : (List.range N).map (fun j => if j = k then Value.bool (decide p) else Value.bool (decide (Q j))) = (List.range N).map (fun j => Value.bool (decide (Q' j))) :=
  map_range_congr fun j _ => by
    by_cases hk : j = k
    · rw [if_pos hk]; subst hk; exact decB h1.symm
    · rw [if_neg hk]; exact decB (h2 j hk).symm
theorem rowB_congr {N : Nat} {Q Q' : Nat → Prop} [DecidablePred Q] [DecidablePred Q'] (h : ∀ j, j < N → (Q j ↔ Q' j)) : (List.range N).map (fun j => Value.bool (decide (Q j))) = (List.range N).map (fun j => Value.bool (decide (Q' j))) :=
  map_range_congr fun j hj => decB (h j hj)
theorem allH_snoc {L : List EntD} {hs : List Nat} {i h k : Nat} (hh : hs[i]? = some h) (hk : idxOf L h = some k) (ha : allH L (hs.take i)) : allH L (hs.take (i + 1)) := by
  rw [List.take_add_one, hh]
  intro x hx
  rcases List.mem_append.1 hx with hx | hx
  · exact ha x hx
  · simp at hx; subst hx; rw [hk]; simp
theorem inH_same {L : List EntD} (ho : OrdOk L) {hs : List Nat} {i h k : Nat} (hh : hs[i]? = some h) (hk : idxOf L h = some k) (hin : inH L (hs.take i) k) (j : Nat) : inH L (hs.take i) j ↔ inH L (hs.take (i + 1)) j := by
  rw [List.take_add_one, hh, Option.toList_some, inH_snoc hk]
  constructor
  · exact .inl
  · rintro (h1 | rfl | h1)
    · exact h1
    · exact hin
    · exact inH_closed ho _ j k hin h1
theorem inH_next {L : List EntD} (ho : OrdOk L) {hs : List Nat} {i h k : Nat} (hh : hs[i]? = some h) (hk : idxOf L h = some k) (j : Nat) : (inH L (hs.take i) j ∨ j = k ∨ (j < k ∧ seesN L j k = true)) ↔ inH L (hs.take (i + 1)) j := by
  rw [List.take_add_one, hh, Option.toList_some, inH_snoc hk]
  constructor
  · rintro (h1 | h1 | h1)
    · exact .inl h1
    · exact .inr (.inl h1)
    · exact .inr (.inr h1.2)
  · rintro (h1 | h1 | h1)
    · exact .inl h1
    · exact .inr (.inl h1)
    · exact .inr (.inr ⟨(sees_lt ho h1).1, h1⟩)
theorem numV_some {o : Option Nat} (h : ¬ numV o < 0) : ∃ k, o = some k ∧ numV o = (k : Int) := by
  cases o with
  | none => exact absurd (by simp [numV]) h
  | some k => exact ⟨k, rfl, rfl⟩

set_option maxHeartbeats 2000000 in
theorem past_under (σ : View) (pv hv : Value) (L : List EntD) (hs : List Nat) (h : PastV σ pv L) (ho : OrdOk L) (hh : Hashes σ hv hs) :
    Tri Tryz.prog 124 #[pv, hv] σ [] (fun v σ' H' => σ' = σ ∧ ((allH L hs ∧ ∃ b, v = .tuple #[.slice (some ⟨b, 0, none⟩) L.length L.length, .int .i64 0] ∧ H' = [(b, rowO 4 ((List.range L.length).map (fun j => Value.bool (decide (inH L hs j)))))]) ∨ (¬ allH L hs ∧ v = .tuple #[.slice none 0 0, .int .i64 6] ∧ H' = []))) := by
  have h' := h
  have hmost := ho.most
  obtain ⟨b, mb, lv, sv, rfl, hr, hl, hm, hsn⟩ := h
  obtain ⟨la, lc, rfl, hlc, hlb⟩ := hl.shape
  obtain ⟨ha, hc, rfl, hhc, hhb⟩ := hh.shape
  obtain ⟨hb, hoff, heh, hhat⟩ := hh.rds
  refine Tri.of_body [(0, .pointer (some ⟨b, 0, none⟩)), (1, .slice ha hs.length hc)] Tryz.func124 rfl Tryz.ntmps124 (by simp) rfl (fun Hr => ?_)
  rw [List.nil_append]
  refine WC.seq ?_
  refine WC.region ?_
  refine WL.pur (Pur.assign rfl) ?_
  refine WL.pur (Pur.assign rfl) ?_
  refine WL.nil ?_
  refine WQ.thn ?_
  refine WC.seq ?_
  refine WC.region ?_
  refine WL.pur (Pur.move rfl) ?_
  refine WL.pur (Pur.nilCheck rfl) ?_
  refine WL.pur (Pur.fieldAddr rfl fo_173_0) ?_
  refine' WL.pur (Pur.load1 rfl ty_22 ?h1_0) ?k1
  case h1_0 => exact RdV.rd (RdV.idx (off := 0) (i := 0) hr rfl)
  refine WL.pur (Pur.len rfl isSlice_22) ?_
  refine WL.any (Any.make1 sl_181 zc_4 by_4 rfl rfl (by omega) (by omega)) ?_
  rintro _ σ _ ⟨b16, rfl, rfl, rfl⟩ _
  refine WL.pur (Pur.assign rfl) ?_
  refine WL.nil ?_
  refine WQ.thn ?_
  refine WC.seq ?_
  refine WC.seq ?_
  refine WC.region ?_
  refine WL.pur (Pur.move rfl) ?_
  refine WL.pur (Pur.len rfl isSlice_41) ?_
  refine WL.pur (Pur.move rfl) ?_
  refine WL.nil ?_
  refine WQ.thn ?_
  refine WC.block ?_
  rw [rowB_new (N := L.length) (Q := inH L (hs.take 0)) (fun j => by rw [List.take_zero]; exact inH_nil L j)]
  refine WC.loop (fun j m σ' H' => ∃ i : Nat, j = hs.length - i ∧ i ≤ hs.length ∧ allH L (hs.take i) ∧ m = [(0, .pointer (some ⟨b, 0, none⟩)), (6, .slice (some ⟨b16, 0, none⟩) L.length L.length), (17, .slice ha hs.length hc), (18, .int .i64 (hs.length : Int)), (19, .int .i64 (i : Int))] ∧ σ' = σ ∧ H' = (b16, rowO 4 ((List.range L.length).map (fun j => Value.bool (decide (inH L (hs.take i) j))))) :: Hr) ⟨0, rfl, by omega, by rw [List.take_zero]; intro x hx; simp at hx, rfl, rfl, rfl⟩ zcV zsL ?_
  rintro _ _ σ Hr ⟨i, rfl, hi, hal, rfl, rfl, rfl⟩
  refine WC.seq ?_
  refine WC.region ?_
  refine' WL.pur (Pur.bin rfl rfl ?h2_0) ?k2
  case h2_0 => first | exact Bin.ltN | exact Bin.ltI | exact Bin.ltS
  refine WL.nil ?_
  refine WQ.thn ?_
  refine WC.seq ?_
  first | refine WC.cond rfl (fun hc0 => ?_) (fun hc0 => ?_) | refine WC.condB rfl (fun hc0 => ?_) (fun hc0 => ?_)
  · obtain ⟨x, hx⟩ : ∃ x, hs[i]? = some x := ⟨_, List.getElem?_eq_getElem (by omega)⟩
    obtain ⟨_, _, _, ⟨rfl, hxh⟩, hxr⟩ := hhat i x hx
    refine WC.skip ?_
    refine WQ.thn ?_
    refine WC.seq ?_
    refine WC.block ?_
    refine WC.seq ?_
    refine WC.region ?_
    refine' WL.pur (Pur.indexAddr (eqA (heh (by omega))) rfl sl_41 ?h3_0) ?k3
    case h3_0 => omega
    refine' WL.pur (Pur.loadN rfl ty_39 ?h4_0 ?h4_1) ?k4
    case h4_0 => exact RdV.rd hxr
    case h4_1 => first | rfl | assumption
    refine WL.new (New.alloc zc_39) (fun b8 => ?_)
    refine' WL.run0 (Run.storeAll rfl rfl ty_39 ?h5_0 (by first | rfl | assumption) ?h5_1 (by first | rfl | assumption)) ?k5
    case h5_0 => repeat (first | exact Part.one | exact Part.here | apply Part.cons | apply Part.app)
    case h5_1 => first | rfl | assumption
    refine WL.nil ?_
    refine WQ.thn ?_
    refine WC.seq ?_
    refine WC.region ?_
    refine WL.pur (Pur.move rfl) ?_
    refine' WL.pur (Pur.loadN rfl ty_39 ?h6_0 ?h6_1) ?k6
    case h6_0 => first | (apply Rd.own_sub; exact zmE; exact Sub.refl _) | (apply RdV.rd; assumption)
    case h6_1 => first | rfl | assumption
    refine WL.callP rfl Tryz.call36 ((past_Number _ _ L x h' hxh)) ?_
    refine WL.pur (Pur.assign rfl) ?_
    refine WL.nil ?_
    refine WQ.thn ?_
    refine WC.seq ?_
    refine WC.seq ?_
    refine WC.region ?_
    refine WL.pur (Pur.move rfl) ?_
    refine' WL.pur (Pur.bin rfl rfl ?h7_0) ?k7
    case h7_0 => first | exact Bin.ltN (b := 0) | exact Bin.ltI | exact Bin.ltS
    refine WL.nil ?_
    refine WQ.thn ?_
    first | refine WC.cond rfl (fun hc1 => ?_) (fun hc1 => ?_) | refine WC.condB rfl (fun hc1 => ?_) (fun hc1 => ?_)
    · have hno : ¬ allH L hs := fun ha => ha x (List.mem_of_getElem? hx) (numV_none.1 hc1)
      refine WC.seq ?_
      refine WC.region ?_
      refine WL.pur (Pur.assign rfl) ?_
      refine WL.pur (Pur.assign rfl) ?_
      refine WL.nil ?_
      refine WQ.thn ?_
      refine WC.ret ?_
      refine WQ.thn_ret ?_
      refine WQ.blk_ret ?_
      refine WQ.thn_ret ?_
      refine WQ.back_ret ?_
      refine WQ.blk_ret ?_
      refine WQ.thn_ret ?_
      refine WQ.ret2 Tryz.results124 rfl rfl [] zsL (View.le_refl _) ?_
      exact ⟨rfl, .inr ⟨hno, rfl, rfl⟩⟩
    · obtain ⟨k, hk, hnk⟩ := numV_some hc1
      rw [hnk]
      have hkl := idxOf_lt hk
      refine WC.skip ?_
      refine WQ.thn ?_
      refine WC.seq ?_
      refine WC.seq ?_
      refine WC.region ?_
      refine WL.pur (Pur.move rfl) ?_
      refine WL.pur (Pur.move rfl) ?_
      refine' WL.pur (Pur.indexAddr rfl rfl sl_181 ?h8_0) ?k8
      case h8_0 => omega
      refine' WL.pur (Pur.load1 rfl ty_4 ?h9_0) ?k9
      case h9_0 => apply Rd.own1; exact zmE; exact get_range_map1 hkl
      refine WL.nil ?_
      refine WQ.thn ?_
      first | refine WC.cond rfl (fun hc2 => ?_) (fun hc2 => ?_) | refine WC.condB rfl (fun hc2 => ?_) (fun hc2 => ?_)
      · have hin0 : inH L (hs.take i) k := hc2
        have inH_same_ho : ∀ j, j < L.length → (inH L (hs.take i) j ↔ inH L (hs.take (i + 1)) j) := fun j _ => inH_same ho hx hk hin0 j
        refine WC.exit ?_
        refine WQ.thn_exit ?_
        refine WQ.blk_here ?_
        refine WQ.thn ?_
        refine WC.region ?_
        refine' WL.pur (Pur.bin rfl rfl ?h10_0) ?k10
        case h10_0 => first | (refine Bin.addN (b := 1) ?_; omega) | (refine Bin.addI ?_; omega)
        refine WL.pur (Pur.move rfl) ?_
        refine WL.nil ?_
        rw [rowB_congr inH_same_ho]
        refine WQ.back _ ⟨i + 1, rfl, by omega, allH_snoc hx hk hal, rfl, rfl, rfl⟩ (by omega) zcV zsL
      · have inH_next_ho : ∀ j, j < L.length → ((inH L (hs.take i) j ∨ j = k ∨ (j < k ∧ seesN L j k = true)) ↔ inH L (hs.take (i + 1)) j) := fun j _ => inH_next ho hx hk j
        refine WC.skip ?_
        refine WQ.thn ?_
        refine WC.seq ?_
        refine WC.region ?_
        refine WL.pur (Pur.move rfl) ?_
        refine WL.pur (Pur.move rfl) ?_
        refine' WL.pur (Pur.indexAddr rfl rfl sl_181 ?h11_0) ?k11
        case h11_0 => omega
        refine' WL.run0 (Run.storeF rfl rfl ty_4 (by first | rfl | assumption) ?h12_0 ?h12_1 sz_4) ?k12
        case h12_0 => repeat (first | exact Part.one | exact Part.here | apply Part.cons | apply Part.app)
        case h12_1 => first | assumption | omega
        refine WL.nil ?_
        refine WQ.thn ?_
        refine WC.seq ?_
        refine WC.region ?_
        refine WL.pur (Pur.move rfl) ?_
        refine WL.pur (Pur.move rfl) ?_
        refine WL.nil ?_
        refine WQ.thn ?_
        refine WC.block ?_
        rw [rowB_put1 (N := L.length) (k := k) (Q := fun j => inH L (hs.take i) j) (Q' := fun j => inH L (hs.take i) j ∨ j = k ∨ (j < 0 ∧ seesN L j k = true)) (fun j _ => by constructor; rintro (h1 | h1 | h1); exact .inl h1; exact .inr h1; omega; rintro (h1 | h1); exact .inl h1; exact .inr (.inl h1))]
        refine WC.loop (fun j m σ' H' => ∃ c : Nat, j = k - c ∧ c ≤ k ∧ m = [(0, .pointer (some ⟨b, 0, none⟩)), (6, .slice (some ⟨b16, 0, none⟩) L.length L.length), (17, .slice ha hs.length hc), (18, .int .i64 (hs.length : Int)), (19, .int .i64 (i : Int)), (9, .int .i64 (k : Int)), (35, .int .i64 (k : Int)), (36, .int .i64 (c : Int))] ∧ σ' = σ ∧ H' = (b16, rowO 4 ((List.range L.length).map (fun j => Value.bool (decide (inH L (hs.take i) j ∨ j = k ∨ (j < c ∧ seesN L j k = true)))))) :: Hr) ⟨0, rfl, by omega, rfl, rfl, rfl⟩ zcV zsL ?_
        rintro _ _ σ Hr ⟨c, rfl, hc2, rfl, rfl, rfl⟩
        refine WC.seq ?_
        refine WC.region ?_
        refine' WL.pur (Pur.bin rfl rfl ?h13_0) ?k13
        case h13_0 => first | exact Bin.ltN | exact Bin.ltI | exact Bin.ltS
        refine WL.nil ?_
        refine WQ.thn ?_
        refine WC.seq ?_
        first | refine WC.cond rfl (fun hc3 => ?_) (fun hc3 => ?_) | refine WC.condB rfl (fun hc3 => ?_) (fun hc3 => ?_)
        · refine WC.skip ?_
          refine WQ.thn ?_
          refine WC.seq ?_
          refine WC.block ?_
          refine WC.seq ?_
          refine WC.region ?_
          refine WL.pur (Pur.move rfl) ?_
          refine WL.pur (Pur.assign rfl) ?_
          refine WL.nil ?_
          refine WQ.thn ?_
          refine WC.region ?_
          refine WL.pur (Pur.move rfl) ?_
          refine WL.pur (Pur.move rfl) ?_
          refine WL.pur (Pur.move rfl) ?_
          refine WL.pur (Pur.move rfl) ?_
          refine' WL.pur (Pur.indexAddr rfl rfl sl_181 ?h14_0) ?k14
          case h14_0 => omega
          refine' WL.pur (Pur.load1 rfl ty_4 ?h15_0) ?k15
          case h15_0 => apply Rd.own1; exact zmE; exact get_range_map1 (show c < L.length by omega)
          refine WL.pur (Pur.move rfl) ?_
          refine' WL.orp (u := 45) (t := 50) rfl ?h16_0 ?h16_1 ?h16_2 rfl ?k16
          case h16_0 =>
            intro hg45 K45
            refine WL.gpur (u := 45) rfl rfl (gF hg45) (Pur.move rfl) ?_
            refine WL.gpur (u := 45) rfl rfl (gF hg45) (Pur.move rfl) ?_
            refine WL.gpur (u := 45) rfl rfl (gF hg45) (Pur.move rfl) ?_
            refine WL.gcallP (u := 45) rfl rfl (gF hg45) rfl Tryz.call113 ((past_Sees _ _ L c k h' ho hkl (by omega))) ?_
            exact K45 _ zcR rfl
          case h16_1 =>
            intro hg45 K45
            refine WL.gskip (u := 45) rfl rfl (sF hg45) ?_
            refine WL.gskip (u := 45) rfl rfl (sF hg45) ?_
            refine WL.gskip (u := 45) rfl rfl (sF hg45) ?_
            refine WL.gskip (u := 45) rfl rfl (sF hg45) ?_
            exact K45 _ zcR
          case h16_2 => exact Wanted.plain rfl
          refine' WL.pur (Pur.indexAddr rfl rfl sl_181 ?h17_0) ?k17
          case h17_0 => omega
          refine' WL.run0 (Run.storeF rfl rfl ty_4 (by first | rfl | assumption) ?h18_0 ?h18_1 sz_4) ?k18
          case h18_0 => repeat (first | exact Part.one | exact Part.here | apply Part.cons | apply Part.app)
          case h18_1 => first | assumption | omega
          refine WL.nil ?_
          refine WQ.blk ?_
          refine WQ.thn ?_
          refine WC.region ?_
          refine' WL.pur (Pur.bin rfl rfl ?h19_0) ?k19
          case h19_0 => first | (refine Bin.addN (b := 1) ?_; omega) | (refine Bin.addI ?_; omega)
          refine WL.pur (Pur.move rfl) ?_
          refine WL.nil ?_
          rw [rowB_put (N := L.length) (k := c) (Q := fun j => inH L (hs.take i) j ∨ j = k ∨ (j < c ∧ seesN L j k = true)) (Q' := fun j => inH L (hs.take i) j ∨ j = k ∨ (j < (c + 1) ∧ seesN L j k = true)) (by constructor; rintro (h1 | h1 | h1); exact .inl (.inl h1); exact .inl (.inr (.inl h1)); exact .inr h1.2; rintro ((h1 | h1 | h1) | h1); exact .inl h1; exact .inr (.inl h1); exact .inr (.inr ⟨by omega, h1.2⟩); exact .inr (.inr ⟨by omega, h1⟩)) (fun j hj => by constructor; rintro (h1 | h1 | h1); exact .inl h1; exact .inr (.inl h1); exact .inr (.inr ⟨by omega, h1.2⟩); rintro (h1 | h1 | h1); exact .inl h1; exact .inr (.inl h1); exact .inr (.inr ⟨by omega, h1.2⟩))]
          refine WQ.back _ ⟨c + 1, rfl, by omega, rfl, rfl, rfl⟩ (by omega) zcV zsL
        · have hck : c = k := by omega
          subst hck
          refine WC.exit ?_
          refine WQ.thn_exit ?_
          refine WQ.back_exit ?_
          refine WQ.blk_here ?_
          refine WQ.blk ?_
          refine WQ.thn ?_
          refine WC.region ?_
          refine' WL.pur (Pur.bin rfl rfl ?h20_0) ?k20
          case h20_0 => first | (refine Bin.addN (b := 1) ?_; omega) | (refine Bin.addI ?_; omega)
          refine WL.pur (Pur.move rfl) ?_
          refine WL.nil ?_
          rw [rowB_congr inH_next_ho]
          refine WQ.back _ ⟨i + 1, rfl, by omega, allH_snoc hx hk hal, rfl, rfl, rfl⟩ (by omega) zcV zsL
  · have hii : i = hs.length := by omega
    subst hii
    rw [List.take_length] at hal ⊢
    refine WC.exit ?_
    refine WQ.thn_exit ?_
    refine WQ.back_exit ?_
    refine WQ.blk_here ?_
    refine WQ.thn ?_
    refine WC.seq ?_
    refine WC.region ?_
    refine WL.pur (Pur.move rfl) ?_
    refine WL.pur (Pur.assign rfl) ?_
    refine WL.pur (Pur.assign rfl) ?_
    refine WL.nil ?_
    refine WQ.thn ?_
    refine WC.ret ?_
    refine WQ.ret2 Tryz.results124 rfl rfl [(b16, rowO 4 ((List.range L.length).map (fun j => Value.bool (decide (inH L hs j)))))] zsL (View.le_refl _) ?_
    exact ⟨rfl, .inl ⟨hal, b16, rfl, rfl⟩⟩

end Go.Proofs.YtgoooilgmabkmaaGreat
namespace Go.Proofs.YtgoooilgmabkmaaGreat
open Go Go.Sl
set_option linter.unusedVariables false
set_option linter.unusedSimpArgs false
set_option maxRecDepth 100000

set_option maxHeartbeats 2000000 in
theorem r11_closed (σ : View) (pv hv : Value) (L : List EntD) (hs : List Nat) (h : R11V σ pv L) (ho : OrdOk L) (hh : Hashes σ hv hs) :
    Tri Tryz.prog 125 #[pv, hv] σ [] (fun v σ' H' => σ' = σ ∧ ((allH L hs ∧ ∃ b, v = .tuple #[.slice (some ⟨b, 0, none⟩) L.length L.length, .bool true] ∧ H' = [(b, rowO 4 ((List.range L.length).map (fun j => Value.bool (decide (inH L hs j)))))]) ∨ (¬ allH L hs ∧ v = .tuple #[.slice none 0 0, .bool false] ∧ H' = []))) := by
  have h' := h
  have hmost := ho.most
  obtain ⟨b, plv, psv, pqv, rfl, hr, hE, hS, hQ⟩ := h
  obtain ⟨la, lc, rfl, hlc, hlb⟩ := hE.shape
  obtain ⟨ha, hc, rfl, hhc, hhb⟩ := hh.shape
  obtain ⟨hb, hoff, heh, hhat⟩ := hh.rds
  refine Tri.of_body [(0, .pointer (some ⟨b, 0, none⟩)), (1, .slice ha hs.length hc)] Tryz.func125 rfl Tryz.ntmps125 (by simp) rfl (fun Hr => ?_)
  rw [List.nil_append]
  refine WC.seq ?_
  refine WC.region ?_
  refine WL.pur (Pur.assign rfl) ?_
  refine WL.pur (Pur.assign rfl) ?_
  refine WL.nil ?_
  refine WQ.thn ?_
  refine WC.seq ?_
  refine WC.region ?_
  refine WL.pur (Pur.move rfl) ?_
  refine WL.pur (Pur.nilCheck rfl) ?_
  refine WL.pur (Pur.fieldAddr rfl fo_74_0) ?_
  refine' WL.pur (Pur.load1 rfl ty_22 ?h1_0) ?k1
  case h1_0 => exact RdV.rd (RdV.idx (off := 0) (i := 0) hr rfl)
  refine WL.pur (Pur.len rfl isSlice_22) ?_
  refine WL.any (Any.make1 sl_181 zc_4 by_4 rfl rfl (by omega) (by omega)) ?_
  rintro _ σ _ ⟨b15, rfl, rfl, rfl⟩ _
  refine WL.pur (Pur.assign rfl) ?_
  refine WL.nil ?_
  refine WQ.thn ?_
  refine WC.seq ?_
  refine WC.seq ?_
  refine WC.region ?_
  refine WL.pur (Pur.assign rfl) ?_
  refine WL.nil ?_
  refine WQ.thn ?_
  refine WC.block ?_
  rw [rowB_new (N := L.length) (Q := inH L (hs.take 0)) (fun j => by rw [List.take_zero]; exact inH_nil L j)]
  refine WC.loop (fun j m σ' H' => ∃ i : Nat, j = hs.length - i ∧ i ≤ hs.length ∧ allH L (hs.take i) ∧ m = [(0, .pointer (some ⟨b, 0, none⟩)), (1, .slice ha hs.length hc), (6, .slice (some ⟨b15, 0, none⟩) L.length L.length), (7, .int .i64 (i : Int))] ∧ σ' = σ ∧ H' = (b15, rowO 4 ((List.range L.length).map (fun j => Value.bool (decide (inH L (hs.take i) j))))) :: Hr) ⟨0, rfl, by omega, by rw [List.take_zero]; intro x hx; simp at hx, rfl, rfl, rfl⟩ zcV zsL ?_
  rintro _ _ σ Hr ⟨i, rfl, hi, hal, rfl, rfl, rfl⟩
  refine WC.seq ?_
  refine WC.seq ?_
  refine WC.region ?_
  refine WL.pur (Pur.move rfl) ?_
  refine WL.pur (Pur.move rfl) ?_
  refine WL.pur (Pur.len rfl isSlice_41) ?_
  refine' WL.pur (Pur.bin rfl rfl ?h2_0) ?k2
  case h2_0 => first | exact Bin.ltN | exact Bin.ltI | exact Bin.ltS
  refine WL.nil ?_
  refine WQ.thn ?_
  first | refine WC.cond rfl (fun hc0 => ?_) (fun hc0 => ?_) | refine WC.condB rfl (fun hc0 => ?_) (fun hc0 => ?_)
  · obtain ⟨x, hx⟩ : ∃ x, hs[i]? = some x := ⟨_, List.getElem?_eq_getElem (by omega)⟩
    obtain ⟨_, _, _, ⟨rfl, hxh⟩, hxr⟩ := hhat i x hx
    refine WC.skip ?_
    refine WQ.thn ?_
    refine WC.seq ?_
    refine WC.block ?_
    refine WC.seq ?_
    refine WC.region ?_
    refine WL.pur (Pur.move rfl) ?_
    refine WL.pur (Pur.move rfl) ?_
    refine WL.pur (Pur.move rfl) ?_
    refine' WL.pur (Pur.indexAddr (eqA (heh (by omega))) rfl sl_41 ?h3_0) ?k3
    case h3_0 => omega
    refine' WL.pur (Pur.loadN rfl ty_39 ?h4_0 ?h4_1) ?k4
    case h4_0 => exact RdV.rd hxr
    case h4_1 => first | rfl | assumption
    refine WL.callP rfl Tryz.call37 ((r11_Number _ _ L x h' ho hxh)) ?_
    refine WL.pur (Pur.assign rfl) ?_
    refine WL.nil ?_
    refine WQ.thn ?_
    refine WC.seq ?_
    refine WC.seq ?_
    refine WC.region ?_
    refine WL.pur (Pur.move rfl) ?_
    refine' WL.pur (Pur.bin rfl rfl ?h5_0) ?k5
    case h5_0 => first | exact Bin.ltN (b := 0) | exact Bin.ltI | exact Bin.ltS
    refine WL.nil ?_
    refine WQ.thn ?_
    first | refine WC.cond rfl (fun hc1 => ?_) (fun hc1 => ?_) | refine WC.condB rfl (fun hc1 => ?_) (fun hc1 => ?_)
    · have hno : ¬ allH L hs := fun ha => ha x (List.mem_of_getElem? hx) (numV_none.1 hc1)
      refine WC.seq ?_
      refine WC.region ?_
      refine WL.pur (Pur.assign rfl) ?_
      refine WL.pur (Pur.assign rfl) ?_
      refine WL.nil ?_
      refine WQ.thn ?_
      refine WC.ret ?_
      refine WQ.thn_ret ?_
      refine WQ.blk_ret ?_
      refine WQ.thn_ret ?_
      refine WQ.back_ret ?_
      refine WQ.blk_ret ?_
      refine WQ.thn_ret ?_
      refine WQ.ret2 Tryz.results125 rfl rfl [] zsL (View.le_refl _) ?_
      exact ⟨rfl, .inr ⟨hno, rfl, rfl⟩⟩
    · obtain ⟨k, hk, hnk⟩ := numV_some hc1
      rw [hnk]
      have hkl := idxOf_lt hk
      refine WC.skip ?_
      refine WQ.thn ?_
      refine WC.seq ?_
      refine WC.seq ?_
      refine WC.region ?_
      refine WL.pur (Pur.move rfl) ?_
      refine WL.pur (Pur.move rfl) ?_
      refine' WL.pur (Pur.indexAddr rfl rfl sl_181 ?h6_0) ?k6
      case h6_0 => omega
      refine' WL.pur (Pur.load1 rfl ty_4 ?h7_0) ?k7
      case h7_0 => apply Rd.own1; exact zmE; exact get_range_map1 hkl
      refine WL.nil ?_
      refine WQ.thn ?_
      first | refine WC.cond rfl (fun hc2 => ?_) (fun hc2 => ?_) | refine WC.condB rfl (fun hc2 => ?_) (fun hc2 => ?_)
      · have hin0 : inH L (hs.take i) k := hc2
        have inH_same_ho : ∀ j, j < L.length → (inH L (hs.take i) j ↔ inH L (hs.take (i + 1)) j) := fun j _ => inH_same ho hx hk hin0 j
        refine WC.exit ?_
        refine WQ.thn_exit ?_
        refine WQ.blk_here ?_
        refine WQ.thn ?_
        refine WC.region ?_
        refine WL.pur (Pur.move rfl) ?_
        refine' WL.pur (Pur.bin rfl rfl ?h8_0) ?k8
        case h8_0 => first | (refine Bin.addN (b := 1) ?_; omega) | (refine Bin.addI ?_; omega)
        refine WL.pur (Pur.assign rfl) ?_
        refine WL.nil ?_
        rw [rowB_congr inH_same_ho]
        refine WQ.back _ ⟨i + 1, rfl, by omega, allH_snoc hx hk hal, rfl, rfl, rfl⟩ (by omega) zcV zsL
      · have inH_next_ho : ∀ j, j < L.length → ((inH L (hs.take i) j ∨ j = k ∨ (j < k ∧ seesN L j k = true)) ↔ inH L (hs.take (i + 1)) j) := fun j _ => inH_next ho hx hk j
        refine WC.skip ?_
        refine WQ.thn ?_
        refine WC.seq ?_
        refine WC.region ?_
        refine WL.pur (Pur.move rfl) ?_
        refine WL.pur (Pur.move rfl) ?_
        refine' WL.pur (Pur.indexAddr rfl rfl sl_181 ?h9_0) ?k9
        case h9_0 => omega
        refine' WL.run0 (Run.storeF rfl rfl ty_4 (by first | rfl | assumption) ?h10_0 ?h10_1 sz_4) ?k10
        case h10_0 => repeat (first | exact Part.one | exact Part.here | apply Part.cons | apply Part.app)
        case h10_1 => first | assumption | omega
        refine WL.nil ?_
        refine WQ.thn ?_
        refine WC.seq ?_
        refine WC.region ?_
        refine WL.pur (Pur.assign rfl) ?_
        refine WL.nil ?_
        refine WQ.thn ?_
        refine WC.block ?_
        rw [rowB_put1 (N := L.length) (k := k) (Q := fun j => inH L (hs.take i) j) (Q' := fun j => inH L (hs.take i) j ∨ j = k ∨ (j < 0 ∧ seesN L j k = true)) (fun j _ => by constructor; rintro (h1 | h1 | h1); exact .inl h1; exact .inr h1; omega; rintro (h1 | h1); exact .inl h1; exact .inr (.inl h1))]
        refine WC.loop (fun j m σ' H' => ∃ c : Nat, j = k - c ∧ c ≤ k ∧ m = [(0, .pointer (some ⟨b, 0, none⟩)), (1, .slice ha hs.length hc), (6, .slice (some ⟨b15, 0, none⟩) L.length L.length), (7, .int .i64 (i : Int)), (8, .int .i64 (k : Int)), (9, .int .i64 (c : Int))] ∧ σ' = σ ∧ H' = (b15, rowO 4 ((List.range L.length).map (fun j => Value.bool (decide (inH L (hs.take i) j ∨ j = k ∨ (j < c ∧ seesN L j k = true)))))) :: Hr) ⟨0, rfl, by omega, rfl, rfl, rfl⟩ zcV zsL ?_
        rintro _ _ σ Hr ⟨c, rfl, hc2, rfl, rfl, rfl⟩
        refine WC.seq ?_
        refine WC.seq ?_
        refine WC.region ?_
        refine WL.pur (Pur.move rfl) ?_
        refine WL.pur (Pur.move rfl) ?_
        refine' WL.pur (Pur.bin rfl rfl ?h11_0) ?k11
        case h11_0 => first | exact Bin.ltN | exact Bin.ltI | exact Bin.ltS
        refine WL.nil ?_
        refine WQ.thn ?_
        first | refine WC.cond rfl (fun hc3 => ?_) (fun hc3 => ?_) | refine WC.condB rfl (fun hc3 => ?_) (fun hc3 => ?_)
        · refine WC.skip ?_
          refine WQ.thn ?_
          refine WC.seq ?_
          refine WC.block ?_
          refine WC.region ?_
          refine WL.pur (Pur.move rfl) ?_
          refine WL.pur (Pur.move rfl) ?_
          refine WL.pur (Pur.move rfl) ?_
          refine WL.pur (Pur.move rfl) ?_
          refine' WL.pur (Pur.indexAddr rfl rfl sl_181 ?h12_0) ?k12
          case h12_0 => omega
          refine' WL.pur (Pur.load1 rfl ty_4 ?h13_0) ?k13
          case h13_0 => apply Rd.own1; exact zmE; exact get_range_map1 (show c < L.length by omega)
          refine WL.pur (Pur.move rfl) ?_
          refine' WL.orp (u := 48) (t := 53) rfl ?h14_0 ?h14_1 ?h14_2 rfl ?k14
          case h14_0 =>
            intro hg48 K48
            refine WL.gpur (u := 48) rfl rfl (gF hg48) (Pur.move rfl) ?_
            refine WL.gpur (u := 48) rfl rfl (gF hg48) (Pur.move rfl) ?_
            refine WL.gpur (u := 48) rfl rfl (gF hg48) (Pur.move rfl) ?_
            refine WL.gcallP (u := 48) rfl rfl (gF hg48) rfl Tryz.call115 ((r11_Sees _ _ L c k h' ho hkl (by omega))) ?_
            exact K48 _ zcR rfl
          case h14_1 =>
            intro hg48 K48
            refine WL.gskip (u := 48) rfl rfl (sF hg48) ?_
            refine WL.gskip (u := 48) rfl rfl (sF hg48) ?_
            refine WL.gskip (u := 48) rfl rfl (sF hg48) ?_
            refine WL.gskip (u := 48) rfl rfl (sF hg48) ?_
            exact K48 _ zcR
          case h14_2 => exact Wanted.plain rfl
          refine' WL.pur (Pur.indexAddr rfl rfl sl_181 ?h15_0) ?k15
          case h15_0 => omega
          refine' WL.run0 (Run.storeF rfl rfl ty_4 (by first | rfl | assumption) ?h16_0 ?h16_1 sz_4) ?k16
          case h16_0 => repeat (first | exact Part.one | exact Part.here | apply Part.cons | apply Part.app)
          case h16_1 => first | assumption | omega
          refine WL.nil ?_
          refine WQ.blk ?_
          refine WQ.thn ?_
          refine WC.region ?_
          refine WL.pur (Pur.move rfl) ?_
          refine' WL.pur (Pur.bin rfl rfl ?h17_0) ?k17
          case h17_0 => first | (refine Bin.addN (b := 1) ?_; omega) | (refine Bin.addI ?_; omega)
          refine WL.pur (Pur.assign rfl) ?_
          refine WL.nil ?_
          rw [rowB_put (N := L.length) (k := c) (Q := fun j => inH L (hs.take i) j ∨ j = k ∨ (j < c ∧ seesN L j k = true)) (Q' := fun j => inH L (hs.take i) j ∨ j = k ∨ (j < (c + 1) ∧ seesN L j k = true)) (by constructor; rintro (h1 | h1 | h1); exact .inl (.inl h1); exact .inl (.inr (.inl h1)); exact .inr h1.2; rintro ((h1 | h1 | h1) | h1); exact .inl h1; exact .inr (.inl h1); exact .inr (.inr ⟨by omega, h1.2⟩); exact .inr (.inr ⟨by omega, h1⟩)) (fun j hj => by constructor; rintro (h1 | h1 | h1); exact .inl h1; exact .inr (.inl h1); exact .inr (.inr ⟨by omega, h1.2⟩); rintro (h1 | h1 | h1); exact .inl h1; exact .inr (.inl h1); exact .inr (.inr ⟨by omega, h1.2⟩))]
          refine WQ.back _ ⟨c + 1, rfl, by omega, rfl, rfl, rfl⟩ (by omega) zcV zsL
        · have hck : c = k := by omega
          subst hck
          refine WC.exit ?_
          refine WQ.thn_exit ?_
          refine WQ.back_exit ?_
          refine WQ.blk_here ?_
          refine WQ.blk ?_
          refine WQ.thn ?_
          refine WC.region ?_
          refine WL.pur (Pur.move rfl) ?_
          refine' WL.pur (Pur.bin rfl rfl ?h18_0) ?k18
          case h18_0 => first | (refine Bin.addN (b := 1) ?_; omega) | (refine Bin.addI ?_; omega)
          refine WL.pur (Pur.assign rfl) ?_
          refine WL.nil ?_
          rw [rowB_congr inH_next_ho]
          refine WQ.back _ ⟨i + 1, rfl, by omega, allH_snoc hx hk hal, rfl, rfl, rfl⟩ (by omega) zcV zsL
  · have hii : i = hs.length := by omega
    subst hii
    rw [List.take_length] at hal ⊢
    refine WC.exit ?_
    refine WQ.thn_exit ?_
    refine WQ.back_exit ?_
    refine WQ.blk_here ?_
    refine WQ.thn ?_
    refine WC.seq ?_
    refine WC.region ?_
    refine WL.pur (Pur.move rfl) ?_
    refine WL.pur (Pur.assign rfl) ?_
    refine WL.pur (Pur.assign rfl) ?_
    refine WL.nil ?_
    refine WQ.thn ?_
    refine WC.ret ?_
    refine WQ.ret2 Tryz.results125 rfl rfl [(b15, rowO 4 ((List.range L.length).map (fun j => Value.bool (decide (inH L hs j)))))] zsL (View.le_refl _) ?_
    exact ⟨rfl, .inl ⟨hal, b15, rfl, rfl⟩⟩

theorem past_under2 (σ : View) (pv hv : Value) (L : List EntD) (hs : List Nat) (h : PastV σ pv L) (ho : OrdOk L) (hh : Hashes σ hv hs) :
    Tri Tryz.prog 124 #[pv, hv] σ [] (fun v σ' H' => σ' = σ ∧ ∃ sv ev, v = .tuple #[sv, .int .i64 ev] ∧ ((ev = 0 ∧ allH L hs ∧ ∃ b, sv = .slice (some ⟨b, 0, none⟩) L.length L.length ∧ H' = [(b, rowO 4 ((List.range L.length).map (fun j => Value.bool (decide (inH L hs j)))))]) ∨ (ev = 6 ∧ ¬ allH L hs ∧ H' = []))) := by
  refine (past_under σ pv hv L hs h ho hh).mono ?_
  rintro v σ' H' ⟨rfl, ⟨ha, b, rfl, rfl⟩ | ⟨ha, rfl, rfl⟩⟩
  · exact ⟨rfl, _, _, rfl, .inl ⟨rfl, ha, b, rfl, rfl⟩⟩
  · exact ⟨rfl, _, _, rfl, .inr ⟨rfl, ha, rfl⟩⟩
theorem r11_closed2 (σ : View) (pv hv : Value) (L : List EntD) (hs : List Nat) (h : R11V σ pv L) (ho : OrdOk L) (hh : Hashes σ hv hs) :
    Tri Tryz.prog 125 #[pv, hv] σ [] (fun v σ' H' => σ' = σ ∧ ∃ sv, v = .tuple #[sv, .bool (decide (allH L hs))] ∧ ((allH L hs ∧ ∃ b, sv = .slice (some ⟨b, 0, none⟩) L.length L.length ∧ H' = [(b, rowO 4 ((List.range L.length).map (fun j => Value.bool (decide (inH L hs j)))))]) ∨ (¬ allH L hs ∧ H' = []))) := by
  refine (r11_closed σ pv hv L hs h ho hh).mono ?_
  rintro v σ' H' ⟨rfl, ⟨ha, b, rfl, rfl⟩ | ⟨ha, rfl, rfl⟩⟩
  · exact ⟨rfl, _, by rw [show decide (allH L hs) = true from decide_eq_true ha], .inl ⟨ha, b, rfl, rfl⟩⟩
  · exact ⟨rfl, _, by rw [show decide (allH L hs) = false from decide_eq_false ha], .inr ⟨ha, rfl⟩⟩

set_option maxHeartbeats 2000000 in
theorem past_At (σ : View) (pv hv : Value) (L : List EntD) (hs : List Nat) (h : PastV σ pv L) (h1 : OneOrd L) (hh : Hashes σ hv hs) :
    Tri Tryz.prog 52 #[pv, hv] σ [] (fun v σ' H' => (∃ pa ev, v = .tuple #[.pointer pa, .int .i64 ev] ∧ ((ev = 0 ∧ allH L hs ∧ PastV σ' (.pointer pa) (atL L (inH L hs) L.length)) ∨ (ev = 6 ∧ ¬ allH L hs ∧ pa = none))) ∧ H' = []) := by
  have h' := h
  have ho := h1.ok
  have hmost := ho.most
  obtain ⟨b, mb, lv, sv, rfl, hr, hl, hm, hsn⟩ := h
  obtain ⟨la, lc, rfl, hlc, hlb⟩ := hl.shape
  obtain ⟨lb, loff, hel⟩ := addr_of hl
  refine Tri.of_body [(0, .pointer (some ⟨b, 0, none⟩)), (1, hv)] Tryz.func52 rfl Tryz.ntmps52 (by simp) rfl (fun Hr => ?_)
  rw [List.nil_append]
  refine WC.seq ?_
  refine WC.region ?_
  refine WL.pur (Pur.assign rfl) ?_
  refine WL.pur (Pur.assign rfl) ?_
  refine WL.nil ?_
  refine WQ.thn ?_
  refine WC.seq ?_
  refine WC.region ?_
  refine WL.pur (Pur.move rfl) ?_
  refine WL.pur (Pur.move rfl) ?_
  refine WL.call (H0 := []) (Hr := Hr) rfl Tryz.call124 (List.Perm.refl _) (past_under2 _ _ _ L hs h' ho hh) ?_
  rintro _ σ HU ⟨rfl, svu, ev, rfl, hor⟩ _
  refine WL.pur (Pur.move rfl) ?_
  first | refine WL.pur (Pur.ex2_0 rfl) ?_ | refine WL.pur (Pur.ex3_0 rfl) ?_ | refine WL.pur (Pur.extractNext rfl) ?_ | refine WL.pur (Pur.extract rfl rfl) ?_
  first | refine WL.pur (Pur.ex2_1 rfl) ?_ | refine WL.pur (Pur.ex3_1 rfl) ?_ | refine WL.pur (Pur.extract rfl rfl) ?_
  refine WL.pur (Pur.assign rfl) ?_
  refine WL.pur (Pur.assign rfl) ?_
  refine WL.nil ?_
  refine WQ.thn ?_
  refine WC.seq ?_
  refine WC.seq ?_
  refine WC.region ?_
  refine WL.pur (Pur.move rfl) ?_
  refine' WL.pur (Pur.bin rfl rfl ?h1_0) ?k1
  case h1_0 => first | exact Bin.neN (b := 0) | exact Bin.neI
  refine WL.nil ?_
  refine WQ.thn ?_
  first | refine WC.cond rfl (fun hc0 => ?_) (fun hc0 => ?_) | refine WC.condB rfl (fun hc0 => ?_) (fun hc0 => ?_)
  · obtain ⟨rfl, hno, rfl⟩ := hor.resolve_left (fun h => hc0 h.1)
    refine WC.seq ?_
    refine WC.region ?_
    refine WL.pur (Pur.move rfl) ?_
    refine WL.pur (Pur.assign rfl) ?_
    refine WL.pur (Pur.assign rfl) ?_
    refine WL.nil ?_
    refine WQ.thn ?_
    refine WC.ret ?_
    refine WQ.thn_ret ?_
    refine WQ.ret2 Tryz.results52 rfl rfl [] (by first | exact List.Sublist.refl _ | exact List.Sublist.cons _ (List.Sublist.refl _)) (View.le_refl _) ?_
    exact ⟨⟨_, _, rfl, .inr ⟨rfl, hno, rfl⟩⟩, rfl⟩
  · obtain ⟨rfl, hal, bu, rfl, rfl⟩ := hor.resolve_right (fun h => hc0 (by rw [h.1]; decide))
    rw [List.singleton_append]
    refine WC.skip ?_
    refine WQ.thn ?_
    refine WC.seq ?_
    refine WC.region ?_
    refine WL.pur (Pur.assign rfl) ?_
    refine WL.nil ?_
    refine WQ.thn ?_
    refine WC.seq ?_
    refine WC.seq ?_
    refine WC.region ?_
    refine WL.pur (Pur.move rfl) ?_
    refine WL.pur (Pur.nilCheck rfl) ?_
    refine WL.pur (Pur.fieldAddr rfl fo_173_0) ?_
    refine' WL.pur (Pur.load1 rfl ty_22 ?h2_0) ?k2
    case h2_0 => exact RdV.rd (RdV.idx (off := 0) (i := 0) hr rfl)
    refine WL.pur (Pur.len rfl isSlice_22) ?_
    refine WL.pur (Pur.move rfl) ?_
    refine WL.nil ?_
    refine WQ.thn ?_
    refine WC.block ?_
    refine WC.loop (fun j m σ' H' => ∃ (i : Nat) (lv2 : Value) (hl2 : HList), j = L.length - i ∧ i ≤ L.length ∧ SlO σ' eEnt 45 36 lv2 (atL L (inH L hs) i) hl2 ∧ m = [(6, .slice (some ⟨bu, 0, none⟩) L.length L.length), (8, lv2), (23, .slice la L.length lc), (24, .int .i64 (L.length : Int)), (25, .int .i64 (i : Int))] ∧ σ' = σ ∧ H' = (bu, rowO 4 ((List.range L.length).map (fun j => Value.bool (decide (inH L hs j))))) :: (hl2 ++ Hr)) ⟨0, _, [], rfl, by omega, by rw [atL_zero]; exact SlO.nil, rfl, rfl, rfl⟩ zcV zsL ?_
    rintro _ _ σ Hr ⟨i, lv2, hl2, rfl, hi, hso, rfl, rfl, rfl⟩
    refine WC.seq ?_
    refine WC.region ?_
    refine' WL.pur (Pur.bin rfl rfl ?h3_0) ?k3
    case h3_0 => first | exact Bin.ltN | exact Bin.ltI | exact Bin.ltS
    refine WL.nil ?_
    refine WQ.thn ?_
    refine WC.seq ?_
    first | refine WC.cond rfl (fun hc1 => ?_) (fun hc1 => ?_) | refine WC.condB rfl (fun hc1 => ?_) (fun hc1 => ?_)
    · obtain ⟨e, he⟩ : ∃ e, L[i]? = some e := ⟨_, List.getElem?_eq_getElem (by omega)⟩
      obtain ⟨qv, ov, hrd, heH, hNR⟩ := ent_rd hl hel he
      obtain ⟨pa2, pc2, rfl, _, _⟩ := hNR.1.shape
      obtain ⟨oa2, oc2, rfl, _, _⟩ := hNR.2.1.shape
      have hal2 := atL_len (L := L) (q := inH L hs) i
      refine WC.skip ?_
      refine WQ.thn ?_
      refine WC.seq ?_
      refine WC.block ?_
      refine WC.seq ?_
      refine WC.region ?_
      refine WL.pur (Pur.move rfl) ?_
      refine' WL.pur (Pur.indexAddr (eqA (hel (by omega))) rfl sl_22 ?h4_0) ?k4
      case h4_0 => omega
      refine' WL.pur (Pur.loadN rfl ty_45 ?h5_0 ?h5_1) ?k5
      case h5_0 => exact RdV.rd hrd
      case h5_1 => first | rfl | assumption
      refine WL.new (New.alloc zc_45) (fun b10 => ?_)
      refine WL.pur (Pur.assign rfl) ?_
      refine' WL.run0 (Run.storeAll rfl rfl ty_45 ?h6_0 (by first | rfl | assumption) ?h6_1 (by first | rfl | assumption)) ?k6
      case h6_0 => repeat (first | exact Part.one | exact Part.here | apply Part.cons | apply Part.app)
      case h6_1 => first | rfl | assumption
      refine WL.nil ?_
      refine WQ.thn ?_
      refine WC.seq ?_
      refine WC.region ?_
      refine WL.pur (Pur.move rfl) ?_
      refine WL.pur (Pur.move rfl) ?_
      refine' WL.pur (Pur.indexAddr rfl rfl sl_181 ?h7_0) ?k7
      case h7_0 => omega
      refine' WL.pur (Pur.load1 rfl ty_4 ?h8_0) ?k8
      case h8_0 => apply Rd.own1; exact zmE; exact get_range_map1 (show i < L.length by omega)
      refine WL.nil ?_
      refine WQ.thn ?_
      first | refine WC.cond rfl (fun hc2 => ?_) (fun hc2 => ?_) | refine WC.condB rfl (fun hc2 => ?_) (fun hc2 => ?_)
      · refine WC.region ?_
        refine WL.pur (Pur.move rfl) ?_
        refine' WL.pur (Pur.loadN rfl ty_45 ?h9_0 ?h9_1) ?k9
        case h9_0 => first | (apply Rd.own_sub; exact zmE; exact Sub.refl _) | (apply RdV.rd; assumption)
        case h9_1 => first | rfl | assumption
        refine WL.new (New.buildSliceN (xs := [.tmp 35]) (vss := [entCells e.id e.node.au e.node.cl (.slice pa2 e.node.ps.length pc2) (.slice oa2 e.node.ops.length oc2)]) sl_22 zc_45 rfl rfl rfl (by rfl) (by rfl)) (fun b36 => ?_)
        refine' WL.any (Any.push (H1 := [(b36, _), (b10, _), (bu, rowO 4 ((List.range L.length).map (fun j => Value.bool (decide (inH L hs j)))))]) (H2 := Hr) sl_22 zc_45 rfl by_45 rfl rfl hso ?h10_0 ?h10_1 ?h10_2 ?h10_3 rfl (by omega) (by omega)) ?k10
        case h10_0 => apply Rd.own_sub; exact zmE; exact Sub.refl _
        case h10_1 => first | rfl | assumption
        case h10_2 => first | rfl | assumption
        case h10_3 => exact (show eEnt _ e _ from ⟨_, _, rfl, heH, hNR⟩)
        rintro v37 σ _ ⟨hl3, hso3, rfl, rfl⟩ _
        refine WL.pur (Pur.assign rfl) ?_
        refine WL.nil ?_
        refine WQ.blk ?_
        refine WQ.thn ?_
        refine WC.region ?_
        refine' WL.pur (Pur.bin rfl rfl ?h11_0) ?k11
        case h11_0 => first | (refine Bin.addN (b := 1) ?_; omega) | (refine Bin.addI ?_; omega)
        refine WL.pur (Pur.move rfl) ?_
        refine WL.nil ?_
        refine WQ.back _ ⟨i + 1, _, _, rfl, by omega, by rw [atL_succ he, if_pos hc2]; exact hso3, rfl, rfl, rfl⟩ (by omega) zcV zsL
      · refine WC.skip ?_
        refine WQ.blk ?_
        refine WQ.thn ?_
        refine WC.region ?_
        refine' WL.pur (Pur.bin rfl rfl ?h12_0) ?k12
        case h12_0 => first | (refine Bin.addN (b := 1) ?_; omega) | (refine Bin.addI ?_; omega)
        refine WL.pur (Pur.move rfl) ?_
        refine WL.nil ?_
        refine WQ.back _ ⟨i + 1, _, _, rfl, by omega, by rw [atL_succ he, if_neg hc2, List.append_nil]; exact hso, rfl, rfl, rfl⟩ (by omega) zcV zsL
    · have hii : i = L.length := by omega
      subst hii
      refine WC.exit ?_
      refine WQ.thn_exit ?_
      refine WQ.back_exit ?_
      refine WQ.blk_here ?_
      refine WQ.thn ?_
      refine WC.seq ?_
      refine WC.region ?_
      refine WL.pur (Pur.move rfl) ?_
      refine WL.call (H0 := hl2) (Hr := (bu, rowO 4 ((List.range L.length).map (fun j => Value.bool (decide (inH L hs j))))) :: Hr) rfl Tryz.call92 List.perm_middle (hso.hand (byt := 96) eEnt_mono (by have := atL_len (L := L) (q := inH L hs) L.length; omega) (fun σ' hl' hs' => past_made σ' _ _ hs' (oneOrd_at h1 (inH_closed ho hs)).ok)) ?_
      rintro v40 σ2 _ ⟨hpv, rfl⟩ hle2
      rw [List.nil_append]
      have hpv2 := hpv
      obtain ⟨pb2, _, _, _, rfl, _⟩ := hpv2
      refine WL.pur (Pur.assign rfl) ?_
      refine WL.pur (Pur.assign rfl) ?_
      refine WL.nil ?_
      refine WQ.thn ?_
      refine WC.ret ?_
      refine WQ.ret2 Tryz.results52 rfl rfl [] (by first | exact List.Sublist.refl _ | exact List.Sublist.cons _ (List.Sublist.refl _)) hle2 ?_
      exact ⟨⟨_, _, rfl, .inl ⟨rfl, hal, hpv⟩⟩, rfl⟩

set_option maxHeartbeats 2000000 in
theorem r11_At (σ : View) (pv hv : Value) (L : List EntD) (hs : List Nat) (h : R11V σ pv L) (h1 : OneOrd L) (hh : Hashes σ hv hs) :
    Tri Tryz.prog 53 #[pv, hv] σ [] (fun v σ' H' => (∃ pa ev, v = .tuple #[.pointer pa, .int .i64 ev] ∧ ((ev = 0 ∧ allH L hs ∧ R11V σ' (.pointer pa) (atL L (inH L hs) L.length)) ∨ (ev = 6 ∧ ¬ allH L hs ∧ pa = none))) ∧ H' = []) := by
  have h' := h
  have ho := h1.ok
  have hmost := ho.most
  have hone := oneOrd_at h1 (inH_closed ho hs)
  obtain ⟨b, plv, psv, pqv, rfl, hr, hE, hS, hQ⟩ := h
  obtain ⟨la, lc, rfl, hlc, hlb⟩ := hE.shape
  obtain ⟨lb, loff, hel⟩ := addr_of hE
  refine Tri.of_body [(0, .pointer (some ⟨b, 0, none⟩)), (1, hv)] Tryz.func53 rfl Tryz.ntmps53 (by simp) rfl (fun Hr => ?_)
  rw [List.nil_append]
  refine WC.seq ?_
  refine WC.region ?_
  refine WL.pur (Pur.assign rfl) ?_
  refine WL.pur (Pur.assign rfl) ?_
  refine WL.nil ?_
  refine WQ.thn ?_
  refine WC.seq ?_
  refine WC.region ?_
  refine WL.pur (Pur.move rfl) ?_
  refine WL.pur (Pur.move rfl) ?_
  refine WL.call (H0 := []) (Hr := Hr) rfl Tryz.call125 (List.Perm.refl _) (r11_closed2 _ _ _ L hs h' ho hh) ?_
  rintro _ σ HU ⟨rfl, svu, rfl, hor⟩ _
  refine WL.pur (Pur.move rfl) ?_
  first | refine WL.pur (Pur.ex2_0 rfl) ?_ | refine WL.pur (Pur.ex3_0 rfl) ?_ | refine WL.pur (Pur.extractNext rfl) ?_ | refine WL.pur (Pur.extract rfl rfl) ?_
  first | refine WL.pur (Pur.ex2_1 rfl) ?_ | refine WL.pur (Pur.ex3_1 rfl) ?_ | refine WL.pur (Pur.extract rfl rfl) ?_
  refine WL.pur (Pur.assign rfl) ?_
  refine WL.pur (Pur.assign rfl) ?_
  refine WL.nil ?_
  refine WQ.thn ?_
  refine WC.seq ?_
  refine WC.seq ?_
  refine WC.region ?_
  refine WL.pur (Pur.move rfl) ?_
  first | refine WL.pur (Pur.not rfl) ?_ | refine WL.pur (Pur.notB rfl) ?_
  refine WL.nil ?_
  refine WQ.thn ?_
  first | refine WC.cond rfl (fun hc0 => ?_) (fun hc0 => ?_) | refine WC.condB rfl (fun hc0 => ?_) (fun hc0 => ?_)
  · have hno : ¬ allH L hs := hc0
    obtain ⟨_, rfl⟩ := hor.resolve_left (fun h => hc0 h.1)
    refine WC.seq ?_
    refine WC.region ?_
    refine WL.pur (Pur.assign rfl) ?_
    refine WL.pur (Pur.assign rfl) ?_
    refine WL.nil ?_
    refine WQ.thn ?_
    refine WC.ret ?_
    refine WQ.thn_ret ?_
    refine WQ.ret2 Tryz.results53 rfl rfl [] (by first | exact List.Sublist.refl _ | exact List.Sublist.cons _ (List.Sublist.refl _)) (View.le_refl _) ?_
    exact ⟨⟨_, _, rfl, .inr ⟨rfl, hno, rfl⟩⟩, rfl⟩
  · have hal : allH L hs := Decidable.not_not.1 hc0
    obtain ⟨_, bu, rfl, rfl⟩ := hor.resolve_right (fun h => h.1 hal)
    rw [List.singleton_append]
    refine WC.skip ?_
    refine WQ.thn ?_
    refine WC.seq ?_
    refine WC.region ?_
    refine WL.new (New.buildSlice0 sl_22) (fun b21 => ?_)
    refine WL.pur (Pur.assign rfl) ?_
    refine WL.nil ?_
    refine WQ.thn ?_
    refine WC.seq ?_
    refine WC.seq ?_
    refine WC.region ?_
    refine WL.pur (Pur.assign rfl) ?_
    refine WL.nil ?_
    refine WQ.thn ?_
    refine WC.block ?_
    refine WC.perm (H0 := (bu, rowO 4 ((List.range L.length).map (fun j => Value.bool (decide (inH L hs j))))) :: (b21, rowO 45 []) :: Hr) ?_ (List.Perm.swap _ _ _)
    refine WC.loop (fun j m σ' H' => ∃ (i : Nat) (lv2 : Value) (hl2 : HList), j = L.length - i ∧ i ≤ L.length ∧ SlO σ' eEnt 45 36 lv2 (atL L (inH L hs) i) hl2 ∧ m = [(0, .pointer (some ⟨b, 0, none⟩)), (6, .slice (some ⟨bu, 0, none⟩) L.length L.length), (8, lv2), (9, .int .i64 (i : Int))] ∧ σ' = σ ∧ H' = (bu, rowO 4 ((List.range L.length).map (fun j => Value.bool (decide (inH L hs j))))) :: (hl2 ++ Hr)) ⟨0, _, [(b21, rowO 45 [])], rfl, by omega, by rw [atL_zero]; exact SlO.row (b := b21) (ElR.nil (σ := σ) (E := eEnt) (sz := 36)), rfl, rfl, rfl⟩ zcV zsL ?_
    rintro _ _ σ Hr ⟨i, lv2, hl2, rfl, hi, hso, rfl, rfl, rfl⟩
    refine WC.seq ?_
    refine WC.seq ?_
    refine WC.region ?_
    refine WL.pur (Pur.move rfl) ?_
    refine WL.pur (Pur.move rfl) ?_
    refine WL.pur (Pur.nilCheck rfl) ?_
    refine WL.pur (Pur.fieldAddr rfl fo_74_0) ?_
    refine' WL.pur (Pur.load1 rfl ty_22 ?h1_0) ?k1
    case h1_0 => exact RdV.rd (RdV.idx (off := 0) (i := 0) hr rfl)
    refine WL.pur (Pur.len rfl isSlice_22) ?_
    refine' WL.pur (Pur.bin rfl rfl ?h2_0) ?k2
    case h2_0 => first | exact Bin.ltN | exact Bin.ltI | exact Bin.ltS
    refine WL.nil ?_
    refine WQ.thn ?_
    first | refine WC.cond rfl (fun hc1 => ?_) (fun hc1 => ?_) | refine WC.condB rfl (fun hc1 => ?_) (fun hc1 => ?_)
    · obtain ⟨e, he⟩ : ∃ e, L[i]? = some e := ⟨_, List.getElem?_eq_getElem (by omega)⟩
      obtain ⟨qv, ov, hrd, heH, hNR⟩ := ent_rd hE hel he
      obtain ⟨pa2, pc2, rfl, _, _⟩ := hNR.1.shape
      obtain ⟨oa2, oc2, rfl, _, _⟩ := hNR.2.1.shape
      have hal2 := atL_len (L := L) (q := inH L hs) i
      refine WC.skip ?_
      refine WQ.thn ?_
      refine WC.seq ?_
      refine WC.block ?_
      refine WC.seq ?_
      refine WC.region ?_
      refine WL.pur (Pur.move rfl) ?_
      refine WL.pur (Pur.move rfl) ?_
      refine' WL.pur (Pur.indexAddr rfl rfl sl_181 ?h3_0) ?k3
      case h3_0 => omega
      refine' WL.pur (Pur.load1 rfl ty_4 ?h4_0) ?k4
      case h4_0 => apply Rd.own1; exact zmE; exact get_range_map1 (show i < L.length by omega)
      refine WL.nil ?_
      refine WQ.thn ?_
      first | refine WC.cond rfl (fun hc2 => ?_) (fun hc2 => ?_) | refine WC.condB rfl (fun hc2 => ?_) (fun hc2 => ?_)
      · refine WC.region ?_
        refine WL.pur (Pur.move rfl) ?_
        refine WL.pur (Pur.move rfl) ?_
        refine WL.pur (Pur.nilCheck rfl) ?_
        refine WL.pur (Pur.fieldAddr rfl fo_74_0) ?_
        refine' WL.pur (Pur.load1 rfl ty_22 ?h5_0) ?k5
        case h5_0 => exact RdV.rd (RdV.idx (off := 0) (i := 0) hr rfl)
        refine WL.pur (Pur.move rfl) ?_
        refine' WL.pur (Pur.indexAddr (eqA (hel (by omega))) rfl sl_22 ?h6_0) ?k6
        case h6_0 => omega
        refine' WL.pur (Pur.loadN rfl ty_45 ?h7_0 ?h7_1) ?k7
        case h7_0 => exact RdV.rd hrd
        case h7_1 => first | rfl | assumption
        refine WL.new (New.buildSliceN (xs := [.tmp 42]) (vss := [entCells e.id e.node.au e.node.cl (.slice pa2 e.node.ps.length pc2) (.slice oa2 e.node.ops.length oc2)]) sl_22 zc_45 rfl rfl rfl (by rfl) (by rfl)) (fun b43 => ?_)
        refine' WL.any (Any.push (H1 := [(b43, _), (bu, rowO 4 ((List.range L.length).map (fun j => Value.bool (decide (inH L hs j)))))]) (H2 := Hr) sl_22 zc_45 rfl by_45 rfl rfl hso ?h8_0 ?h8_1 ?h8_2 ?h8_3 rfl (by omega) (by omega)) ?k8
        case h8_0 => apply Rd.own_sub; exact zmE; exact Sub.refl _
        case h8_1 => first | rfl | assumption
        case h8_2 => first | rfl | assumption
        case h8_3 => exact (show eEnt _ e _ from ⟨_, _, rfl, heH, hNR⟩)
        rintro v44 σ _ ⟨hl3, hso3, rfl, rfl⟩ _
        refine WL.pur (Pur.assign rfl) ?_
        refine WL.nil ?_
        refine WQ.blk ?_
        refine WQ.thn ?_
        refine WC.region ?_
        refine WL.pur (Pur.move rfl) ?_
        refine' WL.pur (Pur.bin rfl rfl ?h9_0) ?k9
        case h9_0 => first | (refine Bin.addN (b := 1) ?_; omega) | (refine Bin.addI ?_; omega)
        refine WL.pur (Pur.assign rfl) ?_
        refine WL.nil ?_
        refine WQ.back _ ⟨i + 1, _, _, rfl, by omega, by rw [atL_succ he, if_pos hc2]; exact hso3, rfl, rfl, rfl⟩ (by omega) zcV zsL
      · refine WC.skip ?_
        refine WQ.blk ?_
        refine WQ.thn ?_
        refine WC.region ?_
        refine WL.pur (Pur.move rfl) ?_
        refine' WL.pur (Pur.bin rfl rfl ?h10_0) ?k10
        case h10_0 => first | (refine Bin.addN (b := 1) ?_; omega) | (refine Bin.addI ?_; omega)
        refine WL.pur (Pur.assign rfl) ?_
        refine WL.nil ?_
        refine WQ.back _ ⟨i + 1, _, _, rfl, by omega, by rw [atL_succ he, if_neg hc2, List.append_nil]; exact hso, rfl, rfl, rfl⟩ (by omega) zcV zsL
    · have hii : i = L.length := by omega
      subst hii
      refine WC.exit ?_
      refine WQ.thn_exit ?_
      refine WQ.back_exit ?_
      refine WQ.blk_here ?_
      refine WQ.thn ?_
      refine WC.seq ?_
      refine WC.region ?_
      refine WL.pur (Pur.move rfl) ?_
      refine WL.call (H0 := hl2) (Hr := (bu, rowO 4 ((List.range L.length).map (fun j => Value.bool (decide (inH L hs j))))) :: Hr) rfl Tryz.call24 List.perm_middle (hso.hand (byt := 96) eEnt_mono (by have := atL_len (L := L) (q := inH L hs) L.length; omega) (fun σ' hl' hs' => r11_Of2 σ' _ _ hs')) ?_
      rintro _ σ2 _ ⟨⟨pa, n3, rfl, hqq, hqn⟩, rfl⟩ hle2
      rw [List.nil_append]
      have hqv := hqq hone.right
      rw [hone.fix] at hqv
      refine WL.pur (Pur.move rfl) ?_
      first | refine WL.pur (Pur.ex2_0 rfl) ?_ | refine WL.pur (Pur.ex3_0 rfl) ?_ | refine WL.pur (Pur.extractNext rfl) ?_ | refine WL.pur (Pur.extract rfl rfl) ?_
      first | refine WL.pur (Pur.ex2_1 rfl) ?_ | refine WL.pur (Pur.ex3_1 rfl) ?_ | refine WL.pur (Pur.extract rfl rfl) ?_
      first | refine WL.pur (Pur.ex3_2 rfl) ?_ | refine WL.pur (Pur.extract rfl rfl) ?_
      refine WL.pur (Pur.assign rfl) ?_
      refine WL.pur (Pur.assign rfl) ?_
      refine WL.pur (Pur.assign rfl) ?_
      refine WL.nil ?_
      refine WQ.thn ?_
      refine WC.seq ?_
      refine WC.region ?_
      refine WL.pur (Pur.move rfl) ?_
      refine WL.pur (Pur.assign rfl) ?_
      refine WL.pur (Pur.assign rfl) ?_
      refine WL.nil ?_
      refine WQ.thn ?_
      refine WC.ret ?_
      refine WQ.ret2 Tryz.results53 rfl rfl [] (by first | exact List.Sublist.refl _ | exact List.Sublist.cons _ (List.Sublist.refl _)) hle2 ?_
      exact ⟨⟨_, _, rfl, .inl ⟨rfl, hal, hqv⟩⟩, rfl⟩

end Go.Proofs.YtgoooilgmabkmaaGreat
namespace Go.Proofs.YtgoooilgmabkmaaGreat
open Go Go.Sl
set_option linter.unusedVariables false
set_option linter.unusedSimpArgs false
set_option maxRecDepth 100000

def TryzSortF_ren : Go.Shelf.Ren := ⟨fun | 6 => 199 | 15 => 156 | 14 => 230 | 28 => 192 | 29 => 193 | 20 => 240 | 21 => 241 | 22 => 242 | 23 => 243 | 24 => 244 | 25 => 245 | 26 => 246 | 27 => 247 | 46 => 253 | 47 => 221 | 48 => 222 | 49 => 254 | 50 => 255 | 57 => 273 | n => n, fun | 22 => 41 | 24 => 39 | 25 => 233 | 3 => 3 | 39 => 238 | 0 => 0 | 53 => 282 | 55 => 60 | 4 => 4 | 46 => 275 | 45 => 274 | 50 => 176 | 5 => 5 | 9 => 9 | 66 => 300 | 70 => 304 | 76 => 322 | 77 => 323 | n => n, fun | n => n⟩
theorem TryzSortF : Go.Proofs.SlLaysF0.n6 Tryz.prog TryzSortF_ren :=
  { mixed := by kernel_rfl,
    f6 := ⟨"slices.SortFunc[[]pleach/api.Hash,pleach/api.Hash]", by decide, Tryz.func199.trans (congrArg some (by kernel_rfl))⟩,
    f14 := ⟨"slices.pdqsortCmpFunc[pleach/api.Hash]", by decide, Tryz.func230.trans (congrArg some (by kernel_rfl))⟩,
    f15 := Tryz.func156.trans (congrArg some (by kernel_rfl)),
    f20 := ⟨"slices.insertionSortCmpFunc[pleach/api.Hash]", by decide, Tryz.func240.trans (congrArg some (by kernel_rfl))⟩,
    f21 := ⟨"slices.heapSortCmpFunc[pleach/api.Hash]", by decide, Tryz.func241.trans (congrArg some (by kernel_rfl))⟩,
    f22 := ⟨"slices.breakPatternsCmpFunc[pleach/api.Hash]", by decide, Tryz.func242.trans (congrArg some (by kernel_rfl))⟩,
    f23 := ⟨"slices.choosePivotCmpFunc[pleach/api.Hash]", by decide, Tryz.func243.trans (congrArg some (by kernel_rfl))⟩,
    f24 := ⟨"slices.reverseRangeCmpFunc[pleach/api.Hash]", by decide, Tryz.func244.trans (congrArg some (by kernel_rfl))⟩,
    f25 := ⟨"slices.partialInsertionSortCmpFunc[pleach/api.Hash]", by decide, Tryz.func245.trans (congrArg some (by kernel_rfl))⟩,
    f26 := ⟨"slices.partitionEqualCmpFunc[pleach/api.Hash]", by decide, Tryz.func246.trans (congrArg some (by kernel_rfl))⟩,
    f27 := ⟨"slices.partitionCmpFunc[pleach/api.Hash]", by decide, Tryz.func247.trans (congrArg some (by kernel_rfl))⟩,
    f28 := Tryz.func192.trans (congrArg some (by kernel_rfl)),
    f29 := Tryz.func193.trans (congrArg some (by kernel_rfl)),
    f46 := ⟨"slices.siftDownCmpFunc[pleach/api.Hash]", by decide, Tryz.func253.trans (congrArg some (by kernel_rfl))⟩,
    f47 := Tryz.func221.trans (congrArg some (by kernel_rfl)),
    f48 := Tryz.func222.trans (congrArg some (by kernel_rfl)),
    f49 := ⟨"slices.medianAdjacentCmpFunc[pleach/api.Hash]", by decide, Tryz.func254.trans (congrArg some (by kernel_rfl))⟩,
    f50 := ⟨"slices.medianCmpFunc[pleach/api.Hash]", by decide, Tryz.func255.trans (congrArg some (by kernel_rfl))⟩,
    f57 := ⟨"slices.order2CmpFunc[pleach/api.Hash]", by decide, Tryz.func273.trans (congrArg some (by kernel_rfl))⟩,
    t0 := Tryz.underlying0,
    a0 := Tryz.isAgg0,
    z0 := Tryz.sizeOf0,
    v0 := Tryz.zeroValue0,
    t3 := Tryz.underlying3,
    a3 := Tryz.isAgg3,
    z3 := Tryz.sizeOf3,
    v3 := Tryz.zeroValue3,
    t4 := Tryz.underlying4,
    a4 := Tryz.isAgg4,
    z4 := Tryz.sizeOf4,
    v4 := Tryz.zeroValue4,
    t5 := Tryz.underlying5,
    a5 := Tryz.isAgg5,
    z5 := Tryz.sizeOf5,
    v5 := Tryz.zeroValue5,
    t9 := Tryz.underlying9,
    a9 := Tryz.isAgg9,
    z9 := Tryz.sizeOf9,
    v9 := Tryz.zeroValue9,
    t22 := Tryz.underlying41,
    a22 := Tryz.isAgg41,
    z22 := Tryz.sizeOf41,
    v22 := Tryz.zeroValue41,
    t25 := Tryz.underlying233,
    a25 := Tryz.isAgg233,
    z25 := Tryz.sizeOf233,
    v25 := Tryz.zeroValue233,
    t39 := Tryz.underlying238,
    a39 := Tryz.isAgg238,
    z39 := Tryz.sizeOf238,
    v39 := Tryz.zeroValue238,
    t45 := Tryz.underlying274,
    a45 := Tryz.isAgg274,
    z45 := Tryz.sizeOf274,
    v45 := Tryz.zeroValue274,
    t46 := Tryz.underlying275,
    a46 := Tryz.isAgg275,
    z46 := Tryz.sizeOf275,
    v46 := Tryz.zeroValue275,
    t50 := Tryz.underlying176,
    a50 := Tryz.isAgg176,
    z50 := Tryz.sizeOf176,
    v50 := Tryz.zeroValue176,
    t53 := Tryz.underlying282,
    a53 := Tryz.isAgg282,
    z53 := Tryz.sizeOf282,
    v53 := Tryz.zeroValue282,
    t55 := Tryz.underlying60,
    a55 := Tryz.isAgg60,
    z55 := Tryz.sizeOf60,
    v55 := Tryz.zeroValue60,
    t66 := Tryz.underlying300,
    a66 := Tryz.isAgg300,
    z66 := Tryz.sizeOf300,
    v66 := Tryz.zeroValue300,
    t70 := Tryz.underlying304,
    a70 := Tryz.isAgg304,
    z70 := Tryz.sizeOf304,
    v70 := Tryz.zeroValue304,
    t76 := Tryz.underlying322,
    a76 := Tryz.isAgg322,
    z76 := Tryz.sizeOf322,
    v76 := Tryz.zeroValue322,
    t77 := Tryz.underlying323,
    a77 := Tryz.isAgg323,
    z77 := Tryz.sizeOf323,
    v77 := Tryz.zeroValue323 }
/-- a hash's number -/
abbrev Hn := { n : Nat // IsH n }
instance : Inhabited Hn := ⟨⟨0, isH0⟩⟩
def hnEnc (x : Hn) : List Value := hashCells x.1
def hnCmp (x y : Hn) : Int := cmpH x.1 y.1
def toHn : (l : List Nat) → (∀ x ∈ l, IsH x) → List Hn
  | [], _ => []
  | x :: l, h => ⟨x, h x (by simp)⟩ :: toHn l (fun y hy => h y (by simp [hy]))
theorem toHn_val : ∀ (l : List Nat) (h : ∀ x ∈ l, IsH x), (toHn l h).map (·.1) = l
  | [], _ => rfl
  | x :: l, h => by simp only [toHn, List.map_cons, toHn_val l]
theorem hn_lt (x y : Hn) : Go.Proofs.ltOf hnCmp x y = decide (x.1 < y.1) := by
  unfold Go.Proofs.ltOf hnCmp
  exact decide_eq_decide.2 cmpH_lt
theorem hn_swo : Go.Sort.SWO (Go.Proofs.ltOf hnCmp) where
  irrefl x := by rw [hn_lt]; simp
  trans x y z h1 h2 := by rw [hn_lt] at *; simp at *; omega
  ntrans x y z h1 h2 := by rw [hn_lt] at *; simp at *; omega
/-- hashes in order -/
def sortN (l : List Nat) : List Nat := l.mergeSort fun x y => decide (x ≤ y)
theorem sortN_perm (l : List Nat) : (sortN l).Perm l := List.mergeSort_perm _ _
theorem sortN_len (l : List Nat) : (sortN l).length = l.length := (sortN_perm l).length_eq
theorem sortN_sorted (l : List Nat) : (sortN l).Pairwise (· ≤ ·) := by
  refine List.Pairwise.imp (fun h => of_decide_eq_true h) (List.pairwise_mergeSort (le := fun x y : Nat => decide (x ≤ y)) ?_ ?_ _)
  · intro a b c h1 h2
    have h1 := of_decide_eq_true h1
    have h2 := of_decide_eq_true h2
    exact decide_eq_true (Nat.le_trans h1 h2)
  · intro a b
    simp only [Bool.or_eq_true, decide_eq_true_eq]
    omega
theorem sortN_hn (l : List Nat) (h : ∀ x ∈ l, IsH x) : ((toHn l h).mergeSort fun x y => !(Go.Proofs.ltOf hnCmp) y x).map (·.1) = sortN l := by
  rw [List.map_mergeSort (s := fun x y : Nat => decide (x ≤ y))]
  · rw [toHn_val]; rfl
  · intro a _ b _
    rw [hn_lt, Bool.eq_iff_iff]
    simp
/-- a function that only reads, at the whole of a world: it draws, it lays blocks, it turns nothing -/
theorem grown_of {W W' : World} (he : Env W W') (hb : ∀ (k : Nat) (o : Obj), W.heap[k]? = some o → W'.heap[k]? = some o) : ∃ q os', W' = Go.Sort.grow (W.drewN q) os' := by
  refine ⟨W'.drawn - W.drawn, W'.heap.extract W.heap.size W'.heap.size, ?_⟩
  have hsz : W.heap.size ≤ W'.heap.size := by
    refine Classical.byContradiction fun hc => ?_
    have h1 : W.heap[W'.heap.size]? = some (W.heap[W'.heap.size]'(by omega)) := Array.getElem?_eq_getElem (by omega)
    have h2 := hb _ _ h1
    have h3 := (Array.getElem?_eq_some_iff.1 h2).1
    omega
  have hh : W'.heap = W.heap ++ W'.heap.extract W.heap.size W'.heap.size := by
    apply Array.ext_getElem?
    intro i
    rw [Array.getElem?_append]
    split
    · rename_i hi
      rw [Array.getElem?_eq_getElem hi]
      exact hb _ _ (Array.getElem?_eq_getElem hi)
    · rename_i hi
      rw [Array.getElem?_extract]
      split
      · rw [show W.heap.size + (i - W.heap.size) = i by omega]
      · exact Array.getElem?_eq_none (by omega)
  obtain ⟨h1, h2, h3, h4⟩ := he
  show W' = { heap := W.heap ++ W'.heap.extract W.heap.size W'.heap.size, tape := W.tape, drawn := W.drawn + (W'.drawn - W.drawn), os := W.os, output := W.output }
  rw [← hh, ← h1, ← h2, ← h3, show W.drawn + (W'.drawn - W.drawn) = W'.drawn by omega]
theorem cmp_lays (blk off size : Nat) (w : World) : Go.Proofs.CmpLays Tryz.prog 200 #[] hnEnc 32 hnCmp blk off size w := by
  intro m os dk _ x y
  generalize Go.Proofs.sortWorldK hnEnc 32 w blk off m dk os = W
  refine (sha_Compare (full W) x.1 y.1 x.2 y.2 [] W (by simpa using full_st W)).mono ?_
  rintro e W' ⟨v, σ', H', rfl, ⟨rfl, rfl, rfl⟩, hle, hs⟩
  exact ⟨rfl, grown_of hs.env (fun k o h => hs.view k o h)⟩
theorem flatK_list (d : List Hn) : (Go.Sort.flatK hnEnc 32 d.toArray).toList = (d.map hnEnc).flatten := by
  have hlen : ∀ v ∈ d.map hnEnc, v.length = 32 := by
    intro v hv
    obtain ⟨x, _, rfl⟩ := List.mem_map.1 hv
    rfl
  have hfl : ((d.map hnEnc).flatten).length = d.length * 32 := by
    have : ∀ (l : List Hn), ((l.map hnEnc).flatten).length = l.length * 32 := by
      intro l
      induction l with
      | nil => rfl
      | cons x l ih =>
        rw [List.map_cons, List.flatten_cons, List.length_append, ih, List.length_cons]
        have : (hnEnc x).length = 32 := rfl
        omega
    exact this d
  apply List.ext_getElem?
  intro t
  by_cases ht : t < d.length * 32
  · have hi : t / 32 < d.length := by omega
    have hx : (d.map hnEnc)[t / 32]? = some (hnEnc d[t / 32]) := by rw [List.getElem?_map, List.getElem?_eq_getElem hi]; rfl
    have hs := flatten_sub (d.map hnEnc) (t / 32) _ hlen hx
    have hm : t % 32 < (hnEnc d[t / 32]).length := by have : (hnEnc d[t / 32]).length = 32 := rfl; omega
    have h1 := hs (t % 32) _ (List.getElem?_eq_getElem hm)
    rw [show t / 32 * 32 + t % 32 = t by omega] at h1
    rw [h1]
    have hsz : t < (Go.Sort.flatK hnEnc 32 d.toArray).size := by simpa using ht
    rw [List.getElem?_eq_getElem (by simpa using ht)]
    congr 1
    have h2 := Go.Sort.get_flatK hnEnc 32 d.toArray t (by simpa using ht)
    rw [getElem!_pos _ t hsz] at h2
    rw [Array.getElem_toList, h2]
    have h3 : d.toArray[t / 32]! = d[t / 32] := by rw [getElem!_pos _ (t / 32) (by simpa using hi)]; simp
    rw [h3, getElem!_pos _ (t % 32) hm]
  · rw [List.getElem?_eq_none (by simpa using ht), List.getElem?_eq_none (by omega)]
theorem St.growF {σ : View} {H : HList} {w w' : World} {os : Array Obj} (h : St σ H w) (hw : w'.heap = w.heap ++ os) (he : Env w w') : St σ H w' := by
  have key : ∀ b o, w.heap[b]? = some o → w'.heap[b]? = some o := fun b o hb => by
    rw [hw, Array.getElem?_append_left (Array.getElem?_eq_some_iff.1 hb).1]; exact hb
  exact ⟨h.envOf he, fun b o ho => key _ _ (h.view b o ho), fun p hp => key _ _ (h.own p hp), h.apart, h.nodup⟩
/-- slices.SortFunc of hashes -/
theorem slices_SortFunc (σ : View) (sv : Value) (acc : List Nat) (hl : HList) (hso : SlO σ eHash 39 32 sv acc hl) (hb : acc.length ≤ 4194304) :
    Tri Tryz.prog 199 #[sv, .func (.func 200) #[] #[]] σ hl (fun v σ' H' => SlO σ eHash 39 32 sv (sortN acc) H' ∧ σ' = σ) := by
  intro Hr w hs
  by_cases h0 : acc.length = 0
  · obtain ⟨p, cap, rfl, _⟩ := hso.shape
    have ha := List.eq_nil_of_length_eq_zero h0
    subst ha
    refine (Go.Proofs.AnyF.slices_SortFunc_none TryzSortF p cap _ w).mono ?_
    rintro e w' ⟨rfl, rfl⟩
    exact ⟨_, σ, hl, rfl, ⟨by rw [show sortN [] = [] from List.eq_nil_of_length_eq_zero (by rw [sortN_len]; rfl)]; exact hso, rfl⟩, View.le_refl _, hs⟩
  · obtain ⟨b, cap, junk, vss, rfl, rfl, hcap, hjl, hel⟩ := hso.at (by omega)
    have hok : ∀ x ∈ acc, IsH x := fun x hx => by
      obtain ⟨i, hi⟩ := List.getElem?_of_mem hx
      obtain ⟨vs, _, _, _, _, h⟩ := hel.2 i x hi
      exact h
    have hvs : vss = (toHn acc hok).map hnEnc := by
      have h1 : vss = acc.map hashCells := by
        apply List.ext_getElem?
        intro i
        rw [List.getElem?_map]
        by_cases hi : i < acc.length
        · have hx : acc[i]? = some acc[i] := List.getElem?_eq_getElem hi
          obtain ⟨vs, h1, _, _, rfl, _⟩ := hel.2 i _ hx
          rw [h1, hx]; rfl
        · rw [List.getElem?_eq_none (by rw [hel.1]; omega), List.getElem?_eq_none (by omega)]; rfl
      rw [h1]
      conv => lhs; rw [← toHn_val acc hok]
      rw [List.map_map]; rfl
    have hdl : (toHn acc hok).length = acc.length := by have := congrArg List.length (toHn_val acc hok); simpa using this
    have hown := hs.own (b, rowO 39 (vss.flatten ++ junk)) (by simp)
    have hfl : vss.flatten.length = acc.length * 32 := hel.flat
    have hF : (Go.Sort.flatK hnEnc 32 (toHn acc hok).toArray).toList = vss.flatten := by rw [flatK_list, hvs]
    have hH : Go.Sort.HoldsK hnEnc 32 w b 0 (toHn acc hok).toArray := by
      intro j hj
      have hj' : j < acc.length * 32 := by simpa [hdl] using hj
      refine ⟨?_, ?_⟩
      · have hx : vss.flatten[j]? = some (vss.flatten[j]'(by omega)) := List.getElem?_eq_getElem (by omega)
        have h1 : w.cell? ⟨b, 0 + j, none⟩ = some (vss.flatten[j]'(by omega)) := by
          have := (Rd.own1 (σ := σ) (off := 0 + j) (v := vss.flatten[j]'(by omega)) (T := 39) (l := vss.flatten ++ junk) (H := [(b, rowO 39 (vss.flatten ++ junk))] ++ Hr) (b := b) (by simp) (by rw [Nat.zero_add, List.getElem?_append_left (by omega)]; exact hx)).cell hs 0 _ rfl
          simpa using this
        rw [h1]
        congr 1
        show _ = (Go.Sort.flatK hnEnc 32 (toHn acc hok).toArray)[j]!
        rw [getElem!_pos _ j hj]
        have := hF
        simp only [← this, Array.getElem_toList]
      · simp [World.frozen?, hown, rowO]
    have hlt : b < w.heap.size := (Array.getElem?_eq_some_iff.1 hown).1
    have hsz : (toHn acc hok).toArray.size = acc.length := by simpa using hdl
    have := Go.Proofs.AnyQ.slices_SortFunc_total TryzSortF 32 Tryz.isAgg39 Tryz.sizeOf39 hnEnc (fun _ => rfl) (fun x v hv => by
      have h1 : (hashCells x.1).all (·.oneCell') = true := rfl
      exact List.all_eq_true.1 h1 v hv) hnCmp hn_swo 200 #[] b 0 cap (toHn acc hok).toArray w Tryz.call200 (cmp_lays b 0 _ w) hH hlt (by rw [hsz]; omega) (fun x y h1 h2 => by
      rw [hn_lt] at h1 h2
      have h1 := of_decide_eq_false h1
      have h2 := of_decide_eq_false h2
      exact Subtype.ext (by omega))
    rw [hsz] at this
    refine this.mono ?_
    rintro e w' ⟨rfl, n, os, rfl⟩
    obtain ⟨srt, hsrt⟩ : ∃ srt, srt = (toHn acc hok).mergeSort fun x y => !(Go.Proofs.ltOf hnCmp) y x := ⟨_, rfl⟩
    have hsN : srt.map (·.1) = sortN acc := by rw [hsrt]; exact sortN_hn acc hok
    rw [show ((toHn acc hok).toArray.toList.mergeSort fun x y => !(Go.Proofs.ltOf hnCmp) y x) = srt from hsrt.symm]
    have hsl : srt.length = acc.length := by rw [hsrt, List.length_mergeSort]; exact hdl
    have hcells : srt.map hnEnc = (sortN acc).map hashCells := by rw [← hsN, List.map_map]; rfl
    have hfl2 : ((sortN acc).map hashCells).flatten.length = acc.length * 32 := by
      rw [← hcells]
      have h1 := congrArg List.length (flatK_list srt)
      rw [← h1]; simp [hsl]
    have hnew : SlO σ eHash 39 32 (.slice (some ⟨b, 0, none⟩) acc.length cap) (sortN acc) [(b, rowO 39 (((sortN acc).map hashCells).flatten ++ junk))] := by
      refine ⟨(sortN acc).map hashCells, ⟨by rw [hfl2, sortN_len], .inr ⟨b, cap, junk, by rw [sortN_len], rfl, by rw [sortN_len]; exact hjl, by rw [sortN_len]; exact hcap⟩⟩, by simp, fun i x hx => ⟨hashCells x, by simp [hx], rfl, rfl, rfl, hok x ((sortN_perm acc).mem_iff.1 (List.mem_of_getElem? hx))⟩⟩
    refine ⟨_, σ, _, rfl, ⟨hnew, rfl⟩, View.le_refl _, ?_⟩
    have hF2 : (Go.Sort.flatK hnEnc 32 srt.toArray).toList = ((sortN acc).map hashCells).flatten := by rw [flatK_list, hcells]
    have h1 : St σ ([(b, rowO 39 (((sortN acc).map hashCells).flatten ++ junk))] ++ Hr) (Go.Sort.putRowK hnEnc 32 (Go.Sort.ahead w n) b 0 srt.toArray) := by
      have hwo : (Go.Sort.ahead w n).heap = w.heap := rfl
      refine hs.part (b := b) (o := rowO 39 (vss.flatten ++ junk)) (o' := rowO 39 (((sortN acc).map hashCells).flatten ++ junk)) Part.one ?_ ?_ ⟨rfl, rfl, rfl, Nat.le_add_right _ _⟩
      · show ((Go.Sort.ahead w n).heap.modify b _)[b]? = _
        rw [hwo, Array.getElem?_modify, if_pos rfl, hown]
        simp only [Option.map_some, rowO, Go.Sort.onCells]
        congr 2
        apply Array.ext'
        simp only [Go.Sort.putCells, Array.toList_mapIdx]
        apply List.ext_getElem?
        intro k
        simp only [List.getElem?_mapIdx, Nat.zero_le, true_and, Nat.zero_add, Nat.sub_zero]
        have hfs : (Go.Sort.flatK hnEnc 32 srt.toArray).size = acc.length * 32 := by simp [hsl]
        by_cases hk : k < acc.length * 32
        · rw [List.getElem?_append_left (by omega), List.getElem?_append_left (by omega), List.getElem?_eq_getElem (by omega)]
          simp only [Option.map_some]
          rw [if_pos (by omega)]
          have h2 : (Go.Sort.flatK hnEnc 32 srt.toArray)[k]! = (Go.Sort.flatK hnEnc 32 srt.toArray)[k]'(by omega) := getElem!_pos _ k (by omega)
          show some (id (Go.Sort.flatK hnEnc 32 srt.toArray)[k]!) = _
          rw [h2, ← hF2, List.getElem?_eq_getElem (by simp; omega)]
          simp
        · rw [List.getElem?_append_right (by omega), List.getElem?_append_right (by omega), hfl, hfl2]
          cases junk[k - acc.length * 32]? with
          | none => rfl
          | some y => simp only [Option.map_some]; rw [if_neg (by omega)]
      · intro c hc
        show ((Go.Sort.ahead w n).heap.modify b _)[c]? = _
        rw [hwo, Array.getElem?_modify, if_neg (Ne.symm hc)]
    exact St.growF h1 rfl ⟨rfl, rfl, rfl, Nat.le_refl _⟩
end Go.Proofs.YtgoooilgmabkmaaGreat
namespace Go.Proofs.YtgoooilgmabkmaaGreat
open Go Go.Sl
set_option linter.unusedVariables false
set_option linter.unusedSimpArgs false
set_option maxRecDepth 100000

theorem rises_lt {l : List Nat} (h : Rises l) {i j a b : Nat} (hij : i < j) (hi : l[i]? = some a) (hj : l[j]? = some b) : a < b := by
  obtain ⟨h1, e1⟩ := List.getElem?_eq_some_iff.1 hi
  obtain ⟨h2, e2⟩ := List.getElem?_eq_some_iff.1 hj
  have := (List.pairwise_iff_getElem.1 h) i j h1 h2 hij
  rw [e1, e2] at this; exact this
theorem nodup_rises : ∀ {l : List Nat}, l.Nodup → l.Pairwise (· ≤ ·) → Rises l
  | [], _, _ => List.Pairwise.nil
  | a :: l, hn, h => by
    rw [List.nodup_cons] at hn
    rw [List.pairwise_cons] at h
    refine List.pairwise_cons.2 ⟨fun b hb => ?_, nodup_rises hn.2 h.2⟩
    have h1 := h.1 b hb
    have : a ≠ b := fun e => hn.1 (e ▸ hb)
    omega
theorem sortN_rises {l : List Nat} (h : l.Nodup) : Rises (sortN l) := nodup_rises ((sortN_perm l).nodup_iff.2 h) (sortN_sorted l)
theorem rises_ext : ∀ (a b : List Nat), Rises a → Rises b → (∀ x, x ∈ a ↔ x ∈ b) → a = b
  | [], [], _, _, _ => rfl
  | [], y :: b, _, _, h => by have := (h y).2 (by simp); simp at this
  | x :: a, [], _, _, h => by have := (h x).1 (by simp); simp at this
  | x :: a, y :: b, ha, hb, h => by
    have a1 := (List.pairwise_cons.1 ha).1
    have b1 := (List.pairwise_cons.1 hb).1
    have e : x = y := by
      have h1 := (h x).1 (by simp)
      have h2 := (h y).2 (by simp)
      rcases List.mem_cons.1 h1 with h1 | h1
      · exact h1
      · rcases List.mem_cons.1 h2 with h2 | h2
        · exact h2.symm
        · have := a1 y h2; have := b1 x h1; omega
    subst e
    rw [rises_ext a b (List.pairwise_cons.1 ha).2 (List.pairwise_cons.1 hb).2 fun z => ?_]
    have h3 := h z
    simp only [List.mem_cons] at h3
    constructor
    · intro hz
      rcases h3.1 (.inr hz) with rfl | h4
      · have := a1 z hz; omega
      · exact h4
    · intro hz
      rcases h3.2 (.inr hz) with rfl | h4
      · have := b1 z hz; omega
      · exact h4
theorem SlE.clip {α : Type} {σ : View} {E : Enc α} {sz byt : Nat} {a : Option Addr} {n cap : Nat} {l : List α} (h : SlE σ E sz byt (.slice a n cap) l) : SlE σ E sz byt (.slice a n n) l := by
  obtain ⟨a', cap', h1, h2, h3, h4⟩ := h
  cases h1
  exact ⟨_, _, rfl, Nat.le_refl _, h3, h4⟩

theorem slices_Clone (σ : View) (sv : Value) (acc : List Nat) (h : Hashes σ sv acc) (hb : acc.length ≤ 4194304) :
    Tri Tryz.prog 198 #[sv] σ [] (fun v σ' H' => (∃ h, SlO σ eHash 39 32 v acc h ∧ H' = h) ∧ σ' = σ) := by
  have h' := h
  obtain ⟨sa, sc, rfl, hsc, hsb⟩ := h.shape
  obtain ⟨sb, soff, hes, _⟩ := h'.rds
  refine Tri.of_body [(0, .slice sa acc.length sc)] Tryz.func198 rfl Tryz.ntmps198 (by simp) rfl (fun Hr => ?_)
  rw [List.nil_append]
  refine WC.seq ?_
  refine WC.region ?_
  refine WL.pur (Pur.assign rfl) ?_
  refine WL.nil ?_
  refine WQ.thn ?_
  refine WC.seq ?_
  refine WC.seq ?_
  refine WC.region ?_
  refine WL.pur (Pur.move rfl) ?_
  refine' WL.pur (Pur.bin rfl rfl ?h1_0) ?k1
  case h1_0 => exact Bin.eqSl isSlice_41
  refine WL.nil ?_
  refine WQ.thn ?_
  first | refine WC.cond rfl (fun hc0 => ?_) (fun hc0 => ?_) | refine WC.condB rfl (fun hc0 => ?_) (fun hc0 => ?_)
  · subst hc0
    have ha : acc.length = 0 := by
      refine Classical.byContradiction fun hc => ?_
      have := hes (by omega)
      cases this
    obtain rfl := List.eq_nil_of_length_eq_zero ha
    refine WC.seq ?_
    refine WC.region ?_
    refine WL.pur (Pur.assign rfl) ?_
    refine WL.nil ?_
    refine WQ.thn ?_
    refine WC.ret ?_
    refine WQ.thn_ret ?_
    refine WQ.ret1 Tryz.results198 rfl [] zsL (View.le_refl _) ?_
    exact ⟨⟨_, SlO.nil, rfl⟩, rfl⟩
  · refine WC.skip ?_
    refine WQ.thn ?_
    refine WC.seq ?_
    refine WC.region ?_
    refine WL.new (New.buildSlice0 sl_41) (fun b5 => ?_)
    refine WL.pur (Pur.move rfl) ?_
    refine WL.any (Any.pushAll (E := eHash) (H1 := []) (H2 := Hr) sl_41 zc_39 rfl by_39 rfl rfl (SlO.row (b := b5) (ElR.nil (σ := σ) (E := eHash) (sz := 32))) h' rfl (by simp only [List.length_nil]; omega) (by simp only [List.length_nil]; omega)) ?_
    rintro v7 σ _ ⟨h7, hs7, rfl, rfl⟩ _
    rw [List.nil_append] at hs7
    refine WL.pur (Pur.assign rfl) ?_
    refine WL.nil ?_
    refine WQ.thn ?_
    refine WC.ret ?_
    refine WQ.ret1 Tryz.results198 rfl h7 zsL (View.le_refl _) ?_
    exact ⟨⟨_, hs7, rfl⟩, rfl⟩

theorem slices_Compact (σ : View) (sv : Value) (S : List Nat) (h : Hashes σ sv S) (hr : Rises S) :
    TriP Tryz.prog 202 #[sv] σ sv := by
  have h' := h
  obtain ⟨sa, sc, rfl, hsc, hsb⟩ := h.shape
  obtain ⟨sb, soff, hes, hsat⟩ := h'.rds
  refine Tri.of_body [(0, .slice sa S.length sc)] Tryz.func202 rfl Tryz.ntmps202 (by simp) rfl (fun Hr => ?_)
  rw [List.nil_append]
  refine WC.seq ?_
  refine WC.region ?_
  refine WL.pur (Pur.assign rfl) ?_
  refine WL.nil ?_
  refine WQ.thn ?_
  refine WC.seq ?_
  refine WC.seq ?_
  refine WC.region ?_
  refine WL.pur (Pur.move rfl) ?_
  refine WL.pur (Pur.len rfl isSlice_41) ?_
  refine' WL.pur (Pur.bin rfl rfl ?h1_0) ?k1
  case h1_0 => first | exact Bin.ltN (b := 2) | exact Bin.ltI | exact Bin.ltS
  refine WL.nil ?_
  refine WQ.thn ?_
  first | refine WC.cond rfl (fun hc0 => ?_) (fun hc0 => ?_) | refine WC.condB rfl (fun hc0 => ?_) (fun hc0 => ?_)
  · refine WC.seq ?_
    refine WC.region ?_
    refine WL.pur (Pur.move rfl) ?_
    refine WL.pur (Pur.assign rfl) ?_
    refine WL.nil ?_
    refine WQ.thn ?_
    refine WC.ret ?_
    refine WQ.thn_ret ?_
    refine WQ.ret1 Tryz.results202 rfl [] zsL (View.le_refl _) ?_
    refine ⟨?_, rfl, rfl⟩
    rfl
  · refine WC.skip ?_
    refine WQ.thn ?_
    refine WC.seq ?_
    refine WC.seq ?_
    refine WC.region ?_
    refine WL.pur (Pur.assign rfl) ?_
    refine WL.nil ?_
    refine WQ.thn ?_
    refine WC.block ?_
    refine WC.loop (fun j m σ' H' => ∃ i : Nat, j = S.length - i ∧ 1 ≤ i ∧ i ≤ S.length ∧ m = [(0, .slice sa S.length sc), (3, .int .i64 (i : Int))] ∧ σ' = σ ∧ H' = Hr) ⟨1, rfl, by omega, by omega, rfl, rfl, rfl⟩ zcV zsL ?_
    rintro _ _ σ Hr ⟨i, rfl, hi1, hi, rfl, rfl, rfl⟩
    refine WC.seq ?_
    refine WC.seq ?_
    refine WC.region ?_
    refine WL.pur (Pur.move rfl) ?_
    refine WL.pur (Pur.move rfl) ?_
    refine WL.pur (Pur.len rfl isSlice_41) ?_
    refine' WL.pur (Pur.bin rfl rfl ?h2_0) ?k2
    case h2_0 => first | exact Bin.ltN | exact Bin.ltI | exact Bin.ltS
    refine WL.nil ?_
    refine WQ.thn ?_
    first | refine WC.cond rfl (fun hc1 => ?_) (fun hc1 => ?_) | refine WC.condB rfl (fun hc1 => ?_) (fun hc1 => ?_)
    · obtain ⟨x, hx⟩ : ∃ x, S[i]? = some x := ⟨_, List.getElem?_eq_getElem (by omega)⟩
      obtain ⟨y, hy⟩ : ∃ y, S[i - 1]? = some y := ⟨_, List.getElem?_eq_getElem (by omega)⟩
      obtain ⟨vx, _, _, ⟨rfl, hxo⟩, hrx⟩ := hsat i x hx
      obtain ⟨vy, _, _, ⟨rfl, hyo⟩, hry⟩ := hsat (i - 1) y hy
      refine WC.skip ?_
      refine WQ.thn ?_
      refine WC.seq ?_
      refine WC.block ?_
      refine WC.seq ?_
      refine WC.drawH 10 10 mixed (by kernel_rfl) rfl ?_
      refine SA.take 0 (by kernel_rfl) rfl rfl rfl (Wanted.plain rfl) zsL (View.le_refl _) (Pur.move rfl) ?_
      refine SA.take 1 (by kernel_rfl) rfl rfl rfl (Wanted.plain rfl) zsL (View.le_refl _) (Pur.move rfl) ?_
      refine' SA.take 2 (by kernel_rfl) rfl rfl rfl (Wanted.plain rfl) zsL (View.le_refl _) (Pur.indexAddr (eqA (hes (by omega))) rfl sl_41 ?h3_0) ?k3
      case h3_0 => omega
      refine' SA.take 3 (by kernel_rfl) rfl rfl rfl (Wanted.plain rfl) zsL (View.le_refl _) (Pur.loadN rfl ty_39 ?h4_0 ?h4_1) ?k4
      case h4_0 => exact RdV.rd hrx
      case h4_1 => first | rfl | assumption
      refine SA.take 4 (by kernel_rfl) rfl rfl rfl (Wanted.plain rfl) zsL (View.le_refl _) (Pur.move rfl) ?_
      refine SA.take 5 (by kernel_rfl) rfl rfl rfl (Wanted.plain rfl) zsL (View.le_refl _) (Pur.move rfl) ?_
      refine' SA.take 6 (by kernel_rfl) rfl rfl rfl (Wanted.plain rfl) zsL (View.le_refl _) (Pur.bin rfl rfl ?h5_0) ?k5
      case h5_0 => first | (refine Bin.subN (b := 1) ?_ ?_ <;> omega) | (refine Bin.subI ?_; omega)
      refine' SA.take 7 (by kernel_rfl) rfl rfl rfl (Wanted.plain rfl) zsL (View.le_refl _) (Pur.indexAddr (eqA (hes (by omega))) rfl sl_41 ?h6_0) ?k6
      case h6_0 => omega
      refine' SA.take 8 (by kernel_rfl) rfl rfl rfl (Wanted.plain rfl) zsL (View.le_refl _) (Pur.loadN rfl ty_39 ?h7_0 ?h7_1) ?k7
      case h7_0 => exact RdV.rd hry
      case h7_1 => first | rfl | assumption
      refine' SA.take 9 (by kernel_rfl) rfl rfl rfl (Wanted.plain rfl) zsL (View.le_refl _) (Pur.bin rfl rfl ?h8_0) ?k8
      case h8_0 => (refine Bin.eqH isHash_39 ?_ ?_ <;> assumption)
      refine SA.done (by kernel_rfl) ?_
      refine WQ.thn ?_
      first | refine WC.cond rfl (fun hc2 => ?_) (fun hc2 => ?_) | refine WC.condB rfl (fun hc2 => ?_) (fun hc2 => ?_)
      · exact absurd hc2 (Nat.ne_of_gt (rises_lt hr (show i - 1 < i by omega) hy hx))
      · refine WC.skip ?_
        refine WQ.blk ?_
        refine WQ.thn ?_
        refine WC.region ?_
        refine WL.pur (Pur.move rfl) ?_
        refine' WL.pur (Pur.bin rfl rfl ?h9_0) ?k9
        case h9_0 => first | (refine Bin.addN (b := 1) ?_; omega) | (refine Bin.addI ?_; omega)
        refine WL.pur (Pur.assign rfl) ?_
        refine WL.nil ?_
        refine WQ.back _ ⟨i + 1, rfl, by omega, by omega, rfl, rfl, rfl⟩ (by omega) zcV zsL
    · refine WC.exit ?_
      refine WQ.thn_exit ?_
      refine WQ.back_exit ?_
      refine WQ.blk_here ?_
      refine WQ.thn ?_
      refine WC.seq ?_
      refine WC.region ?_
      refine WL.pur (Pur.move rfl) ?_
      refine WL.pur (Pur.assign rfl) ?_
      refine WL.nil ?_
      refine WQ.thn ?_
      refine WC.ret ?_
      refine WQ.ret1 Tryz.results202 rfl [] zsL (View.le_refl _) ?_
      refine ⟨?_, rfl, rfl⟩
      rfl

theorem slices_Clip (σ : View) (a : Option Addr) (n cap : Nat) (hn : n ≤ cap) :
    TriP Tryz.prog 201 #[.slice a n cap] σ (.slice a n n) := by
  refine Tri.of_body [(0, .slice a n cap)] Tryz.func201 rfl Tryz.ntmps201 (by simp) rfl (fun Hr => ?_)
  rw [List.nil_append]
  refine WC.seq ?_
  refine WC.region ?_
  refine WL.pur (Pur.assign rfl) ?_
  refine WL.nil ?_
  refine WQ.thn ?_
  refine WC.seq ?_
  refine WC.region ?_
  refine WL.pur (Pur.move rfl) ?_
  refine WL.pur (Pur.move rfl) ?_
  refine WL.pur (Pur.len rfl isSlice_41) ?_
  refine WL.pur (Pur.move rfl) ?_
  refine WL.pur (Pur.len rfl isSlice_41) ?_
  refine WL.pur ((Pur.sliceF rfl rfl rfl sl_41 (Nat.le_refl _) hn)) ?_
  refine WL.pur (Pur.assign rfl) ?_
  refine WL.nil ?_
  refine WQ.thn ?_
  refine WC.ret ?_
  refine WQ.ret1 Tryz.results201 rfl [] zsL (View.le_refl _) ?_
  refine ⟨?_, rfl, rfl⟩
  rfl

theorem sha_Sort (σ : View) (lv : Value) (l : List Nat) (h : Hashes σ lv l) (hb : l.length ≤ 4096) (hn : l.Nodup) :
    Tri Tryz.prog 167 #[lv] σ [] (fun v σ' H' => Hashes σ' v (sortN l) ∧ H' = []) := by
  refine Tri.of_body [(0, lv)] Tryz.func167 rfl Tryz.ntmps167 (by simp) rfl (fun Hr => ?_)
  rw [List.nil_append]
  refine WC.seq ?_
  refine WC.region ?_
  refine WL.pur (Pur.assign rfl) ?_
  refine WL.nil ?_
  refine WQ.thn ?_
  refine WC.seq ?_
  refine WC.region ?_
  refine WL.pur (Pur.move rfl) ?_
  refine WL.call (H0 := []) (Hr := Hr) rfl Tryz.call198 (List.Perm.refl _) (slices_Clone _ _ l h (by omega)) ?_
  rintro v5 σ h5 ⟨⟨_, hs5, rfl⟩, rfl⟩ _
  refine WL.pur (Pur.assign rfl) ?_
  refine WL.nil ?_
  refine WQ.thn ?_
  refine WC.seq ?_
  refine WC.region ?_
  refine WL.pur (Pur.move rfl) ?_
  refine WL.call (H0 := h5) (Hr := Hr) rfl Tryz.call199 (List.Perm.refl _) (slices_SortFunc _ _ l h5 hs5 (by omega)) ?_
  rintro _ σ h6 ⟨hs6, rfl⟩ _
  refine WL.giveS (byt := 32) (H1 := []) (H2 := Hr) eHash_mono hs6 (by rw [sortN_len]; omega) rfl (fun σ1 hle1 hK => ?_)
  rw [List.nil_append]
  obtain ⟨ka, kc, rfl, hkc, hkb⟩ := hK.shape
  refine WL.nil ?_
  refine WQ.thn ?_
  refine WC.seq ?_
  refine WC.region ?_
  refine WL.pur (Pur.move rfl) ?_
  refine WL.callP rfl Tryz.call202 ((slices_Compact _ _ (sortN l) hK (sortN_rises hn))) ?_
  refine WL.callP rfl Tryz.call201 ((slices_Clip _ _ _ _ hkc)) ?_
  refine WL.pur (Pur.assign rfl) ?_
  refine WL.nil ?_
  refine WQ.thn ?_
  refine WC.ret ?_
  refine WQ.ret1 Tryz.results167 rfl [] zsL hle1 ?_
  exact ⟨SlE.clip hK, rfl⟩

end Go.Proofs.YtgoooilgmabkmaaGreat
namespace Go.Proofs.YtgoooilgmabkmaaGreat
open Go Go.Sl
set_option linter.unusedVariables false
set_option linter.unusedSimpArgs false
set_option maxRecDepth 100000

/-- of some entries, those that no other one of them has seen -/
def topP (L : List EntD) (p : Nat → Prop) (i : Nat) : Prop := p i ∧ ∀ k, k < L.length → ¬ (p k ∧ seesN L i k = true)
instance (L : List EntD) (p : Nat → Prop) [DecidablePred p] (i : Nat) : Decidable (topP L p i) := by unfold topP; infer_instance
def topsN (L : List EntD) (p : Nat → Prop) [DecidablePred p] (n : Nat) : List Nat := ((List.range n).filter fun i => decide (topP L p i)).map (idAt L)
theorem topsN_zero (L : List EntD) (p : Nat → Prop) [DecidablePred p] : topsN L p 0 = [] := by simp [topsN]
theorem topsN_yes {L : List EntD} {p : Nat → Prop} [DecidablePred p] {i : Nat} (h : topP L p i) : topsN L p (i + 1) = topsN L p i ++ [idAt L i] := by
  unfold topsN
  rw [List.range_succ, List.filter_append, List.map_append]
  simp [h]
theorem topsN_no {L : List EntD} {p : Nat → Prop} [DecidablePred p] {i : Nat} (h : ¬ topP L p i) : topsN L p (i + 1) = topsN L p i := by
  unfold topsN
  rw [List.range_succ, List.filter_append, List.map_append]
  simp [h]
theorem topsN_len (L : List EntD) (p : Nat → Prop) [DecidablePred p] (n : Nat) : (topsN L p n).length ≤ n := by
  unfold topsN
  rw [List.length_map]
  refine Nat.le_trans (List.length_filter_le _ _) ?_
  simp
theorem topsN_nodup {L : List EntD} (ho : OrdOk L) (p : Nat → Prop) [DecidablePred p] : (topsN L p L.length).Nodup := by
  unfold topsN
  rw [List.Nodup, List.pairwise_map]
  refine List.Pairwise.imp_of_mem ?_ ((List.nodup_range (n := L.length)).sublist List.filter_sublist)
  intro a b ha hb hab he
  have ha := List.mem_range.1 (List.mem_filter.1 ha).1
  have hb := List.mem_range.1 (List.mem_filter.1 hb).1
  have e1 := idxOf_of ho.nodup (List.getElem?_eq_getElem ha)
  have e2 := idxOf_of ho.nodup (List.getElem?_eq_getElem hb)
  rw [← idAt_of (List.getElem?_eq_getElem ha)] at e1
  rw [← idAt_of (List.getElem?_eq_getElem hb), ← he, e1] at e2
  exact hab (Option.some.inj e2)
theorem mem_topsN {L : List EntD} {p : Nat → Prop} [DecidablePred p] {n x : Nat} : x ∈ topsN L p n ↔ ∃ i, i < n ∧ topP L p i ∧ idAt L i = x := by
  unfold topsN
  simp only [List.mem_map, List.mem_filter, List.mem_range, decide_eq_true_eq, and_assoc]
/-- .. up to an entry -/
abbrev topTo (L : List EntD) (p : Nat → Prop) (i j : Nat) : Prop := ∀ k, i < k → k < j → ¬ (p k ∧ seesN L i k = true)
theorem topTo_iff {L : List EntD} (ho : OrdOk L) {p : Nat → Prop} {i : Nat} (hp : p i) : topTo L p i L.length ↔ topP L p i := by
  constructor
  · exact fun h => ⟨hp, fun k hk hc => h k (sees_lt ho hc.2).1 hk hc⟩
  · exact fun h k _ hk => h.2 k hk
theorem topTo_succ {L : List EntD} {p : Nat → Prop} {i j : Nat} (hij : i < j) (h : topTo L p i j) : (¬ p j ∨ ¬ seesN L i j = true) ↔ topTo L p i (j + 1) := by
  constructor
  · intro h1 k hk1 hk2 hc
    by_cases hkj : k = j
    · subst hkj; exact h1.elim (fun h => h hc.1) (fun h => h hc.2)
    · exact h k hk1 (by omega) hc
  · intro h1
    have := h1 j hij (by omega)
    by_cases hp : p j
    · exact .inr fun hs => this ⟨hp, hs⟩
    · exact .inl hp
theorem topTo_le {L : List EntD} {p : Nat → Prop} {i j : Nat} (h : ¬ topTo L p i j) (hj : j ≤ L.length) : ¬ topTo L p i L.length := fun h2 => h fun k h3 h4 => h2 k h3 (by omega)
/-- all of them -/
theorem heads_tops {L : List EntD} (ho : OrdOk L) : sortN (topsN L (fun _ => True) L.length) = headsL L := by
  refine rises_ext _ _ (sortN_rises (topsN_nodup ho _)) ?_ fun x => ?_
  · have hnd : (headsL L).Nodup := by
      unfold headsL
      rw [List.Nodup, List.pairwise_map]
      have h0 : (rankL L 0 L.length).Nodup := (rankL_perm L _ 0 L.length rfl).nodup_iff.2 (List.nodup_range' (step := 1))
      refine List.Pairwise.imp_of_mem ?_ (h0.sublist List.filter_sublist)
      intro a b ha hb hab he
      have ha := (rankL_mem.1 (List.mem_filter.1 ha).1).2
      have hb := (rankL_mem.1 (List.mem_filter.1 hb).1).2
      have e1 := idxOf_of ho.nodup (List.getElem?_eq_getElem ha)
      have e2 := idxOf_of ho.nodup (List.getElem?_eq_getElem hb)
      rw [← idAt_of (List.getElem?_eq_getElem ha)] at e1
      rw [← idAt_of (List.getElem?_eq_getElem hb), ← he, e1] at e2
      exact hab (Option.some.inj e2)
    refine nodup_rises hnd ?_
    unfold headsL
    rw [List.pairwise_map]
    exact List.Pairwise.imp (fun h => by simpa [leId] using h) ((rankL_sorted L _ 0 L.length rfl).sublist List.filter_sublist)
  · rw [(sortN_perm _).mem_iff, mem_topsN, mem_heads]
    constructor
    · rintro ⟨i, h1, h2, h3⟩
      refine ⟨i, h1, (topB_iff ho).2 fun j => ?_, h3⟩
      cases hs : seesN L i j with
      | false => rfl
      | true => exact absurd ⟨trivial, hs⟩ (h2.2 j (sees_lt ho hs).2)
    · rintro ⟨i, h1, h2, h3⟩
      exact ⟨i, h1, ⟨trivial, fun k _ hc => by have := (topB_iff ho).1 h2 k; rw [this] at hc; exact absurd hc.2 (by simp)⟩, h3⟩

set_option maxHeartbeats 2000000 in
theorem past_tops (σ : View) (pv : Value) (L : List EntD) (h : PastV σ pv L) (ho : OrdOk L) (fd : FuncId) (cs : List Value) (p : Nat → Prop) [DecidablePred p] (hen : ∀ args w, (callFunc fd args).run Tryz.prog w = .ok (.enter fd args) w) (hin : ∀ σ1, σ.le σ1 → ∀ i : Nat, i < L.length → TriP Tryz.prog fd ([Value.int .i64 (i : Int)] ++ cs).toArray σ1 (.bool (decide (p i)))) :
    Tri Tryz.prog 134 #[pv, .func (.func fd) #[] cs.toArray] σ [] (fun v σ' H' => Hashes σ' v (sortN (topsN L p L.length)) ∧ H' = []) := by
  have h' := h
  have hmost := ho.most
  obtain ⟨b, mb, lv, sv, rfl, hr, hl, hm, hs⟩ := h
  obtain ⟨la, lc, rfl, hlc, hlb⟩ := hl.shape
  refine Tri.of_bodyM [(0, .pointer (some ⟨b, 0, none⟩)), (1, .func (.func fd) #[] cs.toArray)] Tryz.func134 rfl Tryz.ntmps134 (by simp) rfl (fun Hr => ?_)
  rw [List.nil_append]
  refine WC.seq ?_
  refine WC.region ?_
  refine WL.new (New.box1 rfl (by first | rfl | assumption)) (fun b2 => ?_)
  refine WL.new (New.box1 rfl (by first | rfl | assumption)) (fun b3 => ?_)
  refine WL.pur (Pur.assign rfl) ?_
  refine WL.nil ?_
  refine WQ.thn ?_
  refine WC.seq ?_
  refine WC.region ?_
  refine WL.give (H1 := [(b3, _)]) (H2 := Hr) (fun hb2 => ?_)
  rw [List.singleton_append]
  have hle2 := View.le_add (rowO 25 [.pointer (some ⟨b, 0, none⟩)]) hb2
  have hr2 := RdV.row (View.add_same σ b2 (rowO 25 [.pointer (some ⟨b, 0, none⟩)]))
  generalize σ.add b2 (rowO 25 [.pointer (some ⟨b, 0, none⟩)]) = σ2 at hle2 hr2 ⊢
  refine WL.give (H1 := []) (H2 := Hr) (fun hb3 => ?_)
  rw [List.nil_append]
  have hle3 := View.le_add (rowO 204 [.func (.func fd) #[] cs.toArray]) hb3
  have hr3 := RdV.row (View.add_same σ2 b3 (rowO 204 [.func (.func fd) #[] cs.toArray]))
  have hr2 := hr2.mono hle3
  have hle3 := View.le_trans hle2 hle3
  generalize σ2.add b3 (rowO 204 [.func (.func fd) #[] cs.toArray]) = σ3 at hle3 hr2 hr3 ⊢
  refine WL.new (New.alloc zc_41) (fun b5 => ?_)
  refine WL.nil ?_
  refine WQ.thn ?_
  refine WC.seq ?_
  refine WC.seq ?_
  refine WC.region ?_
  refine' WL.pur (Pur.load1 rfl ty_25 ?h1_0) ?k1
  case h1_0 => exact RdV.rd hr2
  refine WL.call (H0 := []) (Hr := _) rfl Tryz.call34 (List.Perm.refl _) (past_All _ _ rfl) ?_
  rintro v11 σa _ ⟨⟨bx, rfl, hbx⟩, rfl⟩ hlea
  rw [List.nil_append]
  refine WL.nil ?_
  refine WQ.thn ?_
  refine WC.block ?_
  refine WC.rangeFunc (H0 := [(b5, rowO 41 [.slice none 0 0])]) (Hr := Hr) rfl Tryz.call111 (past_All1 σa bx _ L (h'.mono (View.le_trans hle3 hlea)) hbx hmost) (View.le_refl _) (List.Perm.refl _) (fun i σ' H' => ∃ sv5 hl5, SlO σ' eHash 39 32 sv5 (topsN L p i) hl5 ∧ H' = (b5, rowO 41 [sv5]) :: hl5 ∧ σa.le σ') (fun _ _ _ => False) (fun i args σ2 hG => by obtain ⟨e, pv, ov, _, rfl, _⟩ := hG; rfl) (by decide) (⟨_, [], by rw [topsN_zero]; exact SlO.nil, rfl, View.le_refl _⟩) ?_ ?_ ?_
  · intro lq rec0 rec1 i args σ1 σ2 H1 Hq QA QB hi hJ hle1 hle2 hG hA hB hX
    obtain ⟨sv5, hl, hso0, rfl, hleK⟩ := hJ
    obtain ⟨e, qv, ov, he, rfl, heH, hNR⟩ := hG
    obtain ⟨qa, qc, rfl, hqc, hqb⟩ := hNR.1.shape
    obtain ⟨oa, oc, rfl, hoc, hob⟩ := hNR.2.1.shape
    rw [List.cons_append]
    have hso := hso0.mono eHash_mono hle2
    have hlek := View.le_trans hleK hle2
    have hlej := View.le_trans hlea hlek
    have hleb := View.le_trans hle3 hlej
    have hr2b := hr2.mono hlej
    have hr3b := hr3.mono hlej
    have hpb := h'.mono hleb
    have hrb := hr.mono hleb
    have hid : idAt L i = e.id := idAt_of he
    have htl := topsN_len L p i
    have hsv1 := hso.one_cell
    refine WC.seq ?_
    refine WC.region ?_
    refine WL.pur (Pur.assign rfl) ?_
    refine WL.nil ?_
    refine WQ.thn ?_
    refine WC.region ?_
    refine WL.new (New.alloc zc_45) (fun b7 => ?_)
    refine' WL.run0 (Run.storeAll rfl rfl ty_45 ?h2_0 (by first | rfl | assumption) ?h2_1 (by first | rfl | assumption)) ?k2
    case h2_0 => repeat (first | exact Part.one | exact Part.here | apply Part.cons | apply Part.app)
    case h2_1 => first | rfl | assumption
    refine WL.nil ?_
    refine hA _ _ _ _ (by repeat (first | exact Part.one | exact Part.here | apply Part.cons | apply Part.app)) ?_
    refine WC.block ?_
    refine WC.seq ?_
    refine WC.seq ?_
    refine WC.region ?_
    refine' WL.pur (Pur.load1 rfl ty_204 ?h3_0) ?k3
    case h3_0 => exact RdV.rd hr3b
    refine WL.pur (Pur.move rfl) ?_
    refine WL.callVP (fs := []) (cs := cs) rfl rfl hen (hin _ hleb i hi) ?_
    first | refine WL.pur (Pur.not rfl) ?_ | refine WL.pur (Pur.notB rfl) ?_
    refine WL.nil ?_
    refine WQ.thn ?_
    first | refine WC.cond rfl (fun hc0 => ?_) (fun hc0 => ?_) | refine WC.condB rfl (fun hc0 => ?_) (fun hc0 => ?_)
    · have hc0 : ¬ p i := hc0
      refine WC.exit ?_
      refine WQ.thn_exit ?_
      refine WQ.blk_here ?_
      exact hB _ _ _ _ (⟨_, _, by rw [topsN_no (fun h => hc0 h.1)]; exact hso, rfl, hlek⟩) (View.le_refl _) (by simp only [List.cons_append]; repeat (first | exact List.Sublist.refl _ | apply List.Sublist.cons_cons | apply List.Sublist.cons))
    · have hpi : p i := Decidable.not_not.1 hc0
      refine WC.skip ?_
      refine WQ.thn ?_
      refine WC.seq ?_
      refine WC.region ?_
      refine WL.pur (Pur.assign rfl) ?_
      refine WL.nil ?_
      refine WQ.thn ?_
      refine WC.seq ?_
      refine WC.seq ?_
      refine WC.region ?_
      refine WL.pur (Pur.move rfl) ?_
      refine' WL.pur (Pur.bin rfl rfl ?h4_0) ?k4
      case h4_0 => first | (refine Bin.addN (b := 1) ?_; omega) | (refine Bin.addI ?_; omega)
      refine WL.pur (Pur.assign rfl) ?_
      refine WL.nil ?_
      refine WQ.thn ?_
      refine WC.block ?_
      refine WC.loop (fun j m σ' H' => ∃ (j0 : Nat) (tp : Prop) (_ : Decidable tp), j = L.length - j0 ∧ i < j0 ∧ j0 ≤ L.length ∧ (tp ↔ topTo L p i j0) ∧ m = [(2, .pointer (some ⟨b2, 0, none⟩)), (3, .pointer (some ⟨b3, 0, none⟩)), (5, .pointer (some ⟨b5, 0, none⟩)), (6, .int .i64 (i : Int)), (7, .pointer (some ⟨b7, 0, none⟩)), (8, .bool (decide tp)), (9, .int .i64 (j0 : Int))] ∧ σ' = σ2 ∧ H' = (b7, rowO 45 (entCells e.id e.node.au e.node.cl (.slice qa e.node.ps.length qc) (.slice oa e.node.ops.length oc))) :: (b5, rowO 41 [sv5]) :: (hl ++ (lq, rec1) :: Hq)) ⟨i + 1, True, inferInstance, rfl, by omega, by omega, ⟨fun _ k h1 h2 => by omega, fun _ => trivial⟩, rfl, rfl, rfl⟩ zcV zsL ?_
      rintro _ _ σ Hr ⟨j0, tp, hdec, rfl, hij, hj0, htp, rfl, rfl, rfl⟩
      refine WC.seq ?_
      refine WC.seq ?_
      refine WC.region ?_
      refine WL.pur (Pur.move rfl) ?_
      refine' WL.pur (Pur.load1 rfl ty_25 ?h5_0) ?k5
      case h5_0 => exact RdV.rd hr2b
      refine WL.pur (Pur.nilCheck rfl) ?_
      refine WL.pur (Pur.fieldAddr rfl fo_173_0) ?_
      refine' WL.pur (Pur.load1 rfl ty_22 ?h6_0) ?k6
      case h6_0 => exact RdV.rd (RdV.idx (off := 0) (i := 0) hrb rfl)
      refine WL.pur (Pur.len rfl isSlice_22) ?_
      refine' WL.pur (Pur.bin rfl rfl ?h7_0) ?k7
      case h7_0 => first | exact Bin.ltN | exact Bin.ltI | exact Bin.ltS
      refine WL.pur (Pur.move rfl) ?_
      refine' WL.andp (u := 27) (t := 29) rfl ?h8_0 ?h8_1 ?h8_2 rfl ?k8
      case h8_0 =>
        intro hg27 K27
        refine WL.gpur (u := 27) rfl rfl (gT hg27) (Pur.move rfl) ?_
        exact K27 _ zcR rfl
      case h8_1 =>
        intro hg27 K27
        refine WL.gskip (u := 27) rfl rfl (sT hg27) ?_
        exact K27 _ zcR
      case h8_2 => exact Wanted.plain rfl
      refine WL.nil ?_
      refine WQ.thn ?_
      first | refine WC.cond rfl (fun hc1 => ?_) (fun hc1 => ?_) | refine WC.condB rfl (fun hc1 => ?_) (fun hc1 => ?_)
      · have hjl : j0 < L.length := hc1.1
        refine WC.skip ?_
        refine WQ.thn ?_
        refine WC.seq ?_
        refine WC.block ?_
        refine WC.region ?_
        refine' WL.pur (Pur.load1 rfl ty_204 ?h9_0) ?k9
        case h9_0 => exact RdV.rd hr3b
        refine WL.pur (Pur.move rfl) ?_
        refine WL.callVP (fs := []) (cs := cs) rfl rfl hen (hin _ hleb j0 hjl) ?_
        first | refine WL.pur (Pur.not rfl) ?_ | refine WL.pur (Pur.notB rfl) ?_
        refine WL.pur (Pur.move rfl) ?_
        refine' WL.orp (u := 36) (t := 42) rfl ?h10_0 ?h10_1 ?h10_2 rfl ?k10
        case h10_0 =>
          intro hg36 K36
          refine' WL.gpur (u := 36) rfl rfl (gF hg36) (Pur.load1 rfl ty_25 ?h11_0) ?k11
          case h11_0 => exact RdV.rd hr2b
          refine WL.gpur (u := 36) rfl rfl (gF hg36) (Pur.move rfl) ?_
          refine WL.gpur (u := 36) rfl rfl (gF hg36) (Pur.move rfl) ?_
          refine WL.gcallP (u := 36) rfl rfl (gF hg36) rfl Tryz.call113 ((past_Sees _ _ L i j0 hpb ho hjl (by omega))) ?_
          first | refine WL.gpur (u := 36) rfl rfl (gF hg36) (Pur.not rfl) ?_ | refine WL.gpur (u := 36) rfl rfl (gF hg36) (Pur.notB rfl) ?_
          exact K36 _ zcR rfl
        case h10_1 =>
          intro hg36 K36
          refine WL.gskip (u := 36) rfl rfl (sF hg36) ?_
          refine WL.gskip (u := 36) rfl rfl (sF hg36) ?_
          refine WL.gskip (u := 36) rfl rfl (sF hg36) ?_
          refine WL.gskip (u := 36) rfl rfl (sF hg36) ?_
          refine WL.gskip (u := 36) rfl rfl (sF hg36) ?_
          exact K36 _ zcR
        case h10_2 => exact Wanted.plain rfl
        refine WL.pur (Pur.assign rfl) ?_
        refine WL.nil ?_
        refine WQ.blk ?_
        refine WQ.thn ?_
        refine WC.region ?_
        refine WL.pur (Pur.move rfl) ?_
        refine' WL.pur (Pur.bin rfl rfl ?h12_0) ?k12
        case h12_0 => first | (refine Bin.addN (b := 1) ?_; omega) | (refine Bin.addI ?_; omega)
        refine WL.pur (Pur.assign rfl) ?_
        refine WL.nil ?_
        refine WQ.back _ ⟨j0 + 1, (¬ p j0 ∨ ¬ seesN L i j0 = true), inferInstance, rfl, by omega, by omega, topTo_succ hij (htp.1 hc1.2), rfl, rfl, rfl⟩ (by omega) zcV zsL
      · refine WC.exit ?_
        refine WQ.thn_exit ?_
        refine WQ.back_exit ?_
        refine WQ.blk_here ?_
        refine WQ.thn ?_
        refine WC.seq ?_
        refine WC.region ?_
        refine WL.pur (Pur.move rfl) ?_
        refine WL.nil ?_
        refine WQ.thn ?_
        first | refine WC.cond rfl (fun hc2 => ?_) (fun hc2 => ?_) | refine WC.condB rfl (fun hc2 => ?_) (fun hc2 => ?_)
        · have hjj : j0 = L.length := by
            refine Classical.byContradiction fun hc => ?_
            exact hc1 ⟨by omega, hc2⟩
          subst hjj
          have htop := (topTo_iff ho hpi).1 (htp.1 hc2)
          refine WC.region ?_
          refine' WL.pur (Pur.load1 rfl ty_41 ?h13_0) ?k13
          case h13_0 => first | (apply Rd.own1; exact zmE; rfl) | (apply RdV.rd; apply RdV.idx (i := 0); assumption; rfl)
          refine WL.pur (Pur.fieldAddr rfl fo_45_0) ?_
          refine' WL.pur (Pur.loadN rfl ty_39 ?h14_0 ?h14_1) ?k14
          case h14_0 => apply Rd.own_sub; exact zmE; exact Sub.ent_hash _ _ _ _ _
          case h14_1 => first | rfl | assumption
          refine WL.new (New.buildSliceN (xs := [.tmp 46]) (vss := [hashCells e.id]) sl_41 zc_39 rfl rfl rfl (by rfl) (by rfl)) (fun b47 => ?_)
          refine' WL.any (Any.push (H1 := [(b47, _), (b7, _), (b5, _)]) (H2 := (lq, rec1) :: Hq) sl_41 zc_39 rfl by_39 rfl rfl hso ?h15_0 ?h15_1 ?h15_2 ?h15_3 rfl (by omega) (by omega)) ?k15
          case h15_0 => apply Rd.own_sub; exact zmE; exact Sub.refl _
          case h15_1 => first | rfl | assumption
          case h15_2 => first | rfl | assumption
          case h15_3 => exact ⟨rfl, heH⟩
          rintro v48 σ _ ⟨hl2, hso2, rfl, rfl⟩ _
          have hsv2 := hso2.one_cell
          refine' WL.run0 (Run.store1 rfl rfl ty_41 (by first | rfl | assumption) ?h16_0 ?h16_1 sz_41) ?k16
          case h16_0 => repeat (first | exact Part.one | exact Part.here | apply Part.cons | apply Part.app)
          case h16_1 => first | exact Nat.le_of_ble_eq_true rfl | decide | (simp; done) | (simp; omega) | omega
          refine WL.nil ?_
          refine WQ.blk ?_
          exact hB _ _ _ _ (⟨_, _, by rw [topsN_yes htop, hid]; exact hso2, rfl, hlek⟩) (View.le_refl _) (by simp only [List.cons_append]; repeat (first | exact List.Sublist.refl _ | apply List.Sublist.cons_cons | apply List.Sublist.cons))
        · have htop : ¬ topP L p i := fun h => topTo_le (fun h2 => hc2 (htp.2 h2)) hj0 ((topTo_iff ho hpi).2 h)
          refine WC.skip ?_
          refine WQ.blk ?_
          exact hB _ _ _ _ (⟨_, _, by rw [topsN_no htop]; exact hso, rfl, hlek⟩) (View.le_refl _) (by simp only [List.cons_append]; repeat (first | exact List.Sublist.refl _ | apply List.Sublist.cons_cons | apply List.Sublist.cons))
  · intro D0 σ Hd hJ hled
    obtain ⟨sv5, hl5, hso, rfl, hleK⟩ := hJ
    rw [List.cons_append]
    refine WQ.blk ?_
    refine WQ.thn ?_
    refine WC.seq ?_
    refine WC.region ?_
    refine' WL.pur (Pur.load1 rfl ty_41 ?h17_0) ?k17
    case h17_0 => first | (apply Rd.own1; exact zmE; rfl) | (apply RdV.rd; apply RdV.idx (i := 0); assumption; rfl)
    refine WL.giveS (byt := 32) (H1 := [(b5, rowO 41 [sv5])]) (H2 := (D0, Obj.deferred (some [])) :: Hr) eHash_mono hso (by have := topsN_len L p L.length; omega) (by simp) (fun σ8 hle8 hK => ?_)
    rw [List.singleton_append]
    refine WL.call (H0 := []) (Hr := (b5, rowO 41 [sv5]) :: (D0, Obj.deferred (some [])) :: Hr) rfl Tryz.call167 (List.Perm.refl _) (sha_Sort _ _ _ hK (by have := topsN_len L p L.length; omega) (topsN_nodup ho p)) ?_
    rintro v50 σ9 _ ⟨hS9, rfl⟩ hle9
    rw [List.nil_append]
    obtain ⟨ta, tc, rfl, _, _⟩ := hS9.shape
    refine WL.pur (Pur.assign rfl) ?_
    refine WL.nil ?_
    refine WQ.thn ?_
    refine WC.ret ?_
    refine WQ.marks (.inl rfl) [D0] ((b5, rowO 41 [sv5]) :: Hr) (List.Perm.swap _ _ _) ?_
    refine WQ.ret1 Tryz.results134 rfl [] (List.Sublist.cons _ (List.Sublist.refl _)) (View.le_trans hle3 (View.le_trans hlea (View.le_trans hleK (View.le_trans hle8 hle9)))) ?_
    exact ⟨hS9, rfl⟩
  · intro e D σ' H' _ hJ _; exact hJ.elim

theorem past_Heads1 (σ : View) (i : Nat) :
    TriP Tryz.prog 135 #[.int .i64 (i : Int)] σ (.bool (decide True)) := by
  refine Tri.of_body [(0, .int .i64 (i : Int))] Tryz.func135 rfl Tryz.ntmps135 (by simp) rfl (fun Hr => ?_)
  rw [List.nil_append]
  refine WC.seq ?_
  refine WC.region ?_
  refine WL.pur (Pur.assign rfl) ?_
  refine WL.nil ?_
  refine WQ.thn ?_
  refine WC.seq ?_
  refine WC.region ?_
  refine WL.pur (Pur.assign rfl) ?_
  refine WL.nil ?_
  refine WQ.thn ?_
  refine WC.ret ?_
  refine WQ.ret1 Tryz.results135 rfl [] zsL (View.le_refl _) ?_
  refine ⟨?_, rfl, rfl⟩
  rfl

theorem past_Heads (σ : View) (pv : Value) (L : List EntD) (h : PastV σ pv L) (ho : OrdOk L) :
    Tri Tryz.prog 67 #[pv] σ [] (fun v σ' H' => Hashes σ' v (headsL L) ∧ H' = []) := by
  refine Tri.of_body [(0, pv)] Tryz.func67 rfl Tryz.ntmps67 (by simp) rfl (fun Hr => ?_)
  rw [List.nil_append]
  refine WC.seq ?_
  refine WC.region ?_
  refine WL.pur (Pur.assign rfl) ?_
  refine WL.nil ?_
  refine WQ.thn ?_
  refine WC.seq ?_
  refine WC.region ?_
  refine WL.pur (Pur.move rfl) ?_
  refine WL.call (H0 := []) (Hr := Hr) rfl Tryz.call134 (List.Perm.refl _) (past_tops _ _ L h ho 135 [] (fun _ => True) Tryz.call135 (fun σ1 _ i _ => past_Heads1 σ1 i)) ?_
  rintro v4 σ1 _ ⟨hK, rfl⟩ hle1
  rw [List.nil_append]
  rw [heads_tops ho] at hK
  obtain ⟨ka, kc, rfl, hkc, hkb⟩ := hK.shape
  refine WL.pur (Pur.assign rfl) ?_
  refine WL.nil ?_
  refine WQ.thn ?_
  refine WC.ret ?_
  refine WQ.ret1 Tryz.results67 rfl [] zsL hle1 ?_
  exact ⟨hK, rfl⟩

end Go.Proofs.YtgoooilgmabkmaaGreat
