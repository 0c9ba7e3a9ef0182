/-
  Contracts of the functions of the program and of its references: what each call hands back, from what is known and owned.
-/
import Derived.Test.YtgoooilgmabkmaaGreatCd
set_option linter.unusedVariables false
set_option linter.unusedSimpArgs false
set_option linter.unusedSectionVars false
namespace Go.Proofs.YtgoooilgmabkmaaGreat
open Go Go.Sl
set_option linter.unusedVariables false
set_option linter.unusedSimpArgs false
set_option maxRecDepth 100000

theorem ents_isH {σ : View} {lv : Value} {L : List EntD} (h : Ents σ lv L) : ∀ e ∈ L, IsH e.id := by
  intro e he
  obtain ⟨i, hi⟩ := List.getElem?_of_mem he
  obtain ⟨a, c, rfl, _⟩ := h.shape
  obtain ⟨b, off, hb⟩ := addr_of h
  obtain ⟨_, _, _, hH, _⟩ := ent_rd h hb hi
  exact hH

theorem past_Len (σ : View) (pv : Value) (L : List EntD) (h : PastV σ pv L) :
    TriP Tryz.prog 43 #[pv] σ (.int .i64 (L.length : Int)) := by
  obtain ⟨b, mb, lv, sv, rfl, hr, hl, hm, hs⟩ := h
  obtain ⟨la, lc, rfl, hlc, hlb⟩ := hl.shape
  obtain ⟨sa, sc, rfl, hsc, hsb⟩ := hs.shape
  refine Tri.of_body [(0, .pointer (some ⟨b, 0, none⟩))] Tryz.func43 rfl Tryz.ntmps43 (by simp) rfl (fun Hr => ?_)
  rw [List.nil_append]
  refine WC.seq ?_
  refine WC.region ?_
  refine WL.pur (Pur.assign rfl) ?_
  refine WL.nil ?_
  refine WQ.thn ?_
  refine WC.seq ?_
  refine WC.region ?_
  refine WL.pur (Pur.move rfl) ?_
  refine WL.pur (Pur.nilCheck rfl) ?_
  refine WL.pur (Pur.fieldAddr rfl fo_173_0) ?_
  refine' WL.pur (Pur.load1 rfl ty_22 ?h1_0) ?k1
  case h1_0 => first | (apply Rd.own1; exact zmE; rfl) | (apply RdV.rd; apply RdV.idx (i := 0); assumption; rfl)
  refine WL.pur (Pur.len rfl isSlice_22) ?_
  refine WL.pur (Pur.assign rfl) ?_
  refine WL.nil ?_
  refine WQ.thn ?_
  refine WC.ret ?_
  refine WQ.ret1 Tryz.results43 rfl [] zsL (View.le_refl _) ?_
  refine ⟨?_, rfl, rfl⟩
  rfl

theorem past_Number (σ : View) (pv : Value) (L : List EntD) (id : Nat) (h : PastV σ pv L) (hid : IsH id) :
    TriP Tryz.prog 36 #[pv, hashV id] σ (.int .i64 (numV (idxOf L id))) := by
  obtain ⟨b, mb, lv, sv, rfl, hr, hl, hm, hs⟩ := h
  have hok := ids_ok (ents_isH hl) 0
  have hmg := mget_ids0 L id
  obtain ⟨la, lc, rfl, hlc, hlb⟩ := hl.shape
  obtain ⟨sa, sc, rfl, hsc, hsb⟩ := hs.shape
  refine Tri.of_body [(0, .pointer (some ⟨b, 0, none⟩)), (1, hashV id)] Tryz.func36 rfl Tryz.ntmps36 (by simp) rfl (fun Hr => ?_)
  rw [List.nil_append]
  refine WC.seq ?_
  refine WC.region ?_
  refine WL.new (New.boxN rfl) (fun b3 => ?_)
  refine WL.pur (Pur.assign rfl) ?_
  refine WL.nil ?_
  refine WQ.thn ?_
  refine WC.seq ?_
  refine WC.seq ?_
  refine WC.drawH 11 11 mixed (by kernel_rfl) rfl ?_
  refine SA.take 0 (by kernel_rfl) rfl rfl rfl (Wanted.plain rfl) zsL (View.le_refl _) (Pur.move rfl) ?_
  refine SA.take 1 (by kernel_rfl) rfl rfl rfl (Wanted.plain rfl) zsL (View.le_refl _) (Pur.nilCheck rfl) ?_
  refine SA.take 2 (by kernel_rfl) rfl rfl rfl (Wanted.plain rfl) zsL (View.le_refl _) (Pur.fieldAddr rfl fo_173_1) ?_
  refine' SA.take 3 (by kernel_rfl) rfl rfl rfl (Wanted.plain rfl) zsL (View.le_refl _) (Pur.load1 rfl ty_142 ?h1_0) ?k1
  case h1_0 => first | (apply Rd.own1; exact zmE; rfl) | (apply RdV.rd; apply RdV.idx (i := 1); assumption; rfl) | (apply RdV.rd; apply RdV.idx (off := 0) (i := 1); assumption; rfl)
  refine' SA.take 4 (by kernel_rfl) rfl rfl rfl (Wanted.plain rfl) zsL (View.le_refl _) (Pur.loadN rfl ty_39 ?h2_0 ?h2_1) ?k2
  case h2_0 => first | (apply Rd.own_sub; exact zmE; exact Sub.refl _) | (apply RdV.rd; assumption)
  case h2_1 => first | rfl | assumption
  refine' SA.take 5 (by kernel_rfl) rfl rfl rfl (Wanted.plain rfl) zsL (View.le_refl _) (Pur.lookupOk rfl rfl mt_142 (K := hashV) (keyC_hash isHKey_39) zv_3 ?h3_0 ?h3_1 ?h3_2) ?k3
  case h3_0 => first | (right; assumption) | (left; focus repeat (first | exact List.Mem.head _ | apply List.Mem.tail | apply List.mem_append_right))
  case h3_1 => first | assumption | exact fun _ _ => trivial
  case h3_2 => first | assumption | trivial
  refine SA.take 6 (by kernel_rfl) rfl rfl rfl (Wanted.plain rfl) zsL (View.le_refl _) (Pur.move rfl) ?_
  first | refine SA.take 7 (by kernel_rfl) rfl rfl rfl (Wanted.plain rfl) zsL (View.le_refl _) (Pur.ex2_0 rfl) ?_ | refine SA.take 7 (by kernel_rfl) rfl rfl rfl (Wanted.plain rfl) zsL (View.le_refl _) (Pur.ex3_0 rfl) ?_ | refine SA.take 7 (by kernel_rfl) rfl rfl rfl (Wanted.plain rfl) zsL (View.le_refl _) (Pur.extractNext rfl) ?_ | refine SA.take 7 (by kernel_rfl) rfl rfl rfl (Wanted.plain rfl) zsL (View.le_refl _) (Pur.extract rfl rfl) ?_
  first | refine SA.take 8 (by kernel_rfl) rfl rfl rfl (Wanted.plain rfl) zsL (View.le_refl _) (Pur.ex2_1 rfl) ?_ | refine SA.take 8 (by kernel_rfl) rfl rfl rfl (Wanted.plain rfl) zsL (View.le_refl _) (Pur.ex3_1 rfl) ?_ | refine SA.take 8 (by kernel_rfl) rfl rfl rfl (Wanted.plain rfl) zsL (View.le_refl _) (Pur.extract rfl rfl) ?_
  refine SA.take 9 (by kernel_rfl) rfl rfl rfl (Wanted.plain rfl) zsL (View.le_refl _) (Pur.assign rfl) ?_
  refine SA.take 10 (by kernel_rfl) rfl rfl rfl (Wanted.plain rfl) zsL (View.le_refl _) (Pur.assign rfl) ?_
  refine SA.done (by kernel_rfl) ?_
  refine WQ.thn ?_
  refine WC.seq ?_
  refine WC.region ?_
  refine WL.pur (Pur.move rfl) ?_
  refine WL.nil ?_
  refine WQ.thn ?_
  first | refine WC.cond rfl (fun hc0 => ?_) (fun hc0 => ?_) | refine WC.condB rfl (fun hc0 => ?_) (fun hc0 => ?_)
  · obtain ⟨k, hk⟩ : ∃ k, idxOf L id = some k := by cases hx : idxOf L id with | none => rw [hx] at hmg; rw [hmg] at hc0; cases hc0 | some k => exact ⟨k, rfl⟩
    rw [hk] at hmg
    refine WC.seq ?_
    refine WC.region ?_
    refine WL.pur (Pur.move rfl) ?_
    refine WL.pur (Pur.assign rfl) ?_
    refine WL.nil ?_
    refine WQ.thn ?_
    refine WC.ret ?_
    refine WQ.thn_ret ?_
    refine WQ.ret1 Tryz.results36 rfl [] zsL (View.le_refl _) ?_
    refine ⟨?_, rfl, rfl⟩
    rw [hmg, hk]; rfl
  · have hk : idxOf L id = none := by cases hx : idxOf L id with | none => rfl | some k => rw [hx] at hmg; rw [hmg] at hc0; cases hc0
    refine WC.skip ?_
    refine WQ.thn ?_
    refine WC.seq ?_
    refine WC.region ?_
    refine WL.pur (Pur.assign rfl) ?_
    refine WL.nil ?_
    refine WQ.thn ?_
    refine WC.ret ?_
    refine WQ.ret1 Tryz.results36 rfl [] zsL (View.le_refl _) ?_
    refine ⟨?_, rfl, rfl⟩
    rw [hk]; rfl

theorem past_Entry (σ : View) (pv : Value) (L : List EntD) (i : Int) (h : PastV σ pv L) :
    Tri Tryz.prog 44 #[pv, .int .i64 i] σ [] (fun v σ' H' => ((∃ (k : Nat) (e : EntD) (qv ov : Value), i = (k : Int) ∧ L[k]? = some e ∧ v = .tuple #[.agg (entCells e.id e.node.au e.node.cl qv ov).toArray, .int .i64 0] ∧ NodeR σ' e.node qv ov) ∨ ((i < 0 ∨ (L.length : Int) ≤ i) ∧ v = .tuple #[.agg (entCells 0 0 0 (.slice none 0 0) (.slice none 0 0)).toArray, .int .i64 2])) ∧ H' = []) := by
  obtain ⟨b, mb, lv, sv, rfl, hr, hl, hm, hs⟩ := h
  obtain ⟨la, lc, rfl, hlc, hlb⟩ := hl.shape
  obtain ⟨sa, sc, rfl, hsc, hsb⟩ := hs.shape
  obtain ⟨ab, aoff, hel⟩ := addr_of hl
  refine Tri.of_body [(0, .pointer (some ⟨b, 0, none⟩)), (1, .int .i64 i)] Tryz.func44 rfl Tryz.ntmps44 (by simp) rfl (fun Hr => ?_)
  rw [List.nil_append]
  refine WC.seq ?_
  refine WC.region ?_
  refine WL.new (New.alloc zc_45) (fun b4 => ?_)
  refine WL.pur (Pur.assign rfl) ?_
  refine WL.nil ?_
  refine WQ.thn ?_
  refine WC.seq ?_
  refine WC.seq ?_
  refine WC.region ?_
  refine WL.pur (Pur.move rfl) ?_
  refine' WL.pur (Pur.bin rfl rfl ?h1_0) ?k1
  case h1_0 => first | exact Bin.ltN (b := 0) | exact Bin.ltI | exact Bin.ltS
  refine WL.pur (Pur.move rfl) ?_
  refine' WL.orp (u := 8) (t := 16) rfl ?h2_0 ?h2_1 ?h2_2 rfl ?k2
  case h2_0 =>
    intro hg8 K8
    refine WL.gpur (u := 8) rfl rfl (gF hg8) (Pur.move rfl) ?_
    refine WL.gpur (u := 8) rfl rfl (gF hg8) (Pur.move rfl) ?_
    refine WL.gpur (u := 8) rfl rfl (gF hg8) (Pur.nilCheck rfl) ?_
    refine WL.gpur (u := 8) rfl rfl (gF hg8) (Pur.fieldAddr rfl fo_173_0) ?_
    refine' WL.gpur (u := 8) rfl rfl (gF hg8) (Pur.load1 rfl ty_22 ?h3_0) ?k3
    case h3_0 => first | (apply Rd.own1; exact zmE; rfl) | (apply RdV.rd; apply RdV.idx (i := 0); assumption; rfl)
    refine WL.gpur (u := 8) rfl rfl (gF hg8) (Pur.len rfl isSlice_22) ?_
    refine' WL.gpur (u := 8) rfl rfl (gF hg8) (Pur.bin rfl rfl ?h4_0) ?k4
    case h4_0 => first | exact Bin.geN | exact Bin.geI
    exact K8 _ zcR rfl
  case h2_1 =>
    intro hg8 K8
    refine WL.gskip (u := 8) rfl rfl (sF hg8) ?_
    refine WL.gskip (u := 8) rfl rfl (sF hg8) ?_
    refine WL.gskip (u := 8) rfl rfl (sF hg8) ?_
    refine WL.gskip (u := 8) rfl rfl (sF hg8) ?_
    refine WL.gskip (u := 8) rfl rfl (sF hg8) ?_
    refine WL.gskip (u := 8) rfl rfl (sF hg8) ?_
    refine WL.gskip (u := 8) rfl rfl (sF hg8) ?_
    exact K8 _ zcR
  case h2_2 => exact Wanted.plain rfl
  refine WL.nil ?_
  refine WQ.thn ?_
  first | refine WC.cond rfl (fun hc0 => ?_) (fun hc0 => ?_) | refine WC.condB rfl (fun hc0 => ?_) (fun hc0 => ?_)
  · refine WC.seq ?_
    refine WC.region ?_
    refine WL.pur (Pur.build (l := (entCells 0 0 0 (.slice none 0 0) (.slice none 0 0))) pl_45 zc_45 rfl rfl) ?_
    refine' WL.run0 (Run.storeAll rfl rfl ty_45 ?h5_0 (by first | rfl | assumption) ?h5_1 (by first | rfl | assumption)) ?k5
    case h5_0 => repeat (first | exact Part.one | exact Part.here | apply Part.cons | apply Part.app)
    case h5_1 => first | rfl | assumption
    refine WL.pur (Pur.assign rfl) ?_
    refine WL.nil ?_
    refine WQ.thn ?_
    refine WC.ret ?_
    refine WQ.thn_ret ?_
    refine' WQ.retCT Tryz.results44 rfl rfl ty_45 ?h6_0 ?h6_1 [] zsL (View.le_refl _) ?k6
    case h6_0 => apply Rd.own_sub; exact zmE; exact Sub.refl _
    case h6_1 => rfl
    exact ⟨.inr ⟨by omega, rfl⟩, rfl⟩
  · obtain ⟨k, rfl⟩ : ∃ k : Nat, i = (k : Int) := Int.eq_ofNat_of_zero_le (by omega)
    obtain ⟨e, he⟩ : ∃ e, L[k]? = some e := ⟨_, List.getElem?_eq_getElem (by omega)⟩
    obtain ⟨qv, ov, hrd, heH, hNR⟩ := ent_rd hl hel he
    obtain ⟨pa, pc, rfl, hpc, hpb⟩ := hNR.1.shape
    obtain ⟨oa, oc, rfl, hoc, hob⟩ := hNR.2.1.shape
    refine WC.skip ?_
    refine WQ.thn ?_
    refine WC.seq ?_
    refine WC.region ?_
    refine WL.pur (Pur.move rfl) ?_
    refine WL.pur (Pur.nilCheck rfl) ?_
    refine WL.pur (Pur.fieldAddr rfl fo_173_0) ?_
    refine' WL.pur (Pur.load1 rfl ty_22 ?h7_0) ?k7
    case h7_0 => first | (apply Rd.own1; exact zmE; rfl) | (apply RdV.rd; apply RdV.idx (i := 0); assumption; rfl)
    refine WL.pur (Pur.move rfl) ?_
    refine' WL.pur (Pur.indexAddr (eqA (hel (by omega))) rfl sl_22 ?h8_0) ?k8
    case h8_0 => omega
    refine' WL.pur (Pur.loadN rfl ty_45 ?h9_0 ?h9_1) ?k9
    case h9_0 => exact RdV.rd hrd
    case h9_1 => first | rfl | assumption
    refine WL.call (H0 := []) (Hr := (b4, _) :: Hr) rfl Tryz.call112 (List.Perm.refl _) (past_own _ _ _ _ _ hNR) ?_
    rintro _ σ1 _ ⟨⟨qv2, ov2, rfl, hN2⟩, rfl⟩ hle1
    rw [List.nil_append]
    obtain ⟨pa2, pc2, rfl, _⟩ := hN2.1.shape
    obtain ⟨oa2, oc2, rfl, _⟩ := hN2.2.1.shape
    refine' WL.run0 (Run.storeAll rfl rfl ty_45 ?h10_0 (by first | rfl | assumption) ?h10_1 (by first | rfl | assumption)) ?k10
    case h10_0 => repeat (first | exact Part.one | exact Part.here | apply Part.cons | apply Part.app)
    case h10_1 => first | rfl | assumption
    refine WL.pur (Pur.assign rfl) ?_
    refine WL.nil ?_
    refine WQ.thn ?_
    refine WC.ret ?_
    refine' WQ.retCT Tryz.results44 rfl rfl ty_45 ?h11_0 ?h11_1 [] zsL hle1 ?k11
    case h11_0 => apply Rd.own_sub; exact zmE; exact Sub.refl _
    case h11_1 => rfl
    exact ⟨.inl ⟨k, e, _, _, rfl, he, rfl, hN2⟩, rfl⟩

end Go.Proofs.YtgoooilgmabkmaaGreat
namespace Go.Proofs.YtgoooilgmabkmaaGreat
open Go Go.Sl
set_option linter.unusedVariables false
set_option linter.unusedSimpArgs false
set_option maxRecDepth 100000

theorem r11_Number (σ : View) (pv : Value) (L : List EntD) (id : Nat) (h : R11V σ pv L) (ho : OrdOk L) (hid : IsH id) :
    TriP Tryz.prog 37 #[pv, hashV id] σ (.int .i64 (numV (idxOf L id))) := by
  obtain ⟨b, plv, psv, pqv, rfl, hr, hE, hS, hQ⟩ := h
  obtain ⟨pla, plc, rfl, hplc, hplb⟩ := hE.shape
  obtain ⟨qa, qc, rfl, hqc, hqb⟩ := hQ.shape
  refine Tri.of_body [(0, .pointer (some ⟨b, 0, none⟩)), (1, hashV id)] Tryz.func37 rfl Tryz.ntmps37 (by simp) rfl (fun Hr => ?_)
  rw [List.nil_append]
  refine WC.seq ?_
  refine WC.region ?_
  refine WL.new (New.boxN rfl) (fun b3 => ?_)
  refine WL.pur (Pur.assign rfl) ?_
  refine WL.nil ?_
  refine WQ.thn ?_
  refine WC.seq ?_
  refine WC.drawH 11 11 mixed (by kernel_rfl) rfl ?_
  refine SA.take 0 (by kernel_rfl) rfl rfl rfl (Wanted.plain rfl) zsL (View.le_refl _) (Pur.move rfl) ?_
  refine SA.take 1 (by kernel_rfl) rfl rfl rfl (Wanted.plain rfl) zsL (View.le_refl _) (Pur.nilCheck rfl) ?_
  refine SA.take 2 (by kernel_rfl) rfl rfl rfl (Wanted.plain rfl) zsL (View.le_refl _) (Pur.fieldAddr rfl fo_74_0) ?_
  refine' SA.take 3 (by kernel_rfl) rfl rfl rfl (Wanted.plain rfl) zsL (View.le_refl _) (Pur.load1 rfl ty_22 ?h1_0) ?k1
  case h1_0 => first | (apply Rd.own1; exact zmE; rfl) | (apply RdV.rd; apply RdV.idx (i := 0); assumption; rfl)
  refine SA.take 4 (by kernel_rfl) rfl rfl rfl (Wanted.plain rfl) zsL (View.le_refl _) (Pur.move rfl) ?_
  refine SA.take 5 (by kernel_rfl) rfl rfl rfl (Wanted.plain rfl) zsL (View.le_refl _) (Pur.nilCheck rfl) ?_
  refine SA.take 6 (by kernel_rfl) rfl rfl rfl (Wanted.plain rfl) zsL (View.le_refl _) (Pur.fieldAddr rfl fo_74_2) ?_
  refine' SA.take 7 (by kernel_rfl) rfl rfl rfl (Wanted.plain rfl) zsL (View.le_refl _) (Pur.load1 rfl ty_72 ?h2_0) ?k2
  case h2_0 => first | (apply Rd.own1; exact zmE; rfl) | (apply RdV.rd; apply RdV.idx (i := 2); assumption; rfl) | (apply RdV.rd; apply RdV.idx (off := 0) (i := 2); assumption; rfl)
  refine' SA.take 8 (by kernel_rfl) rfl rfl rfl (Wanted.plain rfl) zsL (View.le_refl _) (Pur.loadN rfl ty_39 ?h3_0 ?h3_1) ?k3
  case h3_0 => first | (apply Rd.own_sub; exact zmE; exact Sub.refl _) | (apply RdV.rd; assumption)
  case h3_1 => first | rfl | assumption
  refine SA.callP 9 rfl rfl (Wanted.plain rfl) (by kernel_rfl) rfl Tryz.call97 zsL (View.le_refl _) (r11_find _ _ _ L _ id hE hQ (rankL_ranked _) ho.nodup hid) ?_
  refine SA.take 10 (by kernel_rfl) rfl rfl rfl (Wanted.plain rfl) zsL (View.le_refl _) (Pur.assign rfl) ?_
  refine SA.done (by kernel_rfl) ?_
  refine WQ.thn ?_
  refine WC.ret ?_
  refine WQ.ret1 Tryz.results37 rfl [] zsL (View.le_refl _) ?_
  refine ⟨?_, rfl, rfl⟩
  rfl

theorem r11_Heads (σ : View) (pv : Value) (L : List EntD) (h : R11V σ pv L) (ho : OrdOk L) :
    Tri Tryz.prog 107 #[pv] σ [] (fun v σ' H' => (∃ h, SlO σ eHash 39 32 v (headsL L) h ∧ H' = h) ∧ σ' = σ) := by
  obtain ⟨b, plv, psv, pqv, rfl, hr, hE, hS, hQ⟩ := h
  obtain ⟨pla, plc, rfl, hplc, hplb⟩ := hE.shape
  obtain ⟨plb, ploff, hel⟩ := addr_of hE
  have hmost := ho.most
  obtain ⟨psa, psc, rfl, hpsc, hpsb⟩ := hS.shape
  obtain ⟨sb, soff, hes, hsat⟩ := hS.rds
  rw [List.length_range] at hes
  obtain ⟨qa, qc, rfl, hqc, hqb⟩ := hQ.shape
  obtain ⟨qb, qoff, heq⟩ := addr_of hQ
  have hlr : (List.range L.length).length = L.length := List.length_range
  have hrl := rankL_len L 0 L.length
  refine Tri.of_body [(0, .pointer (some ⟨b, 0, none⟩))] Tryz.func107 rfl Tryz.ntmps107 (by simp) rfl (fun Hr => ?_)
  rw [List.nil_append]
  refine WC.seq ?_
  refine WC.region ?_
  refine WL.pur (Pur.assign rfl) ?_
  refine WL.nil ?_
  refine WQ.thn ?_
  refine WC.seq ?_
  refine WC.region ?_
  refine WL.pur (Pur.move rfl) ?_
  refine WL.pur (Pur.nilCheck rfl) ?_
  refine WL.pur (Pur.fieldAddr rfl fo_74_0) ?_
  refine' WL.pur (Pur.load1 rfl ty_22 ?h1_0) ?k1
  case h1_0 => first | (apply Rd.own1; exact zmE; rfl) | (apply RdV.rd; apply RdV.idx (i := 0); assumption; rfl)
  refine WL.pur (Pur.len rfl isSlice_22) ?_
  refine' WL.pur (Pur.bin rfl rfl ?h2_0) ?k2
  case h2_0 => first | (refine Bin.addN (b := 63) ?_; omega) | (refine Bin.addI ?_; omega)
  refine' WL.pur (Pur.bin rfl rfl ?h3_0) ?k3
  case h3_0 => first | (refine Bin.quoN (b := 64) ?_ ?_ <;> omega)
  refine WL.any (Any.make1 sl_151 zc_60 by_60 rfl rfl (by omega) (by omega)) ?_
  rintro _ σ _ ⟨b16, rfl, rfl, rfl⟩ _
  refine WL.pur (Pur.assign rfl) ?_
  refine WL.nil ?_
  refine WQ.thn ?_
  refine WC.seq ?_
  refine WC.seq ?_
  refine WC.region ?_
  refine WL.pur (Pur.assign rfl) ?_
  refine WL.nil ?_
  refine WQ.thn ?_
  refine WC.block ?_
  rw [words_zero]
  refine WC.loop (fun j m σ' H' => ∃ i : Nat, j = L.length - i ∧ i ≤ L.length ∧ m = [(0, .pointer (some ⟨b, 0, none⟩)), (3, .slice (some ⟨b16, 0, none⟩) ((L.length + 63) / 64) ((L.length + 63) / 64)), (4, .int .i64 (i : Int))] ∧ σ' = σ ∧ H' = (b16, rowO 60 ((List.range ((L.length + 63) / 64)).map (wordV (orRow L i)))) :: Hr) ⟨0, rfl, by omega, rfl, rfl, rfl⟩ zcV zsL ?_
  rintro _ _ σ Hr ⟨i, rfl, hi, rfl, rfl, rfl⟩
  refine WC.seq ?_
  refine WC.seq ?_
  refine WC.region ?_
  refine WL.pur (Pur.move rfl) ?_
  refine WL.pur (Pur.move rfl) ?_
  refine WL.pur (Pur.nilCheck rfl) ?_
  refine WL.pur (Pur.fieldAddr rfl fo_74_0) ?_
  refine' WL.pur (Pur.load1 rfl ty_22 ?h4_0) ?k4
  case h4_0 => first | (apply Rd.own1; exact zmE; rfl) | (apply RdV.rd; apply RdV.idx (i := 0); assumption; rfl)
  refine WL.pur (Pur.len rfl isSlice_22) ?_
  refine' WL.pur (Pur.bin rfl rfl ?h5_0) ?k5
  case h5_0 => first | exact Bin.ltN | exact Bin.ltI | exact Bin.ltS
  refine WL.nil ?_
  refine WQ.thn ?_
  first | refine WC.cond rfl (fun hc0 => ?_) (fun hc0 => ?_) | refine WC.condB rfl (fun hc0 => ?_) (fun hc0 => ?_)
  · obtain ⟨vs, _, _, ⟨wv, rfl, _, hw⟩, hwr⟩ := hsat i i (List.getElem?_range hc0)
    obtain ⟨wa, wc, rfl, hwc, hwb⟩ := hw.shape
    obtain ⟨wb, woff, hew, hwat⟩ := hw.rds
    have hwl := wordsN_len L i
    refine WC.skip ?_
    refine WQ.thn ?_
    refine WC.seq ?_
    refine WC.block ?_
    refine WC.seq ?_
    refine WC.region ?_
    refine WL.pur (Pur.assign rfl) ?_
    refine WL.nil ?_
    refine WQ.thn ?_
    refine WC.block ?_
    refine WC.loop (fun j m σ' H' => ∃ u : Nat, j = ((L.length + 63) / 64) - u ∧ u ≤ ((L.length + 63) / 64) ∧ m = [(0, .pointer (some ⟨b, 0, none⟩)), (3, .slice (some ⟨b16, 0, none⟩) ((L.length + 63) / 64) ((L.length + 63) / 64)), (4, .int .i64 (i : Int)), (5, .int .i64 (u : Int))] ∧ σ' = σ ∧ H' = (b16, rowO 60 ((List.range ((L.length + 63) / 64)).map (wordUpTo (orRow L i) ((rowsN L L.length).getD i 0) u))) :: Hr) ⟨0, rfl, by omega, rfl, rfl, by rw [wordUp_zero]⟩ zcV zsL ?_
    rintro _ _ σ Hr ⟨u, rfl, hu, rfl, rfl, rfl⟩
    refine WC.seq ?_
    refine WC.seq ?_
    refine WC.region ?_
    refine WL.pur (Pur.move rfl) ?_
    refine WL.pur (Pur.move rfl) ?_
    refine WL.pur (Pur.len rfl isSlice_151) ?_
    refine' WL.pur (Pur.bin rfl rfl ?h6_0) ?k6
    case h6_0 => first | exact Bin.ltN | exact Bin.ltI | exact Bin.ltS
    refine WL.nil ?_
    refine WQ.thn ?_
    first | refine WC.cond rfl (fun hc1 => ?_) (fun hc1 => ?_) | refine WC.condB rfl (fun hc1 => ?_) (fun hc1 => ?_)
    · have hww := wordsN_get (L := L) (j := i) hc1
      obtain ⟨ws, _, _, rfl, hwd⟩ := hwat _ _ hww
      refine WC.skip ?_
      refine WQ.thn ?_
      refine WC.seq ?_
      refine WC.block ?_
      refine WC.drawH 15 17 mixed (by kernel_rfl) rfl ?_
      refine SA.takeW 0 (by kernel_rfl) rfl rfl rfl (Wanted.plain rfl) (tells_move rfl) ?_
      refine SA.takeW 1 (by kernel_rfl) rfl rfl rfl (Wanted.plain rfl) (tells_move rfl) ?_
      refine' SA.takeP 2 (by kernel_rfl) rfl rfl rfl (Wanted.plain rfl) (fun _ _ => Pur.indexAddr rfl rfl sl_151 ?h7_0) ?k7
      case h7_0 => omega
      refine' SA.take 3 (by kernel_rfl) rfl rfl rfl (Wanted.plain rfl) zsL (View.le_refl _) (Pur.load1 rfl ty_60 ?h8_0) ?k8
      case h8_0 => apply Rd.own1; exact zmE; exact (get_range_map1 hc1).trans (congrArg some wordUp_at)
      refine SA.takeW 4 (by kernel_rfl) rfl rfl rfl (Wanted.plain rfl) (tells_move rfl) ?_
      refine SA.takeP 5 (by kernel_rfl) rfl rfl rfl (Wanted.plain rfl) (fun _ _ => Pur.nilCheck rfl) ?_
      refine SA.takeP 6 (by kernel_rfl) rfl rfl rfl (Wanted.plain rfl) (fun _ _ => Pur.fieldAddr rfl fo_74_1) ?_
      refine' SA.take 7 (by kernel_rfl) rfl rfl rfl (Wanted.plain rfl) zsL (View.le_refl _) (Pur.load1 rfl ty_71 ?h9_0) ?k9
      case h9_0 => first | (apply Rd.own1; exact zmE; rfl) | (apply RdV.rd; apply RdV.idx (i := 1); assumption; rfl) | (apply RdV.rd; apply RdV.idx (off := 0) (i := 1); assumption; rfl)
      refine SA.takeW 8 (by kernel_rfl) rfl rfl rfl (Wanted.plain rfl) (tells_move rfl) ?_
      refine' SA.takeP 9 (by kernel_rfl) rfl rfl rfl (Wanted.plain rfl) (fun _ _ => Pur.indexAddr (eqA (hes (by omega))) rfl sl_71 ?h10_0) ?k10
      case h10_0 => omega
      refine' SA.take 10 (by kernel_rfl) rfl rfl rfl (Wanted.plain rfl) zsL (View.le_refl _) (Pur.load1 rfl ty_151 ?h11_0) ?k11
      case h11_0 => exact RdV.rd hwr
      refine SA.takeW 11 (by kernel_rfl) rfl rfl rfl (Wanted.plain rfl) (tells_move rfl) ?_
      refine' SA.takeP 12 (by kernel_rfl) rfl rfl rfl (Wanted.plain rfl) (fun _ _ => Pur.indexAddr (eqA (hew (by omega))) rfl sl_151 ?h12_0) ?k12
      case h12_0 => omega
      refine' SA.take 13 (by kernel_rfl) rfl rfl rfl (Wanted.plain rfl) zsL (View.le_refl _) (Pur.load1 rfl ty_60 ?h13_0) ?k13
      case h13_0 => exact RdV.rd hwd
      refine' SA.takeP 14 (by kernel_rfl) rfl rfl rfl (Wanted.plain rfl) (fun _ _ => Pur.bin rfl rfl ?h14_0) ?k14
      case h14_0 => exact Bin.orU (wordN_lt _ _) (wordN_lt _ _)
      refine' SA.run 15 rfl (fun _ e => by cases e; rfl) (Wanted.plain rfl) (by kernel_rfl) (Pur.run (Pur.indexAddr rfl rfl sl_151 ?h15_0)) (.inl (by decide)) ?k15
      case h15_0 => omega
      refine' SA.run 16 rfl (fun _ e => by cases e) (Wanted.plain rfl) (by kernel_rfl) (Run.storeF rfl rfl ty_60 (by first | rfl | assumption) ?h16_0 ?h16_1 sz_60) (.inl (by decide)) ?k16
      case h16_0 => repeat (first | exact Part.one | exact Part.here | apply Part.cons | apply Part.app)
      case h16_1 => first | assumption | omega
      refine SA.done (by kernel_rfl) ?_
      refine WQ.blk ?_
      refine WQ.thn ?_
      refine WC.region ?_
      refine WL.pur (Pur.move rfl) ?_
      refine' WL.pur (Pur.bin rfl rfl ?h17_0) ?k17
      case h17_0 => first | (refine Bin.addN (b := 1) ?_; omega) | (refine Bin.addI ?_; omega)
      refine WL.pur (Pur.assign rfl) ?_
      refine WL.nil ?_
      rw [wordUp_step]
      refine WQ.back _ ⟨u + 1, rfl, by omega, rfl, rfl, rfl⟩ (by omega) zcV zsL
    · have huu : u = ((L.length + 63) / 64) := by omega
      subst huu
      rw [wordUp_all, orRow_succ hc0]
      refine WC.exit ?_
      refine WQ.thn_exit ?_
      refine WQ.back_exit ?_
      refine WQ.blk_here ?_
      refine WQ.blk ?_
      refine WQ.thn ?_
      refine WC.region ?_
      refine WL.pur (Pur.move rfl) ?_
      refine' WL.pur (Pur.bin rfl rfl ?h18_0) ?k18
      case h18_0 => first | (refine Bin.addN (b := 1) ?_; omega) | (refine Bin.addI ?_; omega)
      refine WL.pur (Pur.assign rfl) ?_
      refine WL.nil ?_
      refine WQ.back _ ⟨i + 1, rfl, by omega, rfl, rfl, rfl⟩ (by omega) zcV zsL
  · have hil : i = L.length := by omega
    subst hil
    refine WC.exit ?_
    refine WQ.thn_exit ?_
    refine WQ.back_exit ?_
    refine WQ.blk_here ?_
    refine WQ.thn ?_
    refine WC.seq ?_
    refine WC.region ?_
    refine WL.new (New.buildSlice0 sl_41) (fun b48 => ?_)
    refine WL.pur (Pur.assign rfl) ?_
    refine WL.nil ?_
    refine WQ.thn ?_
    refine WC.seq ?_
    refine WC.seq ?_
    refine WC.region ?_
    refine WL.pur (Pur.assign rfl) ?_
    refine WL.nil ?_
    refine WQ.thn ?_
    refine WC.block ?_
    refine WC.loop (fun j m σ' H' => ∃ (s : Nat) (sv : Value) (hh : HList), j = (rankL L 0 L.length).length - s ∧ s ≤ (rankL L 0 L.length).length ∧ SlO σ eHash 39 32 sv (hUp L s) hh ∧ m = [(0, .pointer (some ⟨b, 0, none⟩)), (3, .slice (some ⟨b16, 0, none⟩) ((L.length + 63) / 64) ((L.length + 63) / 64)), (6, sv), (7, .int .i64 (s : Int))] ∧ σ' = σ ∧ H' = hh ++ ((b16, rowO 60 ((List.range ((L.length + 63) / 64)).map (wordV (orRow L L.length)))) :: Hr)) ⟨0, _, [(b48, rowO 39 [])], rfl, by omega, by rw [hUp_zero]; exact SlO.row (b := b48) (ElR.nil (σ := σ) (E := eHash) (sz := 32)), rfl, rfl, rfl⟩ zcV zsL ?_
    rintro _ _ σ Hr ⟨s, sv, hh, rfl, hs, hso, rfl, rfl, rfl⟩
    refine WC.seq ?_
    refine WC.seq ?_
    refine WC.region ?_
    refine WL.pur (Pur.move rfl) ?_
    refine WL.pur (Pur.move rfl) ?_
    refine WL.pur (Pur.nilCheck rfl) ?_
    refine WL.pur (Pur.fieldAddr rfl fo_74_2) ?_
    refine' WL.pur (Pur.load1 rfl ty_72 ?h19_0) ?k19
    case h19_0 => first | (apply Rd.own1; exact zmE; rfl) | (apply RdV.rd; apply RdV.idx (i := 2); assumption; rfl) | (apply RdV.rd; apply RdV.idx (off := 0) (i := 2); assumption; rfl)
    refine WL.pur (Pur.len rfl isSlice_72) ?_
    refine' WL.pur (Pur.bin rfl rfl ?h20_0) ?k20
    case h20_0 => first | exact Bin.ltN | exact Bin.ltI | exact Bin.ltS
    refine WL.nil ?_
    refine WQ.thn ?_
    first | refine WC.cond rfl (fun hc2 => ?_) (fun hc2 => ?_) | refine WC.condB rfl (fun hc2 => ?_) (fun hc2 => ?_)
    · obtain ⟨k, hk⟩ : ∃ k, (rankL L 0 L.length)[s]? = some k := ⟨_, List.getElem?_eq_getElem hc2⟩
      have hkl : k < L.length := (rankL_mem.1 (List.mem_of_getElem? hk)).2
      have hkr := natE_rd hQ heq hk
      have hkW : k / 64 < ((L.length + 63) / 64) := by omega
      have hwlt := wordN_lt (orRow L L.length) (k / 64)
      have hdl := Nat.div_le_self (wordN (orRow L L.length) (k / 64)) (2 ^ (k % 64))
      refine WC.skip ?_
      refine WQ.thn ?_
      refine WC.seq ?_
      refine WC.block ?_
      refine WC.seq ?_
      refine WC.region ?_
      refine WL.pur (Pur.move rfl) ?_
      refine WL.pur (Pur.nilCheck rfl) ?_
      refine WL.pur (Pur.fieldAddr rfl fo_74_2) ?_
      refine' WL.pur (Pur.load1 rfl ty_72 ?h21_0) ?k21
      case h21_0 => first | (apply Rd.own1; exact zmE; rfl) | (apply RdV.rd; apply RdV.idx (i := 2); assumption; rfl) | (apply RdV.rd; apply RdV.idx (off := 0) (i := 2); assumption; rfl)
      refine WL.pur (Pur.move rfl) ?_
      refine' WL.pur (Pur.indexAddr (eqA (heq (by omega))) rfl sl_72 ?h22_0) ?k22
      case h22_0 => omega
      refine' WL.pur (Pur.load1 rfl ty_3 ?h23_0) ?k23
      case h23_0 => exact RdV.rd hkr
      refine WL.pur (Pur.assign rfl) ?_
      refine WL.nil ?_
      refine WQ.thn ?_
      refine WC.seq ?_
      refine WC.region ?_
      refine WL.pur (Pur.move rfl) ?_
      refine WL.pur (Pur.move rfl) ?_
      refine' WL.pur (Pur.bin rfl rfl ?h24_0) ?k24
      case h24_0 => first | (refine Bin.quoN (b := 64) ?_ ?_ <;> omega)
      refine' WL.pur (Pur.indexAddr rfl rfl sl_151 ?h25_0) ?k25
      case h25_0 => omega
      refine' WL.pur (Pur.load1 rfl ty_60 ?h26_0) ?k26
      case h26_0 => apply Rd.own1; exact zmE; exact get_range_map1 hkW
      refine WL.pur (Pur.move rfl) ?_
      refine' WL.pur (Pur.bin rfl rfl ?h27_0) ?k27
      case h27_0 => first | (refine Bin.remN (b := 64) ?_; omega)
      refine' WL.pur (Pur.bin rfl rfl ?h28_0) ?k28
      case h28_0 => first | (refine Bin.shrU ?_; omega)
      refine' WL.pur (Pur.bin rfl rfl ?h29_0) ?k29
      case h29_0 => first | (refine Bin.andU (b := 1) ?_ ?_ <;> omega)
      refine' WL.pur (Pur.bin rfl rfl ?h30_0) ?k30
      case h30_0 => first | exact Bin.eqN (b := 0) | exact Bin.eqI
      refine WL.nil ?_
      refine WQ.thn ?_
      first | refine WC.cond rfl (fun hc3 => ?_) (fun hc3 => ?_) | refine WC.condB rfl (fun hc3 => ?_) (fun hc3 => ?_)
      · have htop := (orRow_ask ho).1 hc3
        obtain ⟨e, he⟩ : ∃ e, L[k]? = some e := ⟨_, List.getElem?_eq_getElem hkl⟩
        obtain ⟨qv, ov, hrd, heH, hNR⟩ := ent_rd hE hel he
        have hid : idAt L k = e.id := idAt_of he
        have hul := hUp_len L s
        refine WC.region ?_
        refine WL.pur (Pur.move rfl) ?_
        refine WL.pur (Pur.move rfl) ?_
        refine WL.pur (Pur.nilCheck rfl) ?_
        refine WL.pur (Pur.fieldAddr rfl fo_74_0) ?_
        refine' WL.pur (Pur.load1 rfl ty_22 ?h31_0) ?k31
        case h31_0 => first | (apply Rd.own1; exact zmE; rfl) | (apply RdV.rd; apply RdV.idx (i := 0); assumption; rfl)
        refine WL.pur (Pur.move rfl) ?_
        refine' WL.pur (Pur.indexAddr (eqA (hel (by omega))) rfl sl_22 ?h32_0) ?k32
        case h32_0 => omega
        refine WL.pur (Pur.fieldAddr rfl fo_45_0) ?_
        refine' WL.pur (Pur.loadN rfl ty_39 ?h33_0 ?h33_1) ?k33
        case h33_0 => (apply RdV.rd; apply RdV.sub0; exact hrd; exact Sub.ent_hash _ _ _ _ _)
        case h33_1 => first | rfl | assumption
        refine WL.new (New.buildSliceN (xs := [.tmp 83]) (vss := [hashCells e.id]) sl_41 zc_39 rfl rfl rfl (by rfl) (by rfl)) (fun b84 => ?_)
        refine' WL.any (Any.push (H1 := [(b84, _)]) (H2 := (b16, _) :: Hr) sl_41 zc_39 rfl by_39 rfl rfl hso ?h34_0 ?h34_1 ?h34_2 ?h34_3 rfl (by omega) (by omega)) ?k34
        case h34_0 => apply Rd.own_sub; exact zmE; exact Sub.refl _
        case h34_1 => first | rfl | assumption
        case h34_2 => first | rfl | assumption
        case h34_3 => exact ⟨rfl, heH⟩
        rintro v85 σ _ ⟨hh2, hso2, rfl, rfl⟩ _
        refine WL.pur (Pur.assign rfl) ?_
        refine WL.nil ?_
        refine WQ.blk ?_
        refine WQ.thn ?_
        refine WC.region ?_
        refine WL.pur (Pur.move rfl) ?_
        refine' WL.pur (Pur.bin rfl rfl ?h35_0) ?k35
        case h35_0 => first | (refine Bin.addN (b := 1) ?_; omega) | (refine Bin.addI ?_; omega)
        refine WL.pur (Pur.assign rfl) ?_
        refine WL.nil ?_
        refine WQ.back _ ⟨s + 1, _, _, rfl, by omega, by rw [hUp_step hk, if_pos htop, hid]; exact hso2, rfl, rfl, rfl⟩ (by omega) zcV zsL
      · have htop : ¬ topB L k = true := fun h => hc3 ((orRow_ask ho).2 h)
        refine WC.skip ?_
        refine WQ.blk ?_
        refine WQ.thn ?_
        refine WC.region ?_
        refine WL.pur (Pur.move rfl) ?_
        refine' WL.pur (Pur.bin rfl rfl ?h36_0) ?k36
        case h36_0 => first | (refine Bin.addN (b := 1) ?_; omega) | (refine Bin.addI ?_; omega)
        refine WL.pur (Pur.assign rfl) ?_
        refine WL.nil ?_
        refine WQ.back _ ⟨s + 1, sv, hh, rfl, by omega, by rw [hUp_step hk, if_neg htop, List.append_nil]; exact hso, rfl, rfl, rfl⟩ (by omega) zcV zsL
    · rw [hUp_all (by omega)] at hso
      refine WC.exit ?_
      refine WQ.thn_exit ?_
      refine WQ.back_exit ?_
      refine WQ.blk_here ?_
      refine WQ.thn ?_
      refine WC.seq ?_
      refine WC.region ?_
      refine WL.pur (Pur.move rfl) ?_
      refine WL.pur (Pur.assign rfl) ?_
      refine WL.nil ?_
      refine WQ.thn ?_
      refine WC.ret ?_
      refine WQ.ret1 Tryz.results107 rfl hh zsL (View.le_refl _) ?_
      exact ⟨⟨_, hso, rfl⟩, rfl⟩

theorem r11_Behind (σ : View) (pv ov : Value) (L : List EntD) (id : Nat) (ops : List OpD) (h : R11V σ pv L) (ho : OrdOk L) (hid : IsH id) (hops : SlE σ eOp 37 88 ov ops) :
    Tri Tryz.prog 30 #[pv, hashV id, ov] σ [] (fun v σ' H' => (∃ hv, v = .tuple #[.agg (entCells id 1 (clB L) hv ov).toArray, .bool (decide (mayB L id ops))] ∧ NodeR σ' (behindE L id ops).node hv ov) ∧ H' = []) := by
  have h' := h
  obtain ⟨b, plv, psv, pqv, rfl, hr, hE, hS, hQ⟩ := h
  obtain ⟨pla, plc, rfl, hplc, hplb⟩ := hE.shape
  obtain ⟨plb, ploff, hel⟩ := addr_of hE
  have hmost := ho.most
  obtain ⟨oa, oc, rfl, hoc, hob⟩ := hops.shape
  have hhl := heads_len L
  refine Tri.of_body [(0, .pointer (some ⟨b, 0, none⟩)), (1, hashV id), (2, .slice oa ops.length oc)] Tryz.func30 rfl Tryz.ntmps30 (by simp) rfl (fun Hr => ?_)
  rw [List.nil_append]
  refine WC.seq ?_
  refine WC.region ?_
  refine WL.new (New.boxN rfl) (fun b4 => ?_)
  refine WL.new (New.alloc zc_45) (fun b6 => ?_)
  refine WL.pur (Pur.assign rfl) ?_
  refine WL.nil ?_
  refine WQ.thn ?_
  refine WC.seq ?_
  refine WC.drawH 7 8 mixed (by kernel_rfl) rfl ?_
  refine' SA.take 0 (by kernel_rfl) rfl rfl rfl (Wanted.plain rfl) zsL (View.le_refl _) (Pur.loadN rfl ty_39 ?h1_0 ?h1_1) ?k1
  case h1_0 => first | (apply Rd.own_sub; exact zmE; exact Sub.refl _) | (apply RdV.rd; assumption)
  case h1_1 => first | rfl | assumption
  refine SA.takeW 1 (by kernel_rfl) rfl rfl rfl (Wanted.plain rfl) (tells_move rfl) ?_
  refine SA.takeW 3 (by kernel_rfl) rfl rfl rfl (Wanted.plain rfl) (tells_move rfl) ?_
  refine SA.two 2 6 (by kernel_rfl) ?_ ?_
  · refine SStep.callR 2 (H1 := []) rfl rfl (Wanted.plain rfl) rfl Tryz.call107 (List.Perm.refl _) (.inr ⟨(by first | exact List.Sublist.refl _ | exact List.sublist_cons_self _ _), View.le_refl _⟩) (r11_Heads _ _ L h' ho) ?_
    rintro v13 σ _ ⟨⟨hh, hsH, rfl⟩, rfl⟩ _
    obtain ⟨ha, hc, rfl, hhc⟩ := hsH.shape
    refine SA.takeP 4 (by kernel_rfl) rfl rfl rfl (Wanted.plain rfl) (fun _ _ => Pur.build (l := nodeCells 1 1 (.slice ha (headsL L).length hc) (.slice oa ops.length oc)) pl_43 zc_43 rfl rfl) ?_
    refine SA.takeP 5 (by kernel_rfl) rfl rfl rfl (Wanted.plain rfl) (fun _ _ => Pur.build (l := (entCells id 1 1 (.slice ha (headsL L).length hc) (.slice oa ops.length oc))) pl_45 zc_45 rfl rfl) ?_
    refine SA.new 6 rfl rfl rfl (Wanted.plain rfl) (by kernel_rfl) (New.alloc zc_45) (.inr ⟨zsL, View.le_refl _⟩) (fun b8 => ?_)
    refine' SA.run 7 rfl (fun _ e => by cases e) (Wanted.plain rfl) (by kernel_rfl) (Run.storeAll rfl rfl ty_45 ?h2_0 (by first | rfl | assumption) ?h2_1 (by first | rfl | assumption)) (.inl (by decide)) ?k2
    case h2_0 => repeat (first | exact Part.one | exact Part.here | apply Part.cons | apply Part.app)
    case h2_1 => first | rfl | assumption
    refine SA.done (by kernel_rfl) ?_
    refine WQ.thn ?_
    refine WC.seq ?_
    refine WC.seq ?_
    refine WC.region ?_
    refine WL.pur (Pur.assign rfl) ?_
    refine WL.nil ?_
    refine WQ.thn ?_
    refine WC.block ?_
    first | refine WC.giveS (byt := 32) (H1 := [(b8, _)]) (H2 := (b6, rowO 45 (entCells 0 0 0 (.slice none 0 0) (.slice none 0 0))) :: (b4, rowO 39 (hashCells id)) :: Hr) eHash_mono hsH (by omega) rfl (fun σ hle1 hs1 => ?_) | refine WC.giveS (byt := 32) (H1 := []) (H2 := (b8, _) :: (b6, rowO 45 (entCells 0 0 0 (.slice none 0 0) (.slice none 0 0))) :: (b4, rowO 39 (hashCells id)) :: Hr) eHash_mono hsH (by omega) rfl (fun σ hle1 hs1 => ?_)
    first | rw [List.singleton_append] | rw [List.nil_append]
    have hE1 := hE.mono eEnt_mono hle1
    have hops1 := hops.mono eOp_mono hle1
    have hr1 := hr.mono hle1
    have h1' := h'.mono hle1
    refine WC.loop (fun j m σ' H' => ∃ i : Nat, j = L.length - i ∧ i ≤ L.length ∧ m = [(0, .pointer (some ⟨b, 0, none⟩)), (4, .pointer (some ⟨b4, 0, none⟩)), (6, .pointer (some ⟨b6, 0, none⟩)), (8, .pointer (some ⟨b8, 0, none⟩)), (9, .int .i64 (i : Int))] ∧ σ' = σ ∧ H' = (b8, rowO 45 (entCells id 1 (clUp L i) (.slice ha (headsL L).length hc) (.slice oa ops.length oc))) :: (b6, rowO 45 (entCells 0 0 0 (.slice none 0 0) (.slice none 0 0))) :: (b4, rowO 39 (hashCells id)) :: Hr) ⟨0, rfl, by omega, rfl, rfl, by rw [clUp_zero]⟩ zcV zsL ?_
    rintro _ _ σ Hr ⟨i, rfl, hi, rfl, rfl, rfl⟩
    refine WC.seq ?_
    refine WC.seq ?_
    refine WC.region ?_
    refine WL.pur (Pur.move rfl) ?_
    refine WL.pur (Pur.move rfl) ?_
    refine WL.pur (Pur.nilCheck rfl) ?_
    refine WL.pur (Pur.fieldAddr rfl fo_74_0) ?_
    refine' WL.pur (Pur.load1 rfl ty_22 ?h3_0) ?k3
    case h3_0 => first | (apply Rd.own1; exact zmE; rfl) | (apply RdV.rd; apply RdV.idx (i := 0); assumption; rfl)
    refine WL.pur (Pur.len rfl isSlice_22) ?_
    refine' WL.pur (Pur.bin rfl rfl ?h4_0) ?k4
    case h4_0 => first | exact Bin.ltN | exact Bin.ltI | exact Bin.ltS
    refine WL.nil ?_
    refine WQ.thn ?_
    first | refine WC.cond rfl (fun hc0 => ?_) (fun hc0 => ?_) | refine WC.condB rfl (fun hc0 => ?_) (fun hc0 => ?_)
    · obtain ⟨e, he⟩ : ∃ e, L[i]? = some e := ⟨_, List.getElem?_eq_getElem (by omega)⟩
      obtain ⟨qv, ov, hrd, heH, hNR⟩ := ent_rd hE1 hel he
      have hcb := (nodeErr_zero (ho.node e (List.mem_of_getElem? he))).2.1
      refine WC.skip ?_
      refine WQ.thn ?_
      refine WC.seq ?_
      refine WC.block ?_
      refine WC.seq ?_
      refine WC.drawH 13 13 mixed (by kernel_rfl) rfl ?_
      refine SA.take 0 (by kernel_rfl) rfl rfl rfl (Wanted.plain rfl) zsL (View.le_refl _) (Pur.move rfl) ?_
      refine SA.take 1 (by kernel_rfl) rfl rfl rfl (Wanted.plain rfl) zsL (View.le_refl _) (Pur.nilCheck rfl) ?_
      refine SA.take 2 (by kernel_rfl) rfl rfl rfl (Wanted.plain rfl) zsL (View.le_refl _) (Pur.fieldAddr rfl fo_74_0) ?_
      refine' SA.take 3 (by kernel_rfl) rfl rfl rfl (Wanted.plain rfl) zsL (View.le_refl _) (Pur.load1 rfl ty_22 ?h5_0) ?k5
      case h5_0 => first | (apply Rd.own1; exact zmE; rfl) | (apply RdV.rd; apply RdV.idx (i := 0); assumption; rfl)
      refine SA.take 4 (by kernel_rfl) rfl rfl rfl (Wanted.plain rfl) zsL (View.le_refl _) (Pur.move rfl) ?_
      refine' SA.take 5 (by kernel_rfl) rfl rfl rfl (Wanted.plain rfl) zsL (View.le_refl _) (Pur.indexAddr (eqA (hel (by omega))) rfl sl_22 ?h6_0) ?k6
      case h6_0 => omega
      refine SA.take 6 (by kernel_rfl) rfl rfl rfl (Wanted.plain rfl) zsL (View.le_refl _) (Pur.fieldAddr rfl fo_45_1) ?_
      refine SA.take 7 (by kernel_rfl) rfl rfl rfl (Wanted.plain rfl) zsL (View.le_refl _) (Pur.fieldAddr rfl fo_43_1) ?_
      refine' SA.take 8 (by kernel_rfl) rfl rfl rfl (Wanted.plain rfl) zsL (View.le_refl _) (Pur.load1 rfl ty_3 ?h7_0) ?k7
      case h7_0 => first | (apply Rd.own1; exact zmE; rfl) | (apply RdV.rd; apply RdV.idx (i := 33); assumption; rfl) | (apply RdV.rd; apply RdV.idx (off := 0) (i := 33); assumption; rfl)
      refine SA.take 9 (by kernel_rfl) rfl rfl rfl (Wanted.plain rfl) zsL (View.le_refl _) (Pur.fieldAddr rfl fo_45_1) ?_
      refine SA.take 10 (by kernel_rfl) rfl rfl rfl (Wanted.plain rfl) zsL (View.le_refl _) (Pur.fieldAddr rfl fo_43_1) ?_
      refine' SA.take 11 (by kernel_rfl) rfl rfl rfl (Wanted.plain rfl) zsL (View.le_refl _) (Pur.load1 rfl ty_3 ?h8_0) ?k8
      case h8_0 => first | (apply Rd.own1; exact zmE; rfl) | (apply RdV.rd; apply RdV.idx (i := 33); assumption; rfl) | (apply RdV.rd; apply RdV.idx (off := 0) (i := 33); assumption; rfl)
      refine' SA.take 12 (by kernel_rfl) rfl rfl rfl (Wanted.plain rfl) zsL (View.le_refl _) (Pur.bin rfl rfl ?h9_0) ?k9
      case h9_0 => first | exact Bin.geN | exact Bin.geI
      refine SA.done (by kernel_rfl) ?_
      refine WQ.thn ?_
      first | refine WC.cond rfl (fun hc1 => ?_) (fun hc1 => ?_) | refine WC.condB rfl (fun hc1 => ?_) (fun hc1 => ?_)
      · refine WC.region ?_
        refine WL.pur (Pur.move rfl) ?_
        refine WL.pur (Pur.nilCheck rfl) ?_
        refine WL.pur (Pur.fieldAddr rfl fo_74_0) ?_
        refine' WL.pur (Pur.load1 rfl ty_22 ?h10_0) ?k10
        case h10_0 => first | (apply Rd.own1; exact zmE; rfl) | (apply RdV.rd; apply RdV.idx (i := 0); assumption; rfl)
        refine WL.pur (Pur.move rfl) ?_
        refine' WL.pur (Pur.indexAddr (eqA (hel (by omega))) rfl sl_22 ?h11_0) ?k11
        case h11_0 => omega
        refine WL.pur (Pur.fieldAddr rfl fo_45_1) ?_
        refine WL.pur (Pur.fieldAddr rfl fo_43_1) ?_
        refine' WL.pur (Pur.load1 rfl ty_3 ?h12_0) ?k12
        case h12_0 => first | (apply Rd.own1; exact zmE; rfl) | (apply RdV.rd; apply RdV.idx (i := 33); assumption; rfl) | (apply RdV.rd; apply RdV.idx (off := 0) (i := 33); assumption; rfl)
        refine' WL.pur (Pur.bin rfl rfl ?h13_0) ?k13
        case h13_0 => first | (refine Bin.addN (b := 1) ?_; omega) | (refine Bin.addI ?_; omega)
        refine WL.pur (Pur.fieldAddr rfl fo_45_1) ?_
        refine WL.pur (Pur.fieldAddr rfl fo_43_1) ?_
        refine' WL.run0 (Run.store1 rfl rfl ty_3 (by first | rfl | assumption) ?h14_0 ?h14_1 sz_3) ?k14
        case h14_0 => repeat (first | exact Part.one | exact Part.here | apply Part.cons | apply Part.app)
        case h14_1 => first | exact Nat.le_of_ble_eq_true rfl | decide | (simp; done) | (simp; omega) | omega
        refine WL.nil ?_
        refine WQ.blk ?_
        refine WQ.thn ?_
        refine WC.region ?_
        refine WL.pur (Pur.move rfl) ?_
        refine' WL.pur (Pur.bin rfl rfl ?h15_0) ?k15
        case h15_0 => first | (refine Bin.addN (b := 1) ?_; omega) | (refine Bin.addI ?_; omega)
        refine WL.pur (Pur.assign rfl) ?_
        refine WL.nil ?_
        refine WQ.back _ ⟨i + 1, rfl, by omega, rfl, rfl, by rw [clUp_step he, if_pos hc1]⟩ (by omega) zcV zsL
      · refine WC.skip ?_
        refine WQ.blk ?_
        refine WQ.thn ?_
        refine WC.region ?_
        refine WL.pur (Pur.move rfl) ?_
        refine' WL.pur (Pur.bin rfl rfl ?h16_0) ?k16
        case h16_0 => first | (refine Bin.addN (b := 1) ?_; omega) | (refine Bin.addI ?_; omega)
        refine WL.pur (Pur.assign rfl) ?_
        refine WL.nil ?_
        refine WQ.back _ ⟨i + 1, rfl, by omega, rfl, rfl, by rw [clUp_step he, if_neg hc1]⟩ (by omega) zcV zsL
    · have hil : i = L.length := by omega
      subst hil
      rw [clUp_all (Nat.le_refl _)]
      have hcB := clUp_i64 ho L.length
      rw [clUp_all (Nat.le_refl _)] at hcB
      have hNB : NodeR σ (behindE L id ops).node (.slice ha (headsL L).length hc) (.slice oa ops.length oc) := ⟨hs1, hops1, by unfold I64 behindE; simp only; omega, by unfold I64 behindE; simp only; omega⟩
      refine WC.exit ?_
      refine WQ.thn_exit ?_
      refine WQ.back_exit ?_
      refine WQ.blk_here ?_
      refine WQ.thn ?_
      refine WC.seq ?_
      refine WC.region ?_
      refine WL.pur (Pur.move rfl) ?_
      refine WL.pur (Pur.nilCheck rfl) ?_
      refine WL.pur (Pur.fieldAddr rfl fo_74_0) ?_
      refine' WL.pur (Pur.load1 rfl ty_22 ?h17_0) ?k17
      case h17_0 => first | (apply Rd.own1; exact zmE; rfl) | (apply RdV.rd; apply RdV.idx (i := 0); assumption; rfl)
      refine WL.pur (Pur.len rfl isSlice_22) ?_
      refine' WL.pur (Pur.bin rfl rfl ?h18_0) ?k18
      case h18_0 => first | exact Bin.ltN (b := 4096) | exact Bin.ltI | exact Bin.ltS
      refine WL.pur (Pur.move rfl) ?_
      refine' WL.andp (u := 57) (t := 62) rfl ?h19_0 ?h19_1 ?h19_2 rfl ?k19
      case h19_0 =>
        intro hg57 K57
        refine WL.gpur (u := 57) rfl rfl (gT hg57) (Pur.move rfl) ?_
        refine' WL.gpur (u := 57) rfl rfl (gT hg57) (Pur.loadN rfl ty_39 ?h20_0 ?h20_1) ?k20
        case h20_0 => first | (apply Rd.own_sub; exact zmE; exact Sub.refl _) | (apply RdV.rd; assumption)
        case h20_1 => first | rfl | assumption
        refine WL.gcallP (u := 57) rfl rfl (gT hg57) rfl Tryz.call37 ((r11_Number _ _ L id h1' ho hid)) ?_
        refine' WL.gpur (u := 57) rfl rfl (gT hg57) (Pur.bin rfl rfl ?h21_0) ?k21
        case h21_0 => first | exact Bin.ltN (b := 0) | exact Bin.ltI | exact Bin.ltS
        exact K57 _ zcR rfl
      case h19_1 =>
        intro hg57 K57
        refine WL.gskip (u := 57) rfl rfl (sT hg57) ?_
        refine WL.gskip (u := 57) rfl rfl (sT hg57) ?_
        refine WL.gskip (u := 57) rfl rfl (sT hg57) ?_
        refine WL.gskip (u := 57) rfl rfl (sT hg57) ?_
        exact K57 _ zcR
      case h19_2 => exact Wanted.plain rfl
      refine WL.pur (Pur.move rfl) ?_
      refine' WL.andp (u := 63) (t := 68) rfl ?h22_0 ?h22_1 ?h22_2 rfl ?k22
      case h22_0 =>
        intro hg63 K63
        refine WL.gpur (u := 63) rfl rfl (gT hg63) (Pur.fieldAddr rfl fo_45_1) ?_
        refine' WL.gpur (u := 63) rfl rfl (gT hg63) (Pur.loadN rfl ty_43 ?h23_0 ?h23_1) ?k23
        case h23_0 => first | (apply Rd.own_sub; exact zmE; exact Sub.ent_node _ _ _ _ _) | (apply RdV.rd; apply RdV.sub (i := 32); assumption; exact Sub.ent_node _ _ _ _ _)
        case h23_1 => first | rfl | assumption
        refine WL.gcallP (u := 63) rfl rfl (gT hg63) rfl Tryz.call108 ((r5_Check _ (behindE L id ops).node _ _ hNB)) ?_
        refine' WL.gpur (u := 63) rfl rfl (gT hg63) (Pur.bin rfl rfl ?h24_0) ?k24
        case h24_0 => first | exact Bin.eqN (b := 0) | exact Bin.eqI
        exact K63 _ zcR rfl
      case h22_1 =>
        intro hg63 K63
        refine WL.gskip (u := 63) rfl rfl (sT hg63) ?_
        refine WL.gskip (u := 63) rfl rfl (sT hg63) ?_
        refine WL.gskip (u := 63) rfl rfl (sT hg63) ?_
        refine WL.gskip (u := 63) rfl rfl (sT hg63) ?_
        exact K63 _ zcR
      case h22_2 => exact Wanted.plain rfl
      refine WL.pur (Pur.assign rfl) ?_
      refine WL.nil ?_
      refine WQ.thn ?_
      refine WC.seq ?_
      refine WC.region ?_
      refine' WL.pur (Pur.loadN rfl ty_45 ?h25_0 ?h25_1) ?k25
      case h25_0 => first | (apply Rd.own_sub; exact zmE; exact Sub.refl _) | (apply RdV.rd; assumption)
      case h25_1 => first | rfl | assumption
      refine WL.pur (Pur.move rfl) ?_
      refine' WL.run0 (Run.storeAll rfl rfl ty_45 ?h26_0 (by first | rfl | assumption) ?h26_1 (by first | rfl | assumption)) ?k26
      case h26_0 => repeat (first | exact Part.one | exact Part.here | apply Part.cons | apply Part.app)
      case h26_1 => first | rfl | assumption
      refine WL.pur (Pur.assign rfl) ?_
      refine WL.nil ?_
      refine WQ.thn ?_
      refine WC.ret ?_
      refine' WQ.retCT Tryz.results30 rfl rfl ty_45 ?h27_0 ?h27_1 [] zsL hle1 ?k27
      case h27_0 => apply Rd.own_sub; exact zmE; exact Sub.refl _
      case h27_1 => rfl
      exact ⟨⟨_, rfl, hNB⟩, rfl⟩
  · refine SStep.new 6 rfl rfl rfl (Wanted.plain rfl) (New.alloc zc_45) (.inr ⟨zsL, View.le_refl _⟩) (fun b8 => ?_)
    refine SA.callR 2 (H1 := []) rfl rfl (Wanted.plain rfl) (by kernel_rfl) rfl Tryz.call107 (List.Perm.refl _) (.inr ⟨(by first | exact List.Sublist.refl _ | exact List.sublist_cons_self _ _), View.le_refl _⟩) (r11_Heads _ _ L h' ho) ?_
    rintro v13 σ _ ⟨⟨hh, hsH, rfl⟩, rfl⟩ _
    obtain ⟨ha, hc, rfl, hhc⟩ := hsH.shape
    refine SA.takeP 4 (by kernel_rfl) rfl rfl rfl (Wanted.plain rfl) (fun _ _ => Pur.build (l := nodeCells 1 1 (.slice ha (headsL L).length hc) (.slice oa ops.length oc)) pl_43 zc_43 rfl rfl) ?_
    refine SA.takeP 5 (by kernel_rfl) rfl rfl rfl (Wanted.plain rfl) (fun _ _ => Pur.build (l := (entCells id 1 1 (.slice ha (headsL L).length hc) (.slice oa ops.length oc))) pl_45 zc_45 rfl rfl) ?_
    refine' SA.run 7 rfl (fun _ e => by cases e) (Wanted.plain rfl) (by kernel_rfl) (Run.storeAll rfl rfl ty_45 ?h28_0 (by first | rfl | assumption) ?h28_1 (by first | rfl | assumption)) (.inl (by decide)) ?k28
    case h28_0 => repeat (first | exact Part.one | exact Part.here | apply Part.cons | apply Part.app)
    case h28_1 => first | rfl | assumption
    refine SA.done (by kernel_rfl) ?_
    refine WQ.thn ?_
    refine WC.seq ?_
    refine WC.seq ?_
    refine WC.region ?_
    refine WL.pur (Pur.assign rfl) ?_
    refine WL.nil ?_
    refine WQ.thn ?_
    refine WC.block ?_
    first | refine WC.giveS (byt := 32) (H1 := [(b8, _)]) (H2 := (b6, rowO 45 (entCells 0 0 0 (.slice none 0 0) (.slice none 0 0))) :: (b4, rowO 39 (hashCells id)) :: Hr) eHash_mono hsH (by omega) rfl (fun σ hle1 hs1 => ?_) | refine WC.giveS (byt := 32) (H1 := []) (H2 := (b8, _) :: (b6, rowO 45 (entCells 0 0 0 (.slice none 0 0) (.slice none 0 0))) :: (b4, rowO 39 (hashCells id)) :: Hr) eHash_mono hsH (by omega) rfl (fun σ hle1 hs1 => ?_)
    first | rw [List.singleton_append] | rw [List.nil_append]
    have hE1 := hE.mono eEnt_mono hle1
    have hops1 := hops.mono eOp_mono hle1
    have hr1 := hr.mono hle1
    have h1' := h'.mono hle1
    refine WC.loop (fun j m σ' H' => ∃ i : Nat, j = L.length - i ∧ i ≤ L.length ∧ m = [(0, .pointer (some ⟨b, 0, none⟩)), (4, .pointer (some ⟨b4, 0, none⟩)), (6, .pointer (some ⟨b6, 0, none⟩)), (8, .pointer (some ⟨b8, 0, none⟩)), (9, .int .i64 (i : Int))] ∧ σ' = σ ∧ H' = (b8, rowO 45 (entCells id 1 (clUp L i) (.slice ha (headsL L).length hc) (.slice oa ops.length oc))) :: (b6, rowO 45 (entCells 0 0 0 (.slice none 0 0) (.slice none 0 0))) :: (b4, rowO 39 (hashCells id)) :: Hr) ⟨0, rfl, by omega, rfl, rfl, by rw [clUp_zero]⟩ zcV zsL ?_
    rintro _ _ σ Hr ⟨i, rfl, hi, rfl, rfl, rfl⟩
    refine WC.seq ?_
    refine WC.seq ?_
    refine WC.region ?_
    refine WL.pur (Pur.move rfl) ?_
    refine WL.pur (Pur.move rfl) ?_
    refine WL.pur (Pur.nilCheck rfl) ?_
    refine WL.pur (Pur.fieldAddr rfl fo_74_0) ?_
    refine' WL.pur (Pur.load1 rfl ty_22 ?h29_0) ?k29
    case h29_0 => first | (apply Rd.own1; exact zmE; rfl) | (apply RdV.rd; apply RdV.idx (i := 0); assumption; rfl)
    refine WL.pur (Pur.len rfl isSlice_22) ?_
    refine' WL.pur (Pur.bin rfl rfl ?h30_0) ?k30
    case h30_0 => first | exact Bin.ltN | exact Bin.ltI | exact Bin.ltS
    refine WL.nil ?_
    refine WQ.thn ?_
    first | refine WC.cond rfl (fun hc0 => ?_) (fun hc0 => ?_) | refine WC.condB rfl (fun hc0 => ?_) (fun hc0 => ?_)
    · obtain ⟨e, he⟩ : ∃ e, L[i]? = some e := ⟨_, List.getElem?_eq_getElem (by omega)⟩
      obtain ⟨qv, ov, hrd, heH, hNR⟩ := ent_rd hE1 hel he
      have hcb := (nodeErr_zero (ho.node e (List.mem_of_getElem? he))).2.1
      refine WC.skip ?_
      refine WQ.thn ?_
      refine WC.seq ?_
      refine WC.block ?_
      refine WC.seq ?_
      refine WC.drawH 13 13 mixed (by kernel_rfl) rfl ?_
      refine SA.take 0 (by kernel_rfl) rfl rfl rfl (Wanted.plain rfl) zsL (View.le_refl _) (Pur.move rfl) ?_
      refine SA.take 1 (by kernel_rfl) rfl rfl rfl (Wanted.plain rfl) zsL (View.le_refl _) (Pur.nilCheck rfl) ?_
      refine SA.take 2 (by kernel_rfl) rfl rfl rfl (Wanted.plain rfl) zsL (View.le_refl _) (Pur.fieldAddr rfl fo_74_0) ?_
      refine' SA.take 3 (by kernel_rfl) rfl rfl rfl (Wanted.plain rfl) zsL (View.le_refl _) (Pur.load1 rfl ty_22 ?h31_0) ?k31
      case h31_0 => first | (apply Rd.own1; exact zmE; rfl) | (apply RdV.rd; apply RdV.idx (i := 0); assumption; rfl)
      refine SA.take 4 (by kernel_rfl) rfl rfl rfl (Wanted.plain rfl) zsL (View.le_refl _) (Pur.move rfl) ?_
      refine' SA.take 5 (by kernel_rfl) rfl rfl rfl (Wanted.plain rfl) zsL (View.le_refl _) (Pur.indexAddr (eqA (hel (by omega))) rfl sl_22 ?h32_0) ?k32
      case h32_0 => omega
      refine SA.take 6 (by kernel_rfl) rfl rfl rfl (Wanted.plain rfl) zsL (View.le_refl _) (Pur.fieldAddr rfl fo_45_1) ?_
      refine SA.take 7 (by kernel_rfl) rfl rfl rfl (Wanted.plain rfl) zsL (View.le_refl _) (Pur.fieldAddr rfl fo_43_1) ?_
      refine' SA.take 8 (by kernel_rfl) rfl rfl rfl (Wanted.plain rfl) zsL (View.le_refl _) (Pur.load1 rfl ty_3 ?h33_0) ?k33
      case h33_0 => first | (apply Rd.own1; exact zmE; rfl) | (apply RdV.rd; apply RdV.idx (i := 33); assumption; rfl) | (apply RdV.rd; apply RdV.idx (off := 0) (i := 33); assumption; rfl)
      refine SA.take 9 (by kernel_rfl) rfl rfl rfl (Wanted.plain rfl) zsL (View.le_refl _) (Pur.fieldAddr rfl fo_45_1) ?_
      refine SA.take 10 (by kernel_rfl) rfl rfl rfl (Wanted.plain rfl) zsL (View.le_refl _) (Pur.fieldAddr rfl fo_43_1) ?_
      refine' SA.take 11 (by kernel_rfl) rfl rfl rfl (Wanted.plain rfl) zsL (View.le_refl _) (Pur.load1 rfl ty_3 ?h34_0) ?k34
      case h34_0 => first | (apply Rd.own1; exact zmE; rfl) | (apply RdV.rd; apply RdV.idx (i := 33); assumption; rfl) | (apply RdV.rd; apply RdV.idx (off := 0) (i := 33); assumption; rfl)
      refine' SA.take 12 (by kernel_rfl) rfl rfl rfl (Wanted.plain rfl) zsL (View.le_refl _) (Pur.bin rfl rfl ?h35_0) ?k35
      case h35_0 => first | exact Bin.geN | exact Bin.geI
      refine SA.done (by kernel_rfl) ?_
      refine WQ.thn ?_
      first | refine WC.cond rfl (fun hc1 => ?_) (fun hc1 => ?_) | refine WC.condB rfl (fun hc1 => ?_) (fun hc1 => ?_)
      · refine WC.region ?_
        refine WL.pur (Pur.move rfl) ?_
        refine WL.pur (Pur.nilCheck rfl) ?_
        refine WL.pur (Pur.fieldAddr rfl fo_74_0) ?_
        refine' WL.pur (Pur.load1 rfl ty_22 ?h36_0) ?k36
        case h36_0 => first | (apply Rd.own1; exact zmE; rfl) | (apply RdV.rd; apply RdV.idx (i := 0); assumption; rfl)
        refine WL.pur (Pur.move rfl) ?_
        refine' WL.pur (Pur.indexAddr (eqA (hel (by omega))) rfl sl_22 ?h37_0) ?k37
        case h37_0 => omega
        refine WL.pur (Pur.fieldAddr rfl fo_45_1) ?_
        refine WL.pur (Pur.fieldAddr rfl fo_43_1) ?_
        refine' WL.pur (Pur.load1 rfl ty_3 ?h38_0) ?k38
        case h38_0 => first | (apply Rd.own1; exact zmE; rfl) | (apply RdV.rd; apply RdV.idx (i := 33); assumption; rfl) | (apply RdV.rd; apply RdV.idx (off := 0) (i := 33); assumption; rfl)
        refine' WL.pur (Pur.bin rfl rfl ?h39_0) ?k39
        case h39_0 => first | (refine Bin.addN (b := 1) ?_; omega) | (refine Bin.addI ?_; omega)
        refine WL.pur (Pur.fieldAddr rfl fo_45_1) ?_
        refine WL.pur (Pur.fieldAddr rfl fo_43_1) ?_
        refine' WL.run0 (Run.store1 rfl rfl ty_3 (by first | rfl | assumption) ?h40_0 ?h40_1 sz_3) ?k40
        case h40_0 => repeat (first | exact Part.one | exact Part.here | apply Part.cons | apply Part.app)
        case h40_1 => first | exact Nat.le_of_ble_eq_true rfl | decide | (simp; done) | (simp; omega) | omega
        refine WL.nil ?_
        refine WQ.blk ?_
        refine WQ.thn ?_
        refine WC.region ?_
        refine WL.pur (Pur.move rfl) ?_
        refine' WL.pur (Pur.bin rfl rfl ?h41_0) ?k41
        case h41_0 => first | (refine Bin.addN (b := 1) ?_; omega) | (refine Bin.addI ?_; omega)
        refine WL.pur (Pur.assign rfl) ?_
        refine WL.nil ?_
        refine WQ.back _ ⟨i + 1, rfl, by omega, rfl, rfl, by rw [clUp_step he, if_pos hc1]⟩ (by omega) zcV zsL
      · refine WC.skip ?_
        refine WQ.blk ?_
        refine WQ.thn ?_
        refine WC.region ?_
        refine WL.pur (Pur.move rfl) ?_
        refine' WL.pur (Pur.bin rfl rfl ?h42_0) ?k42
        case h42_0 => first | (refine Bin.addN (b := 1) ?_; omega) | (refine Bin.addI ?_; omega)
        refine WL.pur (Pur.assign rfl) ?_
        refine WL.nil ?_
        refine WQ.back _ ⟨i + 1, rfl, by omega, rfl, rfl, by rw [clUp_step he, if_neg hc1]⟩ (by omega) zcV zsL
    · have hil : i = L.length := by omega
      subst hil
      rw [clUp_all (Nat.le_refl _)]
      have hcB := clUp_i64 ho L.length
      rw [clUp_all (Nat.le_refl _)] at hcB
      have hNB : NodeR σ (behindE L id ops).node (.slice ha (headsL L).length hc) (.slice oa ops.length oc) := ⟨hs1, hops1, by unfold I64 behindE; simp only; omega, by unfold I64 behindE; simp only; omega⟩
      refine WC.exit ?_
      refine WQ.thn_exit ?_
      refine WQ.back_exit ?_
      refine WQ.blk_here ?_
      refine WQ.thn ?_
      refine WC.seq ?_
      refine WC.region ?_
      refine WL.pur (Pur.move rfl) ?_
      refine WL.pur (Pur.nilCheck rfl) ?_
      refine WL.pur (Pur.fieldAddr rfl fo_74_0) ?_
      refine' WL.pur (Pur.load1 rfl ty_22 ?h43_0) ?k43
      case h43_0 => first | (apply Rd.own1; exact zmE; rfl) | (apply RdV.rd; apply RdV.idx (i := 0); assumption; rfl)
      refine WL.pur (Pur.len rfl isSlice_22) ?_
      refine' WL.pur (Pur.bin rfl rfl ?h44_0) ?k44
      case h44_0 => first | exact Bin.ltN (b := 4096) | exact Bin.ltI | exact Bin.ltS
      refine WL.pur (Pur.move rfl) ?_
      refine' WL.andp (u := 57) (t := 62) rfl ?h45_0 ?h45_1 ?h45_2 rfl ?k45
      case h45_0 =>
        intro hg57 K57
        refine WL.gpur (u := 57) rfl rfl (gT hg57) (Pur.move rfl) ?_
        refine' WL.gpur (u := 57) rfl rfl (gT hg57) (Pur.loadN rfl ty_39 ?h46_0 ?h46_1) ?k46
        case h46_0 => first | (apply Rd.own_sub; exact zmE; exact Sub.refl _) | (apply RdV.rd; assumption)
        case h46_1 => first | rfl | assumption
        refine WL.gcallP (u := 57) rfl rfl (gT hg57) rfl Tryz.call37 ((r11_Number _ _ L id h1' ho hid)) ?_
        refine' WL.gpur (u := 57) rfl rfl (gT hg57) (Pur.bin rfl rfl ?h47_0) ?k47
        case h47_0 => first | exact Bin.ltN (b := 0) | exact Bin.ltI | exact Bin.ltS
        exact K57 _ zcR rfl
      case h45_1 =>
        intro hg57 K57
        refine WL.gskip (u := 57) rfl rfl (sT hg57) ?_
        refine WL.gskip (u := 57) rfl rfl (sT hg57) ?_
        refine WL.gskip (u := 57) rfl rfl (sT hg57) ?_
        refine WL.gskip (u := 57) rfl rfl (sT hg57) ?_
        exact K57 _ zcR
      case h45_2 => exact Wanted.plain rfl
      refine WL.pur (Pur.move rfl) ?_
      refine' WL.andp (u := 63) (t := 68) rfl ?h48_0 ?h48_1 ?h48_2 rfl ?k48
      case h48_0 =>
        intro hg63 K63
        refine WL.gpur (u := 63) rfl rfl (gT hg63) (Pur.fieldAddr rfl fo_45_1) ?_
        refine' WL.gpur (u := 63) rfl rfl (gT hg63) (Pur.loadN rfl ty_43 ?h49_0 ?h49_1) ?k49
        case h49_0 => first | (apply Rd.own_sub; exact zmE; exact Sub.ent_node _ _ _ _ _) | (apply RdV.rd; apply RdV.sub (i := 32); assumption; exact Sub.ent_node _ _ _ _ _)
        case h49_1 => first | rfl | assumption
        refine WL.gcallP (u := 63) rfl rfl (gT hg63) rfl Tryz.call108 ((r5_Check _ (behindE L id ops).node _ _ hNB)) ?_
        refine' WL.gpur (u := 63) rfl rfl (gT hg63) (Pur.bin rfl rfl ?h50_0) ?k50
        case h50_0 => first | exact Bin.eqN (b := 0) | exact Bin.eqI
        exact K63 _ zcR rfl
      case h48_1 =>
        intro hg63 K63
        refine WL.gskip (u := 63) rfl rfl (sT hg63) ?_
        refine WL.gskip (u := 63) rfl rfl (sT hg63) ?_
        refine WL.gskip (u := 63) rfl rfl (sT hg63) ?_
        refine WL.gskip (u := 63) rfl rfl (sT hg63) ?_
        exact K63 _ zcR
      case h48_2 => exact Wanted.plain rfl
      refine WL.pur (Pur.assign rfl) ?_
      refine WL.nil ?_
      refine WQ.thn ?_
      refine WC.seq ?_
      refine WC.region ?_
      refine' WL.pur (Pur.loadN rfl ty_45 ?h51_0 ?h51_1) ?k51
      case h51_0 => first | (apply Rd.own_sub; exact zmE; exact Sub.refl _) | (apply RdV.rd; assumption)
      case h51_1 => first | rfl | assumption
      refine WL.pur (Pur.move rfl) ?_
      refine' WL.run0 (Run.storeAll rfl rfl ty_45 ?h52_0 (by first | rfl | assumption) ?h52_1 (by first | rfl | assumption)) ?k52
      case h52_0 => repeat (first | exact Part.one | exact Part.here | apply Part.cons | apply Part.app)
      case h52_1 => first | rfl | assumption
      refine WL.pur (Pur.assign rfl) ?_
      refine WL.nil ?_
      refine WQ.thn ?_
      refine WC.ret ?_
      refine' WQ.retCT Tryz.results30 rfl rfl ty_45 ?h53_0 ?h53_1 [] zsL hle1 ?k53
      case h53_0 => apply Rd.own_sub; exact zmE; exact Sub.refl _
      case h53_1 => rfl
      exact ⟨⟨_, rfl, hNB⟩, rfl⟩

end Go.Proofs.YtgoooilgmabkmaaGreat
namespace Go.Proofs.YtgoooilgmabkmaaGreat
open Go Go.Sl
set_option linter.unusedVariables false
set_option linter.unusedSimpArgs false
set_option maxRecDepth 100000

theorem r11_Sees (σ : View) (pv : Value) (L : List EntD) (i j : Nat) (h : R11V σ pv L) (ho : OrdOk L) (hj : j < L.length) (hi : i < L.length) :
    TriP Tryz.prog 115 #[pv, .int .i64 (i : Int), .int .i64 (j : Int)] σ (.bool (decide (seesN L i j = true))) := by
  obtain ⟨b, plv, psv, pqv, rfl, hr, hE, hS, hQ⟩ := h
  obtain ⟨pla, plc, rfl, hplc, hplb⟩ := hE.shape
  obtain ⟨plb, ploff, hel⟩ := addr_of hE
  have hmost := ho.most
  obtain ⟨psa, psc, rfl, hpsc, hpsb⟩ := hS.shape
  obtain ⟨sb, soff, hes, hsat⟩ := hS.rds
  rw [List.length_range] at hes
  obtain ⟨vs, _, _, ⟨wv, rfl, _, hw⟩, hwr⟩ := hsat j j (List.getElem?_range hj)
  obtain ⟨wa, wc, rfl, hwc, hwb⟩ := hw.shape
  obtain ⟨wb, woff, hew, hwat⟩ := hw.rds
  have hwl := wordsN_len L j
  have hiw : i / 64 < (L.length + 63) / 64 := by omega
  have hww := wordsN_get (L := L) (j := j) hiw
  obtain ⟨ws, _, _, rfl, hwd⟩ := hwat _ _ hww
  have hwlt := wordN_lt ((rowsN L L.length).getD j 0) (i / 64)
  have hask := wordN_ask ((rowsN L L.length).getD j 0) i
  rw [Nat.shiftRight_eq_div_pow] at hask
  have hdl := Nat.div_le_self (wordN ((rowsN L L.length).getD j 0) (i / 64)) (2 ^ (i % 64))
  have hlr : (List.range L.length).length = L.length := List.length_range
  refine Tri.of_body [(0, .pointer (some ⟨b, 0, none⟩)), (1, .int .i64 (i : Int)), (2, .int .i64 (j : Int))] Tryz.func115 rfl Tryz.ntmps115 (by simp) rfl (fun Hr => ?_)
  rw [List.nil_append]
  refine WC.seq ?_
  refine WC.region ?_
  refine WL.pur (Pur.assign rfl) ?_
  refine WL.nil ?_
  refine WQ.thn ?_
  refine WC.seq ?_
  refine WC.seq ?_
  refine WC.region ?_
  refine WL.pur (Pur.move rfl) ?_
  refine' WL.pur (Pur.bin rfl rfl ?h1_0) ?k1
  case h1_0 => first | exact Bin.ltN (b := 0) | exact Bin.ltI | exact Bin.ltS
  refine WL.pur (Pur.move rfl) ?_
  refine' WL.orp (u := 9) (t := 17) rfl ?h2_0 ?h2_1 ?h2_2 rfl ?k2
  case h2_0 =>
    intro hg9 K9
    refine WL.gpur (u := 9) rfl rfl (gF hg9) (Pur.move rfl) ?_
    refine WL.gpur (u := 9) rfl rfl (gF hg9) (Pur.move rfl) ?_
    refine WL.gpur (u := 9) rfl rfl (gF hg9) (Pur.nilCheck rfl) ?_
    refine WL.gpur (u := 9) rfl rfl (gF hg9) (Pur.fieldAddr rfl fo_74_0) ?_
    refine' WL.gpur (u := 9) rfl rfl (gF hg9) (Pur.load1 rfl ty_22 ?h3_0) ?k3
    case h3_0 => first | (apply Rd.own1; exact zmE; rfl) | (apply RdV.rd; apply RdV.idx (i := 0); assumption; rfl)
    refine WL.gpur (u := 9) rfl rfl (gF hg9) (Pur.len rfl isSlice_22) ?_
    refine' WL.gpur (u := 9) rfl rfl (gF hg9) (Pur.bin rfl rfl ?h4_0) ?k4
    case h4_0 => first | exact Bin.geN | exact Bin.geI
    exact K9 _ zcR rfl
  case h2_1 =>
    intro hg9 K9
    refine WL.gskip (u := 9) rfl rfl (sF hg9) ?_
    refine WL.gskip (u := 9) rfl rfl (sF hg9) ?_
    refine WL.gskip (u := 9) rfl rfl (sF hg9) ?_
    refine WL.gskip (u := 9) rfl rfl (sF hg9) ?_
    refine WL.gskip (u := 9) rfl rfl (sF hg9) ?_
    refine WL.gskip (u := 9) rfl rfl (sF hg9) ?_
    refine WL.gskip (u := 9) rfl rfl (sF hg9) ?_
    exact K9 _ zcR
  case h2_2 => exact Wanted.plain rfl
  refine WL.pur (Pur.move rfl) ?_
  refine' WL.orp (u := 18) (t := 21) rfl ?h5_0 ?h5_1 ?h5_2 rfl ?k5
  case h5_0 =>
    intro hg18 K18
    refine WL.gpur (u := 18) rfl rfl (gF hg18) (Pur.move rfl) ?_
    refine' WL.gpur (u := 18) rfl rfl (gF hg18) (Pur.bin rfl rfl ?h6_0) ?k6
    case h6_0 => first | exact Bin.ltN (b := 0) | exact Bin.ltI | exact Bin.ltS
    exact K18 _ zcR rfl
  case h5_1 =>
    intro hg18 K18
    refine WL.gskip (u := 18) rfl rfl (sF hg18) ?_
    refine WL.gskip (u := 18) rfl rfl (sF hg18) ?_
    exact K18 _ zcR
  case h5_2 => exact Wanted.plain rfl
  refine WL.pur (Pur.move rfl) ?_
  refine' WL.orp (u := 22) (t := 30) rfl ?h7_0 ?h7_1 ?h7_2 rfl ?k7
  case h7_0 =>
    intro hg22 K22
    refine WL.gpur (u := 22) rfl rfl (gF hg22) (Pur.move rfl) ?_
    refine WL.gpur (u := 22) rfl rfl (gF hg22) (Pur.move rfl) ?_
    refine WL.gpur (u := 22) rfl rfl (gF hg22) (Pur.nilCheck rfl) ?_
    refine WL.gpur (u := 22) rfl rfl (gF hg22) (Pur.fieldAddr rfl fo_74_0) ?_
    refine' WL.gpur (u := 22) rfl rfl (gF hg22) (Pur.load1 rfl ty_22 ?h8_0) ?k8
    case h8_0 => first | (apply Rd.own1; exact zmE; rfl) | (apply RdV.rd; apply RdV.idx (i := 0); assumption; rfl)
    refine WL.gpur (u := 22) rfl rfl (gF hg22) (Pur.len rfl isSlice_22) ?_
    refine' WL.gpur (u := 22) rfl rfl (gF hg22) (Pur.bin rfl rfl ?h9_0) ?k9
    case h9_0 => first | exact Bin.geN | exact Bin.geI
    exact K22 _ zcR rfl
  case h7_1 =>
    intro hg22 K22
    refine WL.gskip (u := 22) rfl rfl (sF hg22) ?_
    refine WL.gskip (u := 22) rfl rfl (sF hg22) ?_
    refine WL.gskip (u := 22) rfl rfl (sF hg22) ?_
    refine WL.gskip (u := 22) rfl rfl (sF hg22) ?_
    refine WL.gskip (u := 22) rfl rfl (sF hg22) ?_
    refine WL.gskip (u := 22) rfl rfl (sF hg22) ?_
    refine WL.gskip (u := 22) rfl rfl (sF hg22) ?_
    exact K22 _ zcR
  case h7_2 => exact Wanted.plain rfl
  refine WL.nil ?_
  refine WQ.thn ?_
  first | refine WC.cond rfl (fun hc0 => ?_) (fun hc0 => ?_) | refine WC.condB rfl (fun hc0 => ?_) (fun hc0 => ?_)
  · exfalso; omega
  · refine WC.skip ?_
    refine WQ.thn ?_
    refine WC.seq ?_
    refine WC.region ?_
    refine WL.pur (Pur.move rfl) ?_
    refine WL.pur (Pur.nilCheck rfl) ?_
    refine WL.pur (Pur.fieldAddr rfl fo_74_1) ?_
    refine' WL.pur (Pur.load1 rfl ty_71 ?h10_0) ?k10
    case h10_0 => first | (apply Rd.own1; exact zmE; rfl) | (apply RdV.rd; apply RdV.idx (i := 1); assumption; rfl) | (apply RdV.rd; apply RdV.idx (off := 0) (i := 1); assumption; rfl)
    refine WL.pur (Pur.move rfl) ?_
    refine' WL.pur (Pur.indexAddr (eqA (hes (by omega))) rfl sl_71 ?h11_0) ?k11
    case h11_0 => omega
    refine' WL.pur (Pur.load1 rfl ty_151 ?h12_0) ?k12
    case h12_0 => exact RdV.rd hwr
    refine WL.pur (Pur.move rfl) ?_
    refine' WL.pur (Pur.bin rfl rfl ?h13_0) ?k13
    case h13_0 => first | (refine Bin.quoN (b := 64) ?_ ?_ <;> omega)
    refine' WL.pur (Pur.indexAddr (eqA (hew (by omega))) rfl sl_151 ?h14_0) ?k14
    case h14_0 => omega
    refine' WL.pur (Pur.load1 rfl ty_60 ?h15_0) ?k15
    case h15_0 => exact RdV.rd hwd
    refine WL.pur (Pur.move rfl) ?_
    refine' WL.pur (Pur.bin rfl rfl ?h16_0) ?k16
    case h16_0 => first | (refine Bin.remN (b := 64) ?_; omega)
    refine' WL.pur (Pur.bin rfl rfl ?h17_0) ?k17
    case h17_0 => first | (refine Bin.shrU ?_; omega)
    refine' WL.pur (Pur.bin rfl rfl ?h18_0) ?k18
    case h18_0 => first | (refine Bin.andU (b := 1) ?_ ?_ <;> omega)
    refine' WL.pur (Pur.bin rfl rfl ?h19_0) ?k19
    case h19_0 => first | exact Bin.eqN (b := 1) | exact Bin.eqI
    refine WL.pur (Pur.assign rfl) ?_
    refine WL.nil ?_
    refine WQ.thn ?_
    refine WC.ret ?_
    refine WQ.ret1 Tryz.results115 rfl [] zsL (View.le_refl _) ?_
    refine ⟨?_, rfl, rfl⟩
    exact decB hask

theorem r11_Operation (σ : View) (pv : Value) (L : List EntD) (t : Trip) (h : R11V σ pv L) (ho : OrdOk L) (ht : t.1 < L.length) (h1 : 1 ≤ t.2.1) (h2 : (opsAt L t.1)[t.2.1 - 1]? = some t.2.2) :
    TriP Tryz.prog 105 #[pv, .agg #[.int .i64 (t.1 : Int), .int .i64 (t.2.1 : Int)]] σ (.agg t.2.2.cells.toArray) := by
  obtain ⟨b, plv, psv, pqv, rfl, hr, hE, hS, hQ⟩ := h
  obtain ⟨pla, plc, rfl, hplc, hplb⟩ := hE.shape
  obtain ⟨plb, ploff, hel⟩ := addr_of hE
  have hmost := ho.most
  obtain ⟨i, k, o⟩ := t
  simp only at ht h1 h2
  obtain ⟨e, he⟩ : ∃ e, L[i]? = some e := ⟨_, List.getElem?_eq_getElem (by omega)⟩
  obtain ⟨qv, ov, hrd, heH, hNR⟩ := ent_rd hE hel he
  have hops := hNR.2.1
  obtain ⟨pa, pc, rfl, hpc, hpb⟩ := hNR.1.shape
  obtain ⟨oa, oc, rfl, hoc, hob⟩ := hops.shape
  obtain ⟨ob, ooff, heo, hoat⟩ := hops.rds
  have hop := opsAt_of he
  have hol : e.node.ops.length ≤ 1024 := by rw [← hop]; exact opsAt_len ho i
  rw [hop] at h2
  have hkl := (List.getElem?_eq_some_iff.1 h2).1
  obtain ⟨vs, _, _, ⟨rfl, hook⟩, hord⟩ := hoat (k - 1) o h2
  refine Tri.of_body [(0, .pointer (some ⟨b, 0, none⟩)), (1, .agg #[.int .i64 (i : Int), .int .i64 (k : Int)])] Tryz.func105 rfl Tryz.ntmps105 (by simp) rfl (fun Hr => ?_)
  rw [List.nil_append]
  refine WC.seq ?_
  refine WC.region ?_
  refine WL.new (New.boxN rfl) (fun b3 => ?_)
  refine WL.new (New.alloc zc_51) (fun b4 => ?_)
  refine WL.nil ?_
  refine WQ.thn ?_
  refine WC.seq ?_
  refine WC.drawH 15 16 mixed (by kernel_rfl) rfl ?_
  refine SA.takeW 0 (by kernel_rfl) rfl rfl rfl (Wanted.plain rfl) (tells_move rfl) ?_
  refine SA.takeP 1 (by kernel_rfl) rfl rfl rfl (Wanted.plain rfl) (fun _ _ => Pur.nilCheck rfl) ?_
  refine SA.takeP 2 (by kernel_rfl) rfl rfl rfl (Wanted.plain rfl) (fun _ _ => Pur.fieldAddr rfl fo_74_0) ?_
  refine' SA.take 3 (by kernel_rfl) rfl rfl rfl (Wanted.plain rfl) zsL (View.le_refl _) (Pur.load1 rfl ty_22 ?h1_0) ?k1
  case h1_0 => first | (apply Rd.own1; exact zmE; rfl) | (apply RdV.rd; apply RdV.idx (i := 0); assumption; rfl)
  refine SA.takeP 4 (by kernel_rfl) rfl rfl rfl (Wanted.plain rfl) (fun _ _ => Pur.fieldAddr rfl fo_164_0) ?_
  refine' SA.take 5 (by kernel_rfl) rfl rfl rfl (Wanted.plain rfl) zsL (View.le_refl _) (Pur.load1 rfl ty_3 ?h2_0) ?k2
  case h2_0 => first | (apply Rd.own1; exact zmE; rfl) | (apply RdV.rd; apply RdV.idx (i := 0); assumption; rfl)
  refine' SA.takeP 6 (by kernel_rfl) rfl rfl rfl (Wanted.plain rfl) (fun _ _ => Pur.indexAddr (eqA (hel (by omega))) rfl sl_22 ?h3_0) ?k3
  case h3_0 => omega
  refine SA.takeP 7 (by kernel_rfl) rfl rfl rfl (Wanted.plain rfl) (fun _ _ => Pur.fieldAddr rfl fo_45_1) ?_
  refine SA.takeP 8 (by kernel_rfl) rfl rfl rfl (Wanted.plain rfl) (fun _ _ => Pur.fieldAddr rfl fo_43_3) ?_
  refine' SA.take 9 (by kernel_rfl) rfl rfl rfl (Wanted.plain rfl) zsL (View.le_refl _) (Pur.load1 rfl ty_40 ?h4_0) ?k4
  case h4_0 => first | (apply Rd.own1; exact zmE; rfl) | (apply RdV.rd; apply RdV.idx (i := 35); assumption; rfl) | (apply RdV.rd; apply RdV.idx (off := 0) (i := 35); assumption; rfl)
  refine SA.takeP 10 (by kernel_rfl) rfl rfl rfl (Wanted.plain rfl) (fun _ _ => Pur.fieldAddr rfl fo_164_1) ?_
  refine' SA.take 11 (by kernel_rfl) rfl rfl rfl (Wanted.plain rfl) zsL (View.le_refl _) (Pur.load1 rfl ty_3 ?h5_0) ?k5
  case h5_0 => first | (apply Rd.own1; exact zmE; rfl) | (apply RdV.rd; apply RdV.idx (i := 1); assumption; rfl) | (apply RdV.rd; apply RdV.idx (off := 0) (i := 1); assumption; rfl)
  refine' SA.takeP 12 (by kernel_rfl) rfl rfl rfl (Wanted.plain rfl) (fun _ _ => Pur.bin rfl rfl ?h6_0) ?k6
  case h6_0 => first | (refine Bin.subN (b := 1) ?_ ?_ <;> omega) | (refine Bin.subI ?_; omega)
  refine' SA.takeP 13 (by kernel_rfl) rfl rfl rfl (Wanted.plain rfl) (fun _ _ => Pur.indexAddr (eqA (heo (by omega))) rfl sl_40 ?h7_0) ?k7
  case h7_0 => omega
  refine' SA.take 14 (by kernel_rfl) rfl rfl rfl (Wanted.plain rfl) zsL (View.le_refl _) (Pur.loadN rfl ty_51 ?h8_0 ?h8_1) ?k8
  case h8_0 => exact RdV.rd hord
  case h8_1 => first | rfl | assumption
  refine' SA.run 15 rfl (fun _ e => by cases e) (Wanted.plain rfl) (by kernel_rfl) (Run.storeAll rfl rfl ty_51 ?h9_0 (by first | rfl | assumption) ?h9_1 (by first | rfl | assumption)) (.inl (by decide)) ?k9
  case h9_0 => repeat (first | exact Part.one | exact Part.here | apply Part.cons | apply Part.app)
  case h9_1 => first | rfl | assumption
  refine SA.done (by kernel_rfl) ?_
  refine WQ.thn ?_
  refine WC.ret ?_
  refine' WQ.retC Tryz.results105 rfl ty_51 ?h10_0 ?h10_1 [] zsL (View.le_refl _) ?k10
  case h10_0 => apply Rd.own_sub; exact zmE; exact Sub.refl _
  case h10_1 => rfl
  refine ⟨?_, rfl, rfl⟩
  rfl

theorem r11_Knows (σ : View) (pv : Value) (L : List EntD) (a c : Trip) (h : R11V σ pv L) (ho : OrdOk L) (ha : a.1 < L.length) (hc : c.1 < L.length) (hac : a.1 = c.1 → a.2.1 < c.2.1) :
    TriP Tryz.prog 106 #[pv, .agg #[.int .i64 (a.1 : Int), .int .i64 (a.2.1 : Int)], .agg #[.int .i64 (c.1 : Int), .int .i64 (c.2.1 : Int)]] σ (.bool (decide (a.1 = c.1 ∨ seesN L a.1 c.1 = true))) := by
  refine Tri.of_body [(0, pv), (1, .agg #[.int .i64 (a.1 : Int), .int .i64 (a.2.1 : Int)]), (2, .agg #[.int .i64 (c.1 : Int), .int .i64 (c.2.1 : Int)])] Tryz.func106 rfl Tryz.ntmps106 (by simp) rfl (fun Hr => ?_)
  rw [List.nil_append]
  refine WC.seq ?_
  refine WC.region ?_
  refine WL.new (New.boxN rfl) (fun b4 => ?_)
  refine WL.new (New.boxN rfl) (fun b5 => ?_)
  refine WL.pur (Pur.assign rfl) ?_
  refine WL.nil ?_
  refine WQ.thn ?_
  refine WC.seq ?_
  refine WC.seq ?_
  refine WC.region ?_
  refine WL.pur (Pur.fieldAddr rfl fo_164_0) ?_
  refine' WL.pur (Pur.load1 rfl ty_3 ?h1_0) ?k1
  case h1_0 => first | (apply Rd.own1; exact zmE; rfl) | (apply RdV.rd; apply RdV.idx (i := 0); assumption; rfl)
  refine WL.pur (Pur.fieldAddr rfl fo_164_0) ?_
  refine' WL.pur (Pur.load1 rfl ty_3 ?h2_0) ?k2
  case h2_0 => first | (apply Rd.own1; exact zmE; rfl) | (apply RdV.rd; apply RdV.idx (i := 0); assumption; rfl)
  refine' WL.pur (Pur.bin rfl rfl ?h3_0) ?k3
  case h3_0 => first | exact Bin.eqN | exact Bin.eqI
  refine WL.nil ?_
  refine WQ.thn ?_
  first | refine WC.cond rfl (fun hc0 => ?_) (fun hc0 => ?_) | refine WC.condB rfl (fun hc0 => ?_) (fun hc0 => ?_)
  · refine WC.seq ?_
    refine WC.region ?_
    refine WL.pur (Pur.fieldAddr rfl fo_164_1) ?_
    refine' WL.pur (Pur.load1 rfl ty_3 ?h4_0) ?k4
    case h4_0 => first | (apply Rd.own1; exact zmE; rfl) | (apply RdV.rd; apply RdV.idx (i := 1); assumption; rfl) | (apply RdV.rd; apply RdV.idx (off := 0) (i := 1); assumption; rfl)
    refine WL.pur (Pur.fieldAddr rfl fo_164_1) ?_
    refine' WL.pur (Pur.load1 rfl ty_3 ?h5_0) ?k5
    case h5_0 => first | (apply Rd.own1; exact zmE; rfl) | (apply RdV.rd; apply RdV.idx (i := 1); assumption; rfl) | (apply RdV.rd; apply RdV.idx (off := 0) (i := 1); assumption; rfl)
    refine' WL.pur (Pur.bin rfl rfl ?h6_0) ?k6
    case h6_0 => first | exact Bin.gtN | exact Bin.gtI
    refine WL.pur (Pur.assign rfl) ?_
    refine WL.nil ?_
    refine WQ.thn ?_
    refine WC.ret ?_
    refine WQ.thn_ret ?_
    refine WQ.ret1 Tryz.results106 rfl [] zsL (View.le_refl _) ?_
    refine ⟨?_, rfl, rfl⟩
    exact decB ⟨fun _ => .inl hc0, fun _ => hac hc0⟩
  · refine WC.skip ?_
    refine WQ.thn ?_
    refine WC.seq ?_
    refine WC.region ?_
    refine WL.pur (Pur.move rfl) ?_
    refine WL.pur (Pur.fieldAddr rfl fo_164_0) ?_
    refine' WL.pur (Pur.load1 rfl ty_3 ?h7_0) ?k7
    case h7_0 => first | (apply Rd.own1; exact zmE; rfl) | (apply RdV.rd; apply RdV.idx (i := 0); assumption; rfl)
    refine WL.pur (Pur.fieldAddr rfl fo_164_0) ?_
    refine' WL.pur (Pur.load1 rfl ty_3 ?h8_0) ?k8
    case h8_0 => first | (apply Rd.own1; exact zmE; rfl) | (apply RdV.rd; apply RdV.idx (i := 0); assumption; rfl)
    refine WL.callP rfl Tryz.call115 ((r11_Sees _ _ L a.1 c.1 h ho hc ha)) ?_
    refine WL.pur (Pur.assign rfl) ?_
    refine WL.nil ?_
    refine WQ.thn ?_
    refine WC.ret ?_
    refine WQ.ret1 Tryz.results106 rfl [] zsL (View.le_refl _) ?_
    refine ⟨?_, rfl, rfl⟩
    exact decB ⟨fun h => .inr h, fun h => h.resolve_left hc0⟩

theorem r11_Spots (σ : View) (pv : Value) (L : List EntD) (key : ByteArray) (kl kh : Int) (h : R11V σ pv L) (ho : OrdOk L) :
    Tri Tryz.prog 104 #[pv, .string key, .int .i64 kl, .int .i64 kh] σ [] (fun v σ' H' => (∃ h, SlO σ eSpot 164 2 v (tripsN L (isKey key kl kh) L.length) h ∧ H' = h) ∧ σ' = σ) := by
  obtain ⟨b, plv, psv, pqv, rfl, hr, hE, hS, hQ⟩ := h
  obtain ⟨pla, plc, rfl, hplc, hplb⟩ := hE.shape
  obtain ⟨plb, ploff, hel⟩ := addr_of hE
  have hmost := ho.most
  refine Tri.of_body [(0, .pointer (some ⟨b, 0, none⟩)), (1, .string key), (2, .int .i64 kl), (3, .int .i64 kh)] Tryz.func104 rfl Tryz.ntmps104 (by simp) rfl (fun Hr => ?_)
  rw [List.nil_append]
  refine WC.seq ?_
  refine WC.region ?_
  refine WL.pur (Pur.assign rfl) ?_
  refine WL.nil ?_
  refine WQ.thn ?_
  refine WC.seq ?_
  refine WC.region ?_
  refine WL.new (New.buildSlice0 sl_160) (fun b13 => ?_)
  refine WL.pur (Pur.assign rfl) ?_
  refine WL.nil ?_
  refine WQ.thn ?_
  refine WC.seq ?_
  refine WC.seq ?_
  refine WC.region ?_
  refine WL.pur (Pur.assign rfl) ?_
  refine WL.nil ?_
  refine WQ.thn ?_
  refine WC.block ?_
  refine WC.loop (fun j m σ' H' => ∃ (i : Nat) (sv : Value) (hl : HList), j = L.length - i ∧ i ≤ L.length ∧ SlO σ eSpot 164 2 sv (tripsN L (isKey key kl kh) i) hl ∧ m = [(0, .pointer (some ⟨b, 0, none⟩)), (1, .string key), (2, .int .i64 kl), (3, .int .i64 kh), (9, sv), (10, .int .i64 (i : Int))] ∧ σ' = σ ∧ H' = hl ++ Hr) ⟨0, _, [(b13, rowO 164 [])], rfl, by omega, SlO.row (b := b13) (ElR.nil (σ := σ) (E := eSpot) (sz := 2)), rfl, rfl, rfl⟩ zcV zsL ?_
  rintro _ _ σ Hr ⟨i, sv, hl, rfl, hi, hso, rfl, rfl, rfl⟩
  refine WC.seq ?_
  refine WC.seq ?_
  refine WC.region ?_
  refine WL.pur (Pur.move rfl) ?_
  refine WL.pur (Pur.move rfl) ?_
  refine WL.pur (Pur.nilCheck rfl) ?_
  refine WL.pur (Pur.fieldAddr rfl fo_74_0) ?_
  refine' WL.pur (Pur.load1 rfl ty_22 ?h1_0) ?k1
  case h1_0 => first | (apply Rd.own1; exact zmE; rfl) | (apply RdV.rd; apply RdV.idx (i := 0); assumption; rfl)
  refine WL.pur (Pur.len rfl isSlice_22) ?_
  refine' WL.pur (Pur.bin rfl rfl ?h2_0) ?k2
  case h2_0 => first | exact Bin.ltN | exact Bin.ltI | exact Bin.ltS
  refine WL.nil ?_
  refine WQ.thn ?_
  first | refine WC.cond rfl (fun hc0 => ?_) (fun hc0 => ?_) | refine WC.condB rfl (fun hc0 => ?_) (fun hc0 => ?_)
  · obtain ⟨e, he⟩ : ∃ e, L[i]? = some e := ⟨_, List.getElem?_eq_getElem (by omega)⟩
    obtain ⟨qv, ov, hrd, heH, hNR⟩ := ent_rd hE hel he
    have hops := hNR.2.1
    obtain ⟨pa, pc, rfl, hpc, hpb⟩ := hNR.1.shape
    obtain ⟨oa, oc, rfl, hoc, hob⟩ := hops.shape
    obtain ⟨ob, ooff, heo, hoat⟩ := hops.rds
    have hop := opsAt_of he
    have hol : e.node.ops.length ≤ 1024 := by rw [← hop]; exact opsAt_len ho i
    refine WC.skip ?_
    refine WQ.thn ?_
    refine WC.seq ?_
    refine WC.block ?_
    refine WC.seq ?_
    refine WC.region ?_
    refine WL.pur (Pur.assign rfl) ?_
    refine WL.nil ?_
    refine WQ.thn ?_
    refine WC.block ?_
    refine WC.loop (fun j m σ' H' => ∃ (q : Nat) (sv2 : Value) (hl2 : HList), j = e.node.ops.length - q ∧ q ≤ e.node.ops.length ∧ SlO σ eSpot 164 2 sv2 (tripsN L (isKey key kl kh) i ++ tripsAt (isKey key kl kh) i (e.node.ops.take q)) hl2 ∧ m = [(0, .pointer (some ⟨b, 0, none⟩)), (1, .string key), (2, .int .i64 kl), (3, .int .i64 kh), (9, sv2), (10, .int .i64 (i : Int)), (11, .int .i64 (q : Int))] ∧ σ' = σ ∧ H' = hl2 ++ Hr) ⟨0, sv, hl, rfl, by omega, by simpa [tripsAt] using hso, rfl, rfl, rfl⟩ zcV zsL ?_
    rintro _ _ σ Hr ⟨q, sv2, hl2, rfl, hq, hso2, rfl, rfl, rfl⟩
    refine WC.seq ?_
    refine WC.seq ?_
    refine WC.region ?_
    refine WL.pur (Pur.move rfl) ?_
    refine WL.pur (Pur.move rfl) ?_
    refine WL.pur (Pur.nilCheck rfl) ?_
    refine WL.pur (Pur.fieldAddr rfl fo_74_0) ?_
    refine' WL.pur (Pur.load1 rfl ty_22 ?h3_0) ?k3
    case h3_0 => first | (apply Rd.own1; exact zmE; rfl) | (apply RdV.rd; apply RdV.idx (i := 0); assumption; rfl)
    refine WL.pur (Pur.move rfl) ?_
    refine' WL.pur (Pur.indexAddr (eqA (hel (by omega))) rfl sl_22 ?h4_0) ?k4
    case h4_0 => omega
    refine WL.pur (Pur.fieldAddr rfl fo_45_1) ?_
    refine WL.pur (Pur.fieldAddr rfl fo_43_3) ?_
    refine' WL.pur (Pur.load1 rfl ty_40 ?h5_0) ?k5
    case h5_0 => first | (apply Rd.own1; exact zmE; rfl) | (apply RdV.rd; apply RdV.idx (i := 35); assumption; rfl) | (apply RdV.rd; apply RdV.idx (off := 0) (i := 35); assumption; rfl)
    refine WL.pur (Pur.len rfl isSlice_40) ?_
    refine' WL.pur (Pur.bin rfl rfl ?h6_0) ?k6
    case h6_0 => first | exact Bin.ltN | exact Bin.ltI | exact Bin.ltS
    refine WL.nil ?_
    refine WQ.thn ?_
    first | refine WC.cond rfl (fun hc1 => ?_) (fun hc1 => ?_) | refine WC.condB rfl (fun hc1 => ?_) (fun hc1 => ?_)
    · obtain ⟨o, hoq⟩ : ∃ o, e.node.ops[q]? = some o := ⟨_, List.getElem?_eq_getElem (by omega)⟩
      obtain ⟨vs, _, _, ⟨rfl, hook⟩, hord⟩ := hoat q o hoq
      have htl := tripsN_len ho (isKey key kl kh) i
      have htq := Nat.le_trans (tripsAt_len (isKey key kl kh) i (e.node.ops.take q)) (List.length_take_le q e.node.ops)
      refine WC.skip ?_
      refine WQ.thn ?_
      refine WC.seq ?_
      refine WC.block ?_
      refine WC.seq ?_
      refine WC.region ?_
      refine WL.pur (Pur.move rfl) ?_
      refine WL.pur (Pur.nilCheck rfl) ?_
      refine WL.pur (Pur.fieldAddr rfl fo_74_0) ?_
      refine' WL.pur (Pur.load1 rfl ty_22 ?h7_0) ?k7
      case h7_0 => first | (apply Rd.own1; exact zmE; rfl) | (apply RdV.rd; apply RdV.idx (i := 0); assumption; rfl)
      refine WL.pur (Pur.move rfl) ?_
      refine' WL.pur (Pur.indexAddr (eqA (hel (by omega))) rfl sl_22 ?h8_0) ?k8
      case h8_0 => omega
      refine WL.pur (Pur.fieldAddr rfl fo_45_1) ?_
      refine WL.pur (Pur.fieldAddr rfl fo_43_3) ?_
      refine' WL.pur (Pur.load1 rfl ty_40 ?h9_0) ?k9
      case h9_0 => first | (apply Rd.own1; exact zmE; rfl) | (apply RdV.rd; apply RdV.idx (i := 35); assumption; rfl) | (apply RdV.rd; apply RdV.idx (off := 0) (i := 35); assumption; rfl)
      refine WL.pur (Pur.move rfl) ?_
      refine' WL.pur (Pur.indexAddr (eqA (heo (by omega))) rfl sl_40 ?h10_0) ?k10
      case h10_0 => omega
      refine' WL.pur (Pur.loadN rfl ty_51 ?h11_0 ?h11_1) ?k11
      case h11_0 => exact RdV.rd hord
      case h11_1 => first | rfl | assumption
      refine WL.new (New.alloc zc_51) (fun b12 => ?_)
      refine' WL.run0 (Run.storeAll rfl rfl ty_51 ?h12_0 (by first | rfl | assumption) ?h12_1 (by first | rfl | assumption)) ?k12
      case h12_0 => repeat (first | exact Part.one | exact Part.here | apply Part.cons | apply Part.app)
      case h12_1 => first | rfl | assumption
      refine WL.nil ?_
      refine WQ.thn ?_
      refine WC.seq ?_
      refine WC.region ?_
      refine WL.pur (Pur.fieldAddr rfl fo_51_1) ?_
      refine' WL.pur (Pur.load1 rfl ty_9 ?h13_0) ?k13
      case h13_0 => first | (apply Rd.own1; exact zmE; rfl) | (apply RdV.rd; apply RdV.idx (i := 1); assumption; rfl) | (apply RdV.rd; apply RdV.idx (off := 0) (i := 1); assumption; rfl)
      refine WL.pur (Pur.move rfl) ?_
      refine' WL.pur (Pur.bin rfl rfl ?h14_0) ?k14
      case h14_0 => exact Bin.eqS
      refine WL.pur (Pur.move rfl) ?_
      refine' WL.andp (u := 53) (t := 58) rfl ?h15_0 ?h15_1 ?h15_2 rfl ?k15
      case h15_0 =>
        intro hg53 K53
        refine WL.gpur (u := 53) rfl rfl (gT hg53) (Pur.fieldAddr rfl fo_51_0) ?_
        refine' WL.gpur (u := 53) rfl rfl (gT hg53) (Pur.load1 rfl ty_3 ?h16_0) ?k16
        case h16_0 => first | (apply Rd.own1; exact zmE; rfl) | (apply RdV.rd; apply RdV.idx (i := 0); assumption; rfl)
        refine WL.gpur (u := 53) rfl rfl (gT hg53) (Pur.move rfl) ?_
        refine' WL.gpur (u := 53) rfl rfl (gT hg53) (Pur.bin rfl rfl ?h17_0) ?k17
        case h17_0 => first | exact Bin.geN | exact Bin.geI
        exact K53 _ zcR rfl
      case h15_1 =>
        intro hg53 K53
        refine WL.gskip (u := 53) rfl rfl (sT hg53) ?_
        refine WL.gskip (u := 53) rfl rfl (sT hg53) ?_
        refine WL.gskip (u := 53) rfl rfl (sT hg53) ?_
        refine WL.gskip (u := 53) rfl rfl (sT hg53) ?_
        exact K53 _ zcR
      case h15_2 => exact Wanted.plain rfl
      refine WL.pur (Pur.move rfl) ?_
      refine' WL.andp (u := 59) (t := 64) rfl ?h18_0 ?h18_1 ?h18_2 rfl ?k18
      case h18_0 =>
        intro hg59 K59
        refine WL.gpur (u := 59) rfl rfl (gT hg59) (Pur.fieldAddr rfl fo_51_0) ?_
        refine' WL.gpur (u := 59) rfl rfl (gT hg59) (Pur.load1 rfl ty_3 ?h19_0) ?k19
        case h19_0 => first | (apply Rd.own1; exact zmE; rfl) | (apply RdV.rd; apply RdV.idx (i := 0); assumption; rfl)
        refine WL.gpur (u := 59) rfl rfl (gT hg59) (Pur.move rfl) ?_
        refine' WL.gpur (u := 59) rfl rfl (gT hg59) (Pur.bin rfl rfl ?h20_0) ?k20
        case h20_0 => first | exact Bin.leN | exact Bin.leI | exact Bin.leS
        exact K59 _ zcR rfl
      case h18_1 =>
        intro hg59 K59
        refine WL.gskip (u := 59) rfl rfl (sT hg59) ?_
        refine WL.gskip (u := 59) rfl rfl (sT hg59) ?_
        refine WL.gskip (u := 59) rfl rfl (sT hg59) ?_
        refine WL.gskip (u := 59) rfl rfl (sT hg59) ?_
        exact K59 _ zcR
      case h18_2 => exact Wanted.plain rfl
      refine WL.nil ?_
      refine WQ.thn ?_
      first | refine WC.cond rfl (fun hc2 => ?_) (fun hc2 => ?_) | refine WC.condB rfl (fun hc2 => ?_) (fun hc2 => ?_)
      · have hreg : isKey key kl kh o = true := by simp only [isKey, decide_eq_true_eq]; exact ⟨hc2.1.1, hc2.1.2, hc2.2⟩
        refine WC.region ?_
        refine WL.pur (Pur.move rfl) ?_
        refine WL.pur (Pur.move rfl) ?_
        refine WL.pur (Pur.move rfl) ?_
        refine' WL.pur (Pur.bin rfl rfl ?h21_0) ?k21
        case h21_0 => first | (refine Bin.addN (b := 1) ?_; omega) | (refine Bin.addI ?_; omega)
        refine WL.pur (Pur.build (l := [.int .i64 (i : Int), .int .i64 ((q + 1 : Nat) : Int)]) pl_164 zc_164 rfl rfl) ?_
        refine WL.new (New.buildSliceN (xs := [.tmp 69]) (vss := [[.int .i64 (i : Int), .int .i64 ((q + 1 : Nat) : Int)]]) sl_160 zc_164 rfl rfl rfl (by rfl) (by rfl)) (fun b70 => ?_)
        refine' WL.any (Any.push (H1 := [(b70, _), (b12, _)]) (H2 := Hr) sl_160 zc_164 rfl by_164 rfl rfl hso2 ?h22_0 ?h22_1 ?h22_2 ?h22_3 rfl (by simp only [List.length_append]; omega) (by simp only [List.length_append]; omega)) ?k22
        case h22_0 => apply Rd.own_sub; exact zmE; exact Sub.refl _
        case h22_1 => first | rfl | assumption
        case h22_2 => first | rfl | assumption
        case h22_3 => exact (show eSpot _ (i, q + 1, o) _ from rfl)
        rintro v71 σ _ ⟨hl3, hso3, rfl, rfl⟩ _
        refine WL.pur (Pur.assign rfl) ?_
        refine WL.nil ?_
        refine WQ.blk ?_
        refine WQ.thn ?_
        refine WC.region ?_
        refine WL.pur (Pur.move rfl) ?_
        refine' WL.pur (Pur.bin rfl rfl ?h23_0) ?k23
        case h23_0 => first | (refine Bin.addN (b := 1) ?_; omega) | (refine Bin.addI ?_; omega)
        refine WL.pur (Pur.assign rfl) ?_
        refine WL.nil ?_
        refine WQ.back _ ⟨q + 1, _, _, rfl, by omega, by rw [tripsAt_step hoq, if_pos hreg, ← List.append_assoc]; exact hso3, rfl, rfl, rfl⟩ (by omega) zcV zsL
      · have hreg : ¬ isKey key kl kh o = true := by simp only [isKey, decide_eq_true_eq]; exact fun h => hc2 ⟨⟨h.1, h.2.1⟩, h.2.2⟩
        refine WC.skip ?_
        refine WQ.blk ?_
        refine WQ.thn ?_
        refine WC.region ?_
        refine WL.pur (Pur.move rfl) ?_
        refine' WL.pur (Pur.bin rfl rfl ?h24_0) ?k24
        case h24_0 => first | (refine Bin.addN (b := 1) ?_; omega) | (refine Bin.addI ?_; omega)
        refine WL.pur (Pur.assign rfl) ?_
        refine WL.nil ?_
        refine WQ.back _ ⟨q + 1, sv2, hl2, rfl, by omega, by rw [tripsAt_step hoq, if_neg hreg, List.append_nil]; exact hso2, rfl, rfl, rfl⟩ (by omega) zcV zsL
    · refine WC.exit ?_
      refine WQ.thn_exit ?_
      refine WQ.back_exit ?_
      refine WQ.blk_here ?_
      refine WQ.blk ?_
      refine WQ.thn ?_
      refine WC.region ?_
      refine WL.pur (Pur.move rfl) ?_
      refine' WL.pur (Pur.bin rfl rfl ?h25_0) ?k25
      case h25_0 => first | (refine Bin.addN (b := 1) ?_; omega) | (refine Bin.addI ?_; omega)
      refine WL.pur (Pur.assign rfl) ?_
      refine WL.nil ?_
      refine WQ.back _ ⟨i + 1, sv2, hl2, rfl, by omega, by rw [tripsN_succ, hop]; rw [List.take_of_length_le (show e.node.ops.length ≤ q by omega)] at hso2; exact hso2, rfl, rfl, rfl⟩ (by omega) zcV zsL
  · have hil : i = L.length := by omega
    subst hil
    refine WC.exit ?_
    refine WQ.thn_exit ?_
    refine WQ.back_exit ?_
    refine WQ.blk_here ?_
    refine WQ.thn ?_
    refine WC.seq ?_
    refine WC.region ?_
    refine WL.pur (Pur.move rfl) ?_
    refine WL.pur (Pur.assign rfl) ?_
    refine WL.nil ?_
    refine WQ.thn ?_
    refine WC.ret ?_
    refine WQ.ret1 Tryz.results104 rfl hl (List.Sublist.refl _) (View.le_refl _) ?_
    exact ⟨⟨_, hso, rfl⟩, rfl⟩

end Go.Proofs.YtgoooilgmabkmaaGreat
namespace Go.Proofs.YtgoooilgmabkmaaGreat
open Go Go.Sl
set_option linter.unusedVariables false
set_option linter.unusedSimpArgs false
set_option maxRecDepth 100000

theorem rowB_new {N : Nat} {Q : Nat → Prop} [DecidablePred Q] (h : ∀ j, ¬ Q j) : List.replicate N (Value.bool false) = (List.range N).map (fun j => Value.bool (decide (Q j))) := by
  rw [replicate_range]
  exact map_range_congr fun j _ => by simp [h j]
theorem rowB_put1 {N k : Nat} {Q Q' : Nat → Prop} [DecidablePred Q] [DecidablePred Q'] (h : ∀ j, j < N → (Q' j ↔ Q j ∨ j = k)) : (List.range N).map (fun j => if j = k then Value.bool true else Value.bool (decide (Q j))) = (List.range N).map (fun j => Value.bool (decide (Q' j))) :=
  map_range_congr fun j hj => by
    by_cases hk : j = k
    · rw [if_pos hk]; exact boolT ((h j hj).2 (.inr hk))
    · rw [if_neg hk]; exact decB ⟨fun hq => (h j hj).2 (.inl hq), fun hq => ((h j hj).1 hq).resolve_right hk⟩
theorem rowB_put {N k : Nat} {Q Q' : Nat → Prop} {p : Prop} [DecidablePred Q] [DecidablePred Q'] [Decidable p] (h1 : Q' k ↔ p) (h2 : ∀ j, j ≠ k → (Q' j ↔ Q j)) : (List.range N).map (fun j => if j = k then Value.bool (decide p) else Value.bool (decide (Q j))) = (List.range N).map (fun j => Value.bool (decide (Q' j))) :=
  map_range_congr fun j _ => by
    by_cases hk : j = k
    · rw [if_pos hk]; subst hk; exact decB h1.symm
    · rw [if_neg hk]; exact decB (h2 j hk).symm
theorem rowB_congr {N : Nat} {Q Q' : Nat → Prop} [DecidablePred Q] [DecidablePred Q'] (h : ∀ j, j < N → (Q j ↔ Q' j)) : (List.range N).map (fun j => Value.bool (decide (Q j))) = (List.range N).map (fun j => Value.bool (decide (Q' j))) :=
  map_range_congr fun j hj => decB (h j hj)
theorem allH_snoc {L : List EntD} {hs : List Nat} {i h k : Nat} (hh : hs[i]? = some h) (hk : idxOf L h = some k) (ha : allH L (hs.take i)) : allH L (hs.take (i + 1)) := by
  rw [List.take_add_one, hh]
  intro x hx
  rcases List.mem_append.1 hx with hx | hx
  · exact ha x hx
  · simp at hx; subst hx; rw [hk]; simp
theorem inH_same {L : List EntD} (ho : OrdOk L) {hs : List Nat} {i h k : Nat} (hh : hs[i]? = some h) (hk : idxOf L h = some k) (hin : inH L (hs.take i) k) (j : Nat) : inH L (hs.take i) j ↔ inH L (hs.take (i + 1)) j := by
  rw [List.take_add_one, hh, Option.toList_some, inH_snoc hk]
  constructor
  · exact .inl
  · rintro (h1 | rfl | h1)
    · exact h1
    · exact hin
    · exact inH_closed ho _ j k hin h1
theorem inH_next {L : List EntD} (ho : OrdOk L) {hs : List Nat} {i h k : Nat} (hh : hs[i]? = some h) (hk : idxOf L h = some k) (j : Nat) : (inH L (hs.take i) j ∨ j = k ∨ (j < k ∧ seesN L j k = true)) ↔ inH L (hs.take (i + 1)) j := by
  rw [List.take_add_one, hh, Option.toList_some, inH_snoc hk]
  constructor
  · rintro (h1 | h1 | h1)
    · exact .inl h1
    · exact .inr (.inl h1)
    · exact .inr (.inr h1.2)
  · rintro (h1 | h1 | h1)
    · exact .inl h1
    · exact .inr (.inl h1)
    · exact .inr (.inr ⟨(sees_lt ho h1).1, h1⟩)
theorem numV_some {o : Option Nat} (h : ¬ numV o < 0) : ∃ k, o = some k ∧ numV o = (k : Int) := by
  cases o with
  | none => exact absurd (by simp [numV]) h
  | some k => exact ⟨k, rfl, rfl⟩

set_option maxHeartbeats 2000000 in
theorem past_under (σ : View) (pv hv : Value) (L : List EntD) (hs : List Nat) (h : PastV σ pv L) (ho : OrdOk L) (hh : Hashes σ hv hs) :
    Tri Tryz.prog 124 #[pv, hv] σ [] (fun v σ' H' => σ' = σ ∧ ((allH L hs ∧ ∃ b, v = .tuple #[.slice (some ⟨b, 0, none⟩) L.length L.length, .int .i64 0] ∧ H' = [(b, rowO 4 ((List.range L.length).map (fun j => Value.bool (decide (inH L hs j)))))]) ∨ (¬ allH L hs ∧ v = .tuple #[.slice none 0 0, .int .i64 6] ∧ H' = []))) := by
  have h' := h
  have hmost := ho.most
  obtain ⟨b, mb, lv, sv, rfl, hr, hl, hm, hsn⟩ := h
  obtain ⟨la, lc, rfl, hlc, hlb⟩ := hl.shape
  obtain ⟨ha, hc, rfl, hhc, hhb⟩ := hh.shape
  obtain ⟨hb, hoff, heh, hhat⟩ := hh.rds
  refine Tri.of_body [(0, .pointer (some ⟨b, 0, none⟩)), (1, .slice ha hs.length hc)] Tryz.func124 rfl Tryz.ntmps124 (by simp) rfl (fun Hr => ?_)
  rw [List.nil_append]
  refine WC.seq ?_
  refine WC.region ?_
  refine WL.pur (Pur.assign rfl) ?_
  refine WL.pur (Pur.assign rfl) ?_
  refine WL.nil ?_
  refine WQ.thn ?_
  refine WC.seq ?_
  refine WC.region ?_
  refine WL.pur (Pur.move rfl) ?_
  refine WL.pur (Pur.nilCheck rfl) ?_
  refine WL.pur (Pur.fieldAddr rfl fo_173_0) ?_
  refine' WL.pur (Pur.load1 rfl ty_22 ?h1_0) ?k1
  case h1_0 => exact RdV.rd (RdV.idx (off := 0) (i := 0) hr rfl)
  refine WL.pur (Pur.len rfl isSlice_22) ?_
  refine WL.any (Any.make1 sl_181 zc_4 by_4 rfl rfl (by omega) (by omega)) ?_
  rintro _ σ _ ⟨b16, rfl, rfl, rfl⟩ _
  refine WL.pur (Pur.assign rfl) ?_
  refine WL.nil ?_
  refine WQ.thn ?_
  refine WC.seq ?_
  refine WC.seq ?_
  refine WC.region ?_
  refine WL.pur (Pur.move rfl) ?_
  refine WL.pur (Pur.len rfl isSlice_41) ?_
  refine WL.pur (Pur.move rfl) ?_
  refine WL.nil ?_
  refine WQ.thn ?_
  refine WC.block ?_
  rw [rowB_new (N := L.length) (Q := inH L (hs.take 0)) (fun j => by rw [List.take_zero]; exact inH_nil L j)]
  refine WC.loop (fun j m σ' H' => ∃ i : Nat, j = hs.length - i ∧ i ≤ hs.length ∧ allH L (hs.take i) ∧ m = [(0, .pointer (some ⟨b, 0, none⟩)), (6, .slice (some ⟨b16, 0, none⟩) L.length L.length), (17, .slice ha hs.length hc), (18, .int .i64 (hs.length : Int)), (19, .int .i64 (i : Int))] ∧ σ' = σ ∧ H' = (b16, rowO 4 ((List.range L.length).map (fun j => Value.bool (decide (inH L (hs.take i) j))))) :: Hr) ⟨0, rfl, by omega, by rw [List.take_zero]; intro x hx; simp at hx, rfl, rfl, rfl⟩ zcV zsL ?_
  rintro _ _ σ Hr ⟨i, rfl, hi, hal, rfl, rfl, rfl⟩
  refine WC.seq ?_
  refine WC.region ?_
  refine' WL.pur (Pur.bin rfl rfl ?h2_0) ?k2
  case h2_0 => first | exact Bin.ltN | exact Bin.ltI | exact Bin.ltS
  refine WL.nil ?_
  refine WQ.thn ?_
  refine WC.seq ?_
  first | refine WC.cond rfl (fun hc0 => ?_) (fun hc0 => ?_) | refine WC.condB rfl (fun hc0 => ?_) (fun hc0 => ?_)
  · obtain ⟨x, hx⟩ : ∃ x, hs[i]? = some x := ⟨_, List.getElem?_eq_getElem (by omega)⟩
    obtain ⟨_, _, _, ⟨rfl, hxh⟩, hxr⟩ := hhat i x hx
    refine WC.skip ?_
    refine WQ.thn ?_
    refine WC.seq ?_
    refine WC.block ?_
    refine WC.seq ?_
    refine WC.region ?_
    refine' WL.pur (Pur.indexAddr (eqA (heh (by omega))) rfl sl_41 ?h3_0) ?k3
    case h3_0 => omega
    refine' WL.pur (Pur.loadN rfl ty_39 ?h4_0 ?h4_1) ?k4
    case h4_0 => exact RdV.rd hxr
    case h4_1 => first | rfl | assumption
    refine WL.new (New.alloc zc_39) (fun b8 => ?_)
    refine' WL.run0 (Run.storeAll rfl rfl ty_39 ?h5_0 (by first | rfl | assumption) ?h5_1 (by first | rfl | assumption)) ?k5
    case h5_0 => repeat (first | exact Part.one | exact Part.here | apply Part.cons | apply Part.app)
    case h5_1 => first | rfl | assumption
    refine WL.nil ?_
    refine WQ.thn ?_
    refine WC.seq ?_
    refine WC.region ?_
    refine WL.pur (Pur.move rfl) ?_
    refine' WL.pur (Pur.loadN rfl ty_39 ?h6_0 ?h6_1) ?k6
    case h6_0 => first | (apply Rd.own_sub; exact zmE; exact Sub.refl _) | (apply RdV.rd; assumption)
    case h6_1 => first | rfl | assumption
    refine WL.callP rfl Tryz.call36 ((past_Number _ _ L x h' hxh)) ?_
    refine WL.pur (Pur.assign rfl) ?_
    refine WL.nil ?_
    refine WQ.thn ?_
    refine WC.seq ?_
    refine WC.seq ?_
    refine WC.region ?_
    refine WL.pur (Pur.move rfl) ?_
    refine' WL.pur (Pur.bin rfl rfl ?h7_0) ?k7
    case h7_0 => first | exact Bin.ltN (b := 0) | exact Bin.ltI | exact Bin.ltS
    refine WL.nil ?_
    refine WQ.thn ?_
    first | refine WC.cond rfl (fun hc1 => ?_) (fun hc1 => ?_) | refine WC.condB rfl (fun hc1 => ?_) (fun hc1 => ?_)
    · have hno : ¬ allH L hs := fun ha => ha x (List.mem_of_getElem? hx) (numV_none.1 hc1)
      refine WC.seq ?_
      refine WC.region ?_
      refine WL.pur (Pur.assign rfl) ?_
      refine WL.pur (Pur.assign rfl) ?_
      refine WL.nil ?_
      refine WQ.thn ?_
      refine WC.ret ?_
      refine WQ.thn_ret ?_
      refine WQ.blk_ret ?_
      refine WQ.thn_ret ?_
      refine WQ.back_ret ?_
      refine WQ.blk_ret ?_
      refine WQ.thn_ret ?_
      refine WQ.ret2 Tryz.results124 rfl rfl [] zsL (View.le_refl _) ?_
      exact ⟨rfl, .inr ⟨hno, rfl, rfl⟩⟩
    · obtain ⟨k, hk, hnk⟩ := numV_some hc1
      rw [hnk]
      have hkl := idxOf_lt hk
      refine WC.skip ?_
      refine WQ.thn ?_
      refine WC.seq ?_
      refine WC.seq ?_
      refine WC.region ?_
      refine WL.pur (Pur.move rfl) ?_
      refine WL.pur (Pur.move rfl) ?_
      refine' WL.pur (Pur.indexAddr rfl rfl sl_181 ?h8_0) ?k8
      case h8_0 => omega
      refine' WL.pur (Pur.load1 rfl ty_4 ?h9_0) ?k9
      case h9_0 => apply Rd.own1; exact zmE; exact get_range_map1 hkl
      refine WL.nil ?_
      refine WQ.thn ?_
      first | refine WC.cond rfl (fun hc2 => ?_) (fun hc2 => ?_) | refine WC.condB rfl (fun hc2 => ?_) (fun hc2 => ?_)
      · have hin0 : inH L (hs.take i) k := hc2
        have inH_same_ho : ∀ j, j < L.length → (inH L (hs.take i) j ↔ inH L (hs.take (i + 1)) j) := fun j _ => inH_same ho hx hk hin0 j
        refine WC.exit ?_
        refine WQ.thn_exit ?_
        refine WQ.blk_here ?_
        refine WQ.thn ?_
        refine WC.region ?_
        refine' WL.pur (Pur.bin rfl rfl ?h10_0) ?k10
        case h10_0 => first | (refine Bin.addN (b := 1) ?_; omega) | (refine Bin.addI ?_; omega)
        refine WL.pur (Pur.move rfl) ?_
        refine WL.nil ?_
        rw [rowB_congr inH_same_ho]
        refine WQ.back _ ⟨i + 1, rfl, by omega, allH_snoc hx hk hal, rfl, rfl, rfl⟩ (by omega) zcV zsL
      · have inH_next_ho : ∀ j, j < L.length → ((inH L (hs.take i) j ∨ j = k ∨ (j < k ∧ seesN L j k = true)) ↔ inH L (hs.take (i + 1)) j) := fun j _ => inH_next ho hx hk j
        refine WC.skip ?_
        refine WQ.thn ?_
        refine WC.seq ?_
        refine WC.region ?_
        refine WL.pur (Pur.move rfl) ?_
        refine WL.pur (Pur.move rfl) ?_
        refine' WL.pur (Pur.indexAddr rfl rfl sl_181 ?h11_0) ?k11
        case h11_0 => omega
        refine' WL.run0 (Run.storeF rfl rfl ty_4 (by first | rfl | assumption) ?h12_0 ?h12_1 sz_4) ?k12
        case h12_0 => repeat (first | exact Part.one | exact Part.here | apply Part.cons | apply Part.app)
        case h12_1 => first | assumption | omega
        refine WL.nil ?_
        refine WQ.thn ?_
        refine WC.seq ?_
        refine WC.region ?_
        refine WL.pur (Pur.move rfl) ?_
        refine WL.pur (Pur.move rfl) ?_
        refine WL.nil ?_
        refine WQ.thn ?_
        refine WC.block ?_
        rw [rowB_put1 (N := L.length) (k := k) (Q := fun j => inH L (hs.take i) j) (Q' := fun j => inH L (hs.take i) j ∨ j = k ∨ (j < 0 ∧ seesN L j k = true)) (fun j _ => by constructor; rintro (h1 | h1 | h1); exact .inl h1; exact .inr h1; omega; rintro (h1 | h1); exact .inl h1; exact .inr (.inl h1))]
        refine WC.loop (fun j m σ' H' => ∃ c : Nat, j = k - c ∧ c ≤ k ∧ m = [(0, .pointer (some ⟨b, 0, none⟩)), (6, .slice (some ⟨b16, 0, none⟩) L.length L.length), (17, .slice ha hs.length hc), (18, .int .i64 (hs.length : Int)), (19, .int .i64 (i : Int)), (9, .int .i64 (k : Int)), (35, .int .i64 (k : Int)), (36, .int .i64 (c : Int))] ∧ σ' = σ ∧ H' = (b16, rowO 4 ((List.range L.length).map (fun j => Value.bool (decide (inH L (hs.take i) j ∨ j = k ∨ (j < c ∧ seesN L j k = true)))))) :: Hr) ⟨0, rfl, by omega, rfl, rfl, rfl⟩ zcV zsL ?_
        rintro _ _ σ Hr ⟨c, rfl, hc2, rfl, rfl, rfl⟩
        refine WC.seq ?_
        refine WC.region ?_
        refine' WL.pur (Pur.bin rfl rfl ?h13_0) ?k13
        case h13_0 => first | exact Bin.ltN | exact Bin.ltI | exact Bin.ltS
        refine WL.nil ?_
        refine WQ.thn ?_
        refine WC.seq ?_
        first | refine WC.cond rfl (fun hc3 => ?_) (fun hc3 => ?_) | refine WC.condB rfl (fun hc3 => ?_) (fun hc3 => ?_)
        · refine WC.skip ?_
          refine WQ.thn ?_
          refine WC.seq ?_
          refine WC.block ?_
          refine WC.seq ?_
          refine WC.region ?_
          refine WL.pur (Pur.move rfl) ?_
          refine WL.pur (Pur.assign rfl) ?_
          refine WL.nil ?_
          refine WQ.thn ?_
          refine WC.region ?_
          refine WL.pur (Pur.move rfl) ?_
          refine WL.pur (Pur.move rfl) ?_
          refine WL.pur (Pur.move rfl) ?_
          refine WL.pur (Pur.move rfl) ?_
          refine' WL.pur (Pur.indexAddr rfl rfl sl_181 ?h14_0) ?k14
          case h14_0 => omega
          refine' WL.pur (Pur.load1 rfl ty_4 ?h15_0) ?k15
          case h15_0 => apply Rd.own1; exact zmE; exact get_range_map1 (show c < L.length by omega)
          refine WL.pur (Pur.move rfl) ?_
          refine' WL.orp (u := 45) (t := 50) rfl ?h16_0 ?h16_1 ?h16_2 rfl ?k16
          case h16_0 =>
            intro hg45 K45
            refine WL.gpur (u := 45) rfl rfl (gF hg45) (Pur.move rfl) ?_
            refine WL.gpur (u := 45) rfl rfl (gF hg45) (Pur.move rfl) ?_
            refine WL.gpur (u := 45) rfl rfl (gF hg45) (Pur.move rfl) ?_
            refine WL.gcallP (u := 45) rfl rfl (gF hg45) rfl Tryz.call113 ((past_Sees _ _ L c k h' ho hkl (by omega))) ?_
            exact K45 _ zcR rfl
          case h16_1 =>
            intro hg45 K45
            refine WL.gskip (u := 45) rfl rfl (sF hg45) ?_
            refine WL.gskip (u := 45) rfl rfl (sF hg45) ?_
            refine WL.gskip (u := 45) rfl rfl (sF hg45) ?_
            refine WL.gskip (u := 45) rfl rfl (sF hg45) ?_
            exact K45 _ zcR
          case h16_2 => exact Wanted.plain rfl
          refine' WL.pur (Pur.indexAddr rfl rfl sl_181 ?h17_0) ?k17
          case h17_0 => omega
          refine' WL.run0 (Run.storeF rfl rfl ty_4 (by first | rfl | assumption) ?h18_0 ?h18_1 sz_4) ?k18
          case h18_0 => repeat (first | exact Part.one | exact Part.here | apply Part.cons | apply Part.app)
          case h18_1 => first | assumption | omega
          refine WL.nil ?_
          refine WQ.blk ?_
          refine WQ.thn ?_
          refine WC.region ?_
          refine' WL.pur (Pur.bin rfl rfl ?h19_0) ?k19
          case h19_0 => first | (refine Bin.addN (b := 1) ?_; omega) | (refine Bin.addI ?_; omega)
          refine WL.pur (Pur.move rfl) ?_
          refine WL.nil ?_
          rw [rowB_put (N := L.length) (k := c) (Q := fun j => inH L (hs.take i) j ∨ j = k ∨ (j < c ∧ seesN L j k = true)) (Q' := fun j => inH L (hs.take i) j ∨ j = k ∨ (j < (c + 1) ∧ seesN L j k = true)) (by constructor; rintro (h1 | h1 | h1); exact .inl (.inl h1); exact .inl (.inr (.inl h1)); exact .inr h1.2; rintro ((h1 | h1 | h1) | h1); exact .inl h1; exact .inr (.inl h1); exact .inr (.inr ⟨by omega, h1.2⟩); exact .inr (.inr ⟨by omega, h1⟩)) (fun j hj => by constructor; rintro (h1 | h1 | h1); exact .inl h1; exact .inr (.inl h1); exact .inr (.inr ⟨by omega, h1.2⟩); rintro (h1 | h1 | h1); exact .inl h1; exact .inr (.inl h1); exact .inr (.inr ⟨by omega, h1.2⟩))]
          refine WQ.back _ ⟨c + 1, rfl, by omega, rfl, rfl, rfl⟩ (by omega) zcV zsL
        · have hck : c = k := by omega
          subst hck
          refine WC.exit ?_
          refine WQ.thn_exit ?_
          refine WQ.back_exit ?_
          refine WQ.blk_here ?_
          refine WQ.blk ?_
          refine WQ.thn ?_
          refine WC.region ?_
          refine' WL.pur (Pur.bin rfl rfl ?h20_0) ?k20
          case h20_0 => first | (refine Bin.addN (b := 1) ?_; omega) | (refine Bin.addI ?_; omega)
          refine WL.pur (Pur.move rfl) ?_
          refine WL.nil ?_
          rw [rowB_congr inH_next_ho]
          refine WQ.back _ ⟨i + 1, rfl, by omega, allH_snoc hx hk hal, rfl, rfl, rfl⟩ (by omega) zcV zsL
  · have hii : i = hs.length := by omega
    subst hii
    rw [List.take_length] at hal ⊢
    refine WC.exit ?_
    refine WQ.thn_exit ?_
    refine WQ.back_exit ?_
    refine WQ.blk_here ?_
    refine WQ.thn ?_
    refine WC.seq ?_
    refine WC.region ?_
    refine WL.pur (Pur.move rfl) ?_
    refine WL.pur (Pur.assign rfl) ?_
    refine WL.pur (Pur.assign rfl) ?_
    refine WL.nil ?_
    refine WQ.thn ?_
    refine WC.ret ?_
    refine WQ.ret2 Tryz.results124 rfl rfl [(b16, rowO 4 ((List.range L.length).map (fun j => Value.bool (decide (inH L hs j)))))] zsL (View.le_refl _) ?_
    exact ⟨rfl, .inl ⟨hal, b16, rfl, rfl⟩⟩

end Go.Proofs.YtgoooilgmabkmaaGreat
namespace Go.Proofs.YtgoooilgmabkmaaGreat
open Go Go.Sl
set_option linter.unusedVariables false
set_option linter.unusedSimpArgs false
set_option maxRecDepth 100000

set_option maxHeartbeats 2000000 in
theorem r11_closed (σ : View) (pv hv : Value) (L : List EntD) (hs : List Nat) (h : R11V σ pv L) (ho : OrdOk L) (hh : Hashes σ hv hs) :
    Tri Tryz.prog 125 #[pv, hv] σ [] (fun v σ' H' => σ' = σ ∧ ((allH L hs ∧ ∃ b, v = .tuple #[.slice (some ⟨b, 0, none⟩) L.length L.length, .bool true] ∧ H' = [(b, rowO 4 ((List.range L.length).map (fun j => Value.bool (decide (inH L hs j)))))]) ∨ (¬ allH L hs ∧ v = .tuple #[.slice none 0 0, .bool false] ∧ H' = []))) := by
  have h' := h
  have hmost := ho.most
  obtain ⟨b, plv, psv, pqv, rfl, hr, hE, hS, hQ⟩ := h
  obtain ⟨la, lc, rfl, hlc, hlb⟩ := hE.shape
  obtain ⟨ha, hc, rfl, hhc, hhb⟩ := hh.shape
  obtain ⟨hb, hoff, heh, hhat⟩ := hh.rds
  refine Tri.of_body [(0, .pointer (some ⟨b, 0, none⟩)), (1, .slice ha hs.length hc)] Tryz.func125 rfl Tryz.ntmps125 (by simp) rfl (fun Hr => ?_)
  rw [List.nil_append]
  refine WC.seq ?_
  refine WC.region ?_
  refine WL.pur (Pur.assign rfl) ?_
  refine WL.pur (Pur.assign rfl) ?_
  refine WL.nil ?_
  refine WQ.thn ?_
  refine WC.seq ?_
  refine WC.region ?_
  refine WL.pur (Pur.move rfl) ?_
  refine WL.pur (Pur.nilCheck rfl) ?_
  refine WL.pur (Pur.fieldAddr rfl fo_74_0) ?_
  refine' WL.pur (Pur.load1 rfl ty_22 ?h1_0) ?k1
  case h1_0 => exact RdV.rd (RdV.idx (off := 0) (i := 0) hr rfl)
  refine WL.pur (Pur.len rfl isSlice_22) ?_
  refine WL.any (Any.make1 sl_181 zc_4 by_4 rfl rfl (by omega) (by omega)) ?_
  rintro _ σ _ ⟨b15, rfl, rfl, rfl⟩ _
  refine WL.pur (Pur.assign rfl) ?_
  refine WL.nil ?_
  refine WQ.thn ?_
  refine WC.seq ?_
  refine WC.seq ?_
  refine WC.region ?_
  refine WL.pur (Pur.assign rfl) ?_
  refine WL.nil ?_
  refine WQ.thn ?_
  refine WC.block ?_
  rw [rowB_new (N := L.length) (Q := inH L (hs.take 0)) (fun j => by rw [List.take_zero]; exact inH_nil L j)]
  refine WC.loop (fun j m σ' H' => ∃ i : Nat, j = hs.length - i ∧ i ≤ hs.length ∧ allH L (hs.take i) ∧ m = [(0, .pointer (some ⟨b, 0, none⟩)), (1, .slice ha hs.length hc), (6, .slice (some ⟨b15, 0, none⟩) L.length L.length), (7, .int .i64 (i : Int))] ∧ σ' = σ ∧ H' = (b15, rowO 4 ((List.range L.length).map (fun j => Value.bool (decide (inH L (hs.take i) j))))) :: Hr) ⟨0, rfl, by omega, by rw [List.take_zero]; intro x hx; simp at hx, rfl, rfl, rfl⟩ zcV zsL ?_
  rintro _ _ σ Hr ⟨i, rfl, hi, hal, rfl, rfl, rfl⟩
  refine WC.seq ?_
  refine WC.seq ?_
  refine WC.region ?_
  refine WL.pur (Pur.move rfl) ?_
  refine WL.pur (Pur.move rfl) ?_
  refine WL.pur (Pur.len rfl isSlice_41) ?_
  refine' WL.pur (Pur.bin rfl rfl ?h2_0) ?k2
  case h2_0 => first | exact Bin.ltN | exact Bin.ltI | exact Bin.ltS
  refine WL.nil ?_
  refine WQ.thn ?_
  first | refine WC.cond rfl (fun hc0 => ?_) (fun hc0 => ?_) | refine WC.condB rfl (fun hc0 => ?_) (fun hc0 => ?_)
  · obtain ⟨x, hx⟩ : ∃ x, hs[i]? = some x := ⟨_, List.getElem?_eq_getElem (by omega)⟩
    obtain ⟨_, _, _, ⟨rfl, hxh⟩, hxr⟩ := hhat i x hx
    refine WC.skip ?_
    refine WQ.thn ?_
    refine WC.seq ?_
    refine WC.block ?_
    refine WC.seq ?_
    refine WC.region ?_
    refine WL.pur (Pur.move rfl) ?_
    refine WL.pur (Pur.move rfl) ?_
    refine WL.pur (Pur.move rfl) ?_
    refine' WL.pur (Pur.indexAddr (eqA (heh (by omega))) rfl sl_41 ?h3_0) ?k3
    case h3_0 => omega
    refine' WL.pur (Pur.loadN rfl ty_39 ?h4_0 ?h4_1) ?k4
    case h4_0 => exact RdV.rd hxr
    case h4_1 => first | rfl | assumption
    refine WL.callP rfl Tryz.call37 ((r11_Number _ _ L x h' ho hxh)) ?_
    refine WL.pur (Pur.assign rfl) ?_
    refine WL.nil ?_
    refine WQ.thn ?_
    refine WC.seq ?_
    refine WC.seq ?_
    refine WC.region ?_
    refine WL.pur (Pur.move rfl) ?_
    refine' WL.pur (Pur.bin rfl rfl ?h5_0) ?k5
    case h5_0 => first | exact Bin.ltN (b := 0) | exact Bin.ltI | exact Bin.ltS
    refine WL.nil ?_
    refine WQ.thn ?_
    first | refine WC.cond rfl (fun hc1 => ?_) (fun hc1 => ?_) | refine WC.condB rfl (fun hc1 => ?_) (fun hc1 => ?_)
    · have hno : ¬ allH L hs := fun ha => ha x (List.mem_of_getElem? hx) (numV_none.1 hc1)
      refine WC.seq ?_
      refine WC.region ?_
      refine WL.pur (Pur.assign rfl) ?_
      refine WL.pur (Pur.assign rfl) ?_
      refine WL.nil ?_
      refine WQ.thn ?_
      refine WC.ret ?_
      refine WQ.thn_ret ?_
      refine WQ.blk_ret ?_
      refine WQ.thn_ret ?_
      refine WQ.back_ret ?_
      refine WQ.blk_ret ?_
      refine WQ.thn_ret ?_
      refine WQ.ret2 Tryz.results125 rfl rfl [] zsL (View.le_refl _) ?_
      exact ⟨rfl, .inr ⟨hno, rfl, rfl⟩⟩
    · obtain ⟨k, hk, hnk⟩ := numV_some hc1
      rw [hnk]
      have hkl := idxOf_lt hk
      refine WC.skip ?_
      refine WQ.thn ?_
      refine WC.seq ?_
      refine WC.seq ?_
      refine WC.region ?_
      refine WL.pur (Pur.move rfl) ?_
      refine WL.pur (Pur.move rfl) ?_
      refine' WL.pur (Pur.indexAddr rfl rfl sl_181 ?h6_0) ?k6
      case h6_0 => omega
      refine' WL.pur (Pur.load1 rfl ty_4 ?h7_0) ?k7
      case h7_0 => apply Rd.own1; exact zmE; exact get_range_map1 hkl
      refine WL.nil ?_
      refine WQ.thn ?_
      first | refine WC.cond rfl (fun hc2 => ?_) (fun hc2 => ?_) | refine WC.condB rfl (fun hc2 => ?_) (fun hc2 => ?_)
      · have hin0 : inH L (hs.take i) k := hc2
        have inH_same_ho : ∀ j, j < L.length → (inH L (hs.take i) j ↔ inH L (hs.take (i + 1)) j) := fun j _ => inH_same ho hx hk hin0 j
        refine WC.exit ?_
        refine WQ.thn_exit ?_
        refine WQ.blk_here ?_
        refine WQ.thn ?_
        refine WC.region ?_
        refine WL.pur (Pur.move rfl) ?_
        refine' WL.pur (Pur.bin rfl rfl ?h8_0) ?k8
        case h8_0 => first | (refine Bin.addN (b := 1) ?_; omega) | (refine Bin.addI ?_; omega)
        refine WL.pur (Pur.assign rfl) ?_
        refine WL.nil ?_
        rw [rowB_congr inH_same_ho]
        refine WQ.back _ ⟨i + 1, rfl, by omega, allH_snoc hx hk hal, rfl, rfl, rfl⟩ (by omega) zcV zsL
      · have inH_next_ho : ∀ j, j < L.length → ((inH L (hs.take i) j ∨ j = k ∨ (j < k ∧ seesN L j k = true)) ↔ inH L (hs.take (i + 1)) j) := fun j _ => inH_next ho hx hk j
        refine WC.skip ?_
        refine WQ.thn ?_
        refine WC.seq ?_
        refine WC.region ?_
        refine WL.pur (Pur.move rfl) ?_
        refine WL.pur (Pur.move rfl) ?_
        refine' WL.pur (Pur.indexAddr rfl rfl sl_181 ?h9_0) ?k9
        case h9_0 => omega
        refine' WL.run0 (Run.storeF rfl rfl ty_4 (by first | rfl | assumption) ?h10_0 ?h10_1 sz_4) ?k10
        case h10_0 => repeat (first | exact Part.one | exact Part.here | apply Part.cons | apply Part.app)
        case h10_1 => first | assumption | omega
        refine WL.nil ?_
        refine WQ.thn ?_
        refine WC.seq ?_
        refine WC.region ?_
        refine WL.pur (Pur.assign rfl) ?_
        refine WL.nil ?_
        refine WQ.thn ?_
        refine WC.block ?_
        rw [rowB_put1 (N := L.length) (k := k) (Q := fun j => inH L (hs.take i) j) (Q' := fun j => inH L (hs.take i) j ∨ j = k ∨ (j < 0 ∧ seesN L j k = true)) (fun j _ => by constructor; rintro (h1 | h1 | h1); exact .inl h1; exact .inr h1; omega; rintro (h1 | h1); exact .inl h1; exact .inr (.inl h1))]
        refine WC.loop (fun j m σ' H' => ∃ c : Nat, j = k - c ∧ c ≤ k ∧ m = [(0, .pointer (some ⟨b, 0, none⟩)), (1, .slice ha hs.length hc), (6, .slice (some ⟨b15, 0, none⟩) L.length L.length), (7, .int .i64 (i : Int)), (8, .int .i64 (k : Int)), (9, .int .i64 (c : Int))] ∧ σ' = σ ∧ H' = (b15, rowO 4 ((List.range L.length).map (fun j => Value.bool (decide (inH L (hs.take i) j ∨ j = k ∨ (j < c ∧ seesN L j k = true)))))) :: Hr) ⟨0, rfl, by omega, rfl, rfl, rfl⟩ zcV zsL ?_
        rintro _ _ σ Hr ⟨c, rfl, hc2, rfl, rfl, rfl⟩
        refine WC.seq ?_
        refine WC.seq ?_
        refine WC.region ?_
        refine WL.pur (Pur.move rfl) ?_
        refine WL.pur (Pur.move rfl) ?_
        refine' WL.pur (Pur.bin rfl rfl ?h11_0) ?k11
        case h11_0 => first | exact Bin.ltN | exact Bin.ltI | exact Bin.ltS
        refine WL.nil ?_
        refine WQ.thn ?_
        first | refine WC.cond rfl (fun hc3 => ?_) (fun hc3 => ?_) | refine WC.condB rfl (fun hc3 => ?_) (fun hc3 => ?_)
        · refine WC.skip ?_
          refine WQ.thn ?_
          refine WC.seq ?_
          refine WC.block ?_
          refine WC.region ?_
          refine WL.pur (Pur.move rfl) ?_
          refine WL.pur (Pur.move rfl) ?_
          refine WL.pur (Pur.move rfl) ?_
          refine WL.pur (Pur.move rfl) ?_
          refine' WL.pur (Pur.indexAddr rfl rfl sl_181 ?h12_0) ?k12
          case h12_0 => omega
          refine' WL.pur (Pur.load1 rfl ty_4 ?h13_0) ?k13
          case h13_0 => apply Rd.own1; exact zmE; exact get_range_map1 (show c < L.length by omega)
          refine WL.pur (Pur.move rfl) ?_
          refine' WL.orp (u := 48) (t := 53) rfl ?h14_0 ?h14_1 ?h14_2 rfl ?k14
          case h14_0 =>
            intro hg48 K48
            refine WL.gpur (u := 48) rfl rfl (gF hg48) (Pur.move rfl) ?_
            refine WL.gpur (u := 48) rfl rfl (gF hg48) (Pur.move rfl) ?_
            refine WL.gpur (u := 48) rfl rfl (gF hg48) (Pur.move rfl) ?_
            refine WL.gcallP (u := 48) rfl rfl (gF hg48) rfl Tryz.call115 ((r11_Sees _ _ L c k h' ho hkl (by omega))) ?_
            exact K48 _ zcR rfl
          case h14_1 =>
            intro hg48 K48
            refine WL.gskip (u := 48) rfl rfl (sF hg48) ?_
            refine WL.gskip (u := 48) rfl rfl (sF hg48) ?_
            refine WL.gskip (u := 48) rfl rfl (sF hg48) ?_
            refine WL.gskip (u := 48) rfl rfl (sF hg48) ?_
            exact K48 _ zcR
          case h14_2 => exact Wanted.plain rfl
          refine' WL.pur (Pur.indexAddr rfl rfl sl_181 ?h15_0) ?k15
          case h15_0 => omega
          refine' WL.run0 (Run.storeF rfl rfl ty_4 (by first | rfl | assumption) ?h16_0 ?h16_1 sz_4) ?k16
          case h16_0 => repeat (first | exact Part.one | exact Part.here | apply Part.cons | apply Part.app)
          case h16_1 => first | assumption | omega
          refine WL.nil ?_
          refine WQ.blk ?_
          refine WQ.thn ?_
          refine WC.region ?_
          refine WL.pur (Pur.move rfl) ?_
          refine' WL.pur (Pur.bin rfl rfl ?h17_0) ?k17
          case h17_0 => first | (refine Bin.addN (b := 1) ?_; omega) | (refine Bin.addI ?_; omega)
          refine WL.pur (Pur.assign rfl) ?_
          refine WL.nil ?_
          rw [rowB_put (N := L.length) (k := c) (Q := fun j => inH L (hs.take i) j ∨ j = k ∨ (j < c ∧ seesN L j k = true)) (Q' := fun j => inH L (hs.take i) j ∨ j = k ∨ (j < (c + 1) ∧ seesN L j k = true)) (by constructor; rintro (h1 | h1 | h1); exact .inl (.inl h1); exact .inl (.inr (.inl h1)); exact .inr h1.2; rintro ((h1 | h1 | h1) | h1); exact .inl h1; exact .inr (.inl h1); exact .inr (.inr ⟨by omega, h1.2⟩); exact .inr (.inr ⟨by omega, h1⟩)) (fun j hj => by constructor; rintro (h1 | h1 | h1); exact .inl h1; exact .inr (.inl h1); exact .inr (.inr ⟨by omega, h1.2⟩); rintro (h1 | h1 | h1); exact .inl h1; exact .inr (.inl h1); exact .inr (.inr ⟨by omega, h1.2⟩))]
          refine WQ.back _ ⟨c + 1, rfl, by omega, rfl, rfl, rfl⟩ (by omega) zcV zsL
        · have hck : c = k := by omega
          subst hck
          refine WC.exit ?_
          refine WQ.thn_exit ?_
          refine WQ.back_exit ?_
          refine WQ.blk_here ?_
          refine WQ.blk ?_
          refine WQ.thn ?_
          refine WC.region ?_
          refine WL.pur (Pur.move rfl) ?_
          refine' WL.pur (Pur.bin rfl rfl ?h18_0) ?k18
          case h18_0 => first | (refine Bin.addN (b := 1) ?_; omega) | (refine Bin.addI ?_; omega)
          refine WL.pur (Pur.assign rfl) ?_
          refine WL.nil ?_
          rw [rowB_congr inH_next_ho]
          refine WQ.back _ ⟨i + 1, rfl, by omega, allH_snoc hx hk hal, rfl, rfl, rfl⟩ (by omega) zcV zsL
  · have hii : i = hs.length := by omega
    subst hii
    rw [List.take_length] at hal ⊢
    refine WC.exit ?_
    refine WQ.thn_exit ?_
    refine WQ.back_exit ?_
    refine WQ.blk_here ?_
    refine WQ.thn ?_
    refine WC.seq ?_
    refine WC.region ?_
    refine WL.pur (Pur.move rfl) ?_
    refine WL.pur (Pur.assign rfl) ?_
    refine WL.pur (Pur.assign rfl) ?_
    refine WL.nil ?_
    refine WQ.thn ?_
    refine WC.ret ?_
    refine WQ.ret2 Tryz.results125 rfl rfl [(b15, rowO 4 ((List.range L.length).map (fun j => Value.bool (decide (inH L hs j)))))] zsL (View.le_refl _) ?_
    exact ⟨rfl, .inl ⟨hal, b15, rfl, rfl⟩⟩

theorem past_under2 (σ : View) (pv hv : Value) (L : List EntD) (hs : List Nat) (h : PastV σ pv L) (ho : OrdOk L) (hh : Hashes σ hv hs) :
    Tri Tryz.prog 124 #[pv, hv] σ [] (fun v σ' H' => σ' = σ ∧ ∃ sv ev, v = .tuple #[sv, .int .i64 ev] ∧ ((ev = 0 ∧ allH L hs ∧ ∃ b, sv = .slice (some ⟨b, 0, none⟩) L.length L.length ∧ H' = [(b, rowO 4 ((List.range L.length).map (fun j => Value.bool (decide (inH L hs j)))))]) ∨ (ev = 6 ∧ ¬ allH L hs ∧ H' = []))) := by
  refine (past_under σ pv hv L hs h ho hh).mono ?_
  rintro v σ' H' ⟨rfl, ⟨ha, b, rfl, rfl⟩ | ⟨ha, rfl, rfl⟩⟩
  · exact ⟨rfl, _, _, rfl, .inl ⟨rfl, ha, b, rfl, rfl⟩⟩
  · exact ⟨rfl, _, _, rfl, .inr ⟨rfl, ha, rfl⟩⟩
theorem r11_closed2 (σ : View) (pv hv : Value) (L : List EntD) (hs : List Nat) (h : R11V σ pv L) (ho : OrdOk L) (hh : Hashes σ hv hs) :
    Tri Tryz.prog 125 #[pv, hv] σ [] (fun v σ' H' => σ' = σ ∧ ∃ sv, v = .tuple #[sv, .bool (decide (allH L hs))] ∧ ((allH L hs ∧ ∃ b, sv = .slice (some ⟨b, 0, none⟩) L.length L.length ∧ H' = [(b, rowO 4 ((List.range L.length).map (fun j => Value.bool (decide (inH L hs j)))))]) ∨ (¬ allH L hs ∧ H' = []))) := by
  refine (r11_closed σ pv hv L hs h ho hh).mono ?_
  rintro v σ' H' ⟨rfl, ⟨ha, b, rfl, rfl⟩ | ⟨ha, rfl, rfl⟩⟩
  · exact ⟨rfl, _, by rw [show decide (allH L hs) = true from decide_eq_true ha], .inl ⟨ha, b, rfl, rfl⟩⟩
  · exact ⟨rfl, _, by rw [show decide (allH L hs) = false from decide_eq_false ha], .inr ⟨ha, rfl⟩⟩

set_option maxHeartbeats 2000000 in
theorem past_At (σ : View) (pv hv : Value) (L : List EntD) (hs : List Nat) (h : PastV σ pv L) (h1 : OneOrd L) (hh : Hashes σ hv hs) :
    Tri Tryz.prog 52 #[pv, hv] σ [] (fun v σ' H' => (∃ pa ev, v = .tuple #[.pointer pa, .int .i64 ev] ∧ ((ev = 0 ∧ allH L hs ∧ PastV σ' (.pointer pa) (atL L (inH L hs) L.length)) ∨ (ev = 6 ∧ ¬ allH L hs ∧ pa = none))) ∧ H' = []) := by
  have h' := h
  have ho := h1.ok
  have hmost := ho.most
  obtain ⟨b, mb, lv, sv, rfl, hr, hl, hm, hsn⟩ := h
  obtain ⟨la, lc, rfl, hlc, hlb⟩ := hl.shape
  obtain ⟨lb, loff, hel⟩ := addr_of hl
  refine Tri.of_body [(0, .pointer (some ⟨b, 0, none⟩)), (1, hv)] Tryz.func52 rfl Tryz.ntmps52 (by simp) rfl (fun Hr => ?_)
  rw [List.nil_append]
  refine WC.seq ?_
  refine WC.region ?_
  refine WL.pur (Pur.assign rfl) ?_
  refine WL.pur (Pur.assign rfl) ?_
  refine WL.nil ?_
  refine WQ.thn ?_
  refine WC.seq ?_
  refine WC.region ?_
  refine WL.pur (Pur.move rfl) ?_
  refine WL.pur (Pur.move rfl) ?_
  refine WL.call (H0 := []) (Hr := Hr) rfl Tryz.call124 (List.Perm.refl _) (past_under2 _ _ _ L hs h' ho hh) ?_
  rintro _ σ HU ⟨rfl, svu, ev, rfl, hor⟩ _
  refine WL.pur (Pur.move rfl) ?_
  first | refine WL.pur (Pur.ex2_0 rfl) ?_ | refine WL.pur (Pur.ex3_0 rfl) ?_ | refine WL.pur (Pur.extractNext rfl) ?_ | refine WL.pur (Pur.extract rfl rfl) ?_
  first | refine WL.pur (Pur.ex2_1 rfl) ?_ | refine WL.pur (Pur.ex3_1 rfl) ?_ | refine WL.pur (Pur.extract rfl rfl) ?_
  refine WL.pur (Pur.assign rfl) ?_
  refine WL.pur (Pur.assign rfl) ?_
  refine WL.nil ?_
  refine WQ.thn ?_
  refine WC.seq ?_
  refine WC.seq ?_
  refine WC.region ?_
  refine WL.pur (Pur.move rfl) ?_
  refine' WL.pur (Pur.bin rfl rfl ?h1_0) ?k1
  case h1_0 => first | exact Bin.neN (b := 0) | exact Bin.neI
  refine WL.nil ?_
  refine WQ.thn ?_
  first | refine WC.cond rfl (fun hc0 => ?_) (fun hc0 => ?_) | refine WC.condB rfl (fun hc0 => ?_) (fun hc0 => ?_)
  · obtain ⟨rfl, hno, rfl⟩ := hor.resolve_left (fun h => hc0 h.1)
    refine WC.seq ?_
    refine WC.region ?_
    refine WL.pur (Pur.move rfl) ?_
    refine WL.pur (Pur.assign rfl) ?_
    refine WL.pur (Pur.assign rfl) ?_
    refine WL.nil ?_
    refine WQ.thn ?_
    refine WC.ret ?_
    refine WQ.thn_ret ?_
    refine WQ.ret2 Tryz.results52 rfl rfl [] (by first | exact List.Sublist.refl _ | exact List.Sublist.cons _ (List.Sublist.refl _)) (View.le_refl _) ?_
    exact ⟨⟨_, _, rfl, .inr ⟨rfl, hno, rfl⟩⟩, rfl⟩
  · obtain ⟨rfl, hal, bu, rfl, rfl⟩ := hor.resolve_right (fun h => hc0 (by rw [h.1]; decide))
    rw [List.singleton_append]
    refine WC.skip ?_
    refine WQ.thn ?_
    refine WC.seq ?_
    refine WC.region ?_
    refine WL.pur (Pur.assign rfl) ?_
    refine WL.nil ?_
    refine WQ.thn ?_
    refine WC.seq ?_
    refine WC.seq ?_
    refine WC.region ?_
    refine WL.pur (Pur.move rfl) ?_
    refine WL.pur (Pur.nilCheck rfl) ?_
    refine WL.pur (Pur.fieldAddr rfl fo_173_0) ?_
    refine' WL.pur (Pur.load1 rfl ty_22 ?h2_0) ?k2
    case h2_0 => exact RdV.rd (RdV.idx (off := 0) (i := 0) hr rfl)
    refine WL.pur (Pur.len rfl isSlice_22) ?_
    refine WL.pur (Pur.move rfl) ?_
    refine WL.nil ?_
    refine WQ.thn ?_
    refine WC.block ?_
    refine WC.loop (fun j m σ' H' => ∃ (i : Nat) (lv2 : Value) (hl2 : HList), j = L.length - i ∧ i ≤ L.length ∧ SlO σ' eEnt 45 36 lv2 (atL L (inH L hs) i) hl2 ∧ m = [(6, .slice (some ⟨bu, 0, none⟩) L.length L.length), (8, lv2), (23, .slice la L.length lc), (24, .int .i64 (L.length : Int)), (25, .int .i64 (i : Int))] ∧ σ' = σ ∧ H' = (bu, rowO 4 ((List.range L.length).map (fun j => Value.bool (decide (inH L hs j))))) :: (hl2 ++ Hr)) ⟨0, _, [], rfl, by omega, by rw [atL_zero]; exact SlO.nil, rfl, rfl, rfl⟩ zcV zsL ?_
    rintro _ _ σ Hr ⟨i, lv2, hl2, rfl, hi, hso, rfl, rfl, rfl⟩
    refine WC.seq ?_
    refine WC.region ?_
    refine' WL.pur (Pur.bin rfl rfl ?h3_0) ?k3
    case h3_0 => first | exact Bin.ltN | exact Bin.ltI | exact Bin.ltS
    refine WL.nil ?_
    refine WQ.thn ?_
    refine WC.seq ?_
    first | refine WC.cond rfl (fun hc1 => ?_) (fun hc1 => ?_) | refine WC.condB rfl (fun hc1 => ?_) (fun hc1 => ?_)
    · obtain ⟨e, he⟩ : ∃ e, L[i]? = some e := ⟨_, List.getElem?_eq_getElem (by omega)⟩
      obtain ⟨qv, ov, hrd, heH, hNR⟩ := ent_rd hl hel he
      obtain ⟨pa2, pc2, rfl, _, _⟩ := hNR.1.shape
      obtain ⟨oa2, oc2, rfl, _, _⟩ := hNR.2.1.shape
      have hal2 := atL_len (L := L) (q := inH L hs) i
      refine WC.skip ?_
      refine WQ.thn ?_
      refine WC.seq ?_
      refine WC.block ?_
      refine WC.seq ?_
      refine WC.region ?_
      refine WL.pur (Pur.move rfl) ?_
      refine' WL.pur (Pur.indexAddr (eqA (hel (by omega))) rfl sl_22 ?h4_0) ?k4
      case h4_0 => omega
      refine' WL.pur (Pur.loadN rfl ty_45 ?h5_0 ?h5_1) ?k5
      case h5_0 => exact RdV.rd hrd
      case h5_1 => first | rfl | assumption
      refine WL.new (New.alloc zc_45) (fun b10 => ?_)
      refine WL.pur (Pur.assign rfl) ?_
      refine' WL.run0 (Run.storeAll rfl rfl ty_45 ?h6_0 (by first | rfl | assumption) ?h6_1 (by first | rfl | assumption)) ?k6
      case h6_0 => repeat (first | exact Part.one | exact Part.here | apply Part.cons | apply Part.app)
      case h6_1 => first | rfl | assumption
      refine WL.nil ?_
      refine WQ.thn ?_
      refine WC.seq ?_
      refine WC.region ?_
      refine WL.pur (Pur.move rfl) ?_
      refine WL.pur (Pur.move rfl) ?_
      refine' WL.pur (Pur.indexAddr rfl rfl sl_181 ?h7_0) ?k7
      case h7_0 => omega
      refine' WL.pur (Pur.load1 rfl ty_4 ?h8_0) ?k8
      case h8_0 => apply Rd.own1; exact zmE; exact get_range_map1 (show i < L.length by omega)
      refine WL.nil ?_
      refine WQ.thn ?_
      first | refine WC.cond rfl (fun hc2 => ?_) (fun hc2 => ?_) | refine WC.condB rfl (fun hc2 => ?_) (fun hc2 => ?_)
      · refine WC.region ?_
        refine WL.pur (Pur.move rfl) ?_
        refine' WL.pur (Pur.loadN rfl ty_45 ?h9_0 ?h9_1) ?k9
        case h9_0 => first | (apply Rd.own_sub; exact zmE; exact Sub.refl _) | (apply RdV.rd; assumption)
        case h9_1 => first | rfl | assumption
        refine WL.new (New.buildSliceN (xs := [.tmp 35]) (vss := [entCells e.id e.node.au e.node.cl (.slice pa2 e.node.ps.length pc2) (.slice oa2 e.node.ops.length oc2)]) sl_22 zc_45 rfl rfl rfl (by rfl) (by rfl)) (fun b36 => ?_)
        refine' WL.any (Any.push (H1 := [(b36, _), (b10, _), (bu, rowO 4 ((List.range L.length).map (fun j => Value.bool (decide (inH L hs j)))))]) (H2 := Hr) sl_22 zc_45 rfl by_45 rfl rfl hso ?h10_0 ?h10_1 ?h10_2 ?h10_3 rfl (by omega) (by omega)) ?k10
        case h10_0 => apply Rd.own_sub; exact zmE; exact Sub.refl _
        case h10_1 => first | rfl | assumption
        case h10_2 => first | rfl | assumption
        case h10_3 => exact (show eEnt _ e _ from ⟨_, _, rfl, heH, hNR⟩)
        rintro v37 σ _ ⟨hl3, hso3, rfl, rfl⟩ _
        refine WL.pur (Pur.assign rfl) ?_
        refine WL.nil ?_
        refine WQ.blk ?_
        refine WQ.thn ?_
        refine WC.region ?_
        refine' WL.pur (Pur.bin rfl rfl ?h11_0) ?k11
        case h11_0 => first | (refine Bin.addN (b := 1) ?_; omega) | (refine Bin.addI ?_; omega)
        refine WL.pur (Pur.move rfl) ?_
        refine WL.nil ?_
        refine WQ.back _ ⟨i + 1, _, _, rfl, by omega, by rw [atL_succ he, if_pos hc2]; exact hso3, rfl, rfl, rfl⟩ (by omega) zcV zsL
      · refine WC.skip ?_
        refine WQ.blk ?_
        refine WQ.thn ?_
        refine WC.region ?_
        refine' WL.pur (Pur.bin rfl rfl ?h12_0) ?k12
        case h12_0 => first | (refine Bin.addN (b := 1) ?_; omega) | (refine Bin.addI ?_; omega)
        refine WL.pur (Pur.move rfl) ?_
        refine WL.nil ?_
        refine WQ.back _ ⟨i + 1, _, _, rfl, by omega, by rw [atL_succ he, if_neg hc2, List.append_nil]; exact hso, rfl, rfl, rfl⟩ (by omega) zcV zsL
    · have hii : i = L.length := by omega
      subst hii
      refine WC.exit ?_
      refine WQ.thn_exit ?_
      refine WQ.back_exit ?_
      refine WQ.blk_here ?_
      refine WQ.thn ?_
      refine WC.seq ?_
      refine WC.region ?_
      refine WL.pur (Pur.move rfl) ?_
      refine WL.call (H0 := hl2) (Hr := (bu, rowO 4 ((List.range L.length).map (fun j => Value.bool (decide (inH L hs j))))) :: Hr) rfl Tryz.call92 List.perm_middle (hso.hand (byt := 96) eEnt_mono (by have := atL_len (L := L) (q := inH L hs) L.length; omega) (fun σ' hl' hs' => past_made σ' _ _ hs' (oneOrd_at h1 (inH_closed ho hs)).ok)) ?_
      rintro v40 σ2 _ ⟨hpv, rfl⟩ hle2
      rw [List.nil_append]
      have hpv2 := hpv
      obtain ⟨pb2, _, _, _, rfl, _⟩ := hpv2
      refine WL.pur (Pur.assign rfl) ?_
      refine WL.pur (Pur.assign rfl) ?_
      refine WL.nil ?_
      refine WQ.thn ?_
      refine WC.ret ?_
      refine WQ.ret2 Tryz.results52 rfl rfl [] (by first | exact List.Sublist.refl _ | exact List.Sublist.cons _ (List.Sublist.refl _)) hle2 ?_
      exact ⟨⟨_, _, rfl, .inl ⟨rfl, hal, hpv⟩⟩, rfl⟩

set_option maxHeartbeats 2000000 in
theorem r11_At (σ : View) (pv hv : Value) (L : List EntD) (hs : List Nat) (h : R11V σ pv L) (h1 : OneOrd L) (hh : Hashes σ hv hs) :
    Tri Tryz.prog 53 #[pv, hv] σ [] (fun v σ' H' => (∃ pa ev, v = .tuple #[.pointer pa, .int .i64 ev] ∧ ((ev = 0 ∧ allH L hs ∧ R11V σ' (.pointer pa) (atL L (inH L hs) L.length)) ∨ (ev = 6 ∧ ¬ allH L hs ∧ pa = none))) ∧ H' = []) := by
  have h' := h
  have ho := h1.ok
  have hmost := ho.most
  have hone := oneOrd_at h1 (inH_closed ho hs)
  obtain ⟨b, plv, psv, pqv, rfl, hr, hE, hS, hQ⟩ := h
  obtain ⟨la, lc, rfl, hlc, hlb⟩ := hE.shape
  obtain ⟨lb, loff, hel⟩ := addr_of hE
  refine Tri.of_body [(0, .pointer (some ⟨b, 0, none⟩)), (1, hv)] Tryz.func53 rfl Tryz.ntmps53 (by simp) rfl (fun Hr => ?_)
  rw [List.nil_append]
  refine WC.seq ?_
  refine WC.region ?_
  refine WL.pur (Pur.assign rfl) ?_
  refine WL.pur (Pur.assign rfl) ?_
  refine WL.nil ?_
  refine WQ.thn ?_
  refine WC.seq ?_
  refine WC.region ?_
  refine WL.pur (Pur.move rfl) ?_
  refine WL.pur (Pur.move rfl) ?_
  refine WL.call (H0 := []) (Hr := Hr) rfl Tryz.call125 (List.Perm.refl _) (r11_closed2 _ _ _ L hs h' ho hh) ?_
  rintro _ σ HU ⟨rfl, svu, rfl, hor⟩ _
  refine WL.pur (Pur.move rfl) ?_
  first | refine WL.pur (Pur.ex2_0 rfl) ?_ | refine WL.pur (Pur.ex3_0 rfl) ?_ | refine WL.pur (Pur.extractNext rfl) ?_ | refine WL.pur (Pur.extract rfl rfl) ?_
  first | refine WL.pur (Pur.ex2_1 rfl) ?_ | refine WL.pur (Pur.ex3_1 rfl) ?_ | refine WL.pur (Pur.extract rfl rfl) ?_
  refine WL.pur (Pur.assign rfl) ?_
  refine WL.pur (Pur.assign rfl) ?_
  refine WL.nil ?_
  refine WQ.thn ?_
  refine WC.seq ?_
  refine WC.seq ?_
  refine WC.region ?_
  refine WL.pur (Pur.move rfl) ?_
  first | refine WL.pur (Pur.not rfl) ?_ | refine WL.pur (Pur.notB rfl) ?_
  refine WL.nil ?_
  refine WQ.thn ?_
  first | refine WC.cond rfl (fun hc0 => ?_) (fun hc0 => ?_) | refine WC.condB rfl (fun hc0 => ?_) (fun hc0 => ?_)
  · have hno : ¬ allH L hs := hc0
    obtain ⟨_, rfl⟩ := hor.resolve_left (fun h => hc0 h.1)
    refine WC.seq ?_
    refine WC.region ?_
    refine WL.pur (Pur.assign rfl) ?_
    refine WL.pur (Pur.assign rfl) ?_
    refine WL.nil ?_
    refine WQ.thn ?_
    refine WC.ret ?_
    refine WQ.thn_ret ?_
    refine WQ.ret2 Tryz.results53 rfl rfl [] (by first | exact List.Sublist.refl _ | exact List.Sublist.cons _ (List.Sublist.refl _)) (View.le_refl _) ?_
    exact ⟨⟨_, _, rfl, .inr ⟨rfl, hno, rfl⟩⟩, rfl⟩
  · have hal : allH L hs := Decidable.not_not.1 hc0
    obtain ⟨_, bu, rfl, rfl⟩ := hor.resolve_right (fun h => h.1 hal)
    rw [List.singleton_append]
    refine WC.skip ?_
    refine WQ.thn ?_
    refine WC.seq ?_
    refine WC.region ?_
    refine WL.new (New.buildSlice0 sl_22) (fun b21 => ?_)
    refine WL.pur (Pur.assign rfl) ?_
    refine WL.nil ?_
    refine WQ.thn ?_
    refine WC.seq ?_
    refine WC.seq ?_
    refine WC.region ?_
    refine WL.pur (Pur.assign rfl) ?_
    refine WL.nil ?_
    refine WQ.thn ?_
    refine WC.block ?_
    refine WC.perm (H0 := (bu, rowO 4 ((List.range L.length).map (fun j => Value.bool (decide (inH L hs j))))) :: (b21, rowO 45 []) :: Hr) ?_ (List.Perm.swap _ _ _)
    refine WC.loop (fun j m σ' H' => ∃ (i : Nat) (lv2 : Value) (hl2 : HList), j = L.length - i ∧ i ≤ L.length ∧ SlO σ' eEnt 45 36 lv2 (atL L (inH L hs) i) hl2 ∧ m = [(0, .pointer (some ⟨b, 0, none⟩)), (6, .slice (some ⟨bu, 0, none⟩) L.length L.length), (8, lv2), (9, .int .i64 (i : Int))] ∧ σ' = σ ∧ H' = (bu, rowO 4 ((List.range L.length).map (fun j => Value.bool (decide (inH L hs j))))) :: (hl2 ++ Hr)) ⟨0, _, [(b21, rowO 45 [])], rfl, by omega, by rw [atL_zero]; exact SlO.row (b := b21) (ElR.nil (σ := σ) (E := eEnt) (sz := 36)), rfl, rfl, rfl⟩ zcV zsL ?_
    rintro _ _ σ Hr ⟨i, lv2, hl2, rfl, hi, hso, rfl, rfl, rfl⟩
    refine WC.seq ?_
    refine WC.seq ?_
    refine WC.region ?_
    refine WL.pur (Pur.move rfl) ?_
    refine WL.pur (Pur.move rfl) ?_
    refine WL.pur (Pur.nilCheck rfl) ?_
    refine WL.pur (Pur.fieldAddr rfl fo_74_0) ?_
    refine' WL.pur (Pur.load1 rfl ty_22 ?h1_0) ?k1
    case h1_0 => exact RdV.rd (RdV.idx (off := 0) (i := 0) hr rfl)
    refine WL.pur (Pur.len rfl isSlice_22) ?_
    refine' WL.pur (Pur.bin rfl rfl ?h2_0) ?k2
    case h2_0 => first | exact Bin.ltN | exact Bin.ltI | exact Bin.ltS
    refine WL.nil ?_
    refine WQ.thn ?_
    first | refine WC.cond rfl (fun hc1 => ?_) (fun hc1 => ?_) | refine WC.condB rfl (fun hc1 => ?_) (fun hc1 => ?_)
    · obtain ⟨e, he⟩ : ∃ e, L[i]? = some e := ⟨_, List.getElem?_eq_getElem (by omega)⟩
      obtain ⟨qv, ov, hrd, heH, hNR⟩ := ent_rd hE hel he
      obtain ⟨pa2, pc2, rfl, _, _⟩ := hNR.1.shape
      obtain ⟨oa2, oc2, rfl, _, _⟩ := hNR.2.1.shape
      have hal2 := atL_len (L := L) (q := inH L hs) i
      refine WC.skip ?_
      refine WQ.thn ?_
      refine WC.seq ?_
      refine WC.block ?_
      refine WC.seq ?_
      refine WC.region ?_
      refine WL.pur (Pur.move rfl) ?_
      refine WL.pur (Pur.move rfl) ?_
      refine' WL.pur (Pur.indexAddr rfl rfl sl_181 ?h3_0) ?k3
      case h3_0 => omega
      refine' WL.pur (Pur.load1 rfl ty_4 ?h4_0) ?k4
      case h4_0 => apply Rd.own1; exact zmE; exact get_range_map1 (show i < L.length by omega)
      refine WL.nil ?_
      refine WQ.thn ?_
      first | refine WC.cond rfl (fun hc2 => ?_) (fun hc2 => ?_) | refine WC.condB rfl (fun hc2 => ?_) (fun hc2 => ?_)
      · refine WC.region ?_
        refine WL.pur (Pur.move rfl) ?_
        refine WL.pur (Pur.move rfl) ?_
        refine WL.pur (Pur.nilCheck rfl) ?_
        refine WL.pur (Pur.fieldAddr rfl fo_74_0) ?_
        refine' WL.pur (Pur.load1 rfl ty_22 ?h5_0) ?k5
        case h5_0 => exact RdV.rd (RdV.idx (off := 0) (i := 0) hr rfl)
        refine WL.pur (Pur.move rfl) ?_
        refine' WL.pur (Pur.indexAddr (eqA (hel (by omega))) rfl sl_22 ?h6_0) ?k6
        case h6_0 => omega
        refine' WL.pur (Pur.loadN rfl ty_45 ?h7_0 ?h7_1) ?k7
        case h7_0 => exact RdV.rd hrd
        case h7_1 => first | rfl | assumption
        refine WL.new (New.buildSliceN (xs := [.tmp 42]) (vss := [entCells e.id e.node.au e.node.cl (.slice pa2 e.node.ps.length pc2) (.slice oa2 e.node.ops.length oc2)]) sl_22 zc_45 rfl rfl rfl (by rfl) (by rfl)) (fun b43 => ?_)
        refine' WL.any (Any.push (H1 := [(b43, _), (bu, rowO 4 ((List.range L.length).map (fun j => Value.bool (decide (inH L hs j)))))]) (H2 := Hr) sl_22 zc_45 rfl by_45 rfl rfl hso ?h8_0 ?h8_1 ?h8_2 ?h8_3 rfl (by omega) (by omega)) ?k8
        case h8_0 => apply Rd.own_sub; exact zmE; exact Sub.refl _
        case h8_1 => first | rfl | assumption
        case h8_2 => first | rfl | assumption
        case h8_3 => exact (show eEnt _ e _ from ⟨_, _, rfl, heH, hNR⟩)
        rintro v44 σ _ ⟨hl3, hso3, rfl, rfl⟩ _
        refine WL.pur (Pur.assign rfl) ?_
        refine WL.nil ?_
        refine WQ.blk ?_
        refine WQ.thn ?_
        refine WC.region ?_
        refine WL.pur (Pur.move rfl) ?_
        refine' WL.pur (Pur.bin rfl rfl ?h9_0) ?k9
        case h9_0 => first | (refine Bin.addN (b := 1) ?_; omega) | (refine Bin.addI ?_; omega)
        refine WL.pur (Pur.assign rfl) ?_
        refine WL.nil ?_
        refine WQ.back _ ⟨i + 1, _, _, rfl, by omega, by rw [atL_succ he, if_pos hc2]; exact hso3, rfl, rfl, rfl⟩ (by omega) zcV zsL
      · refine WC.skip ?_
        refine WQ.blk ?_
        refine WQ.thn ?_
        refine WC.region ?_
        refine WL.pur (Pur.move rfl) ?_
        refine' WL.pur (Pur.bin rfl rfl ?h10_0) ?k10
        case h10_0 => first | (refine Bin.addN (b := 1) ?_; omega) | (refine Bin.addI ?_; omega)
        refine WL.pur (Pur.assign rfl) ?_
        refine WL.nil ?_
        refine WQ.back _ ⟨i + 1, _, _, rfl, by omega, by rw [atL_succ he, if_neg hc2, List.append_nil]; exact hso, rfl, rfl, rfl⟩ (by omega) zcV zsL
    · have hii : i = L.length := by omega
      subst hii
      refine WC.exit ?_
      refine WQ.thn_exit ?_
      refine WQ.back_exit ?_
      refine WQ.blk_here ?_
      refine WQ.thn ?_
      refine WC.seq ?_
      refine WC.region ?_
      refine WL.pur (Pur.move rfl) ?_
      refine WL.call (H0 := hl2) (Hr := (bu, rowO 4 ((List.range L.length).map (fun j => Value.bool (decide (inH L hs j))))) :: Hr) rfl Tryz.call24 List.perm_middle (hso.hand (byt := 96) eEnt_mono (by have := atL_len (L := L) (q := inH L hs) L.length; omega) (fun σ' hl' hs' => r11_Of2 σ' _ _ hs')) ?_
      rintro _ σ2 _ ⟨⟨pa, n3, rfl, hqq, hqn⟩, rfl⟩ hle2
      rw [List.nil_append]
      have hqv := hqq hone.right
      rw [hone.fix] at hqv
      refine WL.pur (Pur.move rfl) ?_
      first | refine WL.pur (Pur.ex2_0 rfl) ?_ | refine WL.pur (Pur.ex3_0 rfl) ?_ | refine WL.pur (Pur.extractNext rfl) ?_ | refine WL.pur (Pur.extract rfl rfl) ?_
      first | refine WL.pur (Pur.ex2_1 rfl) ?_ | refine WL.pur (Pur.ex3_1 rfl) ?_ | refine WL.pur (Pur.extract rfl rfl) ?_
      first | refine WL.pur (Pur.ex3_2 rfl) ?_ | refine WL.pur (Pur.extract rfl rfl) ?_
      refine WL.pur (Pur.assign rfl) ?_
      refine WL.pur (Pur.assign rfl) ?_
      refine WL.pur (Pur.assign rfl) ?_
      refine WL.nil ?_
      refine WQ.thn ?_
      refine WC.seq ?_
      refine WC.region ?_
      refine WL.pur (Pur.move rfl) ?_
      refine WL.pur (Pur.assign rfl) ?_
      refine WL.pur (Pur.assign rfl) ?_
      refine WL.nil ?_
      refine WQ.thn ?_
      refine WC.ret ?_
      refine WQ.ret2 Tryz.results53 rfl rfl [] (by first | exact List.Sublist.refl _ | exact List.Sublist.cons _ (List.Sublist.refl _)) hle2 ?_
      exact ⟨⟨_, _, rfl, .inl ⟨rfl, hal, hqv⟩⟩, rfl⟩

end Go.Proofs.YtgoooilgmabkmaaGreat
namespace Go.Proofs.YtgoooilgmabkmaaGreat
open Go Go.Sl
set_option linter.unusedVariables false
set_option linter.unusedSimpArgs false
set_option maxRecDepth 100000

theorem counts_seen (σ : View) (pv : Value) (L : List EntD) (b3 b7 i k zi zk : Nat) (n zn : Int) (h : PastV σ pv L) (ho : OrdOk L) (hi : i < L.length) (hz : zi < L.length) (h3 : RdV σ b3 0 [pv]) (h7 : RdV σ b7 0 [.int .i64 (i : Int), .int .i64 (k : Int), .int .i64 n]) :
    TriP Tryz.prog 158 #[.agg #[.int .i64 (zi : Int), .int .i64 (zk : Int), .int .i64 zn], .pointer (some ⟨b3, 0, none⟩), .pointer (some ⟨b7, 0, none⟩)] σ (.bool (decide (seesN L i zi = true ∨ (i = zi ∧ k < zk)))) := by
  have hmost := ho.most
  refine Tri.of_body [(0, .agg #[.int .i64 (zi : Int), .int .i64 (zk : Int), .int .i64 zn]), (1, .pointer (some ⟨b3, 0, none⟩)), (2, .pointer (some ⟨b7, 0, none⟩))] Tryz.func158 rfl Tryz.ntmps158 (by simp) rfl (fun Hr => ?_)
  rw [List.nil_append]
  refine WC.seq ?_
  refine WC.region ?_
  refine WL.new (New.boxN rfl) (fun b3 => ?_)
  refine WL.pur (Pur.assign rfl) ?_
  refine WL.nil ?_
  refine WQ.thn ?_
  refine WC.seq ?_
  refine WC.region ?_
  refine' WL.pur (Pur.load1 rfl ty_25 ?h1_0) ?k1
  case h1_0 => exact RdV.rd h3
  refine WL.pur (Pur.fieldAddr rfl fo_244_0) ?_
  refine' WL.pur (Pur.load1 rfl ty_3 ?h2_0) ?k2
  case h2_0 => first | (apply Rd.own1; exact zmE; rfl) | (apply RdV.rd; apply RdV.idx (i := 0); assumption; rfl)
  refine WL.pur (Pur.fieldAddr rfl fo_244_0) ?_
  refine' WL.pur (Pur.load1 rfl ty_3 ?h3_0) ?k3
  case h3_0 => first | (apply Rd.own1; exact zmE; rfl) | (apply RdV.rd; apply RdV.idx (i := 0); assumption; rfl)
  refine WL.callP rfl Tryz.call113 ((past_Sees _ _ L i zi h ho hz (by omega))) ?_
  refine WL.pur (Pur.move rfl) ?_
  refine' WL.orp (u := 11) (t := 24) rfl ?h4_0 ?h4_1 ?h4_2 rfl ?k4
  case h4_0 =>
    intro hg11 K11
    refine WL.gpur (u := 11) rfl rfl (gF hg11) (Pur.fieldAddr rfl fo_244_0) ?_
    refine' WL.gpur (u := 11) rfl rfl (gF hg11) (Pur.load1 rfl ty_3 ?h5_0) ?k5
    case h5_0 => first | (apply Rd.own1; exact zmE; rfl) | (apply RdV.rd; apply RdV.idx (i := 0); assumption; rfl)
    refine WL.gpur (u := 11) rfl rfl (gF hg11) (Pur.fieldAddr rfl fo_244_0) ?_
    refine' WL.gpur (u := 11) rfl rfl (gF hg11) (Pur.load1 rfl ty_3 ?h6_0) ?k6
    case h6_0 => first | (apply Rd.own1; exact zmE; rfl) | (apply RdV.rd; apply RdV.idx (i := 0); assumption; rfl)
    refine' WL.gpur (u := 11) rfl rfl (gF hg11) (Pur.bin rfl rfl ?h7_0) ?k7
    case h7_0 => first | exact Bin.eqN | exact Bin.eqI
    refine WL.gpur (u := 11) rfl rfl (gF hg11) (Pur.move rfl) ?_
    refine' WL.andp (u := 17) (t := 23) rfl ?h8_0 ?h8_1 ?h8_2 rfl ?k8
    case h8_0 =>
      intro hg17 K17
      refine WL.gpur (u := 17) rfl rfl (gT hg17) (Pur.fieldAddr rfl fo_244_1) ?_
      refine' WL.gpur (u := 17) rfl rfl (gT hg17) (Pur.load1 rfl ty_3 ?h9_0) ?k9
      case h9_0 => first | (apply Rd.own1; exact zmE; rfl) | (apply RdV.rd; apply RdV.idx (i := 1); assumption; rfl) | (apply RdV.rd; apply RdV.idx (off := 0) (i := 1); assumption; rfl)
      refine WL.gpur (u := 17) rfl rfl (gT hg17) (Pur.fieldAddr rfl fo_244_1) ?_
      refine' WL.gpur (u := 17) rfl rfl (gT hg17) (Pur.load1 rfl ty_3 ?h10_0) ?k10
      case h10_0 => first | (apply Rd.own1; exact zmE; rfl) | (apply RdV.rd; apply RdV.idx (i := 1); assumption; rfl) | (apply RdV.rd; apply RdV.idx (off := 0) (i := 1); assumption; rfl)
      refine' WL.gpur (u := 17) rfl rfl (gT hg17) (Pur.bin rfl rfl ?h11_0) ?k11
      case h11_0 => first | exact Bin.ltN | exact Bin.ltI | exact Bin.ltS
      exact K17 _ zcR rfl
    case h8_1 =>
      intro hg17 K17
      refine WL.gskip (u := 17) rfl rfl (sT hg17) ?_
      refine WL.gskip (u := 17) rfl rfl (sT hg17) ?_
      refine WL.gskip (u := 17) rfl rfl (sT hg17) ?_
      refine WL.gskip (u := 17) rfl rfl (sT hg17) ?_
      refine WL.gskip (u := 17) rfl rfl (sT hg17) ?_
      exact K17 _ zcR
    case h8_2 => exact Wanted.guard (u := 11) rfl rfl rfl (gF hg11)
    exact K11 _ zcR rfl
  case h4_1 =>
    intro hg11 K11
    refine WL.gskip (u := 11) rfl rfl (sF hg11) ?_
    refine WL.gskip (u := 11) rfl rfl (sF hg11) ?_
    refine WL.gskip (u := 11) rfl rfl (sF hg11) ?_
    refine WL.gskip (u := 11) rfl rfl (sF hg11) ?_
    refine WL.gskip (u := 11) rfl rfl (sF hg11) ?_
    refine WL.gskip (u := 11) rfl rfl (sF hg11) ?_
    refine WL.gskipU (u := 17) rfl rfl ?_
    refine WL.gskipU (u := 17) rfl rfl ?_
    refine WL.gskipU (u := 17) rfl rfl ?_
    refine WL.gskipU (u := 17) rfl rfl ?_
    refine WL.gskipU (u := 17) rfl rfl ?_
    refine WL.gskip (u := 11) rfl rfl (sF hg11) ?_
    exact K11 _ zcR
  case h4_2 => exact Wanted.plain rfl
  refine WL.pur (Pur.assign rfl) ?_
  refine WL.nil ?_
  refine WQ.thn ?_
  refine WC.ret ?_
  refine WQ.ret1 Tryz.results158 rfl [] zsL (View.le_refl _) ?_
  refine ⟨?_, rfl, rfl⟩
  rfl

end Go.Proofs.YtgoooilgmabkmaaGreat
namespace Go.Proofs.YtgoooilgmabkmaaGreat
open Go Go.Sl
set_option linter.unusedVariables false
set_option linter.unusedSimpArgs false
set_option maxRecDepth 100000

/-- a spot, without a number -/
def eCntZ : Enc Trip := fun _ t vs => vs = [.int .i64 (t.1 : Int), .int .i64 ((t.2.1 - 1 : Nat) : Int), .int .i64 0]
theorem eCntZ_mono : Enc.Mono eCntZ := fun _ _ _ _ _ h => h
/-- .. with its number -/
def eCntI : Enc Trip := fun _ t vs => vs = [.int .i64 (t.1 : Int), .int .i64 ((t.2.1 - 1 : Nat) : Int), .int .i64 t.2.2.n] ∧ I64 t.2.2.n
theorem eCntI_mono : Enc.Mono eCntI := fun _ _ _ _ _ h => h
/-- is what was done at i, k seen by the spot z? -/
abbrev seenZ (L : List EntD) (i k : Nat) (z : Trip) : Prop := seesN L i z.1 = true ∨ (i = z.1 ∧ k < z.2.1 - 1)
def firstZ (L : List EntD) (i k : Nat) (S : List Trip) : Option Nat := S.findIdx? fun z => decide (seenZ L i k z)
theorem firstZ_at {L : List EntD} {i k q : Nat} {S : List Trip} {z : Trip} (h : S[q]? = some z) (hz : seenZ L i k z) (hn : ∀ x ∈ S.take q, ¬ seenZ L i k x) : firstZ L i k S = some q := by
  unfold firstZ
  rw [List.findIdx?_eq_some_iff_getElem]
  obtain ⟨hq, rfl⟩ := List.getElem?_eq_some_iff.1 h
  refine ⟨hq, by simpa using hz, fun j hj => ?_⟩
  have := hn S[j] (List.mem_of_getElem? (by rw [List.getElem?_take_of_lt hj]; exact List.getElem?_eq_getElem (by omega)))
  simpa using this
theorem firstZ_none {L : List EntD} {i k : Nat} {S : List Trip} (hn : ∀ x ∈ S, ¬ seenZ L i k x) : firstZ L i k S = none := by
  unfold firstZ
  rw [List.findIdx?_eq_none_iff]
  intro x hx
  simpa using hn x hx
theorem firstZ_iff {L : List EntD} {i k : Nat} {S : List Trip} : 0 ≤ numV (firstZ L i k S) ↔ ∃ z ∈ S, seenZ L i k z := by
  constructor
  · intro h
    refine Classical.byContradiction fun hc => ?_
    rw [firstZ_none (fun x hx hz => hc ⟨x, hx, hz⟩)] at h
    simp [numV] at h
  · rintro ⟨z, hz, h⟩
    cases hf : firstZ L i k S with
    | none =>
      unfold firstZ at hf
      rw [List.findIdx?_eq_none_iff] at hf
      have := hf z hz
      simp only [decide_eq_false_iff_not] at this
      exact absurd h this
    | some q => simp [numV]

theorem index_func (σ : View) (pv sv : Value) (L : List EntD) (S : List Trip) (b3 b7 i k : Nat) (n : Int) (h : PastV σ pv L) (ho : OrdOk L) (hi : i < L.length) (hS : SlE σ eCntZ 3 24 sv S) (hin : ∀ z ∈ S, z.1 < L.length) (h3 : RdV σ b3 0 [pv]) (h7 : RdV σ b7 0 [.int .i64 (i : Int), .int .i64 (k : Int), .int .i64 n]) :
    TriP Tryz.prog 195 #[sv, .func (.func 158) #[] #[.pointer (some ⟨b3, 0, none⟩), .pointer (some ⟨b7, 0, none⟩)]] σ (.int .i64 (numV (firstZ L i k S))) := by
  obtain ⟨sa, sc, rfl, hsc, hsb⟩ := hS.shape
  obtain ⟨sb, soff, hes, hsat⟩ := hS.rds
  refine Tri.of_body [(0, .slice sa S.length sc), (1, .func (.func 158) #[] #[.pointer (some ⟨b3, 0, none⟩), .pointer (some ⟨b7, 0, none⟩)])] Tryz.func195 rfl Tryz.ntmps195 (by simp) rfl (fun Hr => ?_)
  rw [List.nil_append]
  refine WC.seq ?_
  refine WC.region ?_
  refine WL.pur (Pur.assign rfl) ?_
  refine WL.nil ?_
  refine WQ.thn ?_
  refine WC.seq ?_
  refine WC.seq ?_
  refine WC.region ?_
  refine WL.pur (Pur.move rfl) ?_
  refine WL.pur (Pur.len rfl isSlice_240) ?_
  refine WL.pur (Pur.move rfl) ?_
  refine WL.nil ?_
  refine WQ.thn ?_
  refine WC.block ?_
  refine WC.loop (fun j m σ' H' => ∃ q : Nat, j = S.length - q ∧ q ≤ S.length ∧ (∀ x ∈ S.take q, ¬ seenZ L i k x) ∧ m = [(0, .slice sa S.length sc), (1, .func (.func 158) #[] #[.pointer (some ⟨b3, 0, none⟩), .pointer (some ⟨b7, 0, none⟩)]), (7, .int .i64 (S.length : Int)), (8, .int .i64 (q : Int))] ∧ σ' = σ ∧ H' = Hr) ⟨0, rfl, by omega, by simp, rfl, rfl, rfl⟩ zcV zsL ?_
  rintro _ _ σ Hr ⟨q, rfl, hq, hn, rfl, rfl, rfl⟩
  refine WC.seq ?_
  refine WC.region ?_
  refine' WL.pur (Pur.bin rfl rfl ?h1_0) ?k1
  case h1_0 => first | exact Bin.ltN | exact Bin.ltI | exact Bin.ltS
  refine WL.nil ?_
  refine WQ.thn ?_
  refine WC.seq ?_
  first | refine WC.cond rfl (fun hc0 => ?_) (fun hc0 => ?_) | refine WC.condB rfl (fun hc0 => ?_) (fun hc0 => ?_)
  · obtain ⟨z, hz⟩ : ∃ z, S[q]? = some z := ⟨_, List.getElem?_eq_getElem (by omega)⟩
    have hzl := hin z (List.mem_of_getElem? hz)
    obtain ⟨vs, _, _, rfl, hzr⟩ := hsat q z hz
    refine WC.skip ?_
    refine WQ.thn ?_
    refine WC.seq ?_
    refine WC.block ?_
    refine WC.seq ?_
    refine WC.region ?_
    refine WL.pur (Pur.move rfl) ?_
    refine WL.pur (Pur.assign rfl) ?_
    refine WL.nil ?_
    refine WQ.thn ?_
    refine WC.seq ?_
    refine WC.region ?_
    refine WL.pur (Pur.move rfl) ?_
    refine WL.pur (Pur.move rfl) ?_
    refine WL.pur (Pur.move rfl) ?_
    refine' WL.pur (Pur.indexAddr (eqA (hes (by omega))) rfl sl_240 ?h2_0) ?k2
    case h2_0 => omega
    refine' WL.pur (Pur.loadN rfl ty_244 ?h3_0 ?h3_1) ?k3
    case h3_0 => exact RdV.rd hzr
    case h3_1 => first | rfl | assumption
    refine WL.callVP (fs := []) (cs := [.pointer (some ⟨b3, 0, none⟩), .pointer (some ⟨b7, 0, none⟩)]) rfl rfl Tryz.call158 (counts_seen _ _ L b3 b7 i k z.1 (z.2.1 - 1) n 0 h ho hi hzl h3 h7) ?_
    refine WL.nil ?_
    refine WQ.thn ?_
    first | refine WC.cond rfl (fun hc1 => ?_) (fun hc1 => ?_) | refine WC.condB rfl (fun hc1 => ?_) (fun hc1 => ?_)
    · refine WC.seq ?_
      refine WC.region ?_
      refine WL.pur (Pur.move rfl) ?_
      refine WL.pur (Pur.assign rfl) ?_
      refine WL.nil ?_
      refine WQ.thn ?_
      refine WC.ret ?_
      refine WQ.blk_ret ?_
      refine WQ.thn_ret ?_
      refine WQ.back_ret ?_
      refine WQ.blk_ret ?_
      refine WQ.thn_ret ?_
      refine WQ.ret1 Tryz.results195 rfl [] zsL (View.le_refl _) ?_
      refine ⟨?_, rfl, rfl⟩
      rw [firstZ_at hz hc1 hn]; rfl
    · refine WC.skip ?_
      refine WQ.blk ?_
      refine WQ.thn ?_
      refine WC.region ?_
      refine' WL.pur (Pur.bin rfl rfl ?h4_0) ?k4
      case h4_0 => first | (refine Bin.addN (b := 1) ?_; omega) | (refine Bin.addI ?_; omega)
      refine WL.pur (Pur.move rfl) ?_
      refine WL.nil ?_
      refine WQ.back _ ⟨q + 1, rfl, by omega, by rw [List.take_add_one, hz]; intro x hx; rcases List.mem_append.1 hx with hx | hx; exact hn x hx; simp at hx; subst hx; exact hc1, rfl, rfl, rfl⟩ (by omega) zcV zsL
  · have hqq : q = S.length := by omega
    subst hqq
    rw [List.take_length] at hn
    refine WC.exit ?_
    refine WQ.thn_exit ?_
    refine WQ.back_exit ?_
    refine WQ.blk_here ?_
    refine WQ.thn ?_
    refine WC.seq ?_
    refine WC.region ?_
    refine WL.pur (Pur.assign rfl) ?_
    refine WL.nil ?_
    refine WQ.thn ?_
    refine WC.ret ?_
    refine WQ.ret1 Tryz.results195 rfl [] zsL (View.le_refl _) ?_
    refine ⟨?_, rfl, rfl⟩
    rw [firstZ_none hn]; rfl

theorem contains_func (σ : View) (pv sv : Value) (L : List EntD) (S : List Trip) (b3 b7 i k : Nat) (n : Int) (h : PastV σ pv L) (ho : OrdOk L) (hi : i < L.length) (hS : SlE σ eCntZ 3 24 sv S) (hin : ∀ z ∈ S, z.1 < L.length) (h3 : RdV σ b3 0 [pv]) (h7 : RdV σ b7 0 [.int .i64 (i : Int), .int .i64 (k : Int), .int .i64 n]) :
    TriP Tryz.prog 159 #[sv, .func (.func 158) #[] #[.pointer (some ⟨b3, 0, none⟩), .pointer (some ⟨b7, 0, none⟩)]] σ (.bool (decide (∃ z ∈ S, seenZ L i k z))) := by
  refine Tri.of_body [(0, sv), (1, .func (.func 158) #[] #[.pointer (some ⟨b3, 0, none⟩), .pointer (some ⟨b7, 0, none⟩)])] Tryz.func159 rfl Tryz.ntmps159 (by simp) rfl (fun Hr => ?_)
  rw [List.nil_append]
  refine WC.seq ?_
  refine WC.region ?_
  refine WL.pur (Pur.assign rfl) ?_
  refine WL.nil ?_
  refine WQ.thn ?_
  refine WC.seq ?_
  refine WC.region ?_
  refine WL.pur (Pur.move rfl) ?_
  refine WL.pur (Pur.move rfl) ?_
  refine WL.callP rfl Tryz.call195 ((index_func _ _ _ L S b3 b7 i k n h ho hi hS hin h3 h7)) ?_
  refine' WL.pur (Pur.bin rfl rfl ?h1_0) ?k1
  case h1_0 => exact Bin.geI
  refine WL.pur (Pur.assign rfl) ?_
  refine WL.nil ?_
  refine WQ.thn ?_
  refine WC.ret ?_
  refine WQ.ret1 Tryz.results159 rfl [] zsL (View.le_refl _) ?_
  refine ⟨?_, rfl, rfl⟩
  exact decB firstZ_iff

end Go.Proofs.YtgoooilgmabkmaaGreat
namespace Go.Proofs.YtgoooilgmabkmaaGreat
open Go Go.Sl
set_option linter.unusedVariables false
set_option linter.unusedSimpArgs false
set_option maxRecDepth 100000

/-- a sum, without what is seen by a zero -/
def cntP (L : List EntD) (Z : List Trip) (a : Int) (t : Trip) : Int := if ¬ ∃ z ∈ Z, seenZ L t.1 (t.2.1 - 1) z then IntKind.i64.wrap (a + t.2.2.n) else a
theorem cntP_step {L : List EntD} {Z I : List Trip} {i : Nat} {t : Trip} (h : I[i]? = some t) : (I.take (i + 1)).foldl (cntP L Z) 0 = cntP L Z ((I.take i).foldl (cntP L Z) 0) t := by
  rw [List.take_add_one, h, Option.toList_some, List.foldl_append]; rfl

theorem counter_value (σ : View) (pv iv zv : Value) (L : List EntD) (I Z : List Trip) (cb : Nat) (h : PastV σ pv L) (ho : OrdOk L) (hc : RdV σ cb 0 [iv, zv]) (hI : SlE σ eCntI 3 24 iv I) (hZ : SlE σ eCntZ 3 24 zv Z) (hiI : ∀ t ∈ I, t.1 < L.length) (hiZ : ∀ t ∈ Z, t.1 < L.length) :
    Tri Tryz.prog 110 #[.pointer (some ⟨cb, 0, none⟩), pv] σ [] (fun v σ' H' => v = .int .i64 (I.foldl (cntP L Z) 0) ∧ H' = []) := by
  have h1p : pv.oneCell' = true := by obtain ⟨_, _, _, _, rfl, _⟩ := h; rfl
  obtain ⟨ia, ic, rfl, hic, hib⟩ := hI.shape
  obtain ⟨za, zc, rfl, hzc, hzb⟩ := hZ.shape
  obtain ⟨ib, ioff, hie, hiat⟩ := hI.rds
  refine Tri.of_body [(0, .pointer (some ⟨cb, 0, none⟩)), (1, pv)] Tryz.func110 rfl Tryz.ntmps110 (by simp) rfl (fun Hr => ?_)
  rw [List.nil_append]
  refine WC.seq ?_
  refine WC.region ?_
  refine WL.new (New.box1 rfl (by first | rfl | assumption)) (fun b3 => ?_)
  refine WL.pur (Pur.assign rfl) ?_
  refine WL.nil ?_
  refine WQ.thn ?_
  refine WC.seq ?_
  refine WC.region ?_
  refine WL.pur (Pur.assign rfl) ?_
  refine WL.nil ?_
  refine WQ.thn ?_
  refine WC.seq ?_
  refine WC.seq ?_
  refine WC.region ?_
  refine WL.pur (Pur.move rfl) ?_
  refine WL.pur (Pur.nilCheck rfl) ?_
  refine WL.pur (Pur.fieldAddr rfl fo_242_0) ?_
  refine' WL.pur (Pur.load1 rfl ty_240 ?h1_0) ?k1
  case h1_0 => exact RdV.rd (by have := hc; exact RdV.idx (off := 0) (i := 0) hc rfl)
  refine WL.pur (Pur.len rfl isSlice_240) ?_
  refine WL.pur (Pur.move rfl) ?_
  refine WL.nil ?_
  refine WQ.thn ?_
  refine WC.block ?_
  refine WC.give (H1 := []) (H2 := Hr) (fun hb3 => ?_)
  rw [List.nil_append]
  have hle3 := View.le_add (rowO 25 [pv]) hb3
  have hr3 := RdV.row (View.add_same σ b3 (rowO 25 [pv]))
  generalize σ.add b3 (rowO 25 [pv]) = σ3 at hle3 hr3 ⊢
  refine WC.loop (fun j m σ' H' => ∃ (i : Nat) (a : Int), j = I.length - i ∧ i ≤ I.length ∧ a = (I.take i).foldl (cntP L Z) 0 ∧ σ3.le σ' ∧ m = [(0, .pointer (some ⟨cb, 0, none⟩)), (3, .pointer (some ⟨b3, 0, none⟩)), (5, .int .i64 a), (12, .slice ia I.length ic), (13, .int .i64 (I.length : Int)), (14, .int .i64 (i : Int))] ∧ H' = Hr) ⟨0, 0, rfl, by omega, rfl, View.le_refl _, rfl, rfl⟩ zcV zsL ?_
  rintro _ _ σ Hr ⟨i, a, rfl, hi, ha, hlei, rfl, rfl⟩
  refine WC.seq ?_
  refine WC.region ?_
  refine' WL.pur (Pur.bin rfl rfl ?h2_0) ?k2
  case h2_0 => first | exact Bin.ltN | exact Bin.ltI | exact Bin.ltS
  refine WL.nil ?_
  refine WQ.thn ?_
  refine WC.seq ?_
  first | refine WC.cond rfl (fun hc0 => ?_) (fun hc0 => ?_) | refine WC.condB rfl (fun hc0 => ?_) (fun hc0 => ?_)
  · obtain ⟨t, ht⟩ : ∃ t, I[i]? = some t := ⟨_, List.getElem?_eq_getElem (by omega)⟩
    have htl := hiI t (List.mem_of_getElem? ht)
    obtain ⟨vs, _, _, ⟨rfl, hn64⟩, htr⟩ := hiat i t ht
    have hle0 := View.le_trans hle3 hlei
    refine WC.skip ?_
    refine WQ.thn ?_
    refine WC.seq ?_
    refine WC.block ?_
    refine WC.seq ?_
    refine WC.region ?_
    refine' WL.pur (Pur.indexAddr (eqA (hie (by omega))) rfl sl_240 ?h3_0) ?k3
    case h3_0 => omega
    refine' WL.pur (Pur.loadN rfl ty_244 ?h4_0 ?h4_1) ?k4
    case h4_0 => exact RdV.rd (htr.mono hle0)
    case h4_1 => first | rfl | assumption
    refine WL.new (New.alloc zc_244) (fun b7 => ?_)
    refine' WL.run0 (Run.storeAll rfl rfl ty_244 ?h5_0 (by first | rfl | assumption) ?h5_1 (by first | rfl | assumption)) ?k5
    case h5_0 => repeat (first | exact Part.one | exact Part.here | apply Part.cons | apply Part.app)
    case h5_1 => first | rfl | assumption
    refine WL.nil ?_
    refine WQ.thn ?_
    refine WC.seq ?_
    refine WC.region ?_
    refine WL.give (H1 := []) (H2 := Hr) (fun hb7 => ?_)
    rw [List.nil_append]
    have hr7 := RdV.row (View.add_same σ b7 (rowO 244 [.int .i64 (t.1 : Int), .int .i64 ((t.2.1 - 1 : Nat) : Int), .int .i64 t.2.2.n]))
    have hle7 := View.le_trans hle0 (View.le_add (rowO 244 [.int .i64 (t.1 : Int), .int .i64 ((t.2.1 - 1 : Nat) : Int), .int .i64 t.2.2.n]) hb7)
    refine WL.pur (Pur.makeFunc rfl rfl) ?_
    refine WL.pur (Pur.assign rfl) ?_
    refine WL.nil ?_
    refine WQ.thn ?_
    refine WC.seq ?_
    refine WC.region ?_
    refine WL.pur (Pur.move rfl) ?_
    refine WL.pur (Pur.nilCheck rfl) ?_
    refine WL.pur (Pur.fieldAddr rfl fo_242_1) ?_
    refine' WL.pur (Pur.load1 rfl ty_240 ?h6_0) ?k6
    case h6_0 => exact RdV.rd ((RdV.idx (off := 0) (i := 1) hc rfl).mono (View.le_trans hle0 (View.le_add _ hb7)))
    refine WL.pur (Pur.move rfl) ?_
    refine WL.callP rfl Tryz.call159 ((contains_func _ pv _ L Z b3 b7 t.1 (t.2.1 - 1) t.2.2.n (h.mono hle7) ho htl (hZ.mono eCntZ_mono hle7) hiZ (hr3.mono (View.le_trans hlei (View.le_add _ hb7))) hr7)) ?_
    first | refine WL.pur (Pur.not rfl) ?_ | refine WL.pur (Pur.notB rfl) ?_
    refine WL.nil ?_
    refine WQ.thn ?_
    first | refine WC.cond rfl (fun hc1 => ?_) (fun hc1 => ?_) | refine WC.condB rfl (fun hc1 => ?_) (fun hc1 => ?_)
    · refine WC.region ?_
      refine WL.pur (Pur.move rfl) ?_
      refine WL.pur (Pur.fieldAddr rfl fo_244_2) ?_
      refine' WL.pur (Pur.load1 rfl ty_2 ?h7_0) ?k7
      case h7_0 => exact RdV.rd (RdV.idx (off := 0) (i := 2) hr7 rfl)
      refine' WL.pur (Pur.bin rfl rfl ?h8_0) ?k8
      case h8_0 => exact Bin.addW
      refine WL.pur (Pur.assign rfl) ?_
      refine WL.nil ?_
      refine WQ.blk ?_
      refine WQ.thn ?_
      refine WC.region ?_
      refine' WL.pur (Pur.bin rfl rfl ?h9_0) ?k9
      case h9_0 => first | (refine Bin.addN (b := 1) ?_; omega) | (refine Bin.addI ?_; omega)
      refine WL.pur (Pur.move rfl) ?_
      refine WL.nil ?_
      refine WQ.back _ ⟨i + 1, (IntKind.i64.wrap (a + t.2.2.n)), rfl, by omega, by rw [cntP_step ht, ← ha]; unfold cntP; rw [if_pos hc1], View.le_trans hlei (View.le_add _ hb7), rfl, rfl⟩ (by omega) zcV zsL
    · refine WC.skip ?_
      refine WQ.blk ?_
      refine WQ.thn ?_
      refine WC.region ?_
      refine' WL.pur (Pur.bin rfl rfl ?h10_0) ?k10
      case h10_0 => first | (refine Bin.addN (b := 1) ?_; omega) | (refine Bin.addI ?_; omega)
      refine WL.pur (Pur.move rfl) ?_
      refine WL.nil ?_
      refine WQ.back _ ⟨i + 1, a, rfl, by omega, by rw [cntP_step ht, ← ha]; unfold cntP; rw [if_neg hc1], View.le_trans hlei (View.le_add _ hb7), rfl, rfl⟩ (by omega) zcV zsL
  · have hil : i = I.length := by omega
    subst hil
    rw [List.take_length] at ha
    refine WC.exit ?_
    refine WQ.thn_exit ?_
    refine WQ.back_exit ?_
    refine WQ.blk_here ?_
    refine WQ.thn ?_
    refine WC.seq ?_
    refine WC.region ?_
    refine WL.pur (Pur.move rfl) ?_
    refine WL.pur (Pur.assign rfl) ?_
    refine WL.nil ?_
    refine WQ.thn ?_
    refine WC.ret ?_
    refine WQ.ret1 Tryz.results110 rfl [] zsL (View.le_trans hle3 hlei) ?_
    exact ⟨by rw [ha], rfl⟩

end Go.Proofs.YtgoooilgmabkmaaGreat
namespace Go.Proofs.YtgoooilgmabkmaaGreat
open Go Go.Sl
set_option linter.unusedVariables false
theorem trips_filter (L : List EntD) (p q : OpD → Bool) (n : Nat) : (tripsN L p n).filter (fun t => q t.2.2) = tripsN L (fun o => p o && q o) n := by
  unfold tripsN
  rw [List.filter_flatMap]
  congr 1
  funext i
  unfold tripsAt
  rw [List.filter_map, List.filter_filter]
  congr 2
  funext x
  simp [Bool.and_comm]
theorem seen_knows {L : List EntD} {t z : Trip} (ht : 1 ≤ t.2.1) (hz : 1 ≤ z.2.1) : seenZ L t.1 (t.2.1 - 1) z ↔ knowsT L t z := by
  unfold seenZ knowsT
  constructor
  · rintro (h | ⟨h1, h2⟩)
    · exact .inr h
    · exact .inl ⟨h1, by omega⟩
  · rintro (⟨h1, h2⟩ | h)
    · exact .inr ⟨h1, by omega⟩
    · exact .inl h
/-- the program's sum is the document's -/
theorem cntP_cntV (L : List EntD) (key : ByteArray) : ((cntS L key).filter (fun t => decide (t.2.2.kind = 6))).foldl (cntP L ((cntS L key).filter (fun t => decide (t.2.2.kind = 7)))) 0 = cntV L key := by
  rw [cntV_int, List.foldl_filter]
  have h1 : ∀ t ∈ cntS L key, 1 ≤ t.2.1 := fun t ht => (tripsN_mem ht).2.1
  have key2 : ∀ (l : List Trip) (a : Int), (∀ t ∈ l, 1 ≤ t.2.1) → l.foldl (fun x y => if decide (y.2.2.kind = 6) = true then cntP L ((cntS L key).filter (fun t => decide (t.2.2.kind = 7))) x y else x) a = l.foldl (cntI L (cntS L key)) a := by
    intro l
    induction l with
    | nil => intro a _; rfl
    | cons t l ih =>
      intro a hl
      rw [List.foldl_cons, List.foldl_cons, ih _ (fun t ht => hl t (by simp [ht]))]
      congr 1
      have ht := hl t (by simp)
      have hiff : (∃ z ∈ (cntS L key).filter (fun t => decide (t.2.2.kind = 7)), seenZ L t.1 (t.2.1 - 1) z) ↔ goneT L (cntS L key) t := by
        constructor
        · rintro ⟨z, hz, h⟩
          rw [List.mem_filter] at hz
          exact ⟨z, hz.1, by simpa using hz.2, (seen_knows ht (h1 z hz.1)).1 h⟩
        · rintro ⟨z, hz, h7, h⟩
          exact ⟨z, List.mem_filter.2 ⟨hz, by simpa using h7⟩, (seen_knows ht (h1 z hz)).2 h⟩
      unfold cntI cntP
      by_cases h6 : t.2.2.kind = 6
      · rw [if_pos (by simpa using h6)]
        by_cases hg : goneT L (cntS L key) t
        · rw [if_neg (fun h => h (hiff.2 hg)), if_neg (fun h => h.2 hg)]
        · rw [if_pos (fun h => hg (hiff.1 h)), if_pos ⟨h6, hg⟩]
      · rw [if_neg (by simpa using h6), if_neg (fun h => h6 h.1)]
  exact key2 _ 0 h1
def cntKey (t : Trip) : ByteArray := t.2.2.key
theorem cnt_onKey (L : List EntD) (key : ByteArray) : (tripsN L (isKind 6 7) L.length).filter (onG cntKey key) = cntS L key := by
  have := trips_filter L (isKind 6 7) (fun o => decide (o.key = key)) L.length
  unfold cntS
  rw [show (onG cntKey key : Trip → Bool) = fun t => decide (t.2.2.key = key) from rfl, this]
  congr 1
  funext o
  unfold isKind isKey
  rw [Bool.eq_iff_iff]
  simp only [Bool.and_eq_true, decide_eq_true_eq]
  exact ⟨fun h => ⟨h.2, h.1⟩, fun h => ⟨h.2, h.1⟩⟩
end Go.Proofs.YtgoooilgmabkmaaGreat
namespace Go.Proofs.YtgoooilgmabkmaaGreat
open Go Go.Sl
set_option linter.unusedVariables false
set_option linter.unusedSimpArgs false
set_option maxRecDepth 100000

/-- a counter of one's own: what was added, and the zeros -/
def cntC (l : List Trip) (σ : View) (v : Value) (h : HList) : Prop := ∃ (b : Nat) (iv zv : Value) (h1 h2 : HList), v = .pointer (some ⟨b, 0, none⟩) ∧ h.Perm ((b, rowO 242 [iv, zv]) :: (h1 ++ h2)) ∧
  SlO σ eCntI 244 3 iv (l.filter fun t => decide (t.2.2.kind = 6)) h1 ∧ SlO σ eCntZ 244 3 zv (l.filter fun t => decide (t.2.2.kind = 7)) h2
theorem cntC_mono {σ σ' : View} (hl : σ.le σ') : ∀ l v h, cntC l σ v h → cntC l σ' v h := fun _ _ _ ⟨b, iv, zv, h1, h2, e1, e2, e3, e4⟩ => ⟨b, iv, zv, h1, h2, e1, e2, e3.mono eCntI_mono hl, e4.mono eCntZ_mono hl⟩
abbrev KC (bm : Nat) (dn : List Trip) (σ : View) (H : HList) : Prop := KG cntKey cntC bm dn σ H
abbrev k6 : Trip → Bool := fun t => decide (t.2.2.kind = 6)
abbrev k7 : Trip → Bool := fun t => decide (t.2.2.kind = 7)
theorem KC_look {bm : Nat} {dn : List Trip} {σ : View} {H : HList} (hK : KC bm dn σ H) (key : ByteArray) :
    ∃ (av : Option Addr) (ents : List (ByteArray × Value)) (hk rest : HList), H.Perm ((bm, mapO Value.string ents) :: (hk ++ rest)) ∧ (mget ents key).getD (.pointer none) = .pointer av ∧
      ((av = none ∧ dn.filter (onG cntKey key) = [] ∧ hk = []) ∨ (∃ (cb : Nat) (iv zv : Value) (h1 h2 : HList), av = some ⟨cb, 0, none⟩ ∧ mget ents key = some (.pointer (some ⟨cb, 0, none⟩)) ∧ hk.Perm ((cb, rowO 242 [iv, zv]) :: (h1 ++ h2)) ∧
        SlO σ eCntI 244 3 iv ((dn.filter (onG cntKey key)).filter k6) h1 ∧ SlO σ eCntZ 244 3 zv ((dn.filter (onG cntKey key)).filter k7) h2)) ∧
      ∀ (x : Trip) (sv' : Value) (hk' : HList), cntKey x = key → cntC ((dn ++ [x]).filter (onG cntKey key)) σ sv' hk' → KC bm (dn ++ [x]) σ ((bm, mapO Value.string (mput ents key sv')) :: (hk' ++ rest)) := by
  obtain ⟨ents, hk, rest, hp, hor, hput⟩ := KG.open hK key
  rcases hor with ⟨sv, hg, b, iv, zv, h1, h2, rfl, e2, e3, e4⟩ | ⟨hg, hf, he⟩
  · exact ⟨some ⟨b, 0, none⟩, ents, hk, rest, hp, by rw [hg]; rfl, .inr ⟨b, iv, zv, h1, h2, rfl, hg, e2, e3, e4⟩, hput⟩
  · exact ⟨none, ents, hk, rest, hp, by rw [hg]; rfl, .inl ⟨rfl, hf, he⟩, hput⟩
/-- .. in memory that stays -/
def cntK (l : List Trip) (σ : View) (v : Value) : Prop := ∃ (b : Nat) (iv zv : Value), v = .pointer (some ⟨b, 0, none⟩) ∧ RdV σ b 0 [iv, zv] ∧ SlE σ eCntI 3 24 iv (l.filter k6) ∧ SlE σ eCntZ 3 24 zv (l.filter k7)
theorem cntK_mono {σ σ' : View} (hl : σ.le σ') : ∀ l v, cntK l σ v → cntK l σ' v := fun _ _ ⟨b, iv, zv, e1, e2, e3, e4⟩ => ⟨b, iv, zv, e1, e2.mono hl, e3.mono eCntI_mono hl, e4.mono eCntZ_mono hl⟩
theorem cntC_give : GivesUp (fun l : List Trip => l.length * 24 ≤ 140737488355328) cntC cntK := by
  rintro l σ v h H1 H2 w hb ⟨b, iv, zv, h1, h2, rfl, hp, hI, hZ⟩ hst
  have l1 : (l.filter fun t => decide (t.2.2.kind = 6)).length ≤ l.length := List.length_filter_le _ _
  have l2 : (l.filter fun t => decide (t.2.2.kind = 7)).length ≤ l.length := List.length_filter_le _ _
  have hb' : l.length * 24 ≤ 140737488355328 := hb
  have hp2 : ((H1 ++ [(b, rowO 242 [iv, zv])]) ++ (h1 ++ (h2 ++ H2))).Perm (H1 ++ (h ++ H2)) := by
    have := (hp.append_right H2).symm.append_left H1
    simpa using this
  obtain ⟨σ1, a1, a2, a3⟩ := St.giveS (byt := 24) (H1 := H1 ++ [(b, rowO 242 [iv, zv])]) (H2 := h2 ++ H2) eCntI_mono hI (by omega) (hst.perm hp2)
  obtain ⟨σ2, c1, c2, c3⟩ := St.giveS (byt := 24) (H1 := H1 ++ [(b, rowO 242 [iv, zv])]) (H2 := H2) eCntZ_mono (hZ.mono eCntZ_mono a1) (by omega) a3
  have hg := St.give (H1 := H1) (H2 := H2) (b := b) (o := rowO 242 [iv, zv]) (by simpa using c3)
  have hle := View.le_add (rowO 242 [iv, zv]) hg.2
  exact ⟨_, View.le_trans a1 (View.le_trans c1 hle), ⟨b, iv, zv, rfl, RdV.row (View.add_same _ _ _), a2.mono eCntI_mono (View.le_trans c1 hle), c2.mono eCntZ_mono hle⟩, hg.1⟩
theorem perm_up {a : Nat × Obj} {l1 hk h1 h2 R : HList} (hp : hk.Perm (a :: (h1 ++ h2))) : (a :: (l1 ++ (h1 ++ (h2 ++ R)))).Perm (l1 ++ (hk ++ R)) := by
  have e1 : (a :: (h1 ++ (h2 ++ R))).Perm (hk ++ R) := by simpa using (hp.append_right R).symm
  exact List.perm_middle.symm.trans (e1.append_left l1)
theorem perm_dn {x a c : Nat × Obj} {l1 T : HList} : (x :: (l1 ++ (a :: (c :: T)))).Perm (x :: c :: a :: (l1 ++ T)) := by
  refine List.Perm.cons _ ?_
  exact (List.perm_middle.trans (List.Perm.cons _ List.perm_middle)).trans (List.Perm.swap _ _ _)
theorem KC_put6 {bm cb : Nat} {dn : List Trip} {σ : View} {key : ByteArray} {ents : List (ByteArray × Value)} {rest h1 h2 : HList} {iv zv : Value} {x : Trip}
    (hput : ∀ (x : Trip) (sv' : Value) (hk' : HList), cntKey x = key → cntC ((dn ++ [x]).filter (onG cntKey key)) σ sv' hk' → KC bm (dn ++ [x]) σ ((bm, mapO Value.string (mput ents key sv')) :: (hk' ++ rest)))
    (hx : cntKey x = key) (h6 : x.2.2.kind = 6) (hI : SlO σ eCntI 244 3 iv ((dn.filter (onG cntKey key)).filter k6 ++ [x]) h1) (hZ : SlO σ eCntZ 244 3 zv ((dn.filter (onG cntKey key)).filter k7) h2) :
    KC bm (dn ++ [x]) σ ((bm, mapO Value.string (mput ents key (.pointer (some ⟨cb, 0, none⟩)))) :: (((cb, rowO 242 [iv, zv]) :: (h1 ++ h2)) ++ rest)) := by
  refine hput x _ _ hx ⟨cb, iv, zv, h1, h2, rfl, List.Perm.refl _, ?_, ?_⟩
  · rw [filterG_snoc, if_pos hx, List.filter_append, show [x].filter (fun t : Trip => decide (t.2.2.kind = 6)) = [x] from by simp [h6]]; exact hI
  · rw [filterG_snoc, if_pos hx, List.filter_append, show [x].filter (fun t : Trip => decide (t.2.2.kind = 7)) = [] from by simp [h6], List.append_nil]; exact hZ
theorem KC_put7 {bm cb : Nat} {dn : List Trip} {σ : View} {key : ByteArray} {ents : List (ByteArray × Value)} {rest h1 h2 : HList} {iv zv : Value} {x : Trip}
    (hput : ∀ (x : Trip) (sv' : Value) (hk' : HList), cntKey x = key → cntC ((dn ++ [x]).filter (onG cntKey key)) σ sv' hk' → KC bm (dn ++ [x]) σ ((bm, mapO Value.string (mput ents key sv')) :: (hk' ++ rest)))
    (hx : cntKey x = key) (h7 : x.2.2.kind = 7) (hI : SlO σ eCntI 244 3 iv ((dn.filter (onG cntKey key)).filter k6) h1) (hZ : SlO σ eCntZ 244 3 zv ((dn.filter (onG cntKey key)).filter k7 ++ [x]) h2) :
    KC bm (dn ++ [x]) σ ((bm, mapO Value.string (mput ents key (.pointer (some ⟨cb, 0, none⟩)))) :: (((cb, rowO 242 [iv, zv]) :: (h1 ++ h2)) ++ rest)) := by
  refine hput x _ _ hx ⟨cb, iv, zv, h1, h2, rfl, List.Perm.refl _, ?_, ?_⟩
  · rw [filterG_snoc, if_pos hx, List.filter_append, show [x].filter (fun t : Trip => decide (t.2.2.kind = 6)) = [] from by simp [h7], List.append_nil]; exact hI
  · rw [filterG_snoc, if_pos hx, List.filter_append, show [x].filter (fun t : Trip => decide (t.2.2.kind = 7)) = [x] from by simp [h7]]; exact hZ

set_option maxHeartbeats 2000000 in
theorem counts_all (σ : View) (pv : Value) (L : List EntD) (h : PastV σ pv L) (ho : OrdOk L) :
    Tri Tryz.prog 109 #[pv] σ [] (fun v σ' H' => ∃ bm, v = .map (some bm) ∧ KC bm (tripsN L (isKind 6 7) L.length) σ' H') := by
  have h' := h
  have hmost := ho.most
  obtain ⟨b, mb, lv, sv, rfl, hr, hl, hm, hs⟩ := h
  refine Tri.of_bodyM [(0, .pointer (some ⟨b, 0, none⟩))] Tryz.func109 rfl Tryz.ntmps109 (by simp) rfl (fun Hr => ?_)
  rw [List.nil_append]
  refine WC.seq ?_
  refine WC.region ?_
  refine WL.pur (Pur.assign rfl) ?_
  refine WL.nil ?_
  refine WQ.thn ?_
  refine WC.seq ?_
  refine WC.region ?_
  refine WL.new (New.makeMap) (fun b9 => ?_)
  refine WL.new (New.alloc zc_168) (fun b3 => ?_)
  refine' WL.run0 (Run.store1 rfl rfl ty_168 (by first | rfl | assumption) ?h1_0 ?h1_1 sz_168) ?k1
  case h1_0 => repeat (first | exact Part.one | exact Part.here | apply Part.cons | apply Part.app)
  case h1_1 => first | exact Nat.le_of_ble_eq_true rfl | decide | (simp; done) | (simp; omega) | omega
  refine WL.nil ?_
  refine WQ.thn ?_
  refine WC.seq ?_
  refine WC.seq ?_
  refine WC.region ?_
  refine WL.pur (Pur.move rfl) ?_
  refine WL.call (H0 := []) (Hr := _) rfl Tryz.call34 (List.Perm.refl _) (past_All _ _ rfl) ?_
  rintro v11 σa _ ⟨⟨bx, rfl, hbx⟩, rfl⟩ hlea
  rw [List.nil_append]
  refine WL.nil ?_
  refine WQ.thn ?_
  refine WC.block ?_
  refine WC.rangeFunc (H0 := [(b3, rowO 168 [.map (some b9)]), (b9, .map #[] 0)]) (Hr := Hr) rfl Tryz.call111 (past_All1 σa bx _ L (h'.mono hlea) hbx hmost) (View.le_refl _) (List.Perm.refl _) (fun i σ' H' => ∃ Hk, KC b9 (tripsN L (isKind 6 7) i) σ' Hk ∧ H' = (b3, rowO 168 [.map (some b9)]) :: Hk ∧ σ.le σ') (fun _ _ _ => False) (fun i args σ2 hG => by obtain ⟨e, pv, ov, _, rfl, _⟩ := hG; rfl) (by decide) (⟨[(b9, .map #[] 0)], KG.nil b9 σa, rfl, hlea⟩) ?_ ?_ ?_
  · intro lq rec0 rec1 i args σ1 σ2 H1 Hq QA QB hi hJ hle1 hle2 hG hA hB hX
    obtain ⟨Hk, hK, rfl, hleK⟩ := hJ
    obtain ⟨e, qv, ov, he, rfl, heH, hNR⟩ := hG
    obtain ⟨qa, qc, rfl, hqc, hqb⟩ := hNR.1.shape
    have hops := hNR.2.1
    rw [List.cons_append]
    obtain ⟨oa, oc, rfl, hoc, hob⟩ := hops.shape
    obtain ⟨ob, ooff, heo, hoat⟩ := hops.rds
    have hop := opsAt_of he
    have hK2 : KC b9 (tripsN L (isKind 6 7) i) σ2 Hk := KG.mono (cntC_mono hle2) hK
    have hilt := (List.getElem?_eq_some_iff.1 he).1
    have hol : e.node.ops.length ≤ 1024 := by rw [← hop]; exact opsAt_len ho i
    have htl := tripsN_len ho (isKind 6 7) i
    refine WC.seq ?_
    refine WC.region ?_
    refine WL.pur (Pur.assign rfl) ?_
    refine WL.nil ?_
    refine WQ.thn ?_
    refine WC.region ?_
    refine WL.new (New.alloc zc_45) (fun b5 => ?_)
    refine' WL.run0 (Run.storeAll rfl rfl ty_45 ?h2_0 (by first | rfl | assumption) ?h2_1 (by first | rfl | assumption)) ?k2
    case h2_0 => repeat (first | exact Part.one | exact Part.here | apply Part.cons | apply Part.app)
    case h2_1 => first | rfl | assumption
    refine WL.nil ?_
    refine hA _ _ _ _ (by repeat (first | exact Part.one | exact Part.here | apply Part.cons | apply Part.app)) ?_
    refine WC.block ?_
    refine WC.seq ?_
    refine WC.region ?_
    refine WL.pur (Pur.fieldAddr rfl fo_45_1) ?_
    refine WL.pur (Pur.fieldAddr rfl fo_43_3) ?_
    refine' WL.pur (Pur.load1 rfl ty_40 ?h3_0) ?k3
    case h3_0 => first | (apply Rd.own1; exact zmE; rfl) | (apply RdV.rd; apply RdV.idx (i := 35); assumption; rfl) | (apply RdV.rd; apply RdV.idx (off := 0) (i := 35); assumption; rfl)
    refine WL.pur (Pur.len rfl isSlice_40) ?_
    refine WL.pur (Pur.move rfl) ?_
    refine WL.nil ?_
    refine WQ.thn ?_
    refine WC.block ?_
    refine WC.loop (fun j m σ' H' => ∃ (q : Nat) (Hk : HList), j = e.node.ops.length - q ∧ q ≤ e.node.ops.length ∧ KC b9 (tripsN L (isKind 6 7) i ++ tripsAt (isKind 6 7) i (e.node.ops.take q)) σ' Hk ∧ m = [(3, .pointer (some ⟨b3, 0, none⟩)), (4, .int .i64 (i : Int)), (5, .pointer (some ⟨b5, 0, none⟩)), (16, .slice oa e.node.ops.length oc), (17, .int .i64 (e.node.ops.length : Int)), (18, .int .i64 (q : Int))] ∧ σ' = σ2 ∧ H' = (b5, rowO 45 (entCells e.id e.node.au e.node.cl (.slice qa e.node.ps.length qc) (.slice oa e.node.ops.length oc))) :: (b3, rowO 168 [.map (some b9)]) :: (Hk ++ (lq, rec1) :: Hq)) ⟨0, Hk, rfl, by omega, by simpa [tripsAt] using hK2, rfl, rfl, rfl⟩ zcV zsL ?_
    rintro _ _ σ Hr ⟨q, Hk, rfl, hq, hK3, rfl, rfl, rfl⟩
    refine WC.seq ?_
    refine WC.region ?_
    refine' WL.pur (Pur.bin rfl rfl ?h4_0) ?k4
    case h4_0 => first | exact Bin.ltN | exact Bin.ltI | exact Bin.ltS
    refine WL.nil ?_
    refine WQ.thn ?_
    refine WC.seq ?_
    first | refine WC.cond rfl (fun hc0 => ?_) (fun hc0 => ?_) | refine WC.condB rfl (fun hc0 => ?_) (fun hc0 => ?_)
    · obtain ⟨o, hoq⟩ : ∃ o, e.node.ops[q]? = some o := ⟨_, List.getElem?_eq_getElem hc0⟩
      obtain ⟨vs, _, _, ⟨rfl, hook⟩, hord⟩ := hoat q o hoq
      refine WC.skip ?_
      refine WQ.thn ?_
      refine WC.seq ?_
      refine WC.block ?_
      refine WC.seq ?_
      refine WC.region ?_
      refine WL.pur (Pur.move rfl) ?_
      refine' WL.pur (Pur.indexAddr (eqA (heo (by omega))) rfl sl_40 ?h5_0) ?k5
      case h5_0 => omega
      refine' WL.pur (Pur.loadN rfl ty_51 ?h6_0 ?h6_1) ?k6
      case h6_0 => exact RdV.rd hord
      case h6_1 => first | rfl | assumption
      refine WL.new (New.alloc zc_51) (fun b7 => ?_)
      refine WL.pur (Pur.assign rfl) ?_
      refine' WL.run0 (Run.storeAll rfl rfl ty_51 ?h7_0 (by first | rfl | assumption) ?h7_1 (by first | rfl | assumption)) ?k7
      case h7_0 => repeat (first | exact Part.one | exact Part.here | apply Part.cons | apply Part.app)
      case h7_1 => first | rfl | assumption
      refine WL.nil ?_
      refine WQ.thn ?_
      refine WC.seq ?_
      refine WC.seq ?_
      refine WC.region ?_
      refine WL.pur (Pur.fieldAddr rfl fo_51_0) ?_
      refine' WL.pur (Pur.load1 rfl ty_3 ?h8_0) ?k8
      case h8_0 => first | (apply Rd.own1; exact zmE; rfl) | (apply RdV.rd; apply RdV.idx (i := 0); assumption; rfl)
      refine' WL.pur (Pur.bin rfl rfl ?h9_0) ?k9
      case h9_0 => first | exact Bin.neN (b := 6) | exact Bin.neI
      refine WL.pur (Pur.move rfl) ?_
      refine' WL.andp (u := 26) (t := 30) rfl ?h10_0 ?h10_1 ?h10_2 rfl ?k10
      case h10_0 =>
        intro hg26 K26
        refine WL.gpur (u := 26) rfl rfl (gT hg26) (Pur.fieldAddr rfl fo_51_0) ?_
        refine' WL.gpur (u := 26) rfl rfl (gT hg26) (Pur.load1 rfl ty_3 ?h11_0) ?k11
        case h11_0 => first | (apply Rd.own1; exact zmE; rfl) | (apply RdV.rd; apply RdV.idx (i := 0); assumption; rfl)
        refine' WL.gpur (u := 26) rfl rfl (gT hg26) (Pur.bin rfl rfl ?h12_0) ?k12
        case h12_0 => first | exact Bin.neN (b := 7) | exact Bin.neI
        exact K26 _ zcR rfl
      case h10_1 =>
        intro hg26 K26
        refine WL.gskip (u := 26) rfl rfl (sT hg26) ?_
        refine WL.gskip (u := 26) rfl rfl (sT hg26) ?_
        refine WL.gskip (u := 26) rfl rfl (sT hg26) ?_
        exact K26 _ zcR
      case h10_2 => exact Wanted.plain rfl
      refine WL.nil ?_
      refine WQ.thn ?_
      first | refine WC.cond rfl (fun hc1 => ?_) (fun hc1 => ?_) | refine WC.condB rfl (fun hc1 => ?_) (fun hc1 => ?_)
      · have hreg : ¬ isKind 6 7 o = true := by simp only [isKind, decide_eq_true_eq]; omega
        refine WC.exit ?_
        refine WQ.thn_exit ?_
        refine WQ.blk_here ?_
        refine WQ.thn ?_
        refine WC.region ?_
        refine' WL.pur (Pur.bin rfl rfl ?h13_0) ?k13
        case h13_0 => first | (refine Bin.addN (b := 1) ?_; omega) | (refine Bin.addI ?_; omega)
        refine WL.pur (Pur.move rfl) ?_
        refine WL.nil ?_
        refine WQ.back _ ⟨q + 1, Hk, rfl, by omega, by rw [tripsAt_step hoq, if_neg hreg, List.append_nil]; exact hK3, rfl, rfl, rfl⟩ (by omega) zcV (by (try simp only [List.cons_append]); repeat (first | exact List.Sublist.refl _ | apply List.Sublist.cons_cons | apply List.Sublist.cons))
      · have hreg : isKind 6 7 o = true := by simp only [isKind, decide_eq_true_eq]; omega
        obtain ⟨av, ents, hk, rest, hperm, hga, hor, hput⟩ := KC_look hK3 o.key
        have hdl : (tripsN L (isKind 6 7) i ++ tripsAt (isKind 6 7) i (e.node.ops.take q)).length ≤ 4195400 := by
          have h1 := tripsAt_len (isKind 6 7) i (e.node.ops.take q)
          rw [List.length_take] at h1
          rw [List.length_append]; omega
        have hf6 : (((tripsN L (isKind 6 7) i ++ tripsAt (isKind 6 7) i (e.node.ops.take q)).filter (onG cntKey o.key)).filter k6).length ≤ (tripsN L (isKind 6 7) i ++ tripsAt (isKind 6 7) i (e.node.ops.take q)).length := Nat.le_trans (List.length_filter_le _ _) (List.length_filter_le _ _)
        have hf7 : (((tripsN L (isKind 6 7) i ++ tripsAt (isKind 6 7) i (e.node.ops.take q)).filter (onG cntKey o.key)).filter k7).length ≤ (tripsN L (isKind 6 7) i ++ tripsAt (isKind 6 7) i (e.node.ops.take q)).length := Nat.le_trans (List.length_filter_le _ _) (List.length_filter_le _ _)
        refine WC.perm (H0 := (b9, mapO Value.string ents) :: (b7, rowO 51 o.cells) :: (b5, rowO 45 (entCells e.id e.node.au e.node.cl (.slice qa e.node.ps.length qc) (.slice oa e.node.ops.length oc))) :: (b3, rowO 168 [.map (some b9)]) :: (hk ++ (rest ++ (lq, rec1) :: Hq))) ?_ (perm_up (l1 := [(b7, rowO 51 o.cells), (b5, rowO 45 (entCells e.id e.node.au e.node.cl (.slice qa e.node.ps.length qc) (.slice oa e.node.ops.length oc))), (b3, rowO 168 [.map (some b9)])]) hperm)
        refine WC.skip ?_
        refine WQ.thn ?_
        refine WC.seq ?_
        refine WC.region ?_
        refine' WL.pur (Pur.load1 rfl ty_168 ?h14_0) ?k14
        case h14_0 => first | (apply Rd.own1; exact zmE; rfl) | (apply RdV.rd; apply RdV.idx (i := 0); assumption; rfl)
        refine WL.pur (Pur.fieldAddr rfl fo_51_1) ?_
        refine' WL.pur (Pur.load1 rfl ty_9 ?h15_0) ?k15
        case h15_0 => first | (apply Rd.own1; exact zmE; rfl) | (apply RdV.rd; apply RdV.idx (i := 1); assumption; rfl) | (apply RdV.rd; apply RdV.idx (off := 0) (i := 1); assumption; rfl)
        refine WL.pur ((pur_look hga (Pur.lookup (K := Value.string) rfl rfl mt_168 (keyC_string isString_9) zv_167 (Or.inl (by repeat (first | exact List.Mem.head _ | apply List.Mem.tail | apply List.mem_append_right))) (fun _ _ => trivial) trivial))) ?_
        refine WL.pur (Pur.assign rfl) ?_
        refine WL.nil ?_
        refine WQ.thn ?_
        refine WC.seqK (fun m σ' H' => ∃ (cb : Nat) (iv zv : Value) (h1 h2 : HList), SlO σ eCntI 244 3 iv (((tripsN L (isKind 6 7) i ++ tripsAt (isKind 6 7) i (e.node.ops.take q)).filter (onG cntKey o.key)).filter k6) h1 ∧ SlO σ eCntZ 244 3 zv (((tripsN L (isKind 6 7) i ++ tripsAt (isKind 6 7) i (e.node.ops.take q)).filter (onG cntKey o.key)).filter k7) h2 ∧ m = [(3, .pointer (some ⟨b3, 0, none⟩)), (4, .int .i64 (i : Int)), (5, .pointer (some ⟨b5, 0, none⟩)), (16, .slice oa e.node.ops.length oc), (17, .int .i64 (e.node.ops.length : Int)), (18, .int .i64 (q : Int)), (6, .int .i64 (q : Int)), (7, .pointer (some ⟨b7, 0, none⟩)), (8, .pointer (some ⟨cb, 0, none⟩))] ∧ σ' = σ ∧ H' = (cb, rowO 242 [iv, zv]) :: (b9, mapO Value.string (mput ents o.key (.pointer (some ⟨cb, 0, none⟩)))) :: (b7, rowO 51 o.cells) :: (b5, rowO 45 (entCells e.id e.node.au e.node.cl (.slice qa e.node.ps.length qc) (.slice oa e.node.ops.length oc))) :: (b3, rowO 168 [.map (some b9)]) :: (h1 ++ (h2 ++ (rest ++ (lq, rec1) :: Hq)))) (fun KM => ?_) ?_
        · refine WC.seq ?_
          refine WC.region ?_
          refine WL.pur (Pur.move rfl) ?_
          refine' WL.pur (Pur.bin rfl rfl ?h16_0) ?k16
          case h16_0 => exact Bin.eqP isPtr_167
          refine WL.nil ?_
          refine WQ.thn ?_
          first | refine WC.cond rfl (fun hc2 => ?_) (fun hc2 => ?_) | refine WC.condB rfl (fun hc2 => ?_) (fun hc2 => ?_)
          · obtain ⟨rfl, hfe, rfl⟩ := hor.resolve_right (fun ⟨_, _, _, _, _, he, _⟩ => by rw [he] at hc2; cases hc2)
            refine WC.seq ?_
            refine WC.region ?_
            refine WL.pur (Pur.build (l := [.slice none 0 0, .slice none 0 0]) pl_242 zc_242 rfl rfl) ?_
            refine WL.new (New.boxN rfl) (fun b38 => ?_)
            refine WL.pur (Pur.assign rfl) ?_
            refine WL.nil ?_
            refine WQ.thn ?_
            refine WC.region ?_
            refine' WL.pur (Pur.load1 rfl ty_168 ?h17_0) ?k17
            case h17_0 => first | (apply Rd.own1; exact zmE; rfl) | (apply RdV.rd; apply RdV.idx (i := 0); assumption; rfl)
            refine WL.pur (Pur.fieldAddr rfl fo_51_1) ?_
            refine' WL.pur (Pur.load1 rfl ty_9 ?h18_0) ?k18
            case h18_0 => first | (apply Rd.own1; exact zmE; rfl) | (apply RdV.rd; apply RdV.idx (i := 1); assumption; rfl) | (apply RdV.rd; apply RdV.idx (off := 0) (i := 1); assumption; rfl)
            refine WL.pur (Pur.move rfl) ?_
            refine' WL.run0 (Run.mapUpdate rfl rfl rfl mt_168 (K := Value.string) (keyC_string isString_9) ?h19_0 ?h19_1 ?h19_2) ?k19
            case h19_0 => repeat (first | exact Part.one | exact Part.here | apply Part.cons | apply Part.app)
            case h19_1 => first | assumption | exact fun _ _ => trivial
            case h19_2 => first | assumption | trivial
            refine WL.nil ?_
            exact WQ.thnK (KM _ _ _ ⟨b38, _, _, [], [], by rw [hfe]; exact SlO.nil, by rw [hfe]; exact SlO.nil, rfl, rfl, rfl⟩) zcV zsL
          · obtain ⟨cb, iv, zv, h1, h2, rfl, hmg, hp, hI, hZ⟩ := hor.resolve_left (fun he => hc2 he.1)
            refine WC.skip ?_
            refine WQ.perm (H0 := (cb, rowO 242 [iv, zv]) :: (b9, mapO Value.string (mput ents o.key (.pointer (some ⟨cb, 0, none⟩)))) :: (b7, rowO 51 o.cells) :: (b5, rowO 45 (entCells e.id e.node.au e.node.cl (.slice qa e.node.ps.length qc) (.slice oa e.node.ops.length oc))) :: (b3, rowO 168 [.map (some b9)]) :: (h1 ++ (h2 ++ (rest ++ (lq, rec1) :: Hq)))) ?_ (by rw [mput_same _ _ _ hmg]; exact perm_up (l1 := [(b9, mapO Value.string ents), (b7, rowO 51 o.cells), (b5, rowO 45 (entCells e.id e.node.au e.node.cl (.slice qa e.node.ps.length qc) (.slice oa e.node.ops.length oc))), (b3, rowO 168 [.map (some b9)])]) hp)
            exact WQ.thnK (KM _ _ _ ⟨cb, iv, zv, h1, h2, hI, hZ, rfl, rfl, rfl⟩) zcV zsL
        · rintro _ σ Hr ⟨cb, iv, zv, h1, h2, hI, hZ, rfl, rfl, rfl⟩
          have hi1 := hI.one_cell
          have hz1 := hZ.one_cell
          refine WC.seq ?_
          refine WC.region ?_
          refine WL.pur (Pur.fieldAddr rfl fo_51_0) ?_
          refine' WL.pur (Pur.load1 rfl ty_3 ?h20_0) ?k20
          case h20_0 => first | (apply Rd.own1; exact zmE; rfl) | (apply RdV.rd; apply RdV.idx (i := 0); assumption; rfl)
          refine' WL.pur (Pur.bin rfl rfl ?h21_0) ?k21
          case h21_0 => first | exact Bin.eqN (b := 6) | exact Bin.eqI
          refine WL.nil ?_
          refine WQ.thn ?_
          first | refine WC.cond rfl (fun hc3 => ?_) (fun hc3 => ?_) | refine WC.condB rfl (fun hc3 => ?_) (fun hc3 => ?_)
          · refine WC.draw 12 15 ([(cb, rowO 242 [iv, zv]), (b7, rowO 51 o.cells)]) mixed (by kernel_rfl) rfl ?_
            refine SA.takeW 0 (by kernel_rfl) rfl rfl rfl (Wanted.plain rfl) (tells_move rfl) ?_
            refine SA.takeW 1 (by kernel_rfl) rfl rfl rfl (Wanted.plain rfl) (tells_move rfl) ?_
            refine SA.takeP 2 (by kernel_rfl) rfl rfl rfl (Wanted.plain rfl) (fun _ _ => Pur.nilCheck rfl) ?_
            refine SA.takeP 3 (by kernel_rfl) rfl rfl rfl (Wanted.plain rfl) (fun _ _ => Pur.fieldAddr rfl fo_242_0) ?_
            refine' SA.take 4 (by kernel_rfl) rfl rfl rfl (Wanted.plain rfl) zsL (View.le_refl _) (Pur.load1 rfl ty_240 ?h22_0) ?k22
            case h22_0 => first | (apply Rd.own1; exact zmE; rfl) | (apply RdV.rd; apply RdV.idx (i := 0); assumption; rfl)
            refine SA.takeW 5 (by kernel_rfl) rfl rfl rfl (Wanted.plain rfl) (tells_move rfl) ?_
            refine SA.takeW 6 (by kernel_rfl) rfl rfl rfl (Wanted.plain rfl) (tells_move rfl) ?_
            refine SA.takeP 7 (by kernel_rfl) rfl rfl rfl (Wanted.plain rfl) (fun _ _ => Pur.fieldAddr rfl fo_51_3) ?_
            refine' SA.take 8 (by kernel_rfl) rfl rfl rfl (Wanted.plain rfl) zsL (View.le_refl _) (Pur.load1 rfl ty_2 ?h23_0) ?k23
            case h23_0 => first | (apply Rd.own1; exact zmE; rfl) | (apply RdV.rd; apply RdV.idx (i := 3); assumption; rfl) | (apply RdV.rd; apply RdV.idx (off := 0) (i := 3); assumption; rfl)
            refine SA.takeP 9 (by kernel_rfl) rfl rfl rfl (Wanted.plain rfl) (fun _ _ => Pur.build (l := [_, _, _]) pl_244 zc_244 rfl rfl) ?_
            refine SA.new 10 rfl rfl rfl (Wanted.plain rfl) (by kernel_rfl) (New.buildSliceN (xs := [.tmp 55]) (vss := [_]) sl_240 zc_244 rfl rfl rfl (by rfl) (by rfl)) (.inr ⟨zsL, View.le_refl _⟩) (fun b56 => ?_)
            refine' SA.any 11 rfl rfl rfl (Wanted.plain rfl) (by kernel_rfl) (Any.push (H1 := [(b56, _), (cb, _), (b9, _), (b7, rowO 51 o.cells), (b5, rowO 45 (entCells e.id e.node.au e.node.cl (.slice qa e.node.ps.length qc) (.slice oa e.node.ops.length oc))), (b3, rowO 168 [.map (some b9)])]) (H2 := h2 ++ (rest ++ (lq, rec1) :: Hq)) sl_240 zc_244 rfl by_244 rfl rfl hI ?h24_0 ?h24_1 ?h24_2 ?h24_3 rfl (by omega) (by omega)) (fun _ _ _ hJ => .inr ⟨by (obtain ⟨_, _, hσ, hH⟩ := hJ; subst hH; (try simp only [List.append_assoc, List.cons_append, List.nil_append]); exact zsL), View.le_refl _⟩) ?k24
            case h24_0 => apply Rd.own_sub; exact zmE; exact Sub.refl _
            case h24_1 => first | rfl | assumption
            case h24_2 => first | rfl | assumption
            case h24_3 => exact (show eCntI _ (i, q + 1, o) _ from ⟨rfl, hook.2.2.2.1⟩)
            rintro v57 σ _ ⟨h1', hI', rfl, rfl⟩ _
            have hi2 := hI'.one_cell
            refine SA.run 12 rfl (fun _ e => by cases e; rfl) (Wanted.plain rfl) (by kernel_rfl) (Pur.run (Pur.nilCheck rfl)) (.inl (by decide)) ?_
            refine SA.run 13 rfl (fun _ e => by cases e; rfl) (Wanted.plain rfl) (by kernel_rfl) (Pur.run (Pur.fieldAddr rfl fo_242_0)) (.inl (by decide)) ?_
            refine' SA.run 14 rfl (fun _ e => by cases e) (Wanted.plain rfl) (by kernel_rfl) (Run.store1 rfl rfl ty_240 (by first | rfl | assumption) ?h25_0 ?h25_1 sz_240) (.inl (by decide)) ?k25
            case h25_0 => repeat (first | exact Part.one | exact Part.here | apply Part.cons | apply Part.app)
            case h25_1 => first | exact Nat.le_of_ble_eq_true rfl | decide | (simp; done) | (simp; omega) | omega
            refine SA.done (by kernel_rfl) ?_
            refine WQ.blk ?_
            refine WQ.thn ?_
            refine WC.region ?_
            refine' WL.pur (Pur.bin rfl rfl ?h26_0) ?k26
            case h26_0 => first | (refine Bin.addN (b := 1) ?_; omega) | (refine Bin.addI ?_; omega)
            refine WL.pur (Pur.move rfl) ?_
            refine WL.nil ?_
            refine WQ.perm (H0 := (b56, _) :: (b7, rowO 51 o.cells) :: (b5, rowO 45 (entCells e.id e.node.au e.node.cl (.slice qa e.node.ps.length qc) (.slice oa e.node.ops.length oc))) :: (b3, rowO 168 [.map (some b9)]) :: (((b9, mapO Value.string (mput ents o.key (.pointer (some ⟨cb, 0, none⟩)))) :: (((cb, rowO 242 [v57, zv]) :: (h1' ++ h2)) ++ rest)) ++ (lq, rec1) :: Hq)) ?_ (by simp only [List.cons_append, List.append_assoc]; exact perm_dn (l1 := [(b7, rowO 51 o.cells), (b5, rowO 45 (entCells e.id e.node.au e.node.cl (.slice qa e.node.ps.length qc) (.slice oa e.node.ops.length oc))), (b3, rowO 168 [.map (some b9)])]) (T := h1' ++ (h2 ++ (rest ++ (lq, rec1) :: Hq))))
            refine WQ.back _ ⟨q + 1, _, rfl, by omega, by rw [tripsAt_step hoq, if_pos hreg, ← List.append_assoc]; exact KC_put6 (cb := cb) hput rfl hc3 hI' hZ, rfl, rfl, rfl⟩ (by omega) zcV (by (try simp only [List.cons_append]); repeat (first | exact List.Sublist.refl _ | apply List.Sublist.cons_cons | apply List.Sublist.cons))
          · have hk7 : o.kind = 7 := by simp only [isKind, decide_eq_true_eq] at hreg; omega
            refine WC.region ?_
            refine WL.pur (Pur.move rfl) ?_
            refine WL.pur (Pur.move rfl) ?_
            refine WL.pur (Pur.nilCheck rfl) ?_
            refine WL.pur (Pur.fieldAddr rfl fo_242_1) ?_
            refine' WL.pur (Pur.load1 rfl ty_240 ?h27_0) ?k27
            case h27_0 => first | (apply Rd.own1; exact zmE; rfl) | (apply RdV.rd; apply RdV.idx (i := 1); assumption; rfl) | (apply RdV.rd; apply RdV.idx (off := 0) (i := 1); assumption; rfl)
            refine WL.pur (Pur.move rfl) ?_
            refine WL.pur (Pur.move rfl) ?_
            refine WL.pur (Pur.build (l := [_, _, _]) pl_244 zc_244 rfl rfl) ?_
            refine WL.new (New.buildSliceN (xs := [.tmp 67]) (vss := [_]) sl_240 zc_244 rfl rfl rfl (by rfl) (by rfl)) (fun b68 => ?_)
            refine' WL.any (Any.push (H1 := (b68, rowO 244 [.int .i64 (i : Int), .int .i64 (q : Int), .int .i64 0]) :: (cb, rowO 242 [iv, zv]) :: (b9, mapO Value.string (mput ents o.key (.pointer (some ⟨cb, 0, none⟩)))) :: (b7, rowO 51 o.cells) :: (b5, rowO 45 (entCells e.id e.node.au e.node.cl (.slice qa e.node.ps.length qc) (.slice oa e.node.ops.length oc))) :: (b3, rowO 168 [.map (some b9)]) :: h1) (H2 := rest ++ (lq, rec1) :: Hq) sl_240 zc_244 rfl by_244 rfl rfl hZ ?h28_0 ?h28_1 ?h28_2 ?h28_3 (by simp) (by omega) (by omega)) ?k28
            case h28_0 => apply Rd.own_sub; exact zmE; exact Sub.refl _
            case h28_1 => first | rfl | assumption
            case h28_2 => first | rfl | assumption
            case h28_3 => exact (show eCntZ _ (i, q + 1, o) _ from rfl)
            rintro v69 σ _ ⟨h2', hZ', rfl, rfl⟩ _
            have hz2 := hZ'.one_cell
            refine WL.pur (Pur.nilCheck rfl) ?_
            refine WL.pur (Pur.fieldAddr rfl fo_242_1) ?_
            refine' WL.run0 (Run.store1 rfl rfl ty_240 (by first | rfl | assumption) ?h29_0 ?h29_1 sz_240) ?k29
            case h29_0 => repeat (first | exact Part.one | exact Part.here | apply Part.cons | apply Part.app)
            case h29_1 => first | exact Nat.le_of_ble_eq_true rfl | decide | (simp; done) | (simp; omega) | omega
            refine WL.nil ?_
            refine WQ.blk ?_
            refine WQ.thn ?_
            refine WC.region ?_
            refine' WL.pur (Pur.bin rfl rfl ?h30_0) ?k30
            case h30_0 => first | (refine Bin.addN (b := 1) ?_; omega) | (refine Bin.addI ?_; omega)
            refine WL.pur (Pur.move rfl) ?_
            refine WL.nil ?_
            refine WQ.perm (H0 := (b68, _) :: (b7, rowO 51 o.cells) :: (b5, rowO 45 (entCells e.id e.node.au e.node.cl (.slice qa e.node.ps.length qc) (.slice oa e.node.ops.length oc))) :: (b3, rowO 168 [.map (some b9)]) :: (((b9, mapO Value.string (mput ents o.key (.pointer (some ⟨cb, 0, none⟩)))) :: (((cb, rowO 242 [iv, v69]) :: (h1 ++ h2')) ++ rest)) ++ (lq, rec1) :: Hq)) ?_ (by simp only [List.cons_append, List.append_assoc]; exact perm_dn (l1 := [(b7, rowO 51 o.cells), (b5, rowO 45 (entCells e.id e.node.au e.node.cl (.slice qa e.node.ps.length qc) (.slice oa e.node.ops.length oc))), (b3, rowO 168 [.map (some b9)])]) (T := h1 ++ (h2' ++ (rest ++ (lq, rec1) :: Hq))))
            refine WQ.back _ ⟨q + 1, _, rfl, by omega, by rw [tripsAt_step hoq, if_pos hreg, ← List.append_assoc]; exact KC_put7 (cb := cb) hput rfl hk7 hI hZ', rfl, rfl, rfl⟩ (by omega) zcV (by (try simp only [List.cons_append]); repeat (first | exact List.Sublist.refl _ | apply List.Sublist.cons_cons | apply List.Sublist.cons))
    · refine WC.exit ?_
      refine WQ.thn_exit ?_
      refine WQ.back_exit ?_
      refine WQ.blk_here ?_
      refine WQ.blk ?_
      exact hB _ _ _ _ (⟨Hk, by rw [tripsN_succ, hop]; rw [List.take_of_length_le (show e.node.ops.length ≤ q by omega)] at hK3; exact hK3, rfl, View.le_trans hleK hle2⟩) (View.le_refl _) (by simp only [List.cons_append]; repeat (first | exact List.Sublist.refl _ | apply List.Sublist.cons_cons | apply List.Sublist.cons))
  · intro D0 σ Hd hJ hled
    obtain ⟨Hk, hKd, rfl, hleKd⟩ := hJ
    refine WQ.blk ?_
    refine WQ.thn ?_
    refine WC.seq ?_
    refine WC.region ?_
    refine' WL.pur (Pur.load1 rfl ty_168 ?h31_0) ?k31
    case h31_0 => first | (apply Rd.own1; exact zmE; rfl) | (apply RdV.rd; apply RdV.idx (i := 0); assumption; rfl)
    refine WL.pur (Pur.assign rfl) ?_
    refine WL.nil ?_
    refine WQ.thn ?_
    refine WC.ret ?_
    refine WQ.marks (.inl rfl) [D0] ((b3, rowO 168 [.map (some b9)]) :: (Hk ++ Hr)) (by have := List.perm_middle (a := (D0, Obj.deferred (some []))) (l₁ := (b3, rowO 168 [.map (some b9)]) :: Hk) (l₂ := Hr); simpa using this.symm) ?_
    refine WQ.ret1 Tryz.results109 rfl Hk (List.Sublist.cons _ (List.Sublist.refl _)) hleKd ?_
    exact ⟨_, rfl, hKd⟩
  · intro e D σ' H' _ hJ _; exact hJ.elim

end Go.Proofs.YtgoooilgmabkmaaGreat
