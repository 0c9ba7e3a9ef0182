/-
  Contracts of the functions of the program and of its references: what each call hands back, from what is known and owned.
-/
import Derived.Test.YtgoooilgmabkmaaGreatCa
set_option linter.unusedVariables false
set_option linter.unusedSimpArgs false
set_option linter.unusedSectionVars false
namespace Go.Proofs.YtgoooilgmabkmaaGreat
open Go Go.Sl
set_option linter.unusedVariables false
set_option linter.unusedSimpArgs false
set_option maxRecDepth 100000

theorem past_check (σ : View) (lv : Value) (l : List EntD) (h : Ents σ lv l) :
    Tri Tryz.prog 91 #[lv] σ [] (fun v σ' H' => (∃ mv, v = .tuple #[mv, .int .i64 (rightErr l).1, .int .i64 ((rightErr l).2 : Int)] ∧
      ((rightErr l).1 = 0 → (rightErr l).2 = 0 ∧ ∃ b, mv = .map (some b) ∧ σ' b = some (mapO hashV (idsFrom l 0)))) ∧ H' = []) := by
  have h' := h
  obtain ⟨a, cap, rfl, hcap, hby⟩ := h.shape
  refine Tri.of_body [(0, .slice a l.length cap)] Tryz.func91 rfl Tryz.ntmps91 (by simp) rfl (fun Hr => ?_)
  rw [List.nil_append]
  refine WC.seq ?_
  refine WC.region ?_
  refine WL.pur (Pur.assign rfl) ?_
  refine WL.pur (Pur.assign rfl) ?_
  refine WL.pur (Pur.assign rfl) ?_
  refine WL.nil ?_
  refine WQ.thn ?_
  refine WC.seq ?_
  refine WC.region ?_
  refine WL.new (New.makeMap) (fun b18 => ?_)
  refine WL.pur (Pur.assign rfl) ?_
  refine WL.nil ?_
  refine WQ.thn ?_
  refine WC.seq ?_
  refine WC.seq ?_
  refine WC.region ?_
  refine WL.pur (Pur.move rfl) ?_
  refine WL.pur (Pur.len rfl isSlice_22) ?_
  refine WL.pur (Pur.move rfl) ?_
  refine WL.nil ?_
  refine WQ.thn ?_
  refine WC.block ?_
  refine WC.loop (fun j m σ' H' => ∃ i : Nat, j = l.length - i ∧ i ≤ l.length ∧ rightErr l = err1 l i ∧ Fine1 l i ∧ (∀ x ∈ l.take i, IsH x.id) ∧ m = [(0, .slice a l.length cap), (5, .map (some b18)), (19, .slice a l.length cap), (20, .int .i64 (l.length : Int)), (21, .int .i64 (i : Int))] ∧ σ' = σ ∧ H' = (b18, mapO hashV (idsFrom (l.take i) 0)) :: Hr) ⟨0, rfl, by omega, rfl, Fine1.zero l, by simp, rfl, rfl, rfl⟩ zcV zsL ?_
  rintro _ _ σ _ ⟨i, rfl, hi, herr, hfine, hids, rfl, rfl, rfl⟩
  refine WC.seq ?_
  refine WC.region ?_
  refine' WL.pur (Pur.bin rfl rfl ?h1_0) ?k1
  case h1_0 => first | exact Bin.ltN | exact Bin.ltI | exact Bin.ltS
  refine WL.nil ?_
  refine WQ.thn ?_
  refine WC.seq ?_
  first | refine WC.cond rfl (fun hc0 => ?_) (fun hc0 => ?_) | refine WC.condB rfl (fun hc0 => ?_) (fun hc0 => ?_)
  · obtain ⟨b, off, cap', e0, hcap', hby', hat⟩ := h'.at (by omega)
    cases e0
    obtain ⟨e, he⟩ : ∃ e, l[i]? = some e := ⟨_, List.getElem?_eq_getElem (by omega)⟩
    obtain ⟨vs, hvl, hvo, ⟨pv, ov, rfl, heH, hnode⟩, hrd⟩ := hat i e he
    have hNR := hnode
    obtain ⟨hps, hops, hau, hcl⟩ := hnode
    have hps' := hps
    obtain ⟨pa, pc, rfl, hpc, hpb⟩ := hps.shape
    refine WC.skip ?_
    refine WQ.thn ?_
    refine WC.seq ?_
    refine WC.block ?_
    refine WC.seq ?_
    refine WC.region ?_
    refine WL.pur (Pur.move rfl) ?_
    refine' WL.pur (Pur.indexAddr rfl rfl sl_22 ?h2_0) ?k2
    case h2_0 => omega
    refine' WL.pur (Pur.loadN rfl ty_45 ?h3_0 ?h3_1) ?k3
    case h3_0 => first | (apply Rd.own_sub; exact zmE; exact Sub.refl _) | (apply RdV.rd; assumption)
    case h3_1 => first | rfl | assumption
    refine WL.new (New.alloc zc_45) (fun b7 => ?_)
    refine WL.pur (Pur.assign rfl) ?_
    refine' WL.run0 (Run.storeAll rfl rfl ty_45 ?h4_0 (by first | rfl | assumption) ?h4_1 (by first | rfl | assumption)) ?k4
    case h4_0 => repeat (first | exact Part.one | exact Part.here | apply Part.cons | apply Part.app)
    case h4_1 => first | rfl | assumption
    refine WL.nil ?_
    refine WQ.thn ?_
    refine WC.seq ?_
    refine WC.seq ?_
    refine WC.region ?_
    refine WL.pur (Pur.move rfl) ?_
    refine' WL.pur (Pur.bin rfl rfl ?h5_0) ?k5
    case h5_0 => first | exact Bin.geN (b := 4096) | exact Bin.geI
    refine WL.nil ?_
    refine WQ.thn ?_
    first | refine WC.cond rfl (fun hc1 => ?_) (fun hc1 => ?_) | refine WC.condB rfl (fun hc1 => ?_) (fun hc1 => ?_)
    · refine WC.seq ?_
      refine WC.region ?_
      refine WL.pur (Pur.move rfl) ?_
      refine WL.pur (Pur.assign rfl) ?_
      refine WL.pur (Pur.assign rfl) ?_
      refine WL.pur (Pur.assign rfl) ?_
      refine WL.nil ?_
      refine WQ.thn ?_
      refine WC.ret ?_
      refine WQ.thn_ret ?_
      refine WQ.blk_ret ?_
      refine WQ.thn_ret ?_
      refine WQ.back_ret ?_
      refine WQ.blk_ret ?_
      refine WQ.thn_ret ?_
      refine WQ.ret3 Tryz.results91 rfl rfl rfl [] zsL (View.le_refl _) ?_
      refine ⟨⟨_, by rw [herr, err1_at he, if_pos hc1], fun hz => by rw [herr, err1_at he, if_pos hc1] at hz; cases hz⟩, rfl⟩
    · refine WC.skip ?_
      refine WQ.thn ?_
      refine WC.seq ?_
      refine WC.seq ?_
      refine WC.region ?_
      refine WL.pur (Pur.fieldAddr rfl fo_45_1) ?_
      refine' WL.pur (Pur.loadN rfl ty_43 ?h6_0 ?h6_1) ?k6
      case h6_0 => first | (apply Rd.own_sub; exact zmE; exact Sub.ent_node _ _ _ _ _) | (apply RdV.rd; apply RdV.sub (i := 32); assumption; exact Sub.ent_node _ _ _ _ _)
      case h6_1 => first | rfl | assumption
      refine WL.callP rfl Tryz.call149 (node_Check _ e.node _ ov hNR) ?_
      refine WL.pur (Pur.assign rfl) ?_
      refine WL.nil ?_
      refine WQ.thn ?_
      refine WC.seq ?_
      refine WC.region ?_
      refine WL.pur (Pur.move rfl) ?_
      refine' WL.pur (Pur.bin rfl rfl ?h7_0) ?k7
      case h7_0 => first | exact Bin.neN (b := 0) | exact Bin.neI
      refine WL.nil ?_
      refine WQ.thn ?_
      first | refine WC.cond rfl (fun hc2 => ?_) (fun hc2 => ?_) | refine WC.condB rfl (fun hc2 => ?_) (fun hc2 => ?_)
      · refine WC.seq ?_
        refine WC.region ?_
        refine WL.pur (Pur.move rfl) ?_
        refine WL.pur (Pur.move rfl) ?_
        refine WL.pur (Pur.assign rfl) ?_
        refine WL.pur (Pur.assign rfl) ?_
        refine WL.pur (Pur.assign rfl) ?_
        refine WL.nil ?_
        refine WQ.thn ?_
        refine WC.ret ?_
        refine WQ.thn_ret ?_
        refine WQ.blk_ret ?_
        refine WQ.thn_ret ?_
        refine WQ.back_ret ?_
        refine WQ.blk_ret ?_
        refine WQ.thn_ret ?_
        refine WQ.ret3 Tryz.results91 rfl rfl rfl [] zsL (View.le_refl _) ?_
        refine ⟨⟨_, by rw [herr, err1_at he, if_neg hc1, if_pos hc2], fun hz => by rw [herr, err1_at he, if_neg hc1, if_pos hc2] at hz; exact absurd hz hc2⟩, rfl⟩
      · have hok := ids_ok hids 0
        refine WC.skip ?_
        refine WQ.thn ?_
        refine WC.seq ?_
        refine WC.seq ?_
        refine WC.region ?_
        refine WL.pur (Pur.move rfl) ?_
        refine WL.pur (Pur.fieldAddr rfl fo_45_0) ?_
        refine' WL.pur (Pur.loadN rfl ty_39 ?h8_0 ?h8_1) ?k8
        case h8_0 => first | (apply Rd.own_sub; exact zmE; exact Sub.ent_hash _ _ _ _ _) | (apply RdV.rd; apply RdV.sub0; assumption; exact Sub.ent_hash _ _ _ _ _)
        case h8_1 => first | rfl | assumption
        refine' WL.pur (Pur.lookupOk rfl rfl mt_142 (K := hashV) (keyC_hash isHKey_39) zv_3 ?h9_0 ?h9_1 ?h9_2) ?k9
        case h9_0 => first | (left; focus repeat (first | exact List.Mem.head _ | apply List.Mem.tail)) | (right; assumption)
        case h9_1 => first | assumption | exact fun _ _ => trivial
        case h9_2 => first | assumption | trivial
        refine WL.pur (Pur.move rfl) ?_
        first | refine WL.pur (Pur.ex2_0 rfl) ?_ | refine WL.pur (Pur.ex3_0 rfl) ?_ | refine WL.pur (Pur.extractNext rfl) ?_ | refine WL.pur (Pur.extract rfl rfl) ?_
        first | refine WL.pur (Pur.ex2_1 rfl) ?_ | refine WL.pur (Pur.ex3_1 rfl) ?_ | refine WL.pur (Pur.extract rfl rfl) ?_
        refine WL.pur (Pur.assign rfl) ?_
        refine WL.pur (Pur.assign rfl) ?_
        refine WL.nil ?_
        refine WQ.thn ?_
        refine WC.seq ?_
        refine WC.region ?_
        refine WL.pur (Pur.move rfl) ?_
        refine WL.nil ?_
        refine WQ.thn ?_
        first | refine WC.cond rfl (fun hc3 => ?_) (fun hc3 => ?_) | refine WC.condB rfl (fun hc3 => ?_) (fun hc3 => ?_)
        · refine WC.seq ?_
          refine WC.region ?_
          refine WL.pur (Pur.move rfl) ?_
          refine WL.pur (Pur.assign rfl) ?_
          refine WL.pur (Pur.assign rfl) ?_
          refine WL.pur (Pur.assign rfl) ?_
          refine WL.nil ?_
          refine WQ.thn ?_
          refine WC.ret ?_
          refine WQ.thn_ret ?_
          refine WQ.blk_ret ?_
          refine WQ.thn_ret ?_
          refine WQ.back_ret ?_
          refine WQ.blk_ret ?_
          refine WQ.thn_ret ?_
          refine WQ.ret3 Tryz.results91 rfl rfl rfl [] zsL (View.le_refl _) ?_
          have hsome : idxOf (l.take i) e.id ≠ none := by intro hx; have := mget_ids e.id (l.take i) 0; rw [hx] at this; rw [this] at hc3; cases hc3
          refine ⟨⟨_, by rw [herr, err1_at he, if_neg hc1, if_neg hc2, if_pos hsome], fun hz => by rw [herr, err1_at he, if_neg hc1, if_neg hc2, if_pos hsome] at hz; cases hz⟩, rfl⟩
        · have hnone : idxOf (l.take i) e.id = none := by have := mget_ids e.id (l.take i) 0; cases hx : idxOf (l.take i) e.id with | none => rfl | some k => rw [hx] at this; rw [this] at hc3; cases hc3
          refine WC.skip ?_
          refine WQ.thn ?_
          refine WC.region ?_
          refine WL.pur (Pur.move rfl) ?_
          refine WL.pur (Pur.fieldAddr rfl fo_45_0) ?_
          refine' WL.pur (Pur.loadN rfl ty_39 ?h10_0 ?h10_1) ?k10
          case h10_0 => first | (apply Rd.own_sub; exact zmE; exact Sub.ent_hash _ _ _ _ _) | (apply RdV.rd; apply RdV.sub0; assumption; exact Sub.ent_hash _ _ _ _ _)
          case h10_1 => first | rfl | assumption
          refine WL.pur (Pur.move rfl) ?_
          refine' WL.run0 (Run.mapUpdate rfl rfl rfl mt_142 (K := hashV) (keyC_hash isHKey_39) ?h11_0 ?h11_1 ?h11_2) ?k11
          case h11_0 => repeat (first | exact Part.one | exact Part.here | apply Part.cons | apply Part.app)
          case h11_1 => first | assumption | exact fun _ _ => trivial
          case h11_2 => first | assumption | trivial
          refine WL.nil ?_
          refine WQ.blk ?_
          refine WQ.thn ?_
          refine WC.region ?_
          refine' WL.pur (Pur.bin rfl rfl ?h12_0) ?k12
          case h12_0 => first | (refine Bin.addN (b := 1) ?_; omega) | (refine Bin.addI ?_; omega)
          refine WL.pur (Pur.move rfl) ?_
          refine WL.nil ?_
          refine WQ.back _ ⟨i + 1, rfl, by omega, by rw [herr, err1_at he, if_neg (by omega), if_neg hc2, if_neg (by rw [hnone]; simp)], hfine.step he (by omega) (Decidable.not_not.1 hc2) hnone, by rw [List.take_add_one, he]; intro x hx; rcases List.mem_append.1 hx with hx | hx; exact hids x hx; simp at hx; subst hx; exact heH, rfl, rfl, by rw [← ids_step he hnone]⟩ (by omega) zcV zsL
  · obtain ⟨hmost, hnodes, hnodup⟩ := hfine
    rw [List.take_of_length_le (show l.length ≤ i by omega)] at hnodes hnodup hids ⊢
    have hok := ids_ok hids 0
    refine WC.exit ?_
    refine WQ.thn_exit ?_
    refine WQ.back_exit ?_
    refine WQ.blk_here ?_
    refine WQ.thn ?_
    refine WC.seq ?_
    refine WC.seq ?_
    refine WC.region ?_
    refine WL.pur (Pur.move rfl) ?_
    refine WL.pur (Pur.len rfl isSlice_22) ?_
    refine WL.pur (Pur.move rfl) ?_
    refine WL.nil ?_
    refine WQ.thn ?_
    refine WC.block ?_
    refine WC.loop (fun j m σ' H' => ∃ i : Nat, j = l.length - i ∧ i ≤ l.length ∧ rightErr l = err2 l i ∧ m = [(0, .slice a l.length cap), (5, .map (some b18)), (50, .slice a l.length cap), (51, .int .i64 (l.length : Int)), (52, .int .i64 (i : Int))] ∧ σ' = σ ∧ H' = (b18, mapO hashV (idsFrom l 0)) :: Hr) ⟨0, rfl, by omega, by rw [herr, err1_end (by omega)], rfl, rfl, rfl⟩ zcV zsL ?_
    rintro _ _ σ _ ⟨i, rfl, hi, herr, rfl, rfl, rfl⟩
    refine WC.seq ?_
    refine WC.region ?_
    refine' WL.pur (Pur.bin rfl rfl ?h13_0) ?k13
    case h13_0 => first | exact Bin.ltN | exact Bin.ltI | exact Bin.ltS
    refine WL.nil ?_
    refine WQ.thn ?_
    refine WC.seq ?_
    first | refine WC.cond rfl (fun hc4 => ?_) (fun hc4 => ?_) | refine WC.condB rfl (fun hc4 => ?_) (fun hc4 => ?_)
    · obtain ⟨b, off, cap', e0, hcap', hby', hat⟩ := h'.at (by omega)
      cases e0
      obtain ⟨e, he⟩ : ∃ e, l[i]? = some e := ⟨_, List.getElem?_eq_getElem (by omega)⟩
      obtain ⟨vs, hvl, hvo, ⟨pv, ov, rfl, heH, hnode⟩, hrd⟩ := hat i e he
      have hNR := hnode
      obtain ⟨hps, hops, hau, hcl⟩ := hnode
      have hps' := hps
      obtain ⟨pa, pc, rfl, hpc, hpb⟩ := hps.shape
      refine WC.skip ?_
      refine WQ.thn ?_
      refine WC.seq ?_
      refine WC.block ?_
      refine WC.seq ?_
      refine WC.region ?_
      refine WL.pur (Pur.move rfl) ?_
      refine' WL.pur (Pur.indexAddr rfl rfl sl_22 ?h14_0) ?k14
      case h14_0 => omega
      refine' WL.pur (Pur.loadN rfl ty_45 ?h15_0 ?h15_1) ?k15
      case h15_0 => first | (apply Rd.own_sub; exact zmE; exact Sub.refl _) | (apply RdV.rd; assumption)
      case h15_1 => first | rfl | assumption
      refine WL.new (New.alloc zc_45) (fun b12 => ?_)
      refine WL.pur (Pur.assign rfl) ?_
      refine' WL.run0 (Run.storeAll rfl rfl ty_45 ?h16_0 (by first | rfl | assumption) ?h16_1 (by first | rfl | assumption)) ?k16
      case h16_0 => repeat (first | exact Part.one | exact Part.here | apply Part.cons | apply Part.app)
      case h16_1 => first | rfl | assumption
      refine WL.nil ?_
      refine WQ.thn ?_
      refine WC.seq ?_
      refine WC.region ?_
      refine WL.pur (Pur.assign rfl) ?_
      refine WL.nil ?_
      refine WQ.thn ?_
      refine WC.seq ?_
      refine WC.seq ?_
      refine WC.region ?_
      refine WL.pur (Pur.fieldAddr rfl fo_45_1) ?_
      refine WL.pur (Pur.fieldAddr rfl fo_43_2) ?_
      refine' WL.pur (Pur.load1 rfl ty_41 ?h17_0) ?k17
      case h17_0 => first | (apply Rd.own1; exact zmE; rfl) | (apply RdV.rd; apply RdV.idx (i := 34); assumption; rfl) | (apply RdV.rd; apply RdV.idx (off := 0) (i := 34); assumption; rfl)
      refine WL.pur (Pur.len rfl isSlice_41) ?_
      refine WL.pur (Pur.move rfl) ?_
      refine WL.nil ?_
      refine WQ.thn ?_
      refine WC.block ?_
      refine WC.loop (fun j m σ' H' => ∃ q : Nat, j = e.node.ps.length - q ∧ q ≤ e.node.ps.length ∧ (∀ p ∈ e.node.ps.take q, idxOf l p ≠ none) ∧ m = [(0, .slice (some ⟨b, off, none⟩) l.length cap), (5, .map (some b18)), (50, .slice (some ⟨b, off, none⟩) l.length cap), (51, .int .i64 (l.length : Int)), (52, .int .i64 (i : Int)), (11, .int .i64 (i : Int)), (12, .pointer (some ⟨b12, 0, none⟩)), (13, .int .i64 (mcl l (e.node.ps.take q))), (59, .slice pa e.node.ps.length pc), (60, .int .i64 (e.node.ps.length : Int)), (61, .int .i64 (q : Int))] ∧ σ' = σ ∧ H' = (b12, rowO 45 (entCells e.id e.node.au e.node.cl (.slice pa e.node.ps.length pc) ov)) :: (b18, mapO hashV (idsFrom l 0)) :: Hr) ⟨0, rfl, by omega, by simp, rfl, rfl, rfl⟩ zcV zsL ?_
      rintro _ _ σ _ ⟨q, rfl, hq, hall, rfl, rfl, rfl⟩
      refine WC.seq ?_
      refine WC.region ?_
      refine' WL.pur (Pur.bin rfl rfl ?h18_0) ?k18
      case h18_0 => first | exact Bin.ltN | exact Bin.ltI | exact Bin.ltS
      refine WL.nil ?_
      refine WQ.thn ?_
      refine WC.seq ?_
      first | refine WC.cond rfl (fun hc5 => ?_) (fun hc5 => ?_) | refine WC.condB rfl (fun hc5 => ?_) (fun hc5 => ?_)
      · obtain ⟨pb, poff, pc', e1, hpc', hpb', hpat⟩ := hps'.at (by omega)
        cases e1
        obtain ⟨p, hp⟩ : ∃ p, e.node.ps[q]? = some p := ⟨_, List.getElem?_eq_getElem (by omega)⟩
        obtain ⟨vp, hpl, hpo, ⟨rfl, hpH⟩, hprd⟩ := hpat q p hp
        have hmg := mget_ids0 l p
        refine WC.skip ?_
        refine WQ.thn ?_
        refine WC.seq ?_
        refine WC.block ?_
        refine WC.seq ?_
        refine WC.region ?_
        refine' WL.pur (Pur.indexAddr rfl rfl sl_41 ?h19_0) ?k19
        case h19_0 => omega
        refine' WL.pur (Pur.loadN rfl ty_39 ?h20_0 ?h20_1) ?k20
        case h20_0 => first | (apply Rd.own_sub; exact zmE; exact Sub.refl _) | (apply RdV.rd; assumption)
        case h20_1 => first | rfl | assumption
        refine WL.new (New.alloc zc_39) (fun b15 => ?_)
        refine' WL.run0 (Run.storeAll rfl rfl ty_39 ?h21_0 (by first | rfl | assumption) ?h21_1 (by first | rfl | assumption)) ?k21
        case h21_0 => repeat (first | exact Part.one | exact Part.here | apply Part.cons | apply Part.app)
        case h21_1 => first | rfl | assumption
        refine WL.nil ?_
        refine WQ.thn ?_
        refine WC.seq ?_
        refine WC.region ?_
        refine WL.pur (Pur.move rfl) ?_
        refine' WL.pur (Pur.loadN rfl ty_39 ?h22_0 ?h22_1) ?k22
        case h22_0 => first | (apply Rd.own_sub; exact zmE; exact Sub.refl _) | (apply RdV.rd; assumption)
        case h22_1 => first | rfl | assumption
        refine' WL.pur (Pur.lookupOk rfl rfl mt_142 (K := hashV) (keyC_hash isHKey_39) zv_3 ?h23_0 ?h23_1 ?h23_2) ?k23
        case h23_0 => first | (left; focus repeat (first | exact List.Mem.head _ | apply List.Mem.tail)) | (right; assumption)
        case h23_1 => first | assumption | exact fun _ _ => trivial
        case h23_2 => first | assumption | trivial
        refine WL.pur (Pur.move rfl) ?_
        first | refine WL.pur (Pur.ex2_0 rfl) ?_ | refine WL.pur (Pur.ex3_0 rfl) ?_ | refine WL.pur (Pur.extractNext rfl) ?_ | refine WL.pur (Pur.extract rfl rfl) ?_
        first | refine WL.pur (Pur.ex2_1 rfl) ?_ | refine WL.pur (Pur.ex3_1 rfl) ?_ | refine WL.pur (Pur.extract rfl rfl) ?_
        refine WL.pur (Pur.assign rfl) ?_
        refine WL.pur (Pur.assign rfl) ?_
        refine WL.nil ?_
        refine WQ.thn ?_
        refine WC.seq ?_
        refine WC.seq ?_
        refine WC.region ?_
        refine WL.pur (Pur.move rfl) ?_
        first | refine WL.pur (Pur.not rfl) ?_ | refine WL.pur (Pur.notB rfl) ?_
        refine WL.nil ?_
        refine WQ.thn ?_
        first | refine WC.cond rfl (fun hc6 => ?_) (fun hc6 => ?_) | refine WC.condB rfl (fun hc6 => ?_) (fun hc6 => ?_)
        · refine WC.seq ?_
          refine WC.region ?_
          refine WL.pur (Pur.move rfl) ?_
          refine WL.pur (Pur.assign rfl) ?_
          refine WL.pur (Pur.assign rfl) ?_
          refine WL.pur (Pur.assign rfl) ?_
          refine WL.nil ?_
          refine WQ.thn ?_
          refine WC.ret ?_
          refine WQ.thn_ret ?_
          refine WQ.blk_ret ?_
          refine WQ.thn_ret ?_
          refine WQ.back_ret ?_
          refine WQ.blk_ret ?_
          refine WQ.thn_ret ?_
          refine WQ.blk_ret ?_
          refine WQ.thn_ret ?_
          refine WQ.back_ret ?_
          refine WQ.blk_ret ?_
          refine WQ.thn_ret ?_
          refine WQ.ret3 Tryz.results91 rfl rfl rfl [] zsL (View.le_refl _) ?_
          have hnn : idxOf l p = none := by cases hx : idxOf l p with | none => rfl | some k => rw [hmg, hx] at hc6; cases hc6
          have hpe : parErr l e = 6 := by unfold parErr; rw [if_pos ⟨p, List.mem_of_getElem? hp, hnn⟩]
          refine ⟨⟨_, by rw [herr, err2_at he, if_pos (by rw [hpe]; simp), hpe], fun hz => by rw [herr, err2_at he, if_pos (by rw [hpe]; simp), hpe] at hz; cases hz⟩, rfl⟩
        · obtain ⟨k, hk⟩ : ∃ k, idxOf l p = some k := by
            cases hx : idxOf l p with
            | some k => exact ⟨k, rfl⟩
            | none => rw [hmg, hx] at hc6; cases hc6
          rw [hmg, hk]
          obtain ⟨e2, he2, hid2⟩ := idxOf_some hk
          have hclat : clAt l p = e2.node.cl := by unfold clAt; rw [hk]; simp [he2]
          have hkl := (List.getElem?_eq_some_iff.1 he2).1
          obtain ⟨vs2, hvl2, hvo2, ⟨pv2, ov2, rfl, heH2, hnode2⟩, hrd2⟩ := hat k e2 he2
          refine WC.skip ?_
          refine WQ.thn ?_
          refine WC.region ?_
          refine WL.pur (Pur.move rfl) ?_
          refine WL.pur (Pur.move rfl) ?_
          refine WL.pur (Pur.move rfl) ?_
          refine' WL.pur (Pur.indexAddr rfl rfl sl_22 ?h24_0) ?k24
          case h24_0 => omega
          refine WL.pur (Pur.fieldAddr rfl fo_45_1) ?_
          refine WL.pur (Pur.fieldAddr rfl fo_43_1) ?_
          refine' WL.pur (Pur.load1 rfl ty_3 ?h25_0) ?k25
          case h25_0 => first | (apply Rd.own1; exact zmE; rfl) | (apply RdV.rd; apply RdV.idx (i := 33); assumption; rfl) | (apply RdV.rd; apply RdV.idx (off := 0) (i := 33); assumption; rfl)
          first | refine WL.pur (Pur.maxN rfl rfl) ?_ | refine WL.pur (Pur.maxI rfl rfl) ?_
          refine WL.pur (Pur.assign rfl) ?_
          refine WL.nil ?_
          refine WQ.blk ?_
          refine WQ.thn ?_
          refine WC.region ?_
          refine' WL.pur (Pur.bin rfl rfl ?h26_0) ?k26
          case h26_0 => first | (refine Bin.addN (b := 1) ?_; omega) | (refine Bin.addI ?_; omega)
          refine WL.pur (Pur.move rfl) ?_
          refine WL.nil ?_
          refine WQ.back _ ⟨q + 1, rfl, by omega, by rw [List.take_add_one, hp]; intro y hy; rcases List.mem_append.1 hy with hy | hy; exact hall y hy; simp at hy; subst hy; rw [hk]; simp, by rw [mcl_take hp, hclat], rfl, rfl⟩ (by omega) zcV zsL
      · have hmb := mcl_bound hnodes (e.node.ps.take q)
        rw [List.take_of_length_le (show e.node.ps.length ≤ q by omega)] at hall hmb ⊢
        have hne : ¬ ∃ p ∈ e.node.ps, idxOf l p = none := fun ⟨p, h1, h2⟩ => hall p h1 h2
        have hnz := (nodeErr_zero (hnodes e (List.mem_of_getElem? he))).2.1
        refine WC.exit ?_
        refine WQ.thn_exit ?_
        refine WQ.back_exit ?_
        refine WQ.blk_here ?_
        refine WQ.thn ?_
        refine WC.seq ?_
        refine WC.region ?_
        refine WL.pur (Pur.fieldAddr rfl fo_45_1) ?_
        refine WL.pur (Pur.fieldAddr rfl fo_43_2) ?_
        refine' WL.pur (Pur.load1 rfl ty_41 ?h27_0) ?k27
        case h27_0 => first | (apply Rd.own1; exact zmE; rfl) | (apply RdV.rd; apply RdV.idx (i := 34); assumption; rfl) | (apply RdV.rd; apply RdV.idx (off := 0) (i := 34); assumption; rfl)
        refine WL.pur (Pur.len rfl isSlice_41) ?_
        refine' WL.pur (Pur.bin rfl rfl ?h28_0) ?k28
        case h28_0 => first | exact Bin.gtN (b := 0) | exact Bin.gtI
        refine WL.pur (Pur.move rfl) ?_
        refine' WL.andp (u := 88) (t := 95) rfl ?h29_0 ?h29_1 ?h29_2 rfl ?k29
        case h29_0 =>
          intro hg88 K88
          refine WL.gpur (u := 88) rfl rfl (gT hg88) (Pur.fieldAddr rfl fo_45_1) ?_
          refine WL.gpur (u := 88) rfl rfl (gT hg88) (Pur.fieldAddr rfl fo_43_1) ?_
          refine' WL.gpur (u := 88) rfl rfl (gT hg88) (Pur.load1 rfl ty_3 ?h30_0) ?k30
          case h30_0 => first | (apply Rd.own1; exact zmE; rfl) | (apply RdV.rd; apply RdV.idx (i := 33); assumption; rfl) | (apply RdV.rd; apply RdV.idx (off := 0) (i := 33); assumption; rfl)
          refine WL.gpur (u := 88) rfl rfl (gT hg88) (Pur.move rfl) ?_
          refine' WL.gpur (u := 88) rfl rfl (gT hg88) (Pur.bin rfl rfl ?h31_0) ?k31
          case h31_0 => first | (refine Bin.addN (b := 1) ?_; omega) | (refine Bin.addI ?_; omega)
          refine' WL.gpur (u := 88) rfl rfl (gT hg88) (Pur.bin rfl rfl ?h32_0) ?k32
          case h32_0 => first | exact Bin.neN | exact Bin.neI
          exact K88 _ zcR rfl
        case h29_1 =>
          intro hg88 K88
          refine WL.gskip (u := 88) rfl rfl (sT hg88) ?_
          refine WL.gskip (u := 88) rfl rfl (sT hg88) ?_
          refine WL.gskip (u := 88) rfl rfl (sT hg88) ?_
          refine WL.gskip (u := 88) rfl rfl (sT hg88) ?_
          refine WL.gskip (u := 88) rfl rfl (sT hg88) ?_
          refine WL.gskip (u := 88) rfl rfl (sT hg88) ?_
          exact K88 _ zcR
        case h29_2 => exact Wanted.plain rfl
        refine WL.nil ?_
        refine WQ.thn ?_
        first | refine WC.cond rfl (fun hc7 => ?_) (fun hc7 => ?_) | refine WC.condB rfl (fun hc7 => ?_) (fun hc7 => ?_)
        · refine WC.seq ?_
          refine WC.region ?_
          refine WL.pur (Pur.move rfl) ?_
          refine WL.pur (Pur.assign rfl) ?_
          refine WL.pur (Pur.assign rfl) ?_
          refine WL.pur (Pur.assign rfl) ?_
          refine WL.nil ?_
          refine WQ.thn ?_
          refine WC.ret ?_
          refine WQ.blk_ret ?_
          refine WQ.thn_ret ?_
          refine WQ.back_ret ?_
          refine WQ.blk_ret ?_
          refine WQ.thn_ret ?_
          refine WQ.ret3 Tryz.results91 rfl rfl rfl [] zsL (View.le_refl _) ?_
          have hpe : parErr l e = 51 := by unfold parErr; rw [if_neg hne, if_pos hc7.2]
          refine ⟨⟨_, by rw [herr, err2_at he, if_pos (by rw [hpe]; simp), hpe], fun hz => by rw [herr, err2_at he, if_pos (by rw [hpe]; simp), hpe] at hz; cases hz⟩, rfl⟩
        · have hcl1 : e.node.cl = mcl l e.node.ps + 1 := by
            by_cases h0 : 0 < e.node.ps.length
            · exact Decidable.not_not.1 (fun h => hc7 ⟨by omega, h⟩)
            · have h1 := nil_len.2 (show e.node.ps.length = 0 by omega)
              have h2 := hnz.2.2.2 h1
              have h3 : mcl l e.node.ps = 0 := by rw [h1]; rfl
              omega
          have hpe : parErr l e = 0 := by
            unfold parErr
            rw [if_neg hne, if_neg (fun h => h hcl1)]
          refine WC.skip ?_
          refine WQ.blk ?_
          refine WQ.thn ?_
          refine WC.region ?_
          refine' WL.pur (Pur.bin rfl rfl ?h33_0) ?k33
          case h33_0 => first | (refine Bin.addN (b := 1) ?_; omega) | (refine Bin.addI ?_; omega)
          refine WL.pur (Pur.move rfl) ?_
          refine WL.nil ?_
          refine WQ.back _ ⟨i + 1, rfl, by omega, by rw [herr, err2_at he, if_neg (by rw [hpe]; simp)], rfl, rfl, rfl⟩ (by omega) zcV zsL
    · refine WC.exit ?_
      refine WQ.thn_exit ?_
      refine WQ.back_exit ?_
      refine WQ.blk_here ?_
      refine WQ.thn ?_
      refine WC.seq ?_
      refine WC.region ?_
      refine WL.pur (Pur.move rfl) ?_
      refine WL.pur (Pur.assign rfl) ?_
      refine WL.pur (Pur.assign rfl) ?_
      refine WL.pur (Pur.assign rfl) ?_
      refine WL.nil ?_
      refine WQ.thn ?_
      refine WC.ret ?_
      refine WQ.give (H1 := []) (fun hb => ?_)
      have hr0 : rightErr l = (0, 0) := by rw [herr, err2_end (by omega)]
      refine WQ.ret3 Tryz.results91 rfl rfl rfl [] zsL (View.le_add _ hb) ?_
      refine ⟨⟨_, by rw [hr0]; rfl, fun _ => ⟨by rw [hr0], b18, rfl, View.add_same _ _ _⟩⟩, rfl⟩

end Go.Proofs.YtgoooilgmabkmaaGreat
namespace Go.Proofs.YtgoooilgmabkmaaGreat
open Go Go.Sl
set_option linter.unusedVariables false
set_option linter.unusedSimpArgs false
set_option maxRecDepth 100000

theorem row_nil (σ : View) (b : Nat) : SlO σ eNat 3 1 (.slice (some ⟨b, 0, none⟩) 0 0) ([] : List Nat) [(b, rowO 3 [])] := SlO.row (b := b) (ElR.nil (σ := σ) (E := eNat) (sz := 1))
theorem row_one (σ : View) (b x : Nat) : SlO σ eNat 3 1 (.slice (some ⟨b, 0, none⟩) 1 1) [x] [(b, rowO 3 [.int .i64 (x : Int)])] := SlO.row (b := b) (vss := [[.int .i64 (x : Int)]]) (ElR.nil.push (l := []) (vss := []) rfl rfl rfl)
theorem merge_drop {le : Nat → Nat → Bool} {a b : List Nat} {i k : Nat} (hx : i < a.length) (hy : k < b.length) :
    List.merge (a.drop i) (b.drop k) le = if le (a.getD i 0) (b.getD k 0) then a.getD i 0 :: List.merge (a.drop (i + 1)) (b.drop k) le else b.getD k 0 :: List.merge (a.drop i) (b.drop (k + 1)) le := by
  rw [drop_getD hx, drop_getD hy, List.cons_merge_cons]
theorem merge_left {le : Nat → Nat → Bool} {a b : List Nat} {i k : Nat} (hx : i < a.length) (hk : b.length ≤ k) :
    List.merge (a.drop i) (b.drop k) le = a.getD i 0 :: List.merge (a.drop (i + 1)) (b.drop k) le := by
  rw [List.drop_eq_nil_of_le hk, List.merge_right, List.merge_right, drop_getD hx]
theorem merge_right' {le : Nat → Nat → Bool} {a b : List Nat} {i k : Nat} (hy : k < b.length) (hi : a.length ≤ i) :
    List.merge (a.drop i) (b.drop k) le = b.getD k 0 :: List.merge (a.drop i) (b.drop (k + 1)) le := by
  rw [List.drop_eq_nil_of_le hi, List.nil_merge, List.nil_merge, drop_getD hy]
theorem cmpH_le {x y : Nat} : cmpH x y ≤ 0 ↔ x ≤ y := by unfold cmpH; split; omega; split <;> omega

theorem r11_merge (σ : View) (lv av bv : Value) (l : List EntD) (a b : List Nat) (h : Ents σ lv l) (ha : SlE σ eNat 1 8 av a) (hb : SlE σ eNat 1 8 bv b) (hla : ∀ x ∈ a, x < l.length) (hlb : ∀ x ∈ b, x < l.length) (hab : a.length + b.length ≤ l.length) :
    Tri Tryz.prog 153 #[lv, av, bv] σ [] (fun v σ' H' => (∃ h, SlO σ eNat 3 1 v (List.merge a b (leId l)) h ∧ H' = h) ∧ σ' = σ) := by
  have h' := h; have ha' := ha; have hb' := hb
  obtain ⟨la, lc, rfl, hlc, hlby⟩ := h.shape
  obtain ⟨aa, ac, rfl, hac, haby⟩ := ha.shape
  obtain ⟨ba, bc, rfl, hbc, hbby⟩ := hb.shape
  obtain ⟨ab, aoff, hea⟩ := addr_of ha
  obtain ⟨bb, boff, heb⟩ := addr_of hb
  obtain ⟨lb, loff, hel⟩ := addr_of h
  refine Tri.of_body [(0, .slice la l.length lc), (1, .slice aa a.length ac), (2, .slice ba b.length bc)] Tryz.func153 rfl Tryz.ntmps153 (by simp) rfl (fun Hr => ?_)
  rw [List.nil_append]
  refine WC.seq ?_
  refine WC.region ?_
  refine WL.pur (Pur.assign rfl) ?_
  refine WL.nil ?_
  refine WQ.thn ?_
  refine WC.seq ?_
  refine WC.region ?_
  refine WL.new (New.buildSlice0 sl_72) (fun b10 => ?_)
  refine WL.pur (Pur.assign rfl) ?_
  refine WL.nil ?_
  refine WQ.thn ?_
  refine WC.seq ?_
  refine WC.region ?_
  refine WL.pur (Pur.assign rfl) ?_
  refine WL.pur (Pur.assign rfl) ?_
  refine WL.nil ?_
  refine WQ.thn ?_
  refine WC.seq ?_
  refine WC.block ?_
  refine WC.loop (fun j m σ' H' => ∃ (i k : Nat) (out : List Nat) (sv : Value) (h : HList), j = a.length + b.length - (i + k) ∧ i ≤ a.length ∧ k ≤ b.length ∧ out.length = i + k ∧ SlO σ eNat 3 1 sv out h ∧ out ++ List.merge (a.drop i) (b.drop k) (leId l) = List.merge a b (leId l) ∧ m = [(0, .slice la l.length lc), (1, .slice aa a.length ac), (2, .slice ba b.length bc), (7, sv), (8, .int .i64 (i : Int)), (9, .int .i64 (k : Int))] ∧ σ' = σ ∧ H' = h ++ Hr) ⟨0, 0, [], _, [(b10, rowO 3 [])], rfl, by omega, by omega, rfl, row_nil σ b10, by simp, rfl, rfl, rfl⟩ zcV zsL ?_
  rintro _ _ σ _ ⟨i, k, out, sv, ho, rfl, hi, hk, hlen, hso, hout, rfl, rfl, rfl⟩
  refine WC.seq ?_
  refine WC.seq ?_
  refine WC.region ?_
  refine WL.pur (Pur.move rfl) ?_
  refine WL.pur (Pur.move rfl) ?_
  refine WL.pur (Pur.len rfl isSlice_72) ?_
  refine' WL.pur (Pur.bin rfl rfl ?h1_0) ?k1
  case h1_0 => first | exact Bin.ltN | exact Bin.ltI | exact Bin.ltS
  refine WL.pur (Pur.move rfl) ?_
  refine' WL.orp (u := 15) (t := 20) rfl ?h2_0 ?h2_1 ?h2_2 rfl ?k2
  case h2_0 =>
    intro hg15 K15
    refine WL.gpur (u := 15) rfl rfl (gF hg15) (Pur.move rfl) ?_
    refine WL.gpur (u := 15) rfl rfl (gF hg15) (Pur.move rfl) ?_
    refine WL.gpur (u := 15) rfl rfl (gF hg15) (Pur.len rfl isSlice_72) ?_
    refine' WL.gpur (u := 15) rfl rfl (gF hg15) (Pur.bin rfl rfl ?h3_0) ?k3
    case h3_0 => first | exact Bin.ltN | exact Bin.ltI | exact Bin.ltS
    exact K15 _ zcR rfl
  case h2_1 =>
    intro hg15 K15
    refine WL.gskip (u := 15) rfl rfl (sF hg15) ?_
    refine WL.gskip (u := 15) rfl rfl (sF hg15) ?_
    refine WL.gskip (u := 15) rfl rfl (sF hg15) ?_
    refine WL.gskip (u := 15) rfl rfl (sF hg15) ?_
    exact K15 _ zcR
  case h2_2 => exact Wanted.plain rfl
  refine WL.nil ?_
  refine WQ.thn ?_
  first | refine WC.cond rfl (fun hc0 => ?_) (fun hc0 => ?_) | refine WC.condB rfl (fun hc0 => ?_) (fun hc0 => ?_)
  · refine WC.skip ?_
    refine WQ.thn ?_
    refine WC.block ?_
    refine WC.seq ?_
    refine WC.drawH 30 30 mixed (by kernel_rfl) rfl ?_
    refine SA.take 0 (by kernel_rfl) rfl rfl rfl (Wanted.plain rfl) zsL (View.le_refl _) (Pur.move rfl) ?_
    refine SA.take 1 (by kernel_rfl) rfl rfl rfl (Wanted.plain rfl) zsL (View.le_refl _) (Pur.move rfl) ?_
    refine SA.take 2 (by kernel_rfl) rfl rfl rfl (Wanted.plain rfl) zsL (View.le_refl _) (Pur.len rfl isSlice_72) ?_
    refine' SA.take 3 (by kernel_rfl) rfl rfl rfl (Wanted.plain rfl) zsL (View.le_refl _) (Pur.bin rfl rfl ?h4_0) ?k4
    case h4_0 => first | exact Bin.eqN | exact Bin.eqI
    refine SA.take 4 (by kernel_rfl) rfl rfl rfl (Wanted.plain rfl) zsL (View.le_refl _) (Pur.move rfl) ?_
    refine' SA.orp 29 (u := 25) rfl ?h5_0 ?h5_1 ?h5_2 rfl zsL (View.le_refl _) ?h5_3 rfl ?k5
    case h5_0 =>
      intro hg25 K25
      refine SA.take 5 (by kernel_rfl) rfl rfl rfl (Wanted.guard (u := 25) rfl rfl rfl (gF hg25)) zsL (View.le_refl _) (Pur.move rfl) ?_
      refine SA.take 6 (by kernel_rfl) rfl rfl rfl (Wanted.guard (u := 25) rfl rfl rfl (gF hg25)) zsL (View.le_refl _) (Pur.move rfl) ?_
      refine SA.take 7 (by kernel_rfl) rfl rfl rfl (Wanted.guard (u := 25) rfl rfl rfl (gF hg25)) zsL (View.le_refl _) (Pur.len rfl isSlice_72) ?_
      refine' SA.take 8 (by kernel_rfl) rfl rfl rfl (Wanted.guard (u := 25) rfl rfl rfl (gF hg25)) zsL (View.le_refl _) (Pur.bin rfl rfl ?h6_0) ?k6
      case h6_0 => first | exact Bin.ltN | exact Bin.ltI | exact Bin.ltS
      refine SA.take 9 (by kernel_rfl) rfl rfl rfl (Wanted.guard (u := 25) rfl rfl rfl (gF hg25)) zsL (View.le_refl _) (Pur.move rfl) ?_
      refine' SA.andp 28 (u := 30) rfl ?h7_0 ?h7_1 ?h7_2 rfl zsL (View.le_refl _) ?h7_3 rfl ?k7
      case h7_0 =>
        intro hg30 K30
        have hxl := hla _ (getD_mem hg30)
        have hyl := hlb _ (getD_mem (show k < b.length by omega))
        have hrx := nat_rd ha' hea hg30
        have hry := nat_rd hb' heb (show k < b.length by omega)
        have hrix := id_rd h' hel hxl
        have hriy := id_rd h' hel hyl
        have hxH := hrix.2
        have hyH := hriy.2
        refine SA.take 10 (by kernel_rfl) rfl rfl rfl (Wanted.guard (u := 30) rfl rfl rfl (gT hg30)) zsL (View.le_refl _) (Pur.move rfl) ?_
        refine SA.take 11 (by kernel_rfl) rfl rfl rfl (Wanted.guard (u := 30) rfl rfl rfl (gT hg30)) zsL (View.le_refl _) (Pur.move rfl) ?_
        refine SA.take 12 (by kernel_rfl) rfl rfl rfl (Wanted.guard (u := 30) rfl rfl rfl (gT hg30)) zsL (View.le_refl _) (Pur.move rfl) ?_
        refine' SA.take 13 (by kernel_rfl) rfl rfl rfl (Wanted.guard (u := 30) rfl rfl rfl (gT hg30)) zsL (View.le_refl _) (Pur.indexAddr (eqA (hea (by omega))) rfl sl_72 ?h8_0) ?k8
        case h8_0 => omega
        refine' SA.take 14 (by kernel_rfl) rfl rfl rfl (Wanted.guard (u := 30) rfl rfl rfl (gT hg30)) zsL (View.le_refl _) (Pur.load1 rfl ty_3 ?h9_0) ?k9
        case h9_0 => exact RdV.rd hrx
        refine' SA.take 15 (by kernel_rfl) rfl rfl rfl (Wanted.guard (u := 30) rfl rfl rfl (gT hg30)) zsL (View.le_refl _) (Pur.indexAddr (eqA (hel (by omega))) rfl sl_22 ?h10_0) ?k10
        case h10_0 => omega
        refine SA.take 16 (by kernel_rfl) rfl rfl rfl (Wanted.guard (u := 30) rfl rfl rfl (gT hg30)) zsL (View.le_refl _) (Pur.fieldAddr rfl fo_45_0) ?_
        refine' SA.take 17 (by kernel_rfl) rfl rfl rfl (Wanted.guard (u := 30) rfl rfl rfl (gT hg30)) zsL (View.le_refl _) (Pur.loadN rfl ty_39 ?h11_0 ?h11_1) ?k11
        case h11_0 => exact RdV.rd hrix.1
        case h11_1 => first | rfl | assumption
        refine SA.take 18 (by kernel_rfl) rfl rfl rfl (Wanted.guard (u := 30) rfl rfl rfl (gT hg30)) zsL (View.le_refl _) (Pur.move rfl) ?_
        refine SA.take 19 (by kernel_rfl) rfl rfl rfl (Wanted.guard (u := 30) rfl rfl rfl (gT hg30)) zsL (View.le_refl _) (Pur.move rfl) ?_
        refine SA.take 20 (by kernel_rfl) rfl rfl rfl (Wanted.guard (u := 30) rfl rfl rfl (gT hg30)) zsL (View.le_refl _) (Pur.move rfl) ?_
        refine' SA.take 21 (by kernel_rfl) rfl rfl rfl (Wanted.guard (u := 30) rfl rfl rfl (gT hg30)) zsL (View.le_refl _) (Pur.indexAddr (eqA (heb (by omega))) rfl sl_72 ?h12_0) ?k12
        case h12_0 => omega
        refine' SA.take 22 (by kernel_rfl) rfl rfl rfl (Wanted.guard (u := 30) rfl rfl rfl (gT hg30)) zsL (View.le_refl _) (Pur.load1 rfl ty_3 ?h13_0) ?k13
        case h13_0 => exact RdV.rd hry
        refine' SA.take 23 (by kernel_rfl) rfl rfl rfl (Wanted.guard (u := 30) rfl rfl rfl (gT hg30)) zsL (View.le_refl _) (Pur.indexAddr (eqA (hel (by omega))) rfl sl_22 ?h14_0) ?k14
        case h14_0 => omega
        refine SA.take 24 (by kernel_rfl) rfl rfl rfl (Wanted.guard (u := 30) rfl rfl rfl (gT hg30)) zsL (View.le_refl _) (Pur.fieldAddr rfl fo_45_0) ?_
        refine' SA.take 25 (by kernel_rfl) rfl rfl rfl (Wanted.guard (u := 30) rfl rfl rfl (gT hg30)) zsL (View.le_refl _) (Pur.loadN rfl ty_39 ?h15_0 ?h15_1) ?k15
        case h15_0 => exact RdV.rd hriy.1
        case h15_1 => first | rfl | assumption
        refine SA.callP 26 rfl rfl (Wanted.guard (u := 30) rfl rfl rfl (gT hg30)) (by kernel_rfl) rfl Tryz.call154 zsL (View.le_refl _) (r1_compare _ _ _ hxH hyH) ?_
        refine' SA.take 27 (by kernel_rfl) rfl rfl rfl (Wanted.guard (u := 30) rfl rfl rfl (gT hg30)) zsL (View.le_refl _) (Pur.bin rfl rfl ?h16_0) ?k16
        case h16_0 => first | exact Bin.leN (b := 0) | exact Bin.leI | exact Bin.leS
        exact K30 _ zcR rfl
      case h7_1 =>
        intro hg30 K30
        refine SA.gskip 10 (u := 30) (by kernel_rfl) rfl rfl rfl rfl rfl rfl (sT hg30) zsL (View.le_refl _) ?_
        refine SA.gskip 11 (u := 30) (by kernel_rfl) rfl rfl rfl rfl rfl rfl (sT hg30) zsL (View.le_refl _) ?_
        refine SA.gskip 12 (u := 30) (by kernel_rfl) rfl rfl rfl rfl rfl rfl (sT hg30) zsL (View.le_refl _) ?_
        refine SA.gskip 13 (u := 30) (by kernel_rfl) rfl rfl rfl rfl rfl rfl (sT hg30) zsL (View.le_refl _) ?_
        refine SA.gskip 14 (u := 30) (by kernel_rfl) rfl rfl rfl rfl rfl rfl (sT hg30) zsL (View.le_refl _) ?_
        refine SA.gskip 15 (u := 30) (by kernel_rfl) rfl rfl rfl rfl rfl rfl (sT hg30) zsL (View.le_refl _) ?_
        refine SA.gskip 16 (u := 30) (by kernel_rfl) rfl rfl rfl rfl rfl rfl (sT hg30) zsL (View.le_refl _) ?_
        refine SA.gskip 17 (u := 30) (by kernel_rfl) rfl rfl rfl rfl rfl rfl (sT hg30) zsL (View.le_refl _) ?_
        refine SA.gskip 18 (u := 30) (by kernel_rfl) rfl rfl rfl rfl rfl rfl (sT hg30) zsL (View.le_refl _) ?_
        refine SA.gskip 19 (u := 30) (by kernel_rfl) rfl rfl rfl rfl rfl rfl (sT hg30) zsL (View.le_refl _) ?_
        refine SA.gskip 20 (u := 30) (by kernel_rfl) rfl rfl rfl rfl rfl rfl (sT hg30) zsL (View.le_refl _) ?_
        refine SA.gskip 21 (u := 30) (by kernel_rfl) rfl rfl rfl rfl rfl rfl (sT hg30) zsL (View.le_refl _) ?_
        refine SA.gskip 22 (u := 30) (by kernel_rfl) rfl rfl rfl rfl rfl rfl (sT hg30) zsL (View.le_refl _) ?_
        refine SA.gskip 23 (u := 30) (by kernel_rfl) rfl rfl rfl rfl rfl rfl (sT hg30) zsL (View.le_refl _) ?_
        refine SA.gskip 24 (u := 30) (by kernel_rfl) rfl rfl rfl rfl rfl rfl (sT hg30) zsL (View.le_refl _) ?_
        refine SA.gskip 25 (u := 30) (by kernel_rfl) rfl rfl rfl rfl rfl rfl (sT hg30) zsL (View.le_refl _) ?_
        refine SA.gskip 26 (u := 30) (by kernel_rfl) rfl rfl rfl rfl rfl rfl (sT hg30) zsL (View.le_refl _) ?_
        refine SA.gskip 27 (u := 30) (by kernel_rfl) rfl rfl rfl rfl rfl rfl (sT hg30) zsL (View.le_refl _) ?_
        exact K30 _ zcR
      case h7_2 => kernel_rfl
      case h7_3 => exact Wanted.guard (u := 25) rfl rfl rfl (gF hg25)
      exact K25 _ zcR rfl
    case h5_1 =>
      intro hg25 K25
      refine SA.gskip 5 (u := 25) (by kernel_rfl) rfl rfl rfl rfl rfl rfl (sF hg25) zsL (View.le_refl _) ?_
      refine SA.gskip 6 (u := 25) (by kernel_rfl) rfl rfl rfl rfl rfl rfl (sF hg25) zsL (View.le_refl _) ?_
      refine SA.gskip 7 (u := 25) (by kernel_rfl) rfl rfl rfl rfl rfl rfl (sF hg25) zsL (View.le_refl _) ?_
      refine SA.gskip 8 (u := 25) (by kernel_rfl) rfl rfl rfl rfl rfl rfl (sF hg25) zsL (View.le_refl _) ?_
      refine SA.gskip 9 (u := 25) (by kernel_rfl) rfl rfl rfl rfl rfl rfl (sF hg25) zsL (View.le_refl _) ?_
      refine SA.gskipU 10 (u := 30) (by kernel_rfl) rfl rfl rfl rfl rfl rfl zsL (View.le_refl _) ?_
      refine SA.gskipU 11 (u := 30) (by kernel_rfl) rfl rfl rfl rfl rfl rfl zsL (View.le_refl _) ?_
      refine SA.gskipU 12 (u := 30) (by kernel_rfl) rfl rfl rfl rfl rfl rfl zsL (View.le_refl _) ?_
      refine SA.gskipU 13 (u := 30) (by kernel_rfl) rfl rfl rfl rfl rfl rfl zsL (View.le_refl _) ?_
      refine SA.gskipU 14 (u := 30) (by kernel_rfl) rfl rfl rfl rfl rfl rfl zsL (View.le_refl _) ?_
      refine SA.gskipU 15 (u := 30) (by kernel_rfl) rfl rfl rfl rfl rfl rfl zsL (View.le_refl _) ?_
      refine SA.gskipU 16 (u := 30) (by kernel_rfl) rfl rfl rfl rfl rfl rfl zsL (View.le_refl _) ?_
      refine SA.gskipU 17 (u := 30) (by kernel_rfl) rfl rfl rfl rfl rfl rfl zsL (View.le_refl _) ?_
      refine SA.gskipU 18 (u := 30) (by kernel_rfl) rfl rfl rfl rfl rfl rfl zsL (View.le_refl _) ?_
      refine SA.gskipU 19 (u := 30) (by kernel_rfl) rfl rfl rfl rfl rfl rfl zsL (View.le_refl _) ?_
      refine SA.gskipU 20 (u := 30) (by kernel_rfl) rfl rfl rfl rfl rfl rfl zsL (View.le_refl _) ?_
      refine SA.gskipU 21 (u := 30) (by kernel_rfl) rfl rfl rfl rfl rfl rfl zsL (View.le_refl _) ?_
      refine SA.gskipU 22 (u := 30) (by kernel_rfl) rfl rfl rfl rfl rfl rfl zsL (View.le_refl _) ?_
      refine SA.gskipU 23 (u := 30) (by kernel_rfl) rfl rfl rfl rfl rfl rfl zsL (View.le_refl _) ?_
      refine SA.gskipU 24 (u := 30) (by kernel_rfl) rfl rfl rfl rfl rfl rfl zsL (View.le_refl _) ?_
      refine SA.gskipU 25 (u := 30) (by kernel_rfl) rfl rfl rfl rfl rfl rfl zsL (View.le_refl _) ?_
      refine SA.gskipU 26 (u := 30) (by kernel_rfl) rfl rfl rfl rfl rfl rfl zsL (View.le_refl _) ?_
      refine SA.gskipU 27 (u := 30) (by kernel_rfl) rfl rfl rfl rfl rfl rfl zsL (View.le_refl _) ?_
      refine SA.gskip 28 (u := 25) (by kernel_rfl) rfl rfl rfl rfl rfl rfl (sF hg25) zsL (View.le_refl _) ?_
      exact K25 _ zcR
    case h5_2 => kernel_rfl
    case h5_3 => exact Wanted.plain rfl
    refine SA.done (by kernel_rfl) ?_
    refine WQ.thn ?_
    first | refine WC.cond rfl (fun hc1 => ?_) (fun hc1 => ?_) | refine WC.condB rfl (fun hc1 => ?_) (fun hc1 => ?_)
    · have hx' : i < a.length := by omega
      have hrx := nat_rd ha' hea hx'
      have hmerge : List.merge (a.drop i) (b.drop k) (leId l) = a.getD i 0 :: List.merge (a.drop (i + 1)) (b.drop k) (leId l) := by
        by_cases hkb : k < b.length
        · rw [merge_drop hx' hkb, if_pos]
          have := hc1.resolve_left (by omega)
          simp only [leId, decide_eq_true_eq]
          exact cmpH_le.1 this.2
        · exact merge_left hx' (by omega)
      refine WC.seq ?_
      refine WC.region ?_
      refine WL.pur (Pur.move rfl) ?_
      refine WL.pur (Pur.move rfl) ?_
      refine WL.pur (Pur.move rfl) ?_
      refine' WL.pur (Pur.indexAddr (eqA (hea (by omega))) rfl sl_72 ?h17_0) ?k17
      case h17_0 => omega
      refine' WL.pur (Pur.load1 rfl ty_3 ?h18_0) ?k18
      case h18_0 => first | (apply Rd.own1; exact zmE; rfl) | (apply Rd.own1; exact zmE; assumption) | (apply Rd.own_map; exact zmE; assumption) | exact RdV.rd (by assumption) | (apply RdV.rd; apply RdV.idx (i := 0); assumption; rfl)
      refine WL.new (New.buildSliceS (xs := [.tmp 55]) sl_72 zc_3 rfl rfl rfl (by rfl) (by rfl)) (fun b56 => ?_)
      refine' WL.any (Any.push (H1 := [_]) (H2 := Hr) sl_72 zc_3 rfl by_3 rfl rfl hso ?h19_0 ?h19_1 ?h19_2 ?h19_3 rfl (by omega) (by omega)) ?k19
      case h19_0 => apply Rd.own_sub; exact zmE; exact Sub.refl _
      case h19_1 => first | rfl | assumption
      case h19_2 => first | rfl | assumption
      case h19_3 => first | rfl | exact ⟨rfl, by assumption⟩
      rintro _ σ _ ⟨ho', hso', rfl, rfl⟩ _
      refine WL.pur (Pur.assign rfl) ?_
      refine WL.nil ?_
      refine WQ.thn ?_
      refine WC.region ?_
      refine WL.pur (Pur.move rfl) ?_
      refine' WL.pur (Pur.bin rfl rfl ?h20_0) ?k20
      case h20_0 => first | (refine Bin.addN (b := 1) ?_; omega) | (refine Bin.addI ?_; omega)
      refine WL.pur (Pur.assign rfl) ?_
      refine WL.nil ?_
      refine WQ.blk ?_
      refine WQ.back _ ⟨i + 1, k, out ++ [a.getD i 0], _, ho', rfl, by omega, by omega, by simp; omega, hso', by rw [List.append_assoc, List.singleton_append, ← hout, hmerge], rfl, rfl, rfl⟩ (by omega) zcV zsL
    · have hy' : k < b.length := by omega
      have hry := nat_rd hb' heb hy'
      have hmerge : List.merge (a.drop i) (b.drop k) (leId l) = b.getD k 0 :: List.merge (a.drop i) (b.drop (k + 1)) (leId l) := by
        by_cases hia : i < a.length
        · rw [merge_drop hia hy', if_neg]
          intro hle
          simp only [leId, decide_eq_true_eq] at hle
          exact hc1 (.inr ⟨hia, cmpH_le.2 hle⟩)
        · exact merge_right' hy' (by omega)
      refine WC.seq ?_
      refine WC.region ?_
      refine WL.pur (Pur.move rfl) ?_
      refine WL.pur (Pur.move rfl) ?_
      refine WL.pur (Pur.move rfl) ?_
      refine' WL.pur (Pur.indexAddr (eqA (heb (by omega))) rfl sl_72 ?h21_0) ?k21
      case h21_0 => omega
      refine' WL.pur (Pur.load1 rfl ty_3 ?h22_0) ?k22
      case h22_0 => first | (apply Rd.own1; exact zmE; rfl) | (apply Rd.own1; exact zmE; assumption) | (apply Rd.own_map; exact zmE; assumption) | exact RdV.rd (by assumption) | (apply RdV.rd; apply RdV.idx (i := 0); assumption; rfl)
      refine WL.new (New.buildSliceS (xs := [.tmp 64]) sl_72 zc_3 rfl rfl rfl (by rfl) (by rfl)) (fun b65 => ?_)
      refine' WL.any (Any.push (H1 := [_]) (H2 := Hr) sl_72 zc_3 rfl by_3 rfl rfl hso ?h23_0 ?h23_1 ?h23_2 ?h23_3 rfl (by omega) (by omega)) ?k23
      case h23_0 => apply Rd.own_sub; exact zmE; exact Sub.refl _
      case h23_1 => first | rfl | assumption
      case h23_2 => first | rfl | assumption
      case h23_3 => first | rfl | exact ⟨rfl, by assumption⟩
      rintro _ σ _ ⟨ho', hso', rfl, rfl⟩ _
      refine WL.pur (Pur.assign rfl) ?_
      refine WL.nil ?_
      refine WQ.thn ?_
      refine WC.region ?_
      refine WL.pur (Pur.move rfl) ?_
      refine' WL.pur (Pur.bin rfl rfl ?h24_0) ?k24
      case h24_0 => first | (refine Bin.addN (b := 1) ?_; omega) | (refine Bin.addI ?_; omega)
      refine WL.pur (Pur.assign rfl) ?_
      refine WL.nil ?_
      refine WQ.blk ?_
      refine WQ.back _ ⟨i, k + 1, out ++ [b.getD k 0], _, ho', rfl, by omega, by omega, by simp; omega, hso', by rw [List.append_assoc, List.singleton_append, ← hout, hmerge], rfl, rfl, rfl⟩ (by omega) zcV zsL
  · refine WC.exit ?_
    refine WQ.thn_exit ?_
    refine WQ.back_exit ?_
    refine WQ.blk_here ?_
    refine WQ.thn ?_
    refine WC.seq ?_
    refine WC.region ?_
    refine WL.pur (Pur.move rfl) ?_
    refine WL.pur (Pur.assign rfl) ?_
    refine WL.nil ?_
    refine WQ.thn ?_
    refine WC.ret ?_
    refine WQ.ret1 Tryz.results153 rfl ho zsL (View.le_refl _) ?_
    have h0 : List.merge (a.drop i) (b.drop k) (leId l) = [] := by rw [List.drop_eq_nil_of_le (by omega), List.drop_eq_nil_of_le (by omega)]; simp
    rw [h0, List.append_nil] at hout
    exact ⟨⟨_, by rw [← hout]; exact hso, rfl⟩, rfl⟩

end Go.Proofs.YtgoooilgmabkmaaGreat
namespace Go.Proofs.YtgoooilgmabkmaaGreat
open Go Go.Sl
set_option linter.unusedVariables false
set_option linter.unusedSimpArgs false
set_option maxRecDepth 100000

theorem r11_ranked (lv : Value) (l : List EntD) (n : Nat) :
    ∀ (fr to : Nat) (σ : View), Ents σ lv l → to - fr = n → fr ≤ to → to ≤ l.length → Tri Tryz.prog 96 #[lv, .int .i64 (fr : Int), .int .i64 (to : Int)] σ [] (fun v σ' H' => (∃ h, SlO σ eNat 3 1 v (rankL l fr to) h ∧ H' = h) ∧ σ' = σ) := by
  induction n using Nat.strongRecOn with
  | _ n ih =>
    intro fr to σ h hn hle hto
    obtain ⟨la, lc, hlv, hlc, hlby⟩ := h.shape
    refine Tri.of_body [(0, lv), (1, .int .i64 (fr : Int)), (2, .int .i64 (to : Int))] Tryz.func96 rfl Tryz.ntmps96 (by simp) rfl (fun Hr => ?_)
    rw [List.nil_append]
    refine WC.seq ?_
    refine WC.region ?_
    refine WL.pur (Pur.assign rfl) ?_
    refine WL.nil ?_
    refine WQ.thn ?_
    refine WC.seq ?_
    refine WC.seq ?_
    refine WC.region ?_
    refine WL.pur (Pur.move rfl) ?_
    refine WL.pur (Pur.move rfl) ?_
    refine' WL.pur (Pur.bin rfl rfl ?h1_0) ?k1
    case h1_0 => first | (refine Bin.subN ?_ ?_ <;> omega) | (refine Bin.subI ?_; omega)
    refine' WL.pur (Pur.bin rfl rfl ?h2_0) ?k2
    case h2_0 => first | exact Bin.eqN (b := 0) | exact Bin.eqI
    refine WL.nil ?_
    refine WQ.thn ?_
    first | refine WC.cond rfl (fun hc0 => ?_) (fun hc0 => ?_) | refine WC.condB rfl (fun hc0 => ?_) (fun hc0 => ?_)
    · refine WC.seq ?_
      refine WC.region ?_
      refine WL.new (New.buildSlice0 sl_72) (fun b12 => ?_)
      refine WL.pur (Pur.assign rfl) ?_
      refine WL.nil ?_
      refine WQ.thn ?_
      refine WC.ret ?_
      refine WQ.thn_ret ?_
      refine WQ.ret1 Tryz.results96 rfl [(b12, rowO 3 [])] zsL (View.le_refl _) ?_
      exact ⟨⟨_, by rw [rankL_zero hc0]; exact row_nil σ b12, rfl⟩, rfl⟩
    · refine WC.skip ?_
      refine WQ.thn ?_
      refine WC.seq ?_
      refine WC.seq ?_
      refine WC.region ?_
      refine WL.pur (Pur.move rfl) ?_
      refine WL.pur (Pur.move rfl) ?_
      refine' WL.pur (Pur.bin rfl rfl ?h3_0) ?k3
      case h3_0 => first | (refine Bin.subN ?_ ?_ <;> omega) | (refine Bin.subI ?_; omega)
      refine' WL.pur (Pur.bin rfl rfl ?h4_0) ?k4
      case h4_0 => first | exact Bin.eqN (b := 1) | exact Bin.eqI
      refine WL.nil ?_
      refine WQ.thn ?_
      first | refine WC.cond rfl (fun hc1 => ?_) (fun hc1 => ?_) | refine WC.condB rfl (fun hc1 => ?_) (fun hc1 => ?_)
      · refine WC.seq ?_
        refine WC.region ?_
        refine WL.pur (Pur.move rfl) ?_
        refine WL.new (New.buildSliceS (xs := [.tmp 17]) sl_72 zc_3 rfl rfl rfl (by rfl) (by rfl)) (fun b18 => ?_)
        refine WL.pur (Pur.assign rfl) ?_
        refine WL.nil ?_
        refine WQ.thn ?_
        refine WC.ret ?_
        refine WQ.thn_ret ?_
        refine WQ.ret1 Tryz.results96 rfl [(b18, rowO 3 [.int .i64 (fr : Int)])] zsL (View.le_refl _) ?_
        exact ⟨⟨_, by rw [rankL_one hc1]; exact row_one σ b18 fr, rfl⟩, rfl⟩
      · refine WC.skip ?_
        refine WQ.thn ?_
        refine WC.seq ?_
        refine WC.region ?_
        refine WL.pur (Pur.move rfl) ?_
        refine WL.pur (Pur.move rfl) ?_
        refine' WL.pur (Pur.bin rfl rfl ?h5_0) ?k5
        case h5_0 => first | (refine Bin.addN ?_; omega) | (refine Bin.addI ?_; omega)
        refine' WL.pur (Pur.bin rfl rfl ?h6_0) ?k6
        case h6_0 => first | (refine Bin.quoN (b := 2) ?_ ?_ <;> omega)
        refine WL.pur (Pur.assign rfl) ?_
        refine WL.nil ?_
        refine WQ.thn ?_
        refine WC.seq ?_
        refine WC.region ?_
        refine WL.pur (Pur.move rfl) ?_
        refine WL.pur (Pur.move rfl) ?_
        refine WL.pur (Pur.move rfl) ?_
        refine WL.pur (Pur.move rfl) ?_
        refine WL.call (H0 := []) (Hr := Hr) rfl Tryz.call96 (List.Perm.refl _) (ih _ (by omega) fr ((fr + to) / 2) _ h rfl (by omega) (by omega)) ?_
        rintro v1 σ h1 ⟨⟨_, hs1, rfl⟩, rfl⟩ _
        refine WL.giveS (byt := 8) (H1 := []) (H2 := Hr) eNat_mono hs1 (by rw [rankL_len]; omega) rfl (fun σ1 hle1 hsl1 => ?_)
        rw [List.nil_append]
        refine WL.pur (Pur.move rfl) ?_
        refine WL.pur (Pur.move rfl) ?_
        refine WL.pur (Pur.move rfl) ?_
        refine WL.call (H0 := []) (Hr := Hr) rfl Tryz.call96 (List.Perm.refl _) (ih _ (by omega) ((fr + to) / 2) to _ (h.mono eEnt_mono hle1) rfl (by omega) (by omega)) ?_
        rintro v2 σ h2 ⟨⟨_, hs2, rfl⟩, rfl⟩ _
        refine WL.giveS (byt := 8) (H1 := []) (H2 := Hr) eNat_mono hs2 (by rw [rankL_len]; omega) rfl (fun σ2 hle2 hsl2 => ?_)
        rw [List.nil_append]
        refine WL.call (H0 := []) (Hr := Hr) rfl Tryz.call153 (List.Perm.refl _) (r11_merge _ lv v1 v2 l _ _ ((h.mono eEnt_mono hle1).mono eEnt_mono hle2) (hsl1.mono eNat_mono hle2) hsl2 (fun x hx => by have := rankL_mem.1 hx; omega) (fun x hx => by have := rankL_mem.1 hx; omega) (by rw [rankL_len, rankL_len]; omega)) ?_
        rintro v3 σ h3 ⟨⟨_, hs3, rfl⟩, rfl⟩ _
        refine WL.pur (Pur.assign rfl) ?_
        refine WL.nil ?_
        refine WQ.thn ?_
        refine WC.ret ?_
        refine WQ.le (View.le_trans hle1 hle2) ?_
        refine WQ.ret1 Tryz.results96 rfl h3 zsL (View.le_refl _) ?_
        exact ⟨⟨_, by rw [rankL_more hc0 hc1]; exact hs3.nat, rfl⟩, rfl⟩

theorem r11_find (σ : View) (lv sv : Value) (l : List EntD) (s : List Nat) (h : Nat) (hl : Ents σ lv l) (hs : SlE σ eNat 1 8 sv s) (hr : Ranked l s) (hd : (l.map (·.id)).Nodup) (hh : IsH h) :
    TriP Tryz.prog 97 #[lv, sv, hashV h] σ (.int .i64 (numV (idxOf l h))) := by
  have hl' := hl; have hs' := hs
  obtain ⟨la, lc, rfl, hlc, hlby⟩ := hl.shape
  obtain ⟨sa, sc, rfl, hsc, hsby⟩ := hs.shape
  obtain ⟨lb, loff, hel⟩ := addr_of hl
  obtain ⟨sb, soff, hes⟩ := addr_of hs
  have hlen := hr.len
  have hsl : ∀ i, i < s.length → s.getD i 0 < l.length := fun i hi => (hr.mem _).1 (getD_mem hi)
  refine Tri.of_body [(0, .slice la l.length lc), (1, .slice sa s.length sc), (2, hashV h)] Tryz.func97 rfl Tryz.ntmps97 (by simp) rfl (fun Hr => ?_)
  rw [List.nil_append]
  refine WC.seq ?_
  refine WC.region ?_
  refine WL.new (New.boxN rfl) (fun b5 => ?_)
  refine WL.pur (Pur.assign rfl) ?_
  refine WL.nil ?_
  refine WQ.thn ?_
  refine WC.seq ?_
  refine WC.region ?_
  refine WL.pur (Pur.move rfl) ?_
  refine WL.pur (Pur.len rfl isSlice_72) ?_
  refine WL.pur (Pur.assign rfl) ?_
  refine WL.pur (Pur.assign rfl) ?_
  refine WL.nil ?_
  refine WQ.thn ?_
  refine WC.seq ?_
  refine WC.block ?_
  refine WC.loop (fun j m σ' H' => ∃ (lo hi : Nat), j = hi - lo ∧ lo ≤ hi ∧ hi ≤ s.length ∧ (∀ i a, i < lo → s[i]? = some a → idAt l a < h) ∧ (∀ i a, hi ≤ i → s[i]? = some a → h ≤ idAt l a) ∧ m = [(0, .slice la l.length lc), (1, .slice sa s.length sc), (5, .pointer (some ⟨b5, 0, none⟩)), (7, .int .i64 (lo : Int)), (8, .int .i64 (hi : Int))] ∧ σ' = σ ∧ H' = (b5, rowO 39 (hashCells h)) :: Hr) ⟨0, s.length, rfl, by omega, by omega, fun i a hi => by omega, fun i a hi ha => by have := (List.getElem?_eq_some_iff.1 ha).1; omega, rfl, rfl, rfl⟩ zcV zsL ?_
  rintro _ _ σ _ ⟨lo, hi, rfl, hlh, hhs, h1, h2, rfl, rfl, rfl⟩
  refine WC.seq ?_
  refine WC.seq ?_
  refine WC.region ?_
  refine WL.pur (Pur.move rfl) ?_
  refine WL.pur (Pur.move rfl) ?_
  refine' WL.pur (Pur.bin rfl rfl ?h1_0) ?k1
  case h1_0 => first | exact Bin.ltN | exact Bin.ltI | exact Bin.ltS
  refine WL.nil ?_
  refine WQ.thn ?_
  first | refine WC.cond rfl (fun hc0 => ?_) (fun hc0 => ?_) | refine WC.condB rfl (fun hc0 => ?_) (fun hc0 => ?_)
  · have hm : (lo + hi) / 2 < s.length := by omega
    have hmr := nat_rd hs' hes hm
    have hir := id_rd hl' hel (hsl _ hm)
    have hiH := hir.2
    have hcl := cmpH_lt (x := idAt l (s.getD ((lo + hi) / 2) 0)) (y := h)
    refine WC.skip ?_
    refine WQ.thn ?_
    refine WC.block ?_
    refine WC.seq ?_
    refine WC.region ?_
    refine WL.pur (Pur.move rfl) ?_
    refine WL.pur (Pur.move rfl) ?_
    refine' WL.pur (Pur.bin rfl rfl ?h2_0) ?k2
    case h2_0 => first | (refine Bin.addN ?_; omega) | (refine Bin.addI ?_; omega)
    refine' WL.pur (Pur.bin rfl rfl ?h3_0) ?k3
    case h3_0 => first | (refine Bin.quoN (b := 2) ?_ ?_ <;> omega)
    refine WL.pur (Pur.assign rfl) ?_
    refine WL.nil ?_
    refine WQ.thn ?_
    refine WC.seq ?_
    refine WC.drawH 11 11 mixed (by kernel_rfl) rfl ?_
    refine SA.take 0 (by kernel_rfl) rfl rfl rfl (Wanted.plain rfl) zsL (View.le_refl _) (Pur.move rfl) ?_
    refine SA.take 1 (by kernel_rfl) rfl rfl rfl (Wanted.plain rfl) zsL (View.le_refl _) (Pur.move rfl) ?_
    refine SA.take 2 (by kernel_rfl) rfl rfl rfl (Wanted.plain rfl) zsL (View.le_refl _) (Pur.move rfl) ?_
    refine' SA.take 3 (by kernel_rfl) rfl rfl rfl (Wanted.plain rfl) zsL (View.le_refl _) (Pur.indexAddr (eqA (hes (by omega))) rfl sl_72 ?h4_0) ?k4
    case h4_0 => omega
    refine' SA.take 4 (by kernel_rfl) rfl rfl rfl (Wanted.plain rfl) zsL (View.le_refl _) (Pur.load1 rfl ty_3 ?h5_0) ?k5
    case h5_0 => exact RdV.rd hmr
    refine' SA.take 5 (by kernel_rfl) rfl rfl rfl (Wanted.plain rfl) zsL (View.le_refl _) (Pur.indexAddr (eqA (hel (by omega))) rfl sl_22 ?h6_0) ?k6
    case h6_0 => exact hsl _ (by omega)
    refine SA.take 6 (by kernel_rfl) rfl rfl rfl (Wanted.plain rfl) zsL (View.le_refl _) (Pur.fieldAddr rfl fo_45_0) ?_
    refine' SA.take 7 (by kernel_rfl) rfl rfl rfl (Wanted.plain rfl) zsL (View.le_refl _) (Pur.loadN rfl ty_39 ?h7_0 ?h7_1) ?k7
    case h7_0 => exact RdV.rd hir.1
    case h7_1 => first | rfl | assumption
    refine' SA.take 8 (by kernel_rfl) rfl rfl rfl (Wanted.plain rfl) zsL (View.le_refl _) (Pur.loadN rfl ty_39 ?h8_0 ?h8_1) ?k8
    case h8_0 => first | (apply Rd.own_sub; exact zmE; exact Sub.refl _) | (apply RdV.rd; assumption)
    case h8_1 => first | rfl | assumption
    refine SA.callP 9 rfl rfl (Wanted.plain rfl) (by kernel_rfl) rfl Tryz.call154 zsL (View.le_refl _) (r1_compare _ _ _ hiH hh) ?_
    refine' SA.take 10 (by kernel_rfl) rfl rfl rfl (Wanted.plain rfl) zsL (View.le_refl _) (Pur.bin rfl rfl ?h9_0) ?k9
    case h9_0 => first | exact Bin.ltN (b := 0) | exact Bin.ltI | exact Bin.ltS
    refine SA.done (by kernel_rfl) ?_
    refine WQ.thn ?_
    first | refine WC.cond rfl (fun hc1 => ?_) (fun hc1 => ?_) | refine WC.condB rfl (fun hc1 => ?_) (fun hc1 => ?_)
    · have hlow : ∀ i a, i < (lo + hi) / 2 + 1 → s[i]? = some a → idAt l a < h := by
        intro i a hia ha
        rcases Nat.lt_or_ge i ((lo + hi) / 2) with hlt | hge
        · have := hr.rise _ _ _ _ hlt ha (getD_some hm); omega
        · have e : i = (lo + hi) / 2 := by omega
          rw [e, getD_some hm] at ha; cases ha; omega
      refine WC.region ?_
      refine WL.pur (Pur.move rfl) ?_
      refine' WL.pur (Pur.bin rfl rfl ?h10_0) ?k10
      case h10_0 => first | (refine Bin.addN (b := 1) ?_; omega) | (refine Bin.addI ?_; omega)
      refine WL.pur (Pur.assign rfl) ?_
      refine WL.nil ?_
      refine WQ.blk ?_
      refine WQ.back _ ⟨(lo + hi) / 2 + 1, hi, rfl, by omega, by omega, hlow, h2, rfl, rfl, rfl⟩ (by omega) zcV zsL
    · have hhigh : ∀ i a, (lo + hi) / 2 ≤ i → s[i]? = some a → h ≤ idAt l a := by
        intro i a hia ha
        rcases Nat.lt_or_ge ((lo + hi) / 2) i with hlt | hge
        · have := hr.rise _ _ _ _ hlt (getD_some hm) ha; omega
        · have e : i = (lo + hi) / 2 := by omega
          rw [e, getD_some hm] at ha; cases ha; omega
      refine WC.region ?_
      refine WL.pur (Pur.move rfl) ?_
      refine WL.pur (Pur.assign rfl) ?_
      refine WL.nil ?_
      refine WQ.blk ?_
      refine WQ.back _ ⟨lo, (lo + hi) / 2, rfl, by omega, by omega, h1, hhigh, rfl, rfl, rfl⟩ (by omega) zcV zsL
  · refine WC.exit ?_
    refine WQ.thn_exit ?_
    refine WQ.back_exit ?_
    refine WQ.blk_here ?_
    refine WQ.thn ?_
    refine WC.seq ?_
    refine WC.seq ?_
    refine WC.drawH 16 16 mixed (by kernel_rfl) rfl ?_
    refine SA.take 0 (by kernel_rfl) rfl rfl rfl (Wanted.plain rfl) zsL (View.le_refl _) (Pur.move rfl) ?_
    refine SA.take 1 (by kernel_rfl) rfl rfl rfl (Wanted.plain rfl) zsL (View.le_refl _) (Pur.move rfl) ?_
    refine SA.take 2 (by kernel_rfl) rfl rfl rfl (Wanted.plain rfl) zsL (View.le_refl _) (Pur.len rfl isSlice_72) ?_
    refine' SA.take 3 (by kernel_rfl) rfl rfl rfl (Wanted.plain rfl) zsL (View.le_refl _) (Pur.bin rfl rfl ?h11_0) ?k11
    case h11_0 => first | exact Bin.ltN | exact Bin.ltI | exact Bin.ltS
    refine SA.take 4 (by kernel_rfl) rfl rfl rfl (Wanted.plain rfl) zsL (View.le_refl _) (Pur.move rfl) ?_
    refine' SA.andp 15 (u := 37) rfl ?h12_0 ?h12_1 ?h12_2 rfl zsL (View.le_refl _) ?h12_3 rfl ?k12
    case h12_0 =>
      intro hg37 K37
      have hmr := nat_rd hs' hes hg37
      have hir := id_rd hl' hel (hsl _ hg37)
      have hiH := hir.2
      refine SA.take 5 (by kernel_rfl) rfl rfl rfl (Wanted.guard (u := 37) rfl rfl rfl (gT hg37)) zsL (View.le_refl _) (Pur.move rfl) ?_
      refine SA.take 6 (by kernel_rfl) rfl rfl rfl (Wanted.guard (u := 37) rfl rfl rfl (gT hg37)) zsL (View.le_refl _) (Pur.move rfl) ?_
      refine SA.take 7 (by kernel_rfl) rfl rfl rfl (Wanted.guard (u := 37) rfl rfl rfl (gT hg37)) zsL (View.le_refl _) (Pur.move rfl) ?_
      refine' SA.take 8 (by kernel_rfl) rfl rfl rfl (Wanted.guard (u := 37) rfl rfl rfl (gT hg37)) zsL (View.le_refl _) (Pur.indexAddr (eqA (hes (by omega))) rfl sl_72 ?h13_0) ?k13
      case h13_0 => omega
      refine' SA.take 9 (by kernel_rfl) rfl rfl rfl (Wanted.guard (u := 37) rfl rfl rfl (gT hg37)) zsL (View.le_refl _) (Pur.load1 rfl ty_3 ?h14_0) ?k14
      case h14_0 => exact RdV.rd hmr
      refine' SA.take 10 (by kernel_rfl) rfl rfl rfl (Wanted.guard (u := 37) rfl rfl rfl (gT hg37)) zsL (View.le_refl _) (Pur.indexAddr (eqA (hel (by omega))) rfl sl_22 ?h15_0) ?k15
      case h15_0 => exact hsl _ (by omega)
      refine SA.take 11 (by kernel_rfl) rfl rfl rfl (Wanted.guard (u := 37) rfl rfl rfl (gT hg37)) zsL (View.le_refl _) (Pur.fieldAddr rfl fo_45_0) ?_
      refine' SA.take 12 (by kernel_rfl) rfl rfl rfl (Wanted.guard (u := 37) rfl rfl rfl (gT hg37)) zsL (View.le_refl _) (Pur.loadN rfl ty_39 ?h16_0 ?h16_1) ?k16
      case h16_0 => exact RdV.rd hir.1
      case h16_1 => first | rfl | assumption
      refine' SA.take 13 (by kernel_rfl) rfl rfl rfl (Wanted.guard (u := 37) rfl rfl rfl (gT hg37)) zsL (View.le_refl _) (Pur.loadN rfl ty_39 ?h17_0 ?h17_1) ?k17
      case h17_0 => first | (apply Rd.own_sub; exact zmE; exact Sub.refl _) | (apply RdV.rd; assumption)
      case h17_1 => first | rfl | assumption
      refine' SA.take 14 (by kernel_rfl) rfl rfl rfl (Wanted.guard (u := 37) rfl rfl rfl (gT hg37)) zsL (View.le_refl _) (Pur.bin rfl rfl ?h18_0) ?k18
      case h18_0 => (refine Bin.eqH isHash_39 ?_ ?_ <;> assumption)
      exact K37 _ zcR rfl
    case h12_1 =>
      intro hg37 K37
      refine SA.gskip 5 (u := 37) (by kernel_rfl) rfl rfl rfl rfl rfl rfl (sT hg37) zsL (View.le_refl _) ?_
      refine SA.gskip 6 (u := 37) (by kernel_rfl) rfl rfl rfl rfl rfl rfl (sT hg37) zsL (View.le_refl _) ?_
      refine SA.gskip 7 (u := 37) (by kernel_rfl) rfl rfl rfl rfl rfl rfl (sT hg37) zsL (View.le_refl _) ?_
      refine SA.gskip 8 (u := 37) (by kernel_rfl) rfl rfl rfl rfl rfl rfl (sT hg37) zsL (View.le_refl _) ?_
      refine SA.gskip 9 (u := 37) (by kernel_rfl) rfl rfl rfl rfl rfl rfl (sT hg37) zsL (View.le_refl _) ?_
      refine SA.gskip 10 (u := 37) (by kernel_rfl) rfl rfl rfl rfl rfl rfl (sT hg37) zsL (View.le_refl _) ?_
      refine SA.gskip 11 (u := 37) (by kernel_rfl) rfl rfl rfl rfl rfl rfl (sT hg37) zsL (View.le_refl _) ?_
      refine SA.gskip 12 (u := 37) (by kernel_rfl) rfl rfl rfl rfl rfl rfl (sT hg37) zsL (View.le_refl _) ?_
      refine SA.gskip 13 (u := 37) (by kernel_rfl) rfl rfl rfl rfl rfl rfl (sT hg37) zsL (View.le_refl _) ?_
      refine SA.gskip 14 (u := 37) (by kernel_rfl) rfl rfl rfl rfl rfl rfl (sT hg37) zsL (View.le_refl _) ?_
      exact K37 _ zcR
    case h12_2 => kernel_rfl
    case h12_3 => exact Wanted.plain rfl
    refine SA.done (by kernel_rfl) ?_
    refine WQ.thn ?_
    first | refine WC.cond rfl (fun hc2 => ?_) (fun hc2 => ?_) | refine WC.condB rfl (fun hc2 => ?_) (fun hc2 => ?_)
    · have hmr := nat_rd hs' hes hc2.1
      refine WC.seq ?_
      refine WC.region ?_
      refine WL.pur (Pur.move rfl) ?_
      refine WL.pur (Pur.move rfl) ?_
      refine' WL.pur (Pur.indexAddr (eqA (hes (by omega))) rfl sl_72 ?h19_0) ?k19
      case h19_0 => omega
      refine' WL.pur (Pur.load1 rfl ty_3 ?h20_0) ?k20
      case h20_0 => exact RdV.rd hmr
      refine WL.pur (Pur.assign rfl) ?_
      refine WL.nil ?_
      refine WQ.thn ?_
      refine WC.ret ?_
      refine WQ.thn_ret ?_
      refine WQ.ret1 Tryz.results97 rfl [] zsL (View.le_refl _) ?_
      refine ⟨?_, rfl, rfl⟩
      have hlo : lo = hi := by omega
      subst hlo
      have := find_spec hr hd h1 h2
      rw [getD_some hc2.1] at this
      simp only [hc2.2, if_true] at this
      rw [this]; rfl
    · refine WC.skip ?_
      refine WQ.thn ?_
      refine WC.seq ?_
      refine WC.region ?_
      refine WL.pur (Pur.assign rfl) ?_
      refine WL.nil ?_
      refine WQ.thn ?_
      refine WC.ret ?_
      refine WQ.ret1 Tryz.results97 rfl [] zsL (View.le_refl _) ?_
      refine ⟨?_, rfl, rfl⟩
      have hlo : lo = hi := by omega
      subst hlo
      have := find_spec hr hd h1 h2
      have hno : idxOf l h = none := by
        rw [this]
        cases hx : s[lo]? with
        | none => rfl
        | some a =>
          have hlt := (List.getElem?_eq_some_iff.1 hx).1
          rw [getD_some hlt] at hx; cases hx
          simp only
          rw [if_neg (fun he => hc2 ⟨hlt, he⟩)]
      rw [hno]; rfl

end Go.Proofs.YtgoooilgmabkmaaGreat
namespace Go.Proofs.YtgoooilgmabkmaaGreat
open Go Go.Sl
set_option linter.unusedVariables false
set_option linter.unusedSimpArgs false
set_option maxRecDepth 100000

theorem numV_neg {o : Option Nat} : numV o < 0 ↔ o = none := by
  cases o with
  | none => simp [numV]
  | some k => simp [numV]
theorem mcl_max {l : List EntD} {ps : List Nat} {q p k : Nat} {e : EntD} (hp : ps[q]? = some p) (hk : idxOf l p = some k) (he : l[k]? = some e) : mcl l (ps.take (q + 1)) = max (mcl l (ps.take q)) e.node.cl := by
  rw [mcl_take hp]; unfold clAt; rw [hk]; simp [he]

theorem r11_right (σ : View) (lv : Value) (l : List EntD) (h : Ents σ lv l) :
    TriP Tryz.prog 94 #[lv] σ (.tuple #[.int .i64 (rightErr l).1, .int .i64 ((rightErr l).2 : Int)]) := by
  have h' := h
  obtain ⟨la, lc, rfl, hlc, hlby⟩ := h.shape
  obtain ⟨lb, loff, hel⟩ := addr_of h
  refine Tri.of_body [(0, .slice la l.length lc)] Tryz.func94 rfl Tryz.ntmps94 (by simp) rfl (fun Hr => ?_)
  rw [List.nil_append]
  refine WC.seq ?_
  refine WC.region ?_
  refine WL.pur (Pur.assign rfl) ?_
  refine WL.pur (Pur.assign rfl) ?_
  refine WL.nil ?_
  refine WQ.thn ?_
  refine WC.seq ?_
  refine WC.seq ?_
  refine WC.region ?_
  refine WL.pur (Pur.assign rfl) ?_
  refine WL.nil ?_
  refine WQ.thn ?_
  refine WC.block ?_
  refine WC.loop (fun j m σ' H' => ∃ i : Nat, j = l.length - i ∧ i ≤ l.length ∧ rightErr l = err1 l i ∧ Fine1 l i ∧ m = [(0, .slice la l.length lc), (4, .int .i64 (i : Int))] ∧ σ' = σ ∧ H' = Hr) ⟨0, rfl, by omega, rfl, Fine1.zero l, rfl, rfl, rfl⟩ zcV zsL ?_
  rintro _ _ σ Hr ⟨i, rfl, hi, herr, hfine, rfl, rfl, rfl⟩
  refine WC.seq ?_
  refine WC.seq ?_
  refine WC.region ?_
  refine WL.pur (Pur.move rfl) ?_
  refine WL.pur (Pur.move rfl) ?_
  refine WL.pur (Pur.len rfl isSlice_22) ?_
  refine' WL.pur (Pur.bin rfl rfl ?h1_0) ?k1
  case h1_0 => first | exact Bin.ltN | exact Bin.ltI | exact Bin.ltS
  refine WL.nil ?_
  refine WQ.thn ?_
  first | refine WC.cond rfl (fun hc0 => ?_) (fun hc0 => ?_) | refine WC.condB rfl (fun hc0 => ?_) (fun hc0 => ?_)
  · obtain ⟨e, he⟩ : ∃ e, l[i]? = some e := ⟨_, List.getElem?_eq_getElem (by omega)⟩
    obtain ⟨pv, ov, hrd, heH, hNR⟩ := ent_rd h' hel he
    have hie := idAt_of he
    refine WC.skip ?_
    refine WQ.thn ?_
    refine WC.seq ?_
    refine WC.block ?_
    refine WC.seq ?_
    refine WC.seq ?_
    refine WC.region ?_
    refine WL.pur (Pur.move rfl) ?_
    refine' WL.pur (Pur.bin rfl rfl ?h2_0) ?k2
    case h2_0 => first | exact Bin.geN (b := 4096) | exact Bin.geI
    refine WL.nil ?_
    refine WQ.thn ?_
    first | refine WC.cond rfl (fun hc1 => ?_) (fun hc1 => ?_) | refine WC.condB rfl (fun hc1 => ?_) (fun hc1 => ?_)
    · refine WC.seq ?_
      refine WC.region ?_
      refine WL.pur (Pur.move rfl) ?_
      refine WL.pur (Pur.assign rfl) ?_
      refine WL.pur (Pur.assign rfl) ?_
      refine WL.nil ?_
      refine WQ.thn ?_
      refine WC.ret ?_
      refine WQ.thn_ret ?_
      refine WQ.blk_ret ?_
      refine WQ.thn_ret ?_
      refine WQ.back_ret ?_
      refine WQ.blk_ret ?_
      refine WQ.thn_ret ?_
      refine WQ.ret2 Tryz.results94 rfl rfl [] zsL (View.le_refl _) ?_
      refine ⟨?_, rfl, rfl⟩
      rw [herr, err1_at he, if_pos hc1]
    · refine WC.skip ?_
      refine WQ.thn ?_
      refine WC.seq ?_
      refine WC.seq ?_
      refine WC.region ?_
      refine WL.pur (Pur.move rfl) ?_
      refine WL.pur (Pur.move rfl) ?_
      refine' WL.pur (Pur.indexAddr (eqA (hel (by omega))) rfl sl_22 ?h3_0) ?k3
      case h3_0 => omega
      refine WL.pur (Pur.fieldAddr rfl fo_45_1) ?_
      refine' WL.pur (Pur.loadN rfl ty_43 ?h4_0 ?h4_1) ?k4
      case h4_0 => first | (apply Rd.own_sub; exact zmE; exact Sub.ent_node _ _ _ _ _) | (apply RdV.rd; apply RdV.sub (i := 32); assumption; exact Sub.ent_node _ _ _ _ _)
      case h4_1 => first | rfl | assumption
      refine WL.callP rfl Tryz.call108 (r5_Check _ e.node pv ov hNR) ?_
      refine WL.pur (Pur.assign rfl) ?_
      refine WL.nil ?_
      refine WQ.thn ?_
      refine WC.seq ?_
      refine WC.region ?_
      refine WL.pur (Pur.move rfl) ?_
      refine' WL.pur (Pur.bin rfl rfl ?h5_0) ?k5
      case h5_0 => first | exact Bin.neN (b := 0) | exact Bin.neI
      refine WL.nil ?_
      refine WQ.thn ?_
      first | refine WC.cond rfl (fun hc2 => ?_) (fun hc2 => ?_) | refine WC.condB rfl (fun hc2 => ?_) (fun hc2 => ?_)
      · refine WC.seq ?_
        refine WC.region ?_
        refine WL.pur (Pur.move rfl) ?_
        refine WL.pur (Pur.move rfl) ?_
        refine WL.pur (Pur.assign rfl) ?_
        refine WL.pur (Pur.assign rfl) ?_
        refine WL.nil ?_
        refine WQ.thn ?_
        refine WC.ret ?_
        refine WQ.thn_ret ?_
        refine WQ.blk_ret ?_
        refine WQ.thn_ret ?_
        refine WQ.back_ret ?_
        refine WQ.blk_ret ?_
        refine WQ.thn_ret ?_
        refine WQ.ret2 Tryz.results94 rfl rfl [] zsL (View.le_refl _) ?_
        refine ⟨?_, rfl, rfl⟩
        rw [herr, err1_at he, if_neg hc1, if_pos hc2]
      · refine WC.skip ?_
        refine WQ.thn ?_
        refine WC.seq ?_
        refine WC.region ?_
        refine WL.pur (Pur.assign rfl) ?_
        refine WL.nil ?_
        refine WQ.thn ?_
        refine WC.block ?_
        refine WC.loop (fun j m σ' H' => ∃ q : Nat, j = i - q ∧ q ≤ i ∧ (∀ p, p < q → idAt l p ≠ e.id) ∧ m = [(0, .slice la l.length lc), (4, .int .i64 (i : Int)), (6, .int .i64 (q : Int))] ∧ σ' = σ ∧ H' = Hr) ⟨0, rfl, by omega, fun p hp => by omega, rfl, rfl, rfl⟩ zcV zsL ?_
        rintro _ _ σ Hr ⟨q, rfl, hq, hall, rfl, rfl, rfl⟩
        refine WC.seq ?_
        refine WC.seq ?_
        refine WC.region ?_
        refine WL.pur (Pur.move rfl) ?_
        refine WL.pur (Pur.move rfl) ?_
        refine' WL.pur (Pur.bin rfl rfl ?h6_0) ?k6
        case h6_0 => first | exact Bin.ltN | exact Bin.ltI | exact Bin.ltS
        refine WL.nil ?_
        refine WQ.thn ?_
        first | refine WC.cond rfl (fun hc3 => ?_) (fun hc3 => ?_) | refine WC.condB rfl (fun hc3 => ?_) (fun hc3 => ?_)
        · have hq1 := id_rd h' hel (show q < l.length by omega)
          have hq2 := id_rd h' hel (show i < l.length by omega)
          have hH1 := hq1.2
          have hH2 := hq2.2
          refine WC.skip ?_
          refine WQ.thn ?_
          refine WC.seq ?_
          refine WC.block ?_
          refine WC.seq ?_
          refine WC.drawH 11 11 mixed (by kernel_rfl) rfl ?_
          refine SA.take 0 (by kernel_rfl) rfl rfl rfl (Wanted.plain rfl) zsL (View.le_refl _) (Pur.move rfl) ?_
          refine SA.take 1 (by kernel_rfl) rfl rfl rfl (Wanted.plain rfl) zsL (View.le_refl _) (Pur.move rfl) ?_
          refine' SA.take 2 (by kernel_rfl) rfl rfl rfl (Wanted.plain rfl) zsL (View.le_refl _) (Pur.indexAddr (eqA (hel (by omega))) rfl sl_22 ?h7_0) ?k7
          case h7_0 => omega
          refine SA.take 3 (by kernel_rfl) rfl rfl rfl (Wanted.plain rfl) zsL (View.le_refl _) (Pur.fieldAddr rfl fo_45_0) ?_
          refine' SA.take 4 (by kernel_rfl) rfl rfl rfl (Wanted.plain rfl) zsL (View.le_refl _) (Pur.loadN rfl ty_39 ?h8_0 ?h8_1) ?k8
          case h8_0 => exact RdV.rd hq1.1
          case h8_1 => first | rfl | assumption
          refine SA.take 5 (by kernel_rfl) rfl rfl rfl (Wanted.plain rfl) zsL (View.le_refl _) (Pur.move rfl) ?_
          refine SA.take 6 (by kernel_rfl) rfl rfl rfl (Wanted.plain rfl) zsL (View.le_refl _) (Pur.move rfl) ?_
          refine' SA.take 7 (by kernel_rfl) rfl rfl rfl (Wanted.plain rfl) zsL (View.le_refl _) (Pur.indexAddr (eqA (hel (by omega))) rfl sl_22 ?h9_0) ?k9
          case h9_0 => omega
          refine SA.take 8 (by kernel_rfl) rfl rfl rfl (Wanted.plain rfl) zsL (View.le_refl _) (Pur.fieldAddr rfl fo_45_0) ?_
          refine' SA.take 9 (by kernel_rfl) rfl rfl rfl (Wanted.plain rfl) zsL (View.le_refl _) (Pur.loadN rfl ty_39 ?h10_0 ?h10_1) ?k10
          case h10_0 => exact RdV.rd hq2.1
          case h10_1 => first | rfl | assumption
          refine' SA.take 10 (by kernel_rfl) rfl rfl rfl (Wanted.plain rfl) zsL (View.le_refl _) (Pur.bin rfl rfl ?h11_0) ?k11
          case h11_0 => (refine Bin.eqH isHash_39 ?_ ?_ <;> assumption)
          refine SA.done (by kernel_rfl) ?_
          refine WQ.thn ?_
          first | refine WC.cond rfl (fun hc4 => ?_) (fun hc4 => ?_) | refine WC.condB rfl (fun hc4 => ?_) (fun hc4 => ?_)
          · refine WC.seq ?_
            refine WC.region ?_
            refine WL.pur (Pur.move rfl) ?_
            refine WL.pur (Pur.assign rfl) ?_
            refine WL.pur (Pur.assign rfl) ?_
            refine WL.nil ?_
            refine WQ.thn ?_
            refine WC.ret ?_
            refine WQ.blk_ret ?_
            refine WQ.thn_ret ?_
            refine WQ.back_ret ?_
            refine WQ.blk_ret ?_
            refine WQ.blk_ret ?_
            refine WQ.thn_ret ?_
            refine WQ.back_ret ?_
            refine WQ.blk_ret ?_
            refine WQ.thn_ret ?_
            refine WQ.ret2 Tryz.results94 rfl rfl [] zsL (View.le_refl _) ?_
            refine ⟨?_, rfl, rfl⟩
            rw [herr, err1_at he, if_neg hc1, if_neg hc2, if_pos (idAt_mem_take' (show q < i by omega) (by omega) (by rw [hc4, hie]))]
          · have hall2 : ∀ p, p < q + 1 → idAt l p ≠ e.id := by
              intro p hp
              rcases Nat.lt_or_ge p q with h1 | h1
              · exact hall p h1
              · have : p = q := by omega
                subst this; rw [← hie]; exact hc4
            refine WC.skip ?_
            refine WQ.blk ?_
            refine WQ.thn ?_
            refine WC.region ?_
            refine WL.pur (Pur.move rfl) ?_
            refine' WL.pur (Pur.bin rfl rfl ?h12_0) ?k12
            case h12_0 => first | (refine Bin.addN (b := 1) ?_; omega) | (refine Bin.addI ?_; omega)
            refine WL.pur (Pur.assign rfl) ?_
            refine WL.nil ?_
            refine WQ.back _ ⟨q + 1, rfl, by omega, hall2, rfl, rfl, rfl⟩ (by omega) zcV zsL
        · have hnone : idxOf (l.take i) e.id = none := idAt_mem_take (fun p hp => hall p (by omega))
          refine WC.exit ?_
          refine WQ.thn_exit ?_
          refine WQ.back_exit ?_
          refine WQ.blk_here ?_
          refine WQ.blk ?_
          refine WQ.thn ?_
          refine WC.region ?_
          refine WL.pur (Pur.move rfl) ?_
          refine' WL.pur (Pur.bin rfl rfl ?h13_0) ?k13
          case h13_0 => first | (refine Bin.addN (b := 1) ?_; omega) | (refine Bin.addI ?_; omega)
          refine WL.pur (Pur.assign rfl) ?_
          refine WL.nil ?_
          refine WQ.back _ ⟨i + 1, rfl, by omega, by rw [herr, err1_at he, if_neg hc1, if_neg hc2, if_neg (by rw [hnone]; simp)], hfine.step he hc1 (Decidable.not_not.1 hc2) hnone, rfl, rfl, rfl⟩ (by omega) zcV zsL
  · obtain ⟨hmost, hnodes, hnodup⟩ := hfine
    rw [List.take_of_length_le (show l.length ≤ i by omega)] at hnodes hnodup
    refine WC.exit ?_
    refine WQ.thn_exit ?_
    refine WQ.back_exit ?_
    refine WQ.blk_here ?_
    refine WQ.thn ?_
    refine WC.seq ?_
    refine WC.region ?_
    refine WL.pur (Pur.move rfl) ?_
    refine WL.pur (Pur.move rfl) ?_
    refine WL.pur (Pur.len rfl isSlice_22) ?_
    refine WL.call (H0 := []) (Hr := Hr) rfl Tryz.call96 (List.Perm.refl _) (r11_ranked _ l _ 0 l.length _ h' rfl (by omega) (Nat.le_refl _)) ?_
    rintro v1 σ h1 ⟨⟨_, hs1, rfl⟩, rfl⟩ _
    refine WL.giveS (byt := 8) (H1 := []) (H2 := Hr) eNat_mono hs1 (by rw [rankL_len]; omega) rfl (fun σ1 hle1 hsl1 => ?_)
    rw [List.nil_append]
    have h' := h'.mono eEnt_mono hle1
    have hrk := rankL_ranked l
    refine WL.pur (Pur.assign rfl) ?_
    refine WL.nil ?_
    refine WQ.thn ?_
    refine WC.seq ?_
    refine WC.seq ?_
    refine WC.region ?_
    refine WL.pur (Pur.assign rfl) ?_
    refine WL.nil ?_
    refine WQ.thn ?_
    refine WC.block ?_
    refine WC.loop (fun j m σ' H' => ∃ i : Nat, j = l.length - i ∧ i ≤ l.length ∧ rightErr l = err2 l i ∧ m = [(0, .slice la l.length lc), (7, v1), (8, .int .i64 (i : Int))] ∧ σ' = σ1 ∧ H' = Hr) ⟨0, rfl, by omega, by rw [herr, err1_end (by omega)], rfl, rfl, rfl⟩ zcV zsL ?_
    rintro _ _ σ Hr ⟨i, rfl, hi, herr, rfl, rfl, rfl⟩
    refine WC.seq ?_
    refine WC.seq ?_
    refine WC.region ?_
    refine WL.pur (Pur.move rfl) ?_
    refine WL.pur (Pur.move rfl) ?_
    refine WL.pur (Pur.len rfl isSlice_22) ?_
    refine' WL.pur (Pur.bin rfl rfl ?h14_0) ?k14
    case h14_0 => first | exact Bin.ltN | exact Bin.ltI | exact Bin.ltS
    refine WL.nil ?_
    refine WQ.thn ?_
    first | refine WC.cond rfl (fun hc5 => ?_) (fun hc5 => ?_) | refine WC.condB rfl (fun hc5 => ?_) (fun hc5 => ?_)
    · obtain ⟨e, he⟩ : ∃ e, l[i]? = some e := ⟨_, List.getElem?_eq_getElem (by omega)⟩
      obtain ⟨pv, ov, hrd, heH, hNR⟩ := ent_rd h' hel he
      have hps' := hNR.1
      obtain ⟨pa, pc, rfl, hpc, hpb⟩ := hps'.shape
      obtain ⟨pb, poff, hep⟩ := addr_of hps'
      have hclb := (nodeErr_zero (hnodes e (List.mem_of_getElem? he))).2.1
      refine WC.skip ?_
      refine WQ.thn ?_
      refine WC.seq ?_
      refine WC.block ?_
      refine WC.seq ?_
      refine WC.region ?_
      refine WL.pur (Pur.assign rfl) ?_
      refine WL.nil ?_
      refine WQ.thn ?_
      refine WC.seq ?_
      refine WC.seq ?_
      refine WC.region ?_
      refine WL.pur (Pur.assign rfl) ?_
      refine WL.nil ?_
      refine WQ.thn ?_
      refine WC.block ?_
      refine WC.loop (fun j m σ' H' => ∃ q : Nat, j = e.node.ps.length - q ∧ q ≤ e.node.ps.length ∧ (∀ p ∈ e.node.ps.take q, idxOf l p ≠ none) ∧ m = [(0, .slice la l.length lc), (7, v1), (8, .int .i64 (i : Int)), (9, .int .i64 (mcl l (e.node.ps.take q))), (10, .int .i64 (q : Int))] ∧ σ' = σ ∧ H' = Hr) ⟨0, rfl, by omega, by simp, rfl, rfl, rfl⟩ zcV zsL ?_
      rintro _ _ σ Hr ⟨q, rfl, hq, hall, rfl, rfl, rfl⟩
      refine WC.seq ?_
      refine WC.seq ?_
      refine WC.region ?_
      refine WL.pur (Pur.move rfl) ?_
      refine WL.pur (Pur.move rfl) ?_
      refine WL.pur (Pur.move rfl) ?_
      refine' WL.pur (Pur.indexAddr (eqA (hel (by omega))) rfl sl_22 ?h15_0) ?k15
      case h15_0 => omega
      refine WL.pur (Pur.fieldAddr rfl fo_45_1) ?_
      refine WL.pur (Pur.fieldAddr rfl fo_43_2) ?_
      refine' WL.pur (Pur.load1 rfl ty_41 ?h16_0) ?k16
      case h16_0 => first | (apply Rd.own1; exact zmE; rfl) | (apply RdV.rd; apply RdV.idx (i := 34); assumption; rfl) | (apply RdV.rd; apply RdV.idx (off := 0) (i := 34); assumption; rfl)
      refine WL.pur (Pur.len rfl isSlice_41) ?_
      refine' WL.pur (Pur.bin rfl rfl ?h17_0) ?k17
      case h17_0 => first | exact Bin.ltN | exact Bin.ltI | exact Bin.ltS
      refine WL.nil ?_
      refine WQ.thn ?_
      first | refine WC.cond rfl (fun hc6 => ?_) (fun hc6 => ?_) | refine WC.condB rfl (fun hc6 => ?_) (fun hc6 => ?_)
      · obtain ⟨p, hp⟩ : ∃ p, e.node.ps[q]? = some p := ⟨_, List.getElem?_eq_getElem (by omega)⟩
        obtain ⟨hpr, hpH⟩ := hash_rd hps' hep hp
        refine WC.skip ?_
        refine WQ.thn ?_
        refine WC.seq ?_
        refine WC.block ?_
        refine WC.seq ?_
        refine WC.region ?_
        refine WL.pur (Pur.move rfl) ?_
        refine WL.pur (Pur.move rfl) ?_
        refine WL.pur (Pur.move rfl) ?_
        refine WL.pur (Pur.move rfl) ?_
        refine' WL.pur (Pur.indexAddr (eqA (hel (by omega))) rfl sl_22 ?h18_0) ?k18
        case h18_0 => omega
        refine WL.pur (Pur.fieldAddr rfl fo_45_1) ?_
        refine WL.pur (Pur.fieldAddr rfl fo_43_2) ?_
        refine' WL.pur (Pur.load1 rfl ty_41 ?h19_0) ?k19
        case h19_0 => first | (apply Rd.own1; exact zmE; rfl) | (apply RdV.rd; apply RdV.idx (i := 34); assumption; rfl) | (apply RdV.rd; apply RdV.idx (off := 0) (i := 34); assumption; rfl)
        refine WL.pur (Pur.move rfl) ?_
        refine' WL.pur (Pur.indexAddr (eqA (hep (by omega))) rfl sl_41 ?h20_0) ?k20
        case h20_0 => omega
        refine' WL.pur (Pur.loadN rfl ty_39 ?h21_0 ?h21_1) ?k21
        case h21_0 => exact RdV.rd hpr
        case h21_1 => first | rfl | assumption
        refine WL.callP rfl Tryz.call97 (r11_find _ _ _ l _ p h' hsl1 hrk hnodup hpH) ?_
        refine WL.pur (Pur.assign rfl) ?_
        refine WL.nil ?_
        refine WQ.thn ?_
        refine WC.seq ?_
        refine WC.seq ?_
        refine WC.region ?_
        refine WL.pur (Pur.move rfl) ?_
        refine' WL.pur (Pur.bin rfl rfl ?h22_0) ?k22
        case h22_0 => first | exact Bin.ltN (b := 0) | exact Bin.ltI | exact Bin.ltS
        refine WL.nil ?_
        refine WQ.thn ?_
        first | refine WC.cond rfl (fun hc7 => ?_) (fun hc7 => ?_) | refine WC.condB rfl (fun hc7 => ?_) (fun hc7 => ?_)
        · refine WC.seq ?_
          refine WC.region ?_
          refine WL.pur (Pur.move rfl) ?_
          refine WL.pur (Pur.assign rfl) ?_
          refine WL.pur (Pur.assign rfl) ?_
          refine WL.nil ?_
          refine WQ.thn ?_
          refine WC.ret ?_
          refine WQ.thn_ret ?_
          refine WQ.blk_ret ?_
          refine WQ.thn_ret ?_
          refine WQ.back_ret ?_
          refine WQ.blk_ret ?_
          refine WQ.thn_ret ?_
          refine WQ.blk_ret ?_
          refine WQ.thn_ret ?_
          refine WQ.back_ret ?_
          refine WQ.blk_ret ?_
          refine WQ.thn_ret ?_
          refine WQ.le hle1 ?_
          refine WQ.ret2 Tryz.results94 rfl rfl [] zsL (View.le_refl _) ?_
          refine ⟨?_, rfl, rfl⟩
          have hpe : parErr l e = 6 := by unfold parErr; rw [if_pos ⟨p, List.mem_of_getElem? hp, numV_neg.1 hc7⟩]
          rw [herr, err2_at he, if_pos (by rw [hpe]; simp), hpe]
        · obtain ⟨k, hk⟩ : ∃ k, idxOf l p = some k := by
            cases hx : idxOf l p with
            | some k => exact ⟨k, rfl⟩
            | none => exact absurd (numV_neg.2 hx) hc7
          rw [hk]
          obtain ⟨e2, he2, hid2⟩ := idxOf_some hk
          have hkl := (List.getElem?_eq_some_iff.1 he2).1
          obtain ⟨pv2, ov2, hrd2, heH2, hNR2⟩ := ent_rd h' hel he2
          have hall2 : ∀ y ∈ e.node.ps.take (q + 1), idxOf l y ≠ none := by
            rw [List.take_add_one, hp]; intro y hy
            rcases List.mem_append.1 hy with hy | hy
            · exact hall y hy
            · simp at hy; subst hy; rw [hk]; simp
          simp only [numV]
          refine WC.skip ?_
          refine WQ.thn ?_
          refine WC.seq ?_
          refine WC.region ?_
          refine WL.pur (Pur.move rfl) ?_
          refine WL.pur (Pur.move rfl) ?_
          refine' WL.pur (Pur.indexAddr (eqA (hel (by omega))) rfl sl_22 ?h23_0) ?k23
          case h23_0 => omega
          refine WL.pur (Pur.fieldAddr rfl fo_45_1) ?_
          refine WL.pur (Pur.fieldAddr rfl fo_43_1) ?_
          refine' WL.pur (Pur.load1 rfl ty_3 ?h24_0) ?k24
          case h24_0 => first | (apply Rd.own1; exact zmE; rfl) | (apply RdV.rd; apply RdV.idx (i := 33); assumption; rfl) | (apply RdV.rd; apply RdV.idx (off := 0) (i := 33); assumption; rfl)
          refine WL.pur (Pur.move rfl) ?_
          refine' WL.pur (Pur.bin rfl rfl ?h25_0) ?k25
          case h25_0 => first | exact Bin.gtN | exact Bin.gtI
          refine WL.nil ?_
          refine WQ.thn ?_
          first | refine WC.cond rfl (fun hc8 => ?_) (fun hc8 => ?_) | refine WC.condB rfl (fun hc8 => ?_) (fun hc8 => ?_)
          · refine WC.region ?_
            refine WL.pur (Pur.move rfl) ?_
            refine WL.pur (Pur.move rfl) ?_
            refine' WL.pur (Pur.indexAddr (eqA (hel (by omega))) rfl sl_22 ?h26_0) ?k26
            case h26_0 => omega
            refine WL.pur (Pur.fieldAddr rfl fo_45_1) ?_
            refine WL.pur (Pur.fieldAddr rfl fo_43_1) ?_
            refine' WL.pur (Pur.load1 rfl ty_3 ?h27_0) ?k27
            case h27_0 => first | (apply Rd.own1; exact zmE; rfl) | (apply RdV.rd; apply RdV.idx (i := 33); assumption; rfl) | (apply RdV.rd; apply RdV.idx (off := 0) (i := 33); assumption; rfl)
            refine WL.pur (Pur.assign rfl) ?_
            refine WL.nil ?_
            refine WQ.blk ?_
            refine WQ.thn ?_
            refine WC.region ?_
            refine WL.pur (Pur.move rfl) ?_
            refine' WL.pur (Pur.bin rfl rfl ?h28_0) ?k28
            case h28_0 => first | (refine Bin.addN (b := 1) ?_; omega) | (refine Bin.addI ?_; omega)
            refine WL.pur (Pur.assign rfl) ?_
            refine WL.nil ?_
            refine WQ.back _ ⟨q + 1, rfl, by omega, hall2, by rw [mcl_max hp hk he2, Int.max_eq_right (by omega)], rfl, rfl⟩ (by omega) zcV zsL
          · refine WC.skip ?_
            refine WQ.blk ?_
            refine WQ.thn ?_
            refine WC.region ?_
            refine WL.pur (Pur.move rfl) ?_
            refine' WL.pur (Pur.bin rfl rfl ?h29_0) ?k29
            case h29_0 => first | (refine Bin.addN (b := 1) ?_; omega) | (refine Bin.addI ?_; omega)
            refine WL.pur (Pur.assign rfl) ?_
            refine WL.nil ?_
            refine WQ.back _ ⟨q + 1, rfl, by omega, hall2, by rw [mcl_max hp hk he2, Int.max_eq_left (by omega)], rfl, rfl⟩ (by omega) zcV zsL
      · have hmb := mcl_bound hnodes (e.node.ps.take q)
        rw [List.take_of_length_le (show e.node.ps.length ≤ q by omega)] at hall hmb ⊢
        have hne : ¬ ∃ p ∈ e.node.ps, idxOf l p = none := fun ⟨p, h1, h2⟩ => hall p h1 h2
        refine WC.exit ?_
        refine WQ.thn_exit ?_
        refine WQ.back_exit ?_
        refine WQ.blk_here ?_
        refine WQ.thn ?_
        refine WC.seq ?_
        refine WC.region ?_
        refine WL.pur (Pur.move rfl) ?_
        refine WL.pur (Pur.move rfl) ?_
        refine' WL.pur (Pur.indexAddr (eqA (hel (by omega))) rfl sl_22 ?h30_0) ?k30
        case h30_0 => omega
        refine WL.pur (Pur.fieldAddr rfl fo_45_1) ?_
        refine WL.pur (Pur.fieldAddr rfl fo_43_1) ?_
        refine' WL.pur (Pur.load1 rfl ty_3 ?h31_0) ?k31
        case h31_0 => first | (apply Rd.own1; exact zmE; rfl) | (apply RdV.rd; apply RdV.idx (i := 33); assumption; rfl) | (apply RdV.rd; apply RdV.idx (off := 0) (i := 33); assumption; rfl)
        refine WL.pur (Pur.move rfl) ?_
        refine' WL.pur (Pur.bin rfl rfl ?h32_0) ?k32
        case h32_0 => first | (refine Bin.addN (b := 1) ?_; omega) | (refine Bin.addI ?_; omega)
        refine' WL.pur (Pur.bin rfl rfl ?h33_0) ?k33
        case h33_0 => first | exact Bin.neN | exact Bin.neI
        refine WL.nil ?_
        refine WQ.thn ?_
        first | refine WC.cond rfl (fun hc9 => ?_) (fun hc9 => ?_) | refine WC.condB rfl (fun hc9 => ?_) (fun hc9 => ?_)
        · refine WC.seq ?_
          refine WC.region ?_
          refine WL.pur (Pur.move rfl) ?_
          refine WL.pur (Pur.assign rfl) ?_
          refine WL.pur (Pur.assign rfl) ?_
          refine WL.nil ?_
          refine WQ.thn ?_
          refine WC.ret ?_
          refine WQ.blk_ret ?_
          refine WQ.thn_ret ?_
          refine WQ.back_ret ?_
          refine WQ.blk_ret ?_
          refine WQ.thn_ret ?_
          refine WQ.le hle1 ?_
          refine WQ.ret2 Tryz.results94 rfl rfl [] zsL (View.le_refl _) ?_
          refine ⟨?_, rfl, rfl⟩
          have hpe : parErr l e = 51 := by unfold parErr; rw [if_neg hne, if_pos hc9]
          rw [herr, err2_at he, if_pos (by rw [hpe]; simp), hpe]
        · have hpe : parErr l e = 0 := by unfold parErr; rw [if_neg hne, if_neg hc9]
          refine WC.skip ?_
          refine WQ.blk ?_
          refine WQ.thn ?_
          refine WC.region ?_
          refine WL.pur (Pur.move rfl) ?_
          refine' WL.pur (Pur.bin rfl rfl ?h34_0) ?k34
          case h34_0 => first | (refine Bin.addN (b := 1) ?_; omega) | (refine Bin.addI ?_; omega)
          refine WL.pur (Pur.assign rfl) ?_
          refine WL.nil ?_
          refine WQ.back _ ⟨i + 1, rfl, by omega, by rw [herr, err2_at he, if_neg (by rw [hpe]; simp)], rfl, rfl, rfl⟩ (by omega) zcV zsL
    · refine WC.exit ?_
      refine WQ.thn_exit ?_
      refine WQ.back_exit ?_
      refine WQ.blk_here ?_
      refine WQ.thn ?_
      refine WC.seq ?_
      refine WC.region ?_
      refine WL.pur (Pur.assign rfl) ?_
      refine WL.pur (Pur.assign rfl) ?_
      refine WL.nil ?_
      refine WQ.thn ?_
      refine WC.ret ?_
      refine WQ.le hle1 ?_
      refine WQ.ret2 Tryz.results94 rfl rfl [] zsL (View.le_refl _) ?_
      refine ⟨?_, rfl, rfl⟩
      rw [herr, err2_end (by omega)]; rfl

end Go.Proofs.YtgoooilgmabkmaaGreat
namespace Go.Proofs.YtgoooilgmabkmaaGreat
open Go Go.Sl
set_option linter.unusedVariables false
set_option linter.unusedSimpArgs false
set_option maxRecDepth 100000

theorem row_in {N i : Nat} {f : Nat → Nat} {g : Nat → Value} (hg : ∀ k, k < N → g k = .int .i64 ((if k < i then f k else 0 : Nat) : Int)) : ∀ k, k < N → g k = .int .i64 ((if k < i then f k else if k = i then 0 else 0 : Nat) : Int) := fun k hk => by
  rw [hg k hk]; congr 2; split; rfl; split <;> rfl
theorem row_step {N i q : Nat} {f : Nat → Nat} {g : Nat → Value} (hg : ∀ k, k < N → g k = .int .i64 ((if k < i then f k else if k = i then q else 0 : Nat) : Int)) : ∀ k, k < N → (if k = i then (.int .i64 ((q + 1 : Nat) : Int)) else g k) = .int .i64 ((if k < i then f k else if k = i then q + 1 else 0 : Nat) : Int) := fun k hk => by
  by_cases h1 : k = i
  · subst h1; simp
  · rw [if_neg h1, hg k hk, if_neg h1, if_neg h1]
theorem row_out {N i q : Nat} {f : Nat → Nat} {g : Nat → Value} (hq : f i = q) (hg : ∀ k, k < N → g k = .int .i64 ((if k < i then f k else if k = i then q else 0 : Nat) : Int)) : ∀ k, k < N → g k = .int .i64 ((if k < i + 1 then f k else 0 : Nat) : Int) := fun k hk => by
  rw [hg k hk]; congr 2
  by_cases h1 : k < i
  · rw [if_pos h1, if_pos (by omega)]
  · by_cases h2 : k = i
    · subst h2; simp [hq]
    · rw [if_neg h1, if_neg h2, if_neg (by omega)]
theorem i64N {a b : Nat} (h : a = b) : Value.int .i64 (a : Int) = Value.int .i64 (b : Int) := by rw [h]

theorem r11_order (σ : View) (lv : Value) (l : List EntD) (h : Ents σ lv l) (hg : GoodE l) :
    Tri Tryz.prog 95 #[lv] σ [] (fun v σ' H' => (∃ h, SlO σ eNat 3 1 v (ordOf l) h ∧ H' = h) ∧ σ' = σ) := by
  have h' := h
  obtain ⟨la, lc, rfl, hlc, hlby⟩ := h.shape
  obtain ⟨lb, loff, hel⟩ := addr_of h
  have hmost := hg.most
  have hid : ∀ i, i < l.length → IsH (idAt l i) := fun i hi => (id_rd h' hel hi).2
  refine Tri.of_body [(0, .slice la l.length lc)] Tryz.func95 rfl Tryz.ntmps95 (by simp) rfl (fun Hr => ?_)
  rw [List.nil_append]
  refine WC.seq ?_
  refine WC.region ?_
  refine WL.pur (Pur.assign rfl) ?_
  refine WL.nil ?_
  refine WQ.thn ?_
  refine WC.seq ?_
  refine WC.region ?_
  refine WL.pur (Pur.move rfl) ?_
  refine WL.pur (Pur.move rfl) ?_
  refine WL.pur (Pur.len rfl isSlice_22) ?_
  refine WL.call (H0 := []) (Hr := Hr) rfl Tryz.call96 (List.Perm.refl _) (r11_ranked _ l _ 0 l.length _ h' rfl (by omega) (Nat.le_refl _)) ?_
  rintro v1 σ h1 ⟨⟨_, hs1, rfl⟩, rfl⟩ _
  refine WL.giveS (byt := 8) (H1 := []) (H2 := Hr) eNat_mono hs1 (by rw [rankL_len]; omega) rfl (fun σ1 hle1 hsl1 => ?_)
  rw [List.nil_append]
  have h' := h'.mono eEnt_mono hle1
  have hrk := rankL_ranked l
  obtain ⟨ra, rc, rfl, hrc, hrb⟩ := hsl1.shape
  obtain ⟨rb, roff, her⟩ := addr_of hsl1
  have hrlen := rankL_len l 0 l.length
  refine WL.pur (Pur.assign rfl) ?_
  refine WL.nil ?_
  refine WQ.thn ?_
  refine WC.seq ?_
  refine WC.region ?_
  refine WL.pur (Pur.move rfl) ?_
  refine WL.pur (Pur.len rfl isSlice_22) ?_
  refine WL.any (Any.make1 sl_72 zc_3 by_3 rfl rfl (by omega) (by omega)) ?_
  rintro _ σ _ ⟨b20, rfl, rfl, rfl⟩ _
  refine WL.pur (Pur.assign rfl) ?_
  refine WL.nil ?_
  refine WQ.thn ?_
  refine WC.seq ?_
  refine WC.region ?_
  refine WL.pur (Pur.move rfl) ?_
  refine WL.pur (Pur.len rfl isSlice_22) ?_
  refine WL.any (Any.make1 sl_227 zc_72 by_72 rfl rfl (by omega) (by omega)) ?_
  rintro _ σ _ ⟨b23, rfl, rfl, rfl⟩ _
  refine WL.pur (Pur.assign rfl) ?_
  refine WL.nil ?_
  refine WQ.thn ?_
  refine WC.seq ?_
  refine WC.seq ?_
  refine WC.region ?_
  refine WL.pur (Pur.assign rfl) ?_
  refine WL.nil ?_
  refine WQ.thn ?_
  refine WC.block ?_
  rw [replicate_range, replicate_range]
  refine WC.loop (fun j m σ' H' => ∃ (i : Nat) (svs : Nat → Value) (hs : Nat → HList) (g : Nat → Value), j = l.length - i ∧ i ≤ l.length ∧ KidsO σ' l.length (kidsF l i 0) svs hs ∧ (∀ k, k < l.length → g k = .int .i64 ((if k < i then (parsAt l k).length else 0 : Nat) : Int)) ∧ m = [(0, .slice la l.length lc), (3, .slice ra (rankL l 0 l.length).length rc), (4, .slice (some ⟨b20, 0, none⟩) l.length l.length), (5, .slice (some ⟨b23, 0, none⟩) l.length l.length), (6, .int .i64 (i : Int))] ∧ σ' = σ ∧ H' = (b23, rowO 72 ((List.range l.length).map svs)) :: (b20, rowO 3 ((List.range l.length).map g)) :: ((List.range l.length).flatMap hs ++ Hr)) ⟨0, fun _ => .slice none 0 0, fun _ => [], fun _ => .int .i64 0, rfl, by omega, fun n hn => by rw [kidsF_zero]; exact SlO.nil, fun k _ => by simp, rfl, rfl, rfl⟩ zcV (by rw [flat_nil]; exact List.Sublist.refl _) ?_
  rintro _ _ σ Hr ⟨i, svs, hs, g, rfl, hi, hk, hgr, rfl, rfl, rfl⟩
  refine WC.seq ?_
  refine WC.seq ?_
  refine WC.region ?_
  refine WL.pur (Pur.move rfl) ?_
  refine WL.pur (Pur.move rfl) ?_
  refine WL.pur (Pur.len rfl isSlice_22) ?_
  refine' WL.pur (Pur.bin rfl rfl ?h1_0) ?k1
  case h1_0 => first | exact Bin.ltN | exact Bin.ltI | exact Bin.ltS
  refine WL.nil ?_
  refine WQ.thn ?_
  first | refine WC.cond rfl (fun hc0 => ?_) (fun hc0 => ?_) | refine WC.condB rfl (fun hc0 => ?_) (fun hc0 => ?_)
  · obtain ⟨e, he⟩ : ∃ e, l[i]? = some e := ⟨_, List.getElem?_eq_getElem (by omega)⟩
    obtain ⟨pv, ov, hrd, heH, hNR⟩ := ent_rd h' hel he
    have hps' := hNR.1
    obtain ⟨pa, pc, rfl, hpc, hpb⟩ := hps'.shape
    obtain ⟨pb, poff, hep⟩ := addr_of hps'
    have hpa := parsAt_of he
    refine WC.skip ?_
    refine WQ.thn ?_
    refine WC.seq ?_
    refine WC.block ?_
    refine WC.seq ?_
    refine WC.region ?_
    refine WL.pur (Pur.assign rfl) ?_
    refine WL.nil ?_
    refine WQ.thn ?_
    refine WC.block ?_
    refine WC.loop (fun j m σ' H' => ∃ (q : Nat) (svs : Nat → Value) (hs : Nat → HList) (g : Nat → Value), j = e.node.ps.length - q ∧ q ≤ e.node.ps.length ∧ KidsO σ' l.length (kidsF l i q) svs hs ∧ (∀ k, k < l.length → g k = .int .i64 ((if k < i then (parsAt l k).length else if k = i then q else 0 : Nat) : Int)) ∧ m = [(0, .slice la l.length lc), (3, .slice ra (rankL l 0 l.length).length rc), (4, .slice (some ⟨b20, 0, none⟩) l.length l.length), (5, .slice (some ⟨b23, 0, none⟩) l.length l.length), (6, .int .i64 (i : Int)), (7, .int .i64 (q : Int))] ∧ σ' = σ ∧ H' = (b23, rowO 72 ((List.range l.length).map svs)) :: (b20, rowO 3 ((List.range l.length).map g)) :: ((List.range l.length).flatMap hs ++ Hr)) ⟨0, svs, hs, g, rfl, by omega, hk, row_in hgr, rfl, rfl, rfl⟩ zcV (by repeat (first | exact List.Sublist.refl _ | exact List.nil_sublist _ | apply List.Sublist.cons_cons | apply List.Sublist.cons | apply List.Sublist.append_left)) ?_
    rintro _ _ σ Hr ⟨q, svs2, hs2, g2, rfl, hq, hk2, hgr2, rfl, rfl, rfl⟩
    refine WC.seq ?_
    refine WC.seq ?_
    refine WC.region ?_
    refine WL.pur (Pur.move rfl) ?_
    refine WL.pur (Pur.move rfl) ?_
    refine WL.pur (Pur.move rfl) ?_
    refine' WL.pur (Pur.indexAddr (eqA (hel (by omega))) rfl sl_22 ?h2_0) ?k2
    case h2_0 => omega
    refine WL.pur (Pur.fieldAddr rfl fo_45_1) ?_
    refine WL.pur (Pur.fieldAddr rfl fo_43_2) ?_
    refine' WL.pur (Pur.load1 rfl ty_41 ?h3_0) ?k3
    case h3_0 => first | (apply Rd.own1; exact zmE; rfl) | (apply RdV.rd; apply RdV.idx (i := 34); assumption; rfl) | (apply RdV.rd; apply RdV.idx (off := 0) (i := 34); assumption; rfl)
    refine WL.pur (Pur.len rfl isSlice_41) ?_
    refine' WL.pur (Pur.bin rfl rfl ?h4_0) ?k4
    case h4_0 => first | exact Bin.ltN | exact Bin.ltI | exact Bin.ltS
    refine WL.nil ?_
    refine WQ.thn ?_
    first | refine WC.cond rfl (fun hc1 => ?_) (fun hc1 => ?_) | refine WC.condB rfl (fun hc1 => ?_) (fun hc1 => ?_)
    · obtain ⟨p, hp⟩ : ∃ p, e.node.ps[q]? = some p := ⟨_, List.getElem?_eq_getElem (by omega)⟩
      obtain ⟨hpr, hpH⟩ := hash_rd hps' hep hp
      have hpp : (parsAt l i)[q]? = some p := by rw [hpa]; exact hp
      obtain ⟨n0, e2, hn0, he2, hcl2⟩ := hg.par e (List.mem_of_getElem? he) p (List.mem_of_getElem? hp)
      have hn0l := (List.getElem?_eq_some_iff.1 he2).1
      have hgi : g2 i = .int .i64 (q : Int) := by rw [hgr2 i hc0]; simp
      refine WC.skip ?_
      refine WQ.thn ?_
      refine WC.seq ?_
      refine WC.block ?_
      refine WC.seq ?_
      refine WC.region ?_
      refine WL.pur (Pur.move rfl) ?_
      refine WL.pur (Pur.move rfl) ?_
      refine WL.pur (Pur.move rfl) ?_
      refine WL.pur (Pur.move rfl) ?_
      refine' WL.pur (Pur.indexAddr (eqA (hel (by omega))) rfl sl_22 ?h5_0) ?k5
      case h5_0 => omega
      refine WL.pur (Pur.fieldAddr rfl fo_45_1) ?_
      refine WL.pur (Pur.fieldAddr rfl fo_43_2) ?_
      refine' WL.pur (Pur.load1 rfl ty_41 ?h6_0) ?k6
      case h6_0 => first | (apply Rd.own1; exact zmE; rfl) | (apply RdV.rd; apply RdV.idx (i := 34); assumption; rfl) | (apply RdV.rd; apply RdV.idx (off := 0) (i := 34); assumption; rfl)
      refine WL.pur (Pur.move rfl) ?_
      refine' WL.pur (Pur.indexAddr (eqA (hep (by omega))) rfl sl_41 ?h7_0) ?k7
      case h7_0 => omega
      refine' WL.pur (Pur.loadN rfl ty_39 ?h8_0 ?h8_1) ?k8
      case h8_0 => exact RdV.rd hpr
      case h8_1 => first | rfl | assumption
      refine WL.callP rfl Tryz.call97 ((show TriP Tryz.prog 97 _ _ (.int .i64 (n0 : Int)) from by have := r11_find _ _ _ l _ p h' hsl1 hrk hg.nodup hpH; rw [hn0] at this; exact this)) ?_
      refine WL.pur (Pur.assign rfl) ?_
      refine WL.nil ?_
      refine WQ.thn ?_
      refine WC.seq ?_
      refine WC.region ?_
      refine WL.pur (Pur.move rfl) ?_
      refine WL.pur (Pur.move rfl) ?_
      refine WL.pur (Pur.move rfl) ?_
      refine WL.pur (Pur.move rfl) ?_
      refine' WL.pur (Pur.indexAddr rfl rfl sl_227 ?h9_0) ?k9
      case h9_0 => omega
      refine' WL.pur (Pur.load1 rfl ty_72 ?h10_0) ?k10
      case h10_0 => apply Rd.own1; exact zmE; exact get_range_map1 hn0l
      refine WL.pur (Pur.move rfl) ?_
      refine WL.new (New.buildSliceS (xs := [.tmp 59]) sl_72 zc_3 rfl rfl rfl (by rfl) (by rfl)) (fun b60 => ?_)
      refine' WL.any (Any.push (H1 := [(b60, _), (b23, _), (b20, _)] ++ (List.range n0).flatMap hs2) (H2 := (List.range' (n0 + 1) (l.length - (n0 + 1))).flatMap hs2 ++ Hr) sl_72 zc_3 rfl by_3 rfl rfl (hk2 n0 hn0l) ?h11_0 ?h11_1 ?h11_2 ?h11_3 (ksplit (pre := [(b60, _), (b23, _), (b20, _)]) hn0l) (by have := kidsF_len l i q n0; omega) (by have := kidsF_len l i q n0; omega)) ?k11
      case h11_0 => apply Rd.own_sub; exact zmE; exact Sub.refl _
      case h11_1 => first | rfl | assumption
      case h11_2 => first | rfl | assumption
      case h11_3 => first | rfl | exact ⟨rfl, by assumption⟩
      rintro v61 σ _ ⟨ho', hso', rfl, rfl⟩ _
      rw [kfold hn0l]
      have h1c := SlO.one_cell hso'
      refine' WL.pur (Pur.indexAddr rfl rfl sl_227 ?h12_0) ?k12
      case h12_0 => omega
      refine' WL.run0 (Run.storeF rfl rfl ty_72 (by first | rfl | assumption) ?h13_0 ?h13_1 sz_72) ?k13
      case h13_0 => repeat (first | exact Part.one | exact Part.here | apply Part.cons | apply Part.app)
      case h13_1 => first | assumption | omega
      refine WL.nil ?_
      refine WQ.thn ?_
      refine WC.region ?_
      refine WL.pur (Pur.move rfl) ?_
      refine WL.pur (Pur.move rfl) ?_
      refine' WL.pur (Pur.indexAddr rfl rfl sl_72 ?h14_0) ?k14
      case h14_0 => omega
      refine' WL.pur (Pur.load1 rfl ty_3 ?h15_0) ?k15
      case h15_0 => apply Rd.own1; exact zmE; exact (get_range_map1 hc0).trans (congrArg some hgi)
      refine' WL.pur (Pur.bin rfl rfl ?h16_0) ?k16
      case h16_0 => exact Bin.addN (a := q) (b := 1) (by omega)
      refine' WL.pur (Pur.indexAddr rfl rfl sl_72 ?h17_0) ?k17
      case h17_0 => omega
      refine' WL.run0 (Run.storeF rfl rfl ty_3 (by first | rfl | assumption) ?h18_0 ?h18_1 sz_3) ?k18
      case h18_0 => repeat (first | exact Part.one | exact Part.here | apply Part.cons | apply Part.app)
      case h18_1 => first | assumption | omega
      refine WL.nil ?_
      refine WQ.blk ?_
      refine WQ.thn ?_
      refine WC.region ?_
      refine WL.pur (Pur.move rfl) ?_
      refine' WL.pur (Pur.bin rfl rfl ?h19_0) ?k19
      case h19_0 => first | (refine Bin.addN (b := 1) ?_; omega) | (refine Bin.addI ?_; omega)
      refine WL.pur (Pur.assign rfl) ?_
      refine WL.nil ?_
      refine WQ.back _ ⟨q + 1, _, _, _, rfl, by omega, hk2.set hso' (fun k hk => kidsF_step hg hpp hn0 k hk), row_step hgr2, rfl, rfl, rfl⟩ (by omega) zcV (by repeat (first | exact List.Sublist.refl _ | exact List.nil_sublist _ | apply List.Sublist.cons_cons | apply List.Sublist.cons | apply List.Sublist.append_left))
    · refine WC.exit ?_
      refine WQ.thn_exit ?_
      refine WQ.back_exit ?_
      refine WQ.blk_here ?_
      refine WQ.blk ?_
      refine WQ.thn ?_
      refine WC.region ?_
      refine WL.pur (Pur.move rfl) ?_
      refine' WL.pur (Pur.bin rfl rfl ?h20_0) ?k20
      case h20_0 => first | (refine Bin.addN (b := 1) ?_; omega) | (refine Bin.addI ?_; omega)
      refine WL.pur (Pur.assign rfl) ?_
      refine WL.nil ?_
      refine WQ.back _ ⟨i + 1, svs2, hs2, g2, rfl, by omega, fun n hn => by rw [← kidsF_end (show (parsAt l i).length ≤ q by rw [hpa]; omega)]; exact hk2 n hn, row_out (by rw [hpa]; omega) hgr2, rfl, rfl, rfl⟩ (by omega) zcV (by repeat (first | exact List.Sublist.refl _ | exact List.nil_sublist _ | apply List.Sublist.cons_cons | apply List.Sublist.cons | apply List.Sublist.append_left))
  · have hil : i = l.length := by omega
    subst hil
    have hkk : KidsO σ l.length (kidsL l) svs hs := fun n hn => by rw [← kidsF_all]; exact hk n hn
    have hgr0 : ∀ k, k < l.length → g k = .int .i64 ((lackN l (ordN l 0) k : Nat) : Int) := fun k hk => by rw [hgr k hk, if_pos hk]; show _ = Value.int .i64 ((lackN l [] k : Nat) : Int); rw [lackN_nil l hg]
    refine WC.giveKids (bk := b23) (H1 := [(b20, _)]) (H2 := Hr) (fun n => by have := kidsL_len l n; omega) (by omega) hkk rfl (fun σ2 hle2 hkids => ?_)
    have h' := h'.mono eEnt_mono hle2
    have hsl1 := hsl1.mono eNat_mono hle2
    refine WC.exit ?_
    refine WQ.thn_exit ?_
    refine WQ.back_exit ?_
    refine WQ.blk_here ?_
    refine WQ.thn ?_
    refine WC.seq ?_
    refine WC.region ?_
    refine WL.new (New.buildSlice0 sl_72) (fun b69 => ?_)
    refine WL.pur (Pur.assign rfl) ?_
    refine WL.nil ?_
    refine WQ.thn ?_
    refine WC.seq ?_
    refine WC.region ?_
    refine WL.pur (Pur.move rfl) ?_
    refine WL.pur (Pur.len rfl isSlice_22) ?_
    refine WL.any (Any.make1 sl_181 zc_4 by_4 rfl rfl (by omega) (by omega)) ?_
    rintro _ σ _ ⟨b72, rfl, rfl, rfl⟩ _
    refine WL.pur (Pur.assign rfl) ?_
    refine WL.nil ?_
    refine WQ.thn ?_
    refine WC.seq ?_
    refine WC.block ?_
    rw [replicate_range]
    refine WC.loop (fun j m σ' H' => ∃ (n : Nat) (sv : Value) (ho : HList) (gp gl : Nat → Value), j = l.length - n ∧ n ≤ l.length ∧ SlO σ' eNat 3 1 sv (ordN l n) ho ∧ (∀ k, k < l.length → gp k = .bool (decide (k ∈ ordN l n))) ∧ (∀ k, k < l.length → gl k = .int .i64 ((lackN l (ordN l n) k : Nat) : Int)) ∧ m = [(0, .slice la l.length lc), (3, .slice ra (rankL l 0 l.length).length rc), (4, .slice (some ⟨b20, 0, none⟩) l.length l.length), (5, .slice (some ⟨b23, 0, none⟩) l.length l.length), (9, sv), (10, .slice (some ⟨b72, 0, none⟩) l.length l.length)] ∧ σ' = σ ∧ H' = (b72, rowO 4 ((List.range l.length).map gp)) :: (ho ++ (b20, rowO 3 ((List.range l.length).map gl)) :: Hr)) ⟨0, _, [(b69, rowO 3 [])], fun _ => .bool false, _, rfl, by omega, row_nil _ b69, fun k _ => by simp [ordN], hgr0, rfl, rfl, rfl⟩ zcV (by repeat (first | exact List.Sublist.refl _ | exact List.nil_sublist _ | apply List.Sublist.cons_cons | apply List.Sublist.cons | apply List.Sublist.append_left)) ?_
    rintro _ _ σ Hr ⟨n, sv, ho, gp, gl, rfl, hn, hso, hgp, hgl, rfl, rfl, rfl⟩
    obtain ⟨oa, oc, rfl, hoc⟩ := hso.shape
    have hon := ordN_len hg n hn
    refine WC.seq ?_
    refine WC.seq ?_
    refine WC.region ?_
    refine WL.pur (Pur.move rfl) ?_
    refine WL.pur (Pur.len rfl isSlice_72) ?_
    refine WL.pur (Pur.move rfl) ?_
    refine WL.pur (Pur.len rfl isSlice_22) ?_
    refine' WL.pur (Pur.bin rfl rfl ?h21_0) ?k21
    case h21_0 => first | exact Bin.ltN | exact Bin.ltI | exact Bin.ltS
    refine WL.nil ?_
    refine WQ.thn ?_
    first | refine WC.cond rfl (fun hc2 => ?_) (fun hc2 => ?_) | refine WC.condB rfl (fun hc2 => ?_) (fun hc2 => ?_)
    · refine WC.skip ?_
      refine WQ.thn ?_
      refine WC.block ?_
      refine WC.seq ?_
      refine WC.region ?_
      refine WL.pur (Pur.assign rfl) ?_
      refine WL.nil ?_
      refine WQ.thn ?_
      refine WC.seq ?_
      refine WC.seq ?_
      refine WC.region ?_
      refine WL.pur (Pur.assign rfl) ?_
      refine WL.nil ?_
      refine WQ.thn ?_
      refine WC.block ?_
      refine WC.loop (fun j m σ' H' => ∃ (s : Nat) (nx : Option Nat), j = (rankL l 0 l.length).length - s ∧ s ≤ (rankL l 0 l.length).length ∧ nx = ((rankL l 0 l.length).take s).find? (readyB l (ordN l n)) ∧ m = [(0, .slice la l.length lc), (3, .slice ra (rankL l 0 l.length).length rc), (4, .slice (some ⟨b20, 0, none⟩) l.length l.length), (5, .slice (some ⟨b23, 0, none⟩) l.length l.length), (9, .slice oa (ordN l n).length oc), (10, .slice (some ⟨b72, 0, none⟩) l.length l.length), (11, .int .i64 (numV nx)), (12, .int .i64 (s : Int))] ∧ σ' = σ ∧ H' = (b72, rowO 4 ((List.range l.length).map gp)) :: (ho ++ (b20, rowO 3 ((List.range l.length).map gl)) :: Hr)) ⟨0, none, rfl, by omega, rfl, rfl, rfl, rfl⟩ zcV (by repeat (first | exact List.Sublist.refl _ | exact List.nil_sublist _ | apply List.Sublist.cons_cons | apply List.Sublist.cons | apply List.Sublist.append_left)) ?_
      rintro _ _ σ Hr ⟨s, nx, rfl, hs2, hnx, rfl, rfl, rfl⟩
      refine WC.seq ?_
      refine WC.seq ?_
      refine WC.region ?_
      refine WL.pur (Pur.move rfl) ?_
      refine WL.pur (Pur.move rfl) ?_
      refine WL.pur (Pur.len rfl isSlice_72) ?_
      refine' WL.pur (Pur.bin rfl rfl ?h22_0) ?k22
      case h22_0 => first | exact Bin.ltN | exact Bin.ltI | exact Bin.ltS
      refine WL.pur (Pur.move rfl) ?_
      refine' WL.andp (u := 82) (t := 85) rfl ?h23_0 ?h23_1 ?h23_2 rfl ?k23
      case h23_0 =>
        intro hg82 K82
        refine WL.gpur (u := 82) rfl rfl (gT hg82) (Pur.move rfl) ?_
        refine' WL.gpur (u := 82) rfl rfl (gT hg82) (Pur.bin rfl rfl ?h24_0) ?k24
        case h24_0 => first | exact Bin.ltN (b := 0) | exact Bin.ltI | exact Bin.ltS
        exact K82 _ zcR rfl
      case h23_1 =>
        intro hg82 K82
        refine WL.gskip (u := 82) rfl rfl (sT hg82) ?_
        refine WL.gskip (u := 82) rfl rfl (sT hg82) ?_
        exact K82 _ zcR
      case h23_2 => exact Wanted.plain rfl
      refine WL.nil ?_
      refine WQ.thn ?_
      first | refine WC.cond rfl (fun hc3 => ?_) (fun hc3 => ?_) | refine WC.condB rfl (fun hc3 => ?_) (fun hc3 => ?_)
      · have hrl := nat_rd hsl1 her hc3.1
        have hkN : (rankL l 0 l.length).getD s 0 < l.length := (hrk.mem _).1 (getD_mem hc3.1)
        have hnone : nx = none := by cases nx with | none => rfl | some k => have := hc3.2; simp [numV] at this; omega
        have hfs := find_step (p := readyB l (ordN l n)) (getD_some hc3.1) (by rw [← hnx, hnone])
        refine WC.skip ?_
        refine WQ.thn ?_
        refine WC.seq ?_
        refine WC.block ?_
        refine WC.seq ?_
        refine WC.region ?_
        refine WL.pur (Pur.move rfl) ?_
        refine WL.pur (Pur.move rfl) ?_
        refine WL.pur (Pur.move rfl) ?_
        refine' WL.pur (Pur.indexAddr (eqA (her (by omega))) rfl sl_72 ?h25_0) ?k25
        case h25_0 => omega
        refine' WL.pur (Pur.load1 rfl ty_3 ?h26_0) ?k26
        case h26_0 => exact RdV.rd hrl
        refine' WL.pur (Pur.indexAddr rfl rfl sl_181 ?h27_0) ?k27
        case h27_0 => omega
        refine' WL.pur (Pur.load1 rfl ty_4 ?h28_0) ?k28
        case h28_0 => apply Rd.own1; exact zmE; exact get_row hgp hkN
        first | refine WL.pur (Pur.not rfl) ?_ | refine WL.pur (Pur.notB rfl) ?_
        refine WL.pur (Pur.move rfl) ?_
        refine' WL.andp (u := 96) (t := 105) rfl ?h29_0 ?h29_1 ?h29_2 rfl ?k29
        case h29_0 =>
          intro hg96 K96
          refine WL.gpur (u := 96) rfl rfl (gT hg96) (Pur.move rfl) ?_
          refine WL.gpur (u := 96) rfl rfl (gT hg96) (Pur.move rfl) ?_
          refine WL.gpur (u := 96) rfl rfl (gT hg96) (Pur.move rfl) ?_
          refine' WL.gpur (u := 96) rfl rfl (gT hg96) (Pur.indexAddr (eqA (her (by omega))) rfl sl_72 ?h30_0) ?k30
          case h30_0 => omega
          refine' WL.gpur (u := 96) rfl rfl (gT hg96) (Pur.load1 rfl ty_3 ?h31_0) ?k31
          case h31_0 => exact RdV.rd hrl
          refine' WL.gpur (u := 96) rfl rfl (gT hg96) (Pur.indexAddr rfl rfl sl_72 ?h32_0) ?k32
          case h32_0 => omega
          refine' WL.gpur (u := 96) rfl rfl (gT hg96) (Pur.load1 rfl ty_3 ?h33_0) ?k33
          case h33_0 => apply Rd.own1; exact zmE; exact get_row hgl hkN
          refine' WL.gpur (u := 96) rfl rfl (gT hg96) (Pur.bin rfl rfl ?h34_0) ?k34
          case h34_0 => first | exact Bin.eqN (b := 0) | exact Bin.eqI
          exact K96 _ zcR rfl
        case h29_1 =>
          intro hg96 K96
          refine WL.gskip (u := 96) rfl rfl (sT hg96) ?_
          refine WL.gskip (u := 96) rfl rfl (sT hg96) ?_
          refine WL.gskip (u := 96) rfl rfl (sT hg96) ?_
          refine WL.gskip (u := 96) rfl rfl (sT hg96) ?_
          refine WL.gskip (u := 96) rfl rfl (sT hg96) ?_
          refine WL.gskip (u := 96) rfl rfl (sT hg96) ?_
          refine WL.gskip (u := 96) rfl rfl (sT hg96) ?_
          refine WL.gskip (u := 96) rfl rfl (sT hg96) ?_
          exact K96 _ zcR
        case h29_2 => exact Wanted.plain rfl
        refine WL.nil ?_
        refine WQ.thn ?_
        first | refine WC.cond rfl (fun hc4 => ?_) (fun hc4 => ?_) | refine WC.condB rfl (fun hc4 => ?_) (fun hc4 => ?_)
        · have hrd1 : readyB l (ordN l n) ((rankL l 0 l.length).getD s 0) = true := readyB_iff.2 ⟨hkN, hc4.1, hc4.2⟩
          rw [hrd1] at hfs; simp only [if_true] at hfs
          refine WC.region ?_
          refine WL.pur (Pur.move rfl) ?_
          refine WL.pur (Pur.move rfl) ?_
          refine' WL.pur (Pur.indexAddr (eqA (her (by omega))) rfl sl_72 ?h35_0) ?k35
          case h35_0 => omega
          refine' WL.pur (Pur.load1 rfl ty_3 ?h36_0) ?k36
          case h36_0 => exact RdV.rd hrl
          refine WL.pur (Pur.assign rfl) ?_
          refine WL.nil ?_
          refine WQ.blk ?_
          refine WQ.thn ?_
          refine WC.region ?_
          refine WL.pur (Pur.move rfl) ?_
          refine' WL.pur (Pur.bin rfl rfl ?h37_0) ?k37
          case h37_0 => first | (refine Bin.addN (b := 1) ?_; omega) | (refine Bin.addI ?_; omega)
          refine WL.pur (Pur.assign rfl) ?_
          refine WL.nil ?_
          refine WQ.back _ ⟨s + 1, some ((rankL l 0 l.length).getD s 0), rfl, by omega, hfs.symm, rfl, rfl, rfl⟩ (by omega) zcV (by repeat (first | exact List.Sublist.refl _ | exact List.nil_sublist _ | apply List.Sublist.cons_cons | apply List.Sublist.cons | apply List.Sublist.append_left))
        · have hrd1 : readyB l (ordN l n) ((rankL l 0 l.length).getD s 0) = false := by cases hx : readyB l (ordN l n) ((rankL l 0 l.length).getD s 0) with | false => rfl | true => have := readyB_iff.1 hx; exact absurd ⟨this.2.1, this.2.2⟩ hc4
          rw [hrd1] at hfs; simp only [Bool.false_eq_true, if_false] at hfs
          rw [hnone]
          refine WC.skip ?_
          refine WQ.blk ?_
          refine WQ.thn ?_
          refine WC.region ?_
          refine WL.pur (Pur.move rfl) ?_
          refine' WL.pur (Pur.bin rfl rfl ?h38_0) ?k38
          case h38_0 => first | (refine Bin.addN (b := 1) ?_; omega) | (refine Bin.addI ?_; omega)
          refine WL.pur (Pur.assign rfl) ?_
          refine WL.nil ?_
          refine WQ.back _ ⟨s + 1, none, rfl, by omega, hfs.symm, rfl, rfl, rfl⟩ (by omega) zcV (by repeat (first | exact List.Sublist.refl _ | exact List.nil_sublist _ | apply List.Sublist.cons_cons | apply List.Sublist.cons | apply List.Sublist.append_left))
      · obtain ⟨i0, hi0⟩ := next_ex hg (show n < l.length by omega)
        have hnx2 : nx = some i0 := by
          cases hx : nx with
          | some i => rw [hx] at hnx; have := nextR_take hnx.symm; rw [hi0] at this; exact this.symm
          | none =>
            have hs2 : (rankL l 0 l.length).length ≤ s := by
              apply Classical.byContradiction; intro hcc
              exact hc3 ⟨by omega, by rw [hx]; simp [numV]⟩
            rw [List.take_of_length_le hs2] at hnx
            have : nextR l (ordN l n) = nx := hnx.symm
            rw [hi0, hx] at this; cases this
        rw [hnx2]
        simp only [numV]
        have hr0 := readyB_iff.1 (nextR_some hi0).1
        have hi0l := hr0.1
        obtain ⟨ka, kc, hkr, hke⟩ := kids_rd hkids hi0l
        obtain ⟨kb, koff, hek⟩ := addr_of hke
        have hklen := kidsL_len l i0
        refine WC.exit ?_
        refine WQ.thn_exit ?_
        refine WQ.back_exit ?_
        refine WQ.blk_here ?_
        refine WQ.thn ?_
        refine WC.seq ?_
        refine WC.region ?_
        refine WL.pur (Pur.move rfl) ?_
        refine WL.pur (Pur.move rfl) ?_
        refine' WL.pur (Pur.indexAddr rfl rfl sl_181 ?h39_0) ?k39
        case h39_0 => omega
        refine' WL.run0 (Run.storeF rfl rfl ty_4 (by first | rfl | assumption) ?h40_0 ?h40_1 sz_4) ?k40
        case h40_0 => repeat (first | exact Part.one | exact Part.here | apply Part.cons | apply Part.app)
        case h40_1 => first | assumption | omega
        refine WL.nil ?_
        refine WQ.thn ?_
        refine WC.seq ?_
        refine WC.region ?_
        refine WL.pur (Pur.move rfl) ?_
        refine WL.pur (Pur.move rfl) ?_
        refine WL.new (New.buildSliceS (xs := [.tmp 114]) sl_72 zc_3 rfl rfl rfl (by rfl) (by rfl)) (fun b115 => ?_)
        refine' WL.any (Any.push (H1 := [(b115, _), (b72, _)]) (H2 := (b20, _) :: Hr) sl_72 zc_3 rfl by_3 rfl rfl hso ?h41_0 ?h41_1 ?h41_2 ?h41_3 rfl (by omega) (by omega)) ?k41
        case h41_0 => apply Rd.own_sub; exact zmE; exact Sub.refl _
        case h41_1 => first | rfl | assumption
        case h41_2 => first | rfl | assumption
        case h41_3 => first | rfl | exact ⟨rfl, by assumption⟩
        rintro v116 σ _ ⟨ho', hso', rfl, rfl⟩ _
        refine WL.pur (Pur.assign rfl) ?_
        refine WL.nil ?_
        refine WQ.thn ?_
        refine WC.seq ?_
        refine WC.region ?_
        refine WL.pur (Pur.assign rfl) ?_
        refine WL.nil ?_
        refine WQ.thn ?_
        refine WC.block ?_
        refine WC.loop (fun j m σ' H' => ∃ (q : Nat) (gl4 : Nat → Value), j = (kidsL l i0).length - q ∧ q ≤ (kidsL l i0).length ∧ (∀ k, k < l.length → gl4 k = .int .i64 ((lackN l (ordN l n) k - (if k ∈ (kidsL l i0).take q then 1 else 0) : Nat) : Int)) ∧ m = [(0, .slice la l.length lc), (3, .slice ra (rankL l 0 l.length).length rc), (4, .slice (some ⟨b20, 0, none⟩) l.length l.length), (5, .slice (some ⟨b23, 0, none⟩) l.length l.length), (9, v116), (10, .slice (some ⟨b72, 0, none⟩) l.length l.length), (11, .int .i64 (i0 : Int)), (13, .int .i64 (q : Int))] ∧ σ' = σ ∧ H' = (b72, rowO 4 ((List.range l.length).map fun j => if j = i0 then .bool true else gp j)) :: (ho' ++ (b20, rowO 3 ((List.range l.length).map gl4)) :: Hr)) ⟨0, gl, rfl, by omega, fun k hk => by rw [hgl k hk]; simp, rfl, rfl, rfl⟩ zcV (by repeat (first | exact List.Sublist.refl _ | exact List.nil_sublist _ | apply List.Sublist.cons_cons | apply List.Sublist.cons | apply List.Sublist.append_left)) ?_
        rintro _ _ σ Hr ⟨q, gl4, rfl, hq, hgl4, rfl, rfl, rfl⟩
        refine WC.seq ?_
        refine WC.seq ?_
        refine WC.region ?_
        refine WL.pur (Pur.move rfl) ?_
        refine WL.pur (Pur.move rfl) ?_
        refine WL.pur (Pur.move rfl) ?_
        refine' WL.pur (Pur.indexAddr rfl rfl sl_227 ?h42_0) ?k42
        case h42_0 => omega
        refine' WL.pur (Pur.load1 rfl ty_72 ?h43_0) ?k43
        case h43_0 => exact RdV.rd hkr
        refine WL.pur (Pur.len rfl isSlice_72) ?_
        refine' WL.pur (Pur.bin rfl rfl ?h44_0) ?k44
        case h44_0 => first | exact Bin.ltN | exact Bin.ltI | exact Bin.ltS
        refine WL.nil ?_
        refine WQ.thn ?_
        first | refine WC.cond rfl (fun hc5 => ?_) (fun hc5 => ?_) | refine WC.condB rfl (fun hc5 => ?_) (fun hc5 => ?_)
        · have hkq := nat_rd hke hek hc5
          have hkm := getD_mem hc5
          have hk0 := (kidsL_lt hkm).1
          have hpos := kid_pos hg hi0 hkm
          have hgk : gl4 ((kidsL l i0).getD q 0) = .int .i64 ((lackN l (ordN l n) ((kidsL l i0).getD q 0) : Nat) : Int) := by rw [hgl4 _ hk0, if_neg (kid_take hc5)]; simp
          have hks := kid_step hc5 hgl4
          have hlkb := lackN_le hg (ordN l n) ((kidsL l i0).getD q 0)
          refine WC.skip ?_
          refine WQ.thn ?_
          refine WC.seq ?_
          refine WC.block ?_
          refine WC.region ?_
          refine WL.pur (Pur.move rfl) ?_
          refine WL.pur (Pur.move rfl) ?_
          refine WL.pur (Pur.move rfl) ?_
          refine' WL.pur (Pur.indexAddr rfl rfl sl_227 ?h45_0) ?k45
          case h45_0 => omega
          refine' WL.pur (Pur.load1 rfl ty_72 ?h46_0) ?k46
          case h46_0 => exact RdV.rd hkr
          refine WL.pur (Pur.move rfl) ?_
          refine' WL.pur (Pur.indexAddr (eqA (hek (by omega))) rfl sl_72 ?h47_0) ?k47
          case h47_0 => omega
          refine' WL.pur (Pur.load1 rfl ty_3 ?h48_0) ?k48
          case h48_0 => exact RdV.rd hkq
          refine' WL.pur (Pur.indexAddr rfl rfl sl_72 ?h49_0) ?k49
          case h49_0 => omega
          refine' WL.pur (Pur.load1 rfl ty_3 ?h50_0) ?k50
          case h50_0 => apply Rd.own1; exact zmE; exact (get_range_map1 hk0).trans (congrArg some hgk)
          refine' WL.pur (Pur.bin rfl rfl ?h51_0) ?k51
          case h51_0 => first | (refine Bin.subN (b := 1) ?_ ?_ <;> omega) | (refine Bin.subI ?_; omega)
          refine' WL.pur (Pur.indexAddr rfl rfl sl_72 ?h52_0) ?k52
          case h52_0 => omega
          refine' WL.run0 (Run.storeF rfl rfl ty_3 (by first | rfl | assumption) ?h53_0 ?h53_1 sz_3) ?k53
          case h53_0 => repeat (first | exact Part.one | exact Part.here | apply Part.cons | apply Part.app)
          case h53_1 => first | assumption | omega
          refine WL.nil ?_
          refine WQ.blk ?_
          refine WQ.thn ?_
          refine WC.region ?_
          refine WL.pur (Pur.move rfl) ?_
          refine' WL.pur (Pur.bin rfl rfl ?h54_0) ?k54
          case h54_0 => first | (refine Bin.addN (b := 1) ?_; omega) | (refine Bin.addI ?_; omega)
          refine WL.pur (Pur.assign rfl) ?_
          refine WL.nil ?_
          refine WQ.back _ ⟨q + 1, _, rfl, by omega, hks, rfl, rfl, rfl⟩ (by omega) zcV (by repeat (first | exact List.Sublist.refl _ | exact List.nil_sublist _ | apply List.Sublist.cons_cons | apply List.Sublist.cons | apply List.Sublist.append_left))
        · have hq2 : q = (kidsL l i0).length := by omega
          rw [hq2, List.take_of_length_le (Nat.le_refl _)] at hgl4
          refine WC.exit ?_
          refine WQ.thn_exit ?_
          refine WQ.back_exit ?_
          refine WQ.blk_here ?_
          refine WQ.blk ?_
          refine WQ.back _ ⟨n + 1, _, ho', _, _, rfl, by omega, by rw [ordN_succ hi0]; exact hso', placed_step hi0 hgp, lack_step hg hi0 hgl4, rfl, rfl, rfl⟩ (by omega) zcV (by repeat (first | exact List.Sublist.refl _ | exact List.nil_sublist _ | apply List.Sublist.cons_cons | apply List.Sublist.cons | apply List.Sublist.append_left))
    · have hnl : n = l.length := by omega
      refine WC.exit ?_
      refine WQ.thn_exit ?_
      refine WQ.back_exit ?_
      refine WQ.blk_here ?_
      refine WQ.thn ?_
      refine WC.seq ?_
      refine WC.region ?_
      refine WL.pur (Pur.move rfl) ?_
      refine WL.pur (Pur.assign rfl) ?_
      refine WL.nil ?_
      refine WQ.thn ?_
      refine WC.ret ?_
      refine WQ.le (View.le_trans hle1 hle2) ?_
      refine WQ.ret1 Tryz.results95 rfl ho (by repeat (first | exact List.Sublist.refl _ | exact List.nil_sublist _ | apply List.Sublist.cons_cons | apply List.Sublist.cons | apply List.Sublist.append_left)) (View.le_refl _) ?_
      subst hnl; exact ⟨⟨_, hso.nat, rfl⟩, rfl⟩

end Go.Proofs.YtgoooilgmabkmaaGreat
namespace Go.Proofs.YtgoooilgmabkmaaGreat
open Go Go.Sl
set_option linter.unusedVariables false
set_option linter.unusedSimpArgs false
set_option maxRecDepth 100000

theorem ty_229' : tyc Tryz.prog 229 = some none := by kernel_rfl
theorem m_Less (b : Addr) (args : Array Value) (w : World) : (callMethod (.iface 228 (.pointer (some b))) "Less" args).run Tryz.prog w = ((do let v ← loadVar 229 b; callFunc 297 (#[v] ++ args)) : Sem Next).run Tryz.prog w := by kernel_rfl
theorem m_Len (b : Addr) (args : Array Value) (w : World) : (callMethod (.iface 228 (.pointer (some b))) "Len" args).run Tryz.prog w = ((do let v ← loadVar 229 b; callFunc 151 (#[v] ++ args)) : Sem Next).run Tryz.prog w := by kernel_rfl
theorem m_Swap (b : Addr) (args : Array Value) (w : World) : (callMethod (.iface 228 (.pointer (some b))) "Swap" args).run Tryz.prog w = ((do let v ← loadVar 229 b; callFunc 300 (#[v] ++ args)) : Sem Next).run Tryz.prog w := by kernel_rfl
theorem m_Push (v : Value) (args : Array Value) (w : World) : (callMethod (.iface 228 v) "Push" args).run Tryz.prog w = (callFunc 299 (#[v] ++ args)).run Tryz.prog w := by kernel_rfl
theorem m_Pop (v : Value) (args : Array Value) (w : World) : (callMethod (.iface 228 v) "Pop" args).run Tryz.prog w = (callFunc 298 (#[v] ++ args)).run Tryz.prog w := by kernel_rfl
theorem mi39 (v : Value) (w : World) : (Instr.makeInterface 39 v).run Tryz.prog w = .ok (.iface 39 v) w := by kernel_rfl
theorem mi228 (v : Value) (w : World) : (Instr.makeInterface 228 v).run Tryz.prog w = .ok (.iface 228 v) w := by kernel_rfl
section
variable {σ : View} {H : HList} {b : Nat} {sv : Value}
theorem ready_load (hb : (b, rowO 229 [sv]) ∈ H) {w : World} (hs : St σ H w) : (loadVar 229 ⟨b, 0, none⟩).run Tryz.prog w = .ok sv w :=
  loadVar_run1 ty_229' (by have := (Rd.own1 (σ := σ) hb (off := 0) rfl).cell hs 0 sv rfl; simpa using this)
theorem d_Less (hb : (b, rowO 229 [sv]) ∈ H) (x y : Value) : ∀ w, St σ H w → (callMethod (.iface 228 (.pointer (some ⟨b, 0, none⟩))) "Less" [x, y].toArray).run Tryz.prog w = .ok (.enter 297 [sv, x, y].toArray) w := fun w hs => by
  rw [m_Less]; simp only [Sem.run_bind, ready_load hb hs, Result.andThen_ok]; exact Tryz.call297 _ w
theorem d_Swap (hb : (b, rowO 229 [sv]) ∈ H) (x y : Value) : ∀ w, St σ H w → (callMethod (.iface 228 (.pointer (some ⟨b, 0, none⟩))) "Swap" [x, y].toArray).run Tryz.prog w = .ok (.enter 300 [sv, x, y].toArray) w := fun w hs => by
  rw [m_Swap]; simp only [Sem.run_bind, ready_load hb hs, Result.andThen_ok]; exact Tryz.call300 _ w
theorem d_Len (hb : (b, rowO 229 [sv]) ∈ H) : ∀ w, St σ H w → (callMethod (.iface 228 (.pointer (some ⟨b, 0, none⟩))) "Len" [].toArray).run Tryz.prog w = .ok (.enter 151 [sv].toArray) w := fun w hs => by
  rw [m_Len]; simp only [Sem.run_bind, ready_load hb hs, Result.andThen_ok]; exact Tryz.call151 _ w
theorem d_Push (v x : Value) : ∀ w, St σ H w → (callMethod (.iface 228 v) "Push" [x].toArray).run Tryz.prog w = .ok (.enter 299 [v, x].toArray) w := fun w _ => by
  rw [m_Push]; exact Tryz.call299 _ w
theorem d_Pop (v : Value) : ∀ w, St σ H w → (callMethod (.iface 228 v) "Pop" [].toArray).run Tryz.prog w = .ok (.enter 298 [v].toArray) w := fun w _ => by
  rw [m_Pop]; exact Tryz.call298 _ w
end

theorem rd_Len (σ : View) (a : Option Addr) (n c : Nat) :
    TriP Tryz.prog 151 #[.slice a n c] σ (.int .i64 (n : Int)) := by
  refine Tri.of_body [(0, .slice a n c)] Tryz.func151 rfl Tryz.ntmps151 (by simp) rfl (fun Hr => ?_)
  rw [List.nil_append]
  refine WC.seq ?_
  refine WC.region ?_
  refine WL.pur (Pur.assign rfl) ?_
  refine WL.nil ?_
  refine WQ.thn ?_
  refine WC.seq ?_
  refine WC.region ?_
  refine WL.pur (Pur.move rfl) ?_
  refine WL.pur (Pur.len rfl isSlice_229) ?_
  refine WL.pur (Pur.assign rfl) ?_
  refine WL.nil ?_
  refine WQ.thn ?_
  refine WC.ret ?_
  refine WQ.ret1 Tryz.results151 rfl [] zsL (View.le_refl _) ?_
  refine ⟨?_, rfl, rfl⟩
  rfl

theorem rd_Less (σ : View) (b1 cap i j n : Nat) (hs : List Nat) (l : List Value) (h : HsRow hs cap l) (hn : hs.length = n) (hi : i < hs.length) (hj : j < hs.length) :
    Tri Tryz.prog 297 #[.slice (some ⟨b1, 0, none⟩) n cap, .int .i64 (i : Int), .int .i64 (j : Int)] σ [(b1, rowO 39 l)] (fun v σ' H' => v = .bool (decide (hs.getD i 0 < hs.getD j 0)) ∧ σ' = σ ∧ H' = [(b1, rowO 39 l)]) := by
  have hi1 := (h.2.2 i hi).2
  have hj1 := (h.2.2 j hj).2
  refine Tri.of_body [(0, .slice (some ⟨b1, 0, none⟩) n cap), (1, .int .i64 (i : Int)), (2, .int .i64 (j : Int))] Tryz.func297 rfl Tryz.ntmps297 (by simp) rfl (fun Hr => ?_)
  simp only [List.cons_append, List.nil_append]
  refine WC.seq ?_
  refine WC.region ?_
  refine WL.pur (Pur.assign rfl) ?_
  refine WL.nil ?_
  refine WQ.thn ?_
  refine WC.seq ?_
  refine WC.drawH 11 11 mixed (by kernel_rfl) rfl ?_
  refine SA.take 0 (by kernel_rfl) rfl rfl rfl (Wanted.plain rfl) zsL (View.le_refl _) (Pur.move rfl) ?_
  refine SA.take 1 (by kernel_rfl) rfl rfl rfl (Wanted.plain rfl) zsL (View.le_refl _) (Pur.move rfl) ?_
  refine' SA.take 2 (by kernel_rfl) rfl rfl rfl (Wanted.plain rfl) zsL (View.le_refl _) (Pur.indexAddr rfl rfl sl_229 ?h1_0) ?k1
  case h1_0 => omega
  refine' SA.take 3 (by kernel_rfl) rfl rfl rfl (Wanted.plain rfl) zsL (View.le_refl _) (Pur.loadN rfl ty_39 ?h2_0 ?h2_1) ?k2
  case h2_0 => exact h.rd (by first | exact List.Mem.head _ | (apply List.Mem.tail; exact List.Mem.head _)) hi
  case h2_1 => first | rfl | assumption
  refine SA.take 4 (by kernel_rfl) rfl rfl rfl (Wanted.plain rfl) zsL (View.le_refl _) (Pur.move rfl) ?_
  refine SA.take 5 (by kernel_rfl) rfl rfl rfl (Wanted.plain rfl) zsL (View.le_refl _) (Pur.move rfl) ?_
  refine' SA.take 6 (by kernel_rfl) rfl rfl rfl (Wanted.plain rfl) zsL (View.le_refl _) (Pur.indexAddr rfl rfl sl_229 ?h3_0) ?k3
  case h3_0 => omega
  refine' SA.take 7 (by kernel_rfl) rfl rfl rfl (Wanted.plain rfl) zsL (View.le_refl _) (Pur.loadN rfl ty_39 ?h4_0 ?h4_1) ?k4
  case h4_0 => exact h.rd (by exact List.Mem.head _) hj
  case h4_1 => first | rfl | assumption
  refine SA.callR 8 (H1 := []) (Hr := _) rfl rfl (Wanted.plain rfl) (by kernel_rfl) rfl Tryz.call200 (List.Perm.refl _) (.inr ⟨List.Sublist.refl _, View.le_refl _⟩) (sha_Compare _ _ _ hi1 hj1) ?_
  rintro _ _ _ ⟨rfl, rfl, rfl⟩ _
  rw [List.nil_append]
  refine' SA.take 9 (by kernel_rfl) rfl rfl rfl (Wanted.plain rfl) zsL (View.le_refl _) (Pur.bin rfl rfl ?h5_0) ?k5
  case h5_0 => first | exact Bin.ltN (b := 0) | exact Bin.ltI | exact Bin.ltS
  refine SA.take 10 (by kernel_rfl) rfl rfl rfl (Wanted.plain rfl) zsL (View.le_refl _) (Pur.assign rfl) ?_
  refine SA.done (by kernel_rfl) ?_
  refine WQ.thn ?_
  refine WC.ret ?_
  refine WQ.ret1 Tryz.results297 rfl [(b1, rowO 39 l)] zsL (View.le_refl _) ?_
  exact ⟨decB cmpH_lt, rfl, rfl⟩

theorem rd_Swap (σ : View) (b1 cap i j n : Nat) (hs : List Nat) (l : List Value) (h : HsRow hs cap l) (hn : hs.length = n) (hi : i < hs.length) (hj : j < hs.length) :
    Tri Tryz.prog 300 #[.slice (some ⟨b1, 0, none⟩) n cap, .int .i64 (i : Int), .int .i64 (j : Int)] σ [(b1, rowO 39 l)] (fun v σ' H' => (∃ l', HsRow (swapL hs i j) cap l' ∧ H' = [(b1, rowO 39 l')]) ∧ σ' = σ) := by
  have hi1 := (h.2.2 i hi).2
  have hj1 := (h.2.2 j hj).2
  have h1 := h.put (i := i) (x := hs.getD j 0) hi hj1
  have h2 := h1.put (i := j) (x := hs.getD i 0) (by simpa using hj) hi1
  have hb1 := h.bound hi
  have hb2 := h1.bound (i := j) (by simpa using hj)
  refine Tri.of_body [(0, .slice (some ⟨b1, 0, none⟩) n cap), (1, .int .i64 (i : Int)), (2, .int .i64 (j : Int))] Tryz.func300 rfl Tryz.ntmps300 (by simp) rfl (fun Hr => ?_)
  simp only [List.cons_append, List.nil_append]
  refine WC.drawH 12 16 mixed (by kernel_rfl) rfl ?_
  refine SA.takeW 0 (by kernel_rfl) rfl rfl rfl (Wanted.plain rfl) (tells_move rfl) ?_
  refine SA.takeW 1 (by kernel_rfl) rfl rfl rfl (Wanted.plain rfl) (tells_move rfl) ?_
  refine SA.takeW 2 (by kernel_rfl) rfl rfl rfl (Wanted.plain rfl) (tells_move rfl) ?_
  refine SA.takeW 3 (by kernel_rfl) rfl rfl rfl (Wanted.plain rfl) (tells_move rfl) ?_
  refine SA.takeW 4 (by kernel_rfl) rfl rfl rfl (Wanted.plain rfl) (tells_move rfl) ?_
  refine SA.takeW 5 (by kernel_rfl) rfl rfl rfl (Wanted.plain rfl) (tells_move rfl) ?_
  refine' SA.takeP 6 (by kernel_rfl) rfl rfl rfl (Wanted.plain rfl) (fun _ _ => Pur.indexAddr rfl rfl sl_229 ?h1_0) ?k1
  case h1_0 => omega
  refine' SA.take 7 (by kernel_rfl) rfl rfl rfl (Wanted.plain rfl) zsL (View.le_refl _) (Pur.loadN rfl ty_39 ?h2_0 ?h2_1) ?k2
  case h2_0 => exact h.rd (by exact List.Mem.head _) hj
  case h2_1 => first | rfl | assumption
  refine SA.takeW 8 (by kernel_rfl) rfl rfl rfl (Wanted.plain rfl) (tells_move rfl) ?_
  refine SA.takeW 9 (by kernel_rfl) rfl rfl rfl (Wanted.plain rfl) (tells_move rfl) ?_
  refine' SA.takeP 10 (by kernel_rfl) rfl rfl rfl (Wanted.plain rfl) (fun _ _ => Pur.indexAddr rfl rfl sl_229 ?h3_0) ?k3
  case h3_0 => omega
  refine' SA.take 11 (by kernel_rfl) rfl rfl rfl (Wanted.plain rfl) zsL (View.le_refl _) (Pur.loadN rfl ty_39 ?h4_0 ?h4_1) ?k4
  case h4_0 => exact h.rd (by exact List.Mem.head _) hi
  case h4_1 => first | rfl | assumption
  refine' SA.run 12 rfl (fun _ e => by cases e; rfl) (Wanted.plain rfl) (by kernel_rfl) (Pur.run (Pur.indexAddr rfl rfl sl_229 ?h5_0)) (.inl (by decide)) ?k5
  case h5_0 => omega
  refine' SA.run 13 rfl (fun _ e => by cases e) (Wanted.plain rfl) (by kernel_rfl) (Run.storeN rfl rfl ty_39 rfl rfl Part.one (by rw [hashCells_length]; exact hb1)) (.inl (by decide)) ?k6
  refine' SA.run 14 rfl (fun _ e => by cases e; rfl) (Wanted.plain rfl) (by kernel_rfl) (Pur.run (Pur.indexAddr rfl rfl sl_229 ?h7_0)) (.inl (by decide)) ?k7
  case h7_0 => omega
  refine' SA.run 15 rfl (fun _ e => by cases e) (Wanted.plain rfl) (by kernel_rfl) (Run.storeN rfl rfl ty_39 rfl rfl Part.one (by rw [hashCells_length]; exact hb2)) (.inl (by decide)) ?k8
  refine SA.done (by kernel_rfl) ?_
  refine WQ.ret0 Tryz.results300 [(b1, rowO 39 (lput (lput l (0 + i * 32) (hashCells (hs.getD j 0))) (0 + j * 32) (hashCells (hs.getD i 0))))] (.inr rfl) zsL (View.le_refl _) ?_
  exact ⟨⟨_, h2, rfl⟩, rfl⟩

theorem rd_Push (σ : View) (b x : Nat) (sv : Value) (hs : List Nat) (h : HList) (hso : SlO σ eHash 39 32 sv hs h) (hx : IsH x) (hb : hs.length ≤ 100000) :
    Tri Tryz.prog 299 #[.pointer (some ⟨b, 0, none⟩), .iface 39 (hashV x)] σ (h ++ [(b, rowO 229 [sv])]) (fun v σ' H' => (∃ sv' h', SlO σ eHash 39 32 sv' (hs ++ [x]) h' ∧ H' = h' ++ [(b, rowO 229 [sv'])]) ∧ σ' = σ) := by
  refine Tri.of_body [(0, .pointer (some ⟨b, 0, none⟩)), (1, .iface 39 (hashV x))] Tryz.func299 rfl Tryz.ntmps299 (by simp) rfl (fun Hr => ?_)
  simp only [List.append_assoc, List.cons_append, List.nil_append]
  refine WC.draw 8 10 ((b, rowO 229 [sv]) :: Hr) mixed (by kernel_rfl) rfl ?_
  refine SA.takeW 0 (by kernel_rfl) rfl rfl rfl (Wanted.plain rfl) (tells_move rfl) ?_
  refine SA.takeW 1 (by kernel_rfl) rfl rfl rfl (Wanted.plain rfl) (tells_move rfl) ?_
  refine SA.takeP 2 (by kernel_rfl) rfl rfl rfl (Wanted.plain rfl) (fun _ _ => Pur.nilCheck rfl) ?_
  refine' SA.take 3 (by kernel_rfl) rfl rfl rfl (Wanted.plain rfl) zsL (View.le_refl _) (Pur.load1 rfl ty_229 ?h1_0) ?k1
  case h1_0 => first | (apply Rd.own1; exact zmE; rfl) | exact RdV.rd (by assumption)
  refine SA.takeW 4 (by kernel_rfl) rfl rfl rfl (Wanted.plain rfl) (tells_move rfl) ?_
  refine SA.takeP 5 (by kernel_rfl) rfl rfl rfl (Wanted.plain rfl) (fun _ _ => Pur.typeAssert rfl isPlainT_39) ?_
  refine SA.new 6 rfl rfl rfl (Wanted.plain rfl) (by kernel_rfl) (New.buildSliceN (xs := [.tmp 9]) (vss := [hashCells x]) sl_229 zc_39 rfl rfl rfl (by rfl) (by rfl)) (.inr ⟨zsL, View.le_refl _⟩) (fun b10 => ?_)
  refine' SA.any 7 rfl rfl rfl (Wanted.plain rfl) (by kernel_rfl) (Any.push (H1 := [(b10, _)]) (H2 := (b, _) :: Hr) sl_229 zc_39 rfl by_39 rfl rfl hso ?h2_0 ?h2_1 ?h2_2 ?h2_3 rfl (by omega) (by omega)) (fun _ _ _ hJ => .inr ⟨by (obtain ⟨_, _, hσ, hH⟩ := hJ; subst hH; (try simp only [List.append_assoc, List.cons_append, List.nil_append]); exact zsL), View.le_refl _⟩) ?k2
  case h2_0 => apply Rd.own_sub; exact zmE; exact Sub.refl _
  case h2_1 => first | rfl | assumption
  case h2_2 => first | rfl | assumption
  case h2_3 => exact ⟨rfl, hx⟩
  rintro v11 σ _ ⟨ho', hso', rfl, rfl⟩ _
  have h1c := SlO.one_cell hso'
  refine SA.run 8 rfl (fun _ e => by cases e; rfl) (Wanted.plain rfl) (by kernel_rfl) (Pur.run (Pur.nilCheck rfl)) (.inl (by decide)) ?_
  refine' SA.run 9 rfl (fun _ e => by cases e) (Wanted.plain rfl) (by kernel_rfl) (Run.store1 rfl rfl ty_229 (by first | rfl | assumption) ?h3_0 ?h3_1 sz_229) (.inl (by decide)) ?k3
  case h3_0 => repeat (first | exact Part.one | exact Part.here | apply Part.cons | apply Part.app)
  case h3_1 => exact Nat.zero_lt_one
  refine SA.done (by kernel_rfl) ?_
  refine WQ.ret0 Tryz.results299 (ho' ++ [(b, rowO 229 [v11])]) (.inr rfl) (by simp only [List.nil_append, List.append_assoc, List.cons_append, List.set_cons_zero]; exact List.Sublist.cons _ (List.Sublist.refl _)) (View.le_refl _) ?_
  exact ⟨⟨_, _, hso', rfl⟩, rfl⟩

theorem rd_Pop (σ : View) (b b1 cap n : Nat) (hs : List Nat) (l : List Value) (h : HsRow hs cap l) (hn : hs.length = n + 1) (hb : hs.length ≤ 100001) :
    Tri Tryz.prog 298 #[.pointer (some ⟨b, 0, none⟩)] σ [(b1, rowO 39 l), (b, rowO 229 [.slice (some ⟨b1, 0, none⟩) (n + 1) cap])] (fun v σ' H' => v = .iface 39 (hashV (hs.getD n 0)) ∧ σ' = σ ∧ H' = [(b1, rowO 39 l), (b, rowO 229 [.slice (some ⟨b1, 0, none⟩) n cap])]) := by
  have hcap := h.2.1
  refine Tri.of_body [(0, .pointer (some ⟨b, 0, none⟩))] Tryz.func298 rfl Tryz.ntmps298 (by simp) rfl (fun Hr => ?_)
  simp only [List.cons_append, List.nil_append]
  refine WC.seq ?_
  refine WC.region ?_
  refine WL.pur (Pur.assign rfl) ?_
  refine WL.nil ?_
  refine WQ.thn ?_
  refine WC.seq ?_
  refine WC.region ?_
  refine WL.pur (Pur.move rfl) ?_
  refine WL.pur (Pur.nilCheck rfl) ?_
  refine' WL.pur (Pur.load1 rfl ty_229 ?h1_0) ?k1
  case h1_0 => first | (apply Rd.own1; exact zmE; rfl) | exact RdV.rd (by assumption)
  refine WL.pur (Pur.assign rfl) ?_
  refine WL.nil ?_
  refine WQ.thn ?_
  refine WC.seq ?_
  refine WC.region ?_
  refine WL.pur (Pur.move rfl) ?_
  refine WL.pur (Pur.move rfl) ?_
  refine WL.pur (Pur.len rfl isSlice_229) ?_
  refine' WL.pur (Pur.bin rfl rfl ?h2_0) ?k2
  case h2_0 => exact Bin.subK (c := n) (by omega) (by omega)
  refine' WL.pur (Pur.indexAddr rfl rfl sl_229 ?h3_0) ?k3
  case h3_0 => omega
  refine' WL.pur (Pur.loadN rfl ty_39 ?h4_0 ?h4_1) ?k4
  case h4_0 => exact h.rd (by exact List.Mem.head _) (by omega)
  case h4_1 => first | rfl | assumption
  refine WL.new (New.alloc zc_39) (fun b4 => ?_)
  refine' WL.run0 (Run.storeAll rfl rfl ty_39 ?h5_0 (by first | rfl | assumption) ?h5_1 (by first | rfl | assumption)) ?k5
  case h5_0 => repeat (first | exact Part.one | exact Part.here | apply Part.cons | apply Part.app)
  case h5_1 => first | rfl | assumption
  refine WL.nil ?_
  refine WQ.thn ?_
  refine WC.seq ?_
  refine WC.region ?_
  refine WL.pur (Pur.move rfl) ?_
  refine WL.pur (Pur.move rfl) ?_
  refine WL.pur (Pur.move rfl) ?_
  refine WL.pur (Pur.len rfl isSlice_229) ?_
  refine' WL.pur (Pur.bin rfl rfl ?h6_0) ?k6
  case h6_0 => exact Bin.subK (c := n) (by omega) (by omega)
  refine WL.pur (Pur.sliceT rfl rfl sl_229 (by omega)) ?_
  refine WL.pur (Pur.nilCheck rfl) ?_
  refine' WL.run0 (Run.store1 rfl rfl ty_229 (by first | rfl | assumption) ?h7_0 ?h7_1 sz_229) ?k7
  case h7_0 => repeat (first | exact Part.one | exact Part.here | apply Part.cons | apply Part.app)
  case h7_1 => exact Nat.zero_lt_one
  refine WL.nil ?_
  refine WQ.thn ?_
  refine WC.seq ?_
  refine WC.region ?_
  refine' WL.pur (Pur.loadN rfl ty_39 ?h8_0 ?h8_1) ?k8
  case h8_0 => first | (apply Rd.own_sub; exact zmE; exact Sub.refl _) | (apply RdV.rd; assumption)
  case h8_1 => first | rfl | assumption
  refine WL.pur (Pur.makeInterface rfl (mi39 _)) ?_
  refine WL.pur (Pur.assign rfl) ?_
  refine WL.nil ?_
  refine WQ.thn ?_
  refine WC.ret ?_
  refine WQ.ret1 Tryz.results298 rfl [(b1, rowO 39 l), (b, rowO 229 [.slice (some ⟨b1, 0, none⟩) n cap])] zsL (View.le_refl _) ?_
  exact ⟨rfl, rfl, rfl⟩

end Go.Proofs.YtgoooilgmabkmaaGreat
namespace Go.Proofs.YtgoooilgmabkmaaGreat
open Go Go.Sl
set_option linter.unusedVariables false
set_option linter.unusedSimpArgs false
set_option maxRecDepth 100000

theorem heap_up (σ : View) (b b1 cap n j0 : Nat) (hs : List Nat) (l : List Value) (h : HsRow hs cap l) (hn : hs.length = n) (hu : UpInv hs n j0) (hb : n ≤ 100001) :
    Tri Tryz.prog 181 #[.iface 228 (.pointer (some ⟨b, 0, none⟩)), .int .i64 (j0 : Int)] σ [(b1, rowO 39 l), (b, rowO 229 [.slice (some ⟨b1, 0, none⟩) n cap])] (fun v σ' H' => (∃ gs g2, HsRow gs cap g2 ∧ gs.length = n ∧ gs.Perm hs ∧ HeapN gs n ∧ H' = [(b1, rowO 39 g2), (b, rowO 229 [.slice (some ⟨b1, 0, none⟩) n cap])]) ∧ σ' = σ) := by
  refine Tri.of_body [(0, .iface 228 (.pointer (some ⟨b, 0, none⟩))), (1, .int .i64 (j0 : Int))] Tryz.func181 rfl Tryz.ntmps181 (by simp) rfl (fun Hr => ?_)
  simp only [List.cons_append, List.nil_append]
  refine WC.block ?_
  refine WC.loop (fun q m σ' H' => ∃ (j : Nat) (gs : List Nat) (g2 : List Value), q = j ∧ HsRow gs cap g2 ∧ gs.length = n ∧ gs.Perm hs ∧ UpInv gs n j ∧ m = [(0, .iface 228 (.pointer (some ⟨b, 0, none⟩))), (1, .int .i64 (j : Int))] ∧ σ' = σ ∧ H' = (b1, rowO 39 g2) :: (b, rowO 229 [.slice (some ⟨b1, 0, none⟩) n cap]) :: Hr) ⟨j0, hs, l, rfl, h, hn, List.Perm.refl _, hu, rfl, rfl, rfl⟩ zcV zsL ?_
  rintro _ _ σ Hr ⟨j, gs, g2, hqj, hrow, hlen, hperm, hinv, rfl, rfl, rfl⟩
  have hjl := hinv.lt
  have hpj : par j ≤ j := by unfold par; omega
  refine WC.block ?_
  refine WC.seq ?_
  refine WC.region ?_
  refine WL.pur (Pur.move rfl) ?_
  refine' WL.pur (Pur.bin rfl rfl ?h1_0) ?k1
  case h1_0 => exact Bin.subI (by omega)
  refine' WL.pur (Pur.bin rfl rfl ?h2_0) ?k2
  case h2_0 => exact Bin.quoPar (by omega)
  refine WL.pur (Pur.assign rfl) ?_
  refine WL.nil ?_
  refine WQ.thn ?_
  refine WC.seq ?_
  refine WC.seq ?_
  refine WC.region ?_
  refine WL.pur (Pur.move rfl) ?_
  refine WL.pur (Pur.move rfl) ?_
  refine' WL.pur (Pur.bin rfl rfl ?h3_0) ?k3
  case h3_0 => first | exact Bin.eqN | exact Bin.eqI
  refine WL.pur (Pur.move rfl) ?_
  refine' WL.orp (u := 11) (t := 17) rfl ?h4_0 ?h4_1 ?h4_2 rfl ?k4
  case h4_0 =>
    intro hg11 K11
    refine WL.gpur (u := 11) rfl rfl (gF hg11) (Pur.move rfl) ?_
    refine WL.gpur (u := 11) rfl rfl (gF hg11) (Pur.move rfl) ?_
    refine WL.gpur (u := 11) rfl rfl (gF hg11) (Pur.move rfl) ?_
    refine WL.gcallI (u := 11) rfl rfl (gF hg11) (H0 := [(b1, rowO 39 g2)]) (Hr := (b, rowO 229 [.slice (some ⟨b1, 0, none⟩) n cap]) :: Hr) rfl rfl (d_Less (sv := .slice (some ⟨b1, 0, none⟩) n cap) (by first | exact List.Mem.head _ | (apply List.Mem.tail; first | exact List.Mem.head _ | (apply List.Mem.tail; exact List.Mem.head _))) _ _) (List.Perm.refl _) (rd_Less _ b1 cap j (par j) n gs g2 hrow hlen (by omega) (by omega)) ?_
    intro vx σx Hx hR _
    obtain ⟨hv, hσ, hH⟩ := hR
    rw [hv, hσ, hH, List.cons_append, List.nil_append]
    first | refine WL.gpur (u := 11) rfl rfl (gF hg11) (Pur.not rfl) ?_ | refine WL.gpur (u := 11) rfl rfl (gF hg11) (Pur.notB rfl) ?_
    exact K11 _ zcR rfl
  case h4_1 =>
    intro hg11 K11
    refine WL.gskip (u := 11) rfl rfl (sF hg11) ?_
    refine WL.gskip (u := 11) rfl rfl (sF hg11) ?_
    refine WL.gskip (u := 11) rfl rfl (sF hg11) ?_
    refine WL.gskip (u := 11) rfl rfl (sF hg11) ?_
    refine WL.gskip (u := 11) rfl rfl (sF hg11) ?_
    exact K11 _ zcR
  case h4_2 => exact Wanted.plain rfl
  refine WL.nil ?_
  refine WQ.thn ?_
  first | refine WC.cond rfl (fun hc0 => ?_) (fun hc0 => ?_) | refine WC.condB rfl (fun hc0 => ?_) (fun hc0 => ?_)
  · refine WC.exit ?_
    refine WQ.thn_exit ?_
    refine WQ.blk_on rfl ?_
    refine WQ.back_exit ?_
    refine WQ.blk_here ?_
    refine WQ.ret0 Tryz.results181 [(b1, rowO 39 g2), (b, rowO 229 [.slice (some ⟨b1, 0, none⟩) n cap])] (.inr rfl) zsL (View.le_refl _) ?_
    exact ⟨⟨gs, g2, hrow, hlen, hperm, hinv.done (by rcases hc0 with h | h; exact .inl (by unfold par at h; omega); exact .inr h), rfl⟩, rfl⟩
  · have hj0 : 0 < j := by rcases Nat.eq_zero_or_pos j with h0 | h0; exact absurd (.inl (by subst h0; rfl)) hc0; exact h0
    have hltj : gs.getD j 0 < gs.getD (par j) 0 := Decidable.not_not.1 (fun h => hc0 (.inr h))
    refine WC.skip ?_
    refine WQ.thn ?_
    refine WC.seq ?_
    refine WC.region ?_
    refine WL.pur (Pur.move rfl) ?_
    refine WL.pur (Pur.move rfl) ?_
    refine WL.pur (Pur.move rfl) ?_
    refine WL.callI (H0 := [(b1, rowO 39 g2)]) (Hr := (b, rowO 229 [.slice (some ⟨b1, 0, none⟩) n cap]) :: Hr) rfl rfl (d_Swap (sv := .slice (some ⟨b1, 0, none⟩) n cap) (by first | exact List.Mem.head _ | (apply List.Mem.tail; first | exact List.Mem.head _ | (apply List.Mem.tail; exact List.Mem.head _))) _ _) (List.Perm.refl _) (rd_Swap _ b1 cap (par j) j n gs g2 hrow hlen (by omega) (by omega)) ?_
    rintro vx σ _ ⟨⟨g3, hrow3, rfl⟩, rfl⟩ _
    rw [List.cons_append, List.nil_append]
    refine WL.nil ?_
    refine WQ.thn ?_
    refine WC.region ?_
    refine WL.pur (Pur.move rfl) ?_
    refine WL.pur (Pur.assign rfl) ?_
    refine WL.nil ?_
    refine WQ.blk ?_
    refine WQ.back _ ⟨par j, swapL gs (par j) j, g3, rfl, hrow3, by rw [swapL_len]; exact hlen, (swapL_perm (by omega) (by omega)).trans hperm, hinv.step (by omega) hj0 hltj, rfl, rfl, rfl⟩ (by omega) zcV zsL

theorem heap_down (σ : View) (b b1 cap n n0 : Nat) (hs : List Nat) (l : List Value) (h : HsRow hs cap l) (hn : hs.length = n) (hn0 : n0 ≤ n) (hu : DownInv hs n0 0) (hb : n ≤ 100001) :
    Tri Tryz.prog 182 #[.iface 228 (.pointer (some ⟨b, 0, none⟩)), .int .i64 0, .int .i64 (n0 : Int)] σ [(b1, rowO 39 l), (b, rowO 229 [.slice (some ⟨b1, 0, none⟩) n cap])] (fun v σ' H' => (∃ gs g2, HsRow gs cap g2 ∧ gs.length = n ∧ gs.Perm hs ∧ HeapN gs n0 ∧ (∀ k, n0 ≤ k → gs.getD k 0 = hs.getD k 0) ∧ H' = [(b1, rowO 39 g2), (b, rowO 229 [.slice (some ⟨b1, 0, none⟩) n cap])]) ∧ σ' = σ) := by
  refine Tri.of_body [(0, .iface 228 (.pointer (some ⟨b, 0, none⟩))), (1, .int .i64 0), (2, .int .i64 (n0 : Int))] Tryz.func182 rfl Tryz.ntmps182 (by simp) rfl (fun Hr => ?_)
  simp only [List.cons_append, List.nil_append]
  refine WC.seq ?_
  refine WC.region ?_
  refine WL.pur (Pur.assign rfl) ?_
  refine WL.nil ?_
  refine WQ.thn ?_
  refine WC.seq ?_
  refine WC.region ?_
  refine WL.pur (Pur.move rfl) ?_
  refine WL.pur (Pur.assign rfl) ?_
  refine WL.nil ?_
  refine WQ.thn ?_
  refine WC.seq ?_
  refine WC.block ?_
  refine WC.loop (fun q m σ' H' => ∃ (i : Nat) (gs : List Nat) (g2 : List Value), q = n + 1 - i ∧ (i < n ∨ i = 0) ∧ HsRow gs cap g2 ∧ gs.length = n ∧ gs.Perm hs ∧ DownInv gs n0 i ∧ (∀ k, n0 ≤ k → gs.getD k 0 = hs.getD k 0) ∧ m = [(0, .iface 228 (.pointer (some ⟨b, 0, none⟩))), (1, .int .i64 0), (2, .int .i64 (n0 : Int)), (7, .int .i64 (i : Int))] ∧ σ' = σ ∧ H' = (b1, rowO 39 g2) :: (b, rowO 229 [.slice (some ⟨b1, 0, none⟩) n cap]) :: Hr) ⟨0, hs, l, rfl, .inr rfl, h, hn, List.Perm.refl _, hu, fun _ _ => rfl, rfl, rfl, rfl⟩ zcV zsL ?_
  rintro _ _ σ Hr ⟨i, gs, g2, rfl, hi, hrow, hlen, hperm, hinv, hrest, rfl, rfl, rfl⟩
  refine WC.block ?_
  refine WC.seq ?_
  refine WC.region ?_
  refine WL.pur (Pur.move rfl) ?_
  refine' WL.pur (Pur.bin rfl rfl ?h1_0) ?k1
  case h1_0 => first | (refine Bin.mulN (a := 2) ?_; omega)
  refine' WL.pur (Pur.bin rfl rfl ?h2_0) ?k2
  case h2_0 => first | (refine Bin.addN (b := 1) ?_; omega) | (refine Bin.addI ?_; omega)
  refine WL.pur (Pur.assign rfl) ?_
  refine WL.nil ?_
  refine WQ.thn ?_
  refine WC.seq ?_
  refine WC.seq ?_
  refine WC.region ?_
  refine WL.pur (Pur.move rfl) ?_
  refine WL.pur (Pur.move rfl) ?_
  refine' WL.pur (Pur.bin rfl rfl ?h3_0) ?k3
  case h3_0 => first | exact Bin.geN | exact Bin.geI
  refine WL.pur (Pur.move rfl) ?_
  refine' WL.orp (u := 18) (t := 21) rfl ?h4_0 ?h4_1 ?h4_2 rfl ?k4
  case h4_0 =>
    intro hg18 K18
    refine WL.gpur (u := 18) rfl rfl (gF hg18) (Pur.move rfl) ?_
    refine' WL.gpur (u := 18) rfl rfl (gF hg18) (Pur.bin rfl rfl ?h5_0) ?k5
    case h5_0 => first | exact Bin.ltN (b := 0) | exact Bin.ltI | exact Bin.ltS
    exact K18 _ zcR rfl
  case h4_1 =>
    intro hg18 K18
    refine WL.gskip (u := 18) rfl rfl (sF hg18) ?_
    refine WL.gskip (u := 18) rfl rfl (sF hg18) ?_
    exact K18 _ zcR
  case h4_2 => exact Wanted.plain rfl
  refine WL.nil ?_
  refine WQ.thn ?_
  first | refine WC.cond rfl (fun hc0 => ?_) (fun hc0 => ?_) | refine WC.condB rfl (fun hc0 => ?_) (fun hc0 => ?_)
  · refine WC.exit ?_
    refine WQ.thn_exit ?_
    refine WQ.blk_on rfl ?_
    refine WQ.back_exit ?_
    refine WQ.blk_here ?_
    refine WQ.thn ?_
    refine WC.seq ?_
    refine WC.region ?_
    refine WL.pur (Pur.move rfl) ?_
    refine WL.pur (Pur.move rfl) ?_
    refine' WL.pur (Pur.bin rfl rfl ?h6_0) ?k6
    case h6_0 => first | exact Bin.gtN | exact Bin.gtI
    refine WL.pur (Pur.assign rfl) ?_
    refine WL.nil ?_
    refine WQ.thn ?_
    refine WC.ret ?_
    refine WQ.ret1 Tryz.results182 rfl [(b1, rowO 39 g2), (b, rowO 229 [.slice (some ⟨b1, 0, none⟩) n cap])] zsL (View.le_refl _) ?_
    exact ⟨⟨gs, g2, hrow, hlen, hperm, hinv.done (fun k h0 hk hkp => by rcases (par_kids h0).1 hkp with rfl | rfl; omega; omega), hrest, rfl⟩, rfl⟩
  · refine WC.skip ?_
    refine WQ.thn ?_
    refine WC.seq ?_
    refine WC.region ?_
    refine WL.pur (Pur.move rfl) ?_
    refine WL.pur (Pur.assign rfl) ?_
    refine WL.nil ?_
    refine WQ.thn ?_
    refine WC.seq ?_
    refine WC.seq ?_
    refine WC.region ?_
    refine WL.pur (Pur.move rfl) ?_
    refine' WL.pur (Pur.bin rfl rfl ?h7_0) ?k7
    case h7_0 => first | (refine Bin.addN (b := 1) ?_; omega) | (refine Bin.addI ?_; omega)
    refine WL.pur (Pur.assign rfl) ?_
    refine WL.nil ?_
    refine WQ.thn ?_
    refine WC.seq ?_
    refine WC.region ?_
    refine WL.pur (Pur.move rfl) ?_
    refine WL.pur (Pur.move rfl) ?_
    refine' WL.pur (Pur.bin rfl rfl ?h8_0) ?k8
    case h8_0 => first | exact Bin.ltN | exact Bin.ltI | exact Bin.ltS
    refine WL.pur (Pur.move rfl) ?_
    refine' WL.andp (u := 28) (t := 33) rfl ?h9_0 ?h9_1 ?h9_2 rfl ?k9
    case h9_0 =>
      intro hg28 K28
      refine WL.gpur (u := 28) rfl rfl (gT hg28) (Pur.move rfl) ?_
      refine WL.gpur (u := 28) rfl rfl (gT hg28) (Pur.move rfl) ?_
      refine WL.gpur (u := 28) rfl rfl (gT hg28) (Pur.move rfl) ?_
      refine WL.gcallI (u := 28) rfl rfl (gT hg28) (H0 := [(b1, rowO 39 g2)]) (Hr := (b, rowO 229 [.slice (some ⟨b1, 0, none⟩) n cap]) :: Hr) rfl rfl (d_Less (sv := .slice (some ⟨b1, 0, none⟩) n cap) (by first | exact List.Mem.head _ | (apply List.Mem.tail; first | exact List.Mem.head _ | (apply List.Mem.tail; exact List.Mem.head _))) _ _) (List.Perm.refl _) (rd_Less _ b1 cap (2 * i + 1 + 1) (2 * i + 1) n gs g2 hrow hlen (by omega) (by omega)) ?_
      intro vx σx Hx hR _
      obtain ⟨hv, hσ, hH⟩ := hR
      rw [hv, hσ, hH, List.cons_append, List.nil_append]
      exact K28 _ zcR rfl
    case h9_1 =>
      intro hg28 K28
      refine WL.gskip (u := 28) rfl rfl (sT hg28) ?_
      refine WL.gskip (u := 28) rfl rfl (sT hg28) ?_
      refine WL.gskip (u := 28) rfl rfl (sT hg28) ?_
      refine WL.gskip (u := 28) rfl rfl (sT hg28) ?_
      exact K28 _ zcR
    case h9_2 => exact Wanted.plain rfl
    refine WL.nil ?_
    refine WQ.thn ?_
    first | refine WC.cond rfl (fun hc1 => ?_) (fun hc1 => ?_) | refine WC.condB rfl (fun hc1 => ?_) (fun hc1 => ?_)
    · refine WC.region ?_
      refine WL.pur (Pur.move rfl) ?_
      refine WL.pur (Pur.assign rfl) ?_
      refine WL.nil ?_
      refine WQ.thn ?_
      refine WC.seq ?_
      refine WC.seq ?_
      refine WC.region ?_
      refine WL.pur (Pur.move rfl) ?_
      refine WL.pur (Pur.move rfl) ?_
      refine WL.pur (Pur.move rfl) ?_
      refine WL.callI (H0 := [(b1, rowO 39 g2)]) (Hr := (b, rowO 229 [.slice (some ⟨b1, 0, none⟩) n cap]) :: Hr) rfl rfl (d_Less (sv := .slice (some ⟨b1, 0, none⟩) n cap) (by first | exact List.Mem.head _ | (apply List.Mem.tail; first | exact List.Mem.head _ | (apply List.Mem.tail; exact List.Mem.head _))) _ _) (List.Perm.refl _) (rd_Less _ b1 cap (2 * i + 1 + 1) i n gs g2 hrow hlen (by omega) (by omega)) ?_
      intro vx σx Hx hR _
      obtain ⟨hv, hσ, hH⟩ := hR
      rw [hv, hσ, hH, List.cons_append, List.nil_append]
      first | refine WL.pur (Pur.not rfl) ?_ | refine WL.pur (Pur.notB rfl) ?_
      refine WL.nil ?_
      refine WQ.thn ?_
      first | refine WC.cond rfl (fun hc2 => ?_) (fun hc2 => ?_) | refine WC.condB rfl (fun hc2 => ?_) (fun hc2 => ?_)
      · refine WC.exit ?_
        refine WQ.thn_exit ?_
        refine WQ.blk_on rfl ?_
        refine WQ.back_exit ?_
        refine WQ.blk_here ?_
        refine WQ.thn ?_
        refine WC.seq ?_
        refine WC.region ?_
        refine WL.pur (Pur.move rfl) ?_
        refine WL.pur (Pur.move rfl) ?_
        refine' WL.pur (Pur.bin rfl rfl ?h10_0) ?k10
        case h10_0 => first | exact Bin.gtN | exact Bin.gtI
        refine WL.pur (Pur.assign rfl) ?_
        refine WL.nil ?_
        refine WQ.thn ?_
        refine WC.ret ?_
        refine WQ.ret1 Tryz.results182 rfl [(b1, rowO 39 g2), (b, rowO 229 [.slice (some ⟨b1, 0, none⟩) n cap])] zsL (View.le_refl _) ?_
        exact ⟨⟨gs, g2, hrow, hlen, hperm, hinv.done (fun k h0 hk hkp => by rcases (par_kids h0).1 hkp with rfl | rfl; omega; omega), hrest, rfl⟩, rfl⟩
      · refine WC.skip ?_
        refine WQ.thn ?_
        refine WC.seq ?_
        refine WC.region ?_
        refine WL.pur (Pur.move rfl) ?_
        refine WL.pur (Pur.move rfl) ?_
        refine WL.pur (Pur.move rfl) ?_
        refine WL.callI (H0 := [(b1, rowO 39 g2)]) (Hr := (b, rowO 229 [.slice (some ⟨b1, 0, none⟩) n cap]) :: Hr) rfl rfl (d_Swap (sv := .slice (some ⟨b1, 0, none⟩) n cap) (by first | exact List.Mem.head _ | (apply List.Mem.tail; first | exact List.Mem.head _ | (apply List.Mem.tail; exact List.Mem.head _))) _ _) (List.Perm.refl _) (rd_Swap _ b1 cap i (2 * i + 1 + 1) n gs g2 hrow hlen (by omega) (by omega)) ?_
        rintro vx σ _ ⟨⟨g3, hrow3, rfl⟩, rfl⟩ _
        rw [List.cons_append, List.nil_append]
        refine WL.nil ?_
        refine WQ.thn ?_
        refine WC.region ?_
        refine WL.pur (Pur.move rfl) ?_
        refine WL.pur (Pur.assign rfl) ?_
        refine WL.nil ?_
        refine WQ.blk ?_
        refine WQ.back _ ⟨(2 * i + 1 + 1), swapL gs i (2 * i + 1 + 1), g3, rfl, by omega, hrow3, by rw [swapL_len]; exact hlen, (swapL_perm (by omega) (by omega)).trans hperm, hinv.step (by omega) (by unfold par; omega) (by omega) (by omega) (by intro k h0 hk hkp; rcases (par_kids h0).1 hkp with rfl | rfl; omega; exact Nat.le_refl _) (by omega), fun k hk => by rw [swapL_get (by omega) (by omega), if_neg (by omega), if_neg (by omega)]; exact hrest k hk, rfl, rfl, rfl⟩ (by omega) zcV zsL
    · refine WC.skip ?_
      refine WQ.thn ?_
      refine WC.seq ?_
      refine WC.seq ?_
      refine WC.region ?_
      refine WL.pur (Pur.move rfl) ?_
      refine WL.pur (Pur.move rfl) ?_
      refine WL.pur (Pur.move rfl) ?_
      refine WL.callI (H0 := [(b1, rowO 39 g2)]) (Hr := (b, rowO 229 [.slice (some ⟨b1, 0, none⟩) n cap]) :: Hr) rfl rfl (d_Less (sv := .slice (some ⟨b1, 0, none⟩) n cap) (by first | exact List.Mem.head _ | (apply List.Mem.tail; first | exact List.Mem.head _ | (apply List.Mem.tail; exact List.Mem.head _))) _ _) (List.Perm.refl _) (rd_Less _ b1 cap (2 * i + 1) i n gs g2 hrow hlen (by omega) (by omega)) ?_
      intro vx σx Hx hR _
      obtain ⟨hv, hσ, hH⟩ := hR
      rw [hv, hσ, hH, List.cons_append, List.nil_append]
      first | refine WL.pur (Pur.not rfl) ?_ | refine WL.pur (Pur.notB rfl) ?_
      refine WL.nil ?_
      refine WQ.thn ?_
      first | refine WC.cond rfl (fun hc3 => ?_) (fun hc3 => ?_) | refine WC.condB rfl (fun hc3 => ?_) (fun hc3 => ?_)
      · refine WC.exit ?_
        refine WQ.thn_exit ?_
        refine WQ.blk_on rfl ?_
        refine WQ.back_exit ?_
        refine WQ.blk_here ?_
        refine WQ.thn ?_
        refine WC.seq ?_
        refine WC.region ?_
        refine WL.pur (Pur.move rfl) ?_
        refine WL.pur (Pur.move rfl) ?_
        refine' WL.pur (Pur.bin rfl rfl ?h11_0) ?k11
        case h11_0 => first | exact Bin.gtN | exact Bin.gtI
        refine WL.pur (Pur.assign rfl) ?_
        refine WL.nil ?_
        refine WQ.thn ?_
        refine WC.ret ?_
        refine WQ.ret1 Tryz.results182 rfl [(b1, rowO 39 g2), (b, rowO 229 [.slice (some ⟨b1, 0, none⟩) n cap])] zsL (View.le_refl _) ?_
        exact ⟨⟨gs, g2, hrow, hlen, hperm, hinv.done (fun k h0 hk hkp => by rcases (par_kids h0).1 hkp with rfl | rfl; omega; have h5 := Nat.le_of_not_lt (fun h => hc1 ⟨hk, h⟩); omega), hrest, rfl⟩, rfl⟩
      · refine WC.skip ?_
        refine WQ.thn ?_
        refine WC.seq ?_
        refine WC.region ?_
        refine WL.pur (Pur.move rfl) ?_
        refine WL.pur (Pur.move rfl) ?_
        refine WL.pur (Pur.move rfl) ?_
        refine WL.callI (H0 := [(b1, rowO 39 g2)]) (Hr := (b, rowO 229 [.slice (some ⟨b1, 0, none⟩) n cap]) :: Hr) rfl rfl (d_Swap (sv := .slice (some ⟨b1, 0, none⟩) n cap) (by first | exact List.Mem.head _ | (apply List.Mem.tail; first | exact List.Mem.head _ | (apply List.Mem.tail; exact List.Mem.head _))) _ _) (List.Perm.refl _) (rd_Swap _ b1 cap i (2 * i + 1) n gs g2 hrow hlen (by omega) (by omega)) ?_
        rintro vx σ _ ⟨⟨g3, hrow3, rfl⟩, rfl⟩ _
        rw [List.cons_append, List.nil_append]
        refine WL.nil ?_
        refine WQ.thn ?_
        refine WC.region ?_
        refine WL.pur (Pur.move rfl) ?_
        refine WL.pur (Pur.assign rfl) ?_
        refine WL.nil ?_
        refine WQ.blk ?_
        refine WQ.back _ ⟨(2 * i + 1), swapL gs i (2 * i + 1), g3, rfl, by omega, hrow3, by rw [swapL_len]; exact hlen, (swapL_perm (by omega) (by omega)).trans hperm, hinv.step (by omega) (by unfold par; omega) (by omega) (by omega) (by intro k h0 hk hkp; rcases (par_kids h0).1 hkp with rfl | rfl; exact Nat.le_refl _; exact Nat.le_of_not_lt (fun h => hc1 ⟨hk, h⟩)) (by omega), fun k hk => by rw [swapL_get (by omega) (by omega), if_neg (by omega), if_neg (by omega)]; exact hrest k hk, rfl, rfl, rfl⟩ (by omega) zcV zsL

end Go.Proofs.YtgoooilgmabkmaaGreat
namespace Go.Proofs.YtgoooilgmabkmaaGreat
open Go Go.Sl
set_option linter.unusedVariables false
set_option linter.unusedSimpArgs false
set_option maxRecDepth 100000

theorem take_getD {gs : List Nat} {n : Nat} (hn : gs.length = n + 1) : gs = gs.take n ++ [gs.getD n 0] := by
  apply List.ext_getElem?
  intro k
  by_cases hk : k < n
  · rw [List.getElem?_append_left (by simp; omega), List.getElem?_take_of_lt hk]
  · rw [List.getElem?_append_right (by simp; omega)]
    have hl : (gs.take n).length = n := by simp; omega
    rw [hl]
    by_cases hk2 : k = n
    · subst hk2; rw [getD_some (by omega)]; simp
    · rw [List.getElem?_eq_none (by omega), List.getElem?_eq_none (by simp; omega)]
theorem take_getD' {gs : List Nat} {n k : Nat} (hk : k < n) : (gs.take n).getD k 0 = gs.getD k 0 := by
  rw [List.getD_eq_getElem?_getD, List.getD_eq_getElem?_getD, List.getElem?_take_of_lt hk]

theorem heap_Push (σ : View) (b x : Nat) (sv : Value) (hs : List Nat) (h : HList) (hso : SlO σ eHash 39 32 sv hs h) (hheap : HeapN hs hs.length) (hx : IsH x) (hb : hs.length ≤ 100000) :
    Tri Tryz.prog 150 #[.iface 228 (.pointer (some ⟨b, 0, none⟩)), .iface 39 (hashV x)] σ (h ++ [(b, rowO 229 [sv])]) (fun v σ' H' => (∃ sv' gs h', SlO σ eHash 39 32 sv' gs h' ∧ gs.Perm (hs ++ [x]) ∧ HeapN gs gs.length ∧ H' = h' ++ [(b, rowO 229 [sv'])]) ∧ σ' = σ) := by
  refine Tri.of_body [(0, .iface 228 (.pointer (some ⟨b, 0, none⟩))), (1, .iface 39 (hashV x))] Tryz.func150 rfl Tryz.ntmps150 (by simp) rfl (fun Hr => ?_)
  skip
  refine WC.seq ?_
  refine WC.region ?_
  refine WL.pur (Pur.move rfl) ?_
  refine WL.pur (Pur.move rfl) ?_
  refine WL.callI (H0 := h ++ [(b, rowO 229 [sv])]) (Hr := Hr) rfl rfl (d_Push _ _) (List.Perm.refl _) (rd_Push _ b x sv hs h hso hx hb) ?_
  rintro v6 σ _ ⟨⟨sv2, h2, hso2, rfl⟩, rfl⟩ _
  obtain ⟨b1, cap, l, rfl, rfl, hrow⟩ := hso2.hsRow (by simp)
  simp only [List.cons_append, List.nil_append]
  have hup := hheap.push (x := x)
  refine WL.nil ?_
  refine WQ.thn ?_
  refine WC.region ?_
  refine WL.pur (Pur.move rfl) ?_
  refine WL.pur (Pur.move rfl) ?_
  refine WL.callIP rfl rfl (d_Len (sv := .slice (some ⟨b1, 0, none⟩) (hs ++ [x]).length cap) (by first | exact List.Mem.head _ | (apply List.Mem.tail; first | exact List.Mem.head _ | (apply List.Mem.tail; exact List.Mem.head _)))) (rd_Len _ _ _ _) ?_
  refine' WL.pur (Pur.bin rfl rfl ?h1_0) ?k1
  case h1_0 => exact Bin.subK (c := hs.length) (by simp) (by omega)
  refine WL.call (H0 := [(b1, rowO 39 l), (b, rowO 229 [.slice (some ⟨b1, 0, none⟩) (hs ++ [x]).length cap])]) (Hr := Hr) rfl Tryz.call181 (List.Perm.refl _) (heap_up _ b b1 cap _ hs.length (hs ++ [x]) l hrow rfl (by simpa using hup) (by simp; omega)) ?_
  rintro v11 σ _ ⟨⟨gs, g2, hrow2, hlen2, hperm2, hheap2, rfl⟩, rfl⟩ _
  have hs2 := hrow2.slO (σ := σ) (b := b1)
  rw [hlen2] at hs2
  refine WL.nil ?_
  refine WQ.ret0 Tryz.results150 ([(b1, rowO 39 g2)] ++ [(b, rowO 229 [.slice (some ⟨b1, 0, none⟩) (hs ++ [x]).length cap])]) (.inr rfl) (List.Sublist.refl _) (View.le_refl _) ?_
  exact ⟨⟨_, gs, _, hs2, hperm2, by rw [hlen2]; exact hheap2, rfl⟩, rfl⟩

theorem heap_Pop (σ : View) (b n : Nat) (sv : Value) (hs : List Nat) (h : HList) (hso : SlO σ eHash 39 32 sv hs h) (hheap : HeapN hs hs.length) (hn : hs.length = n + 1) (hb : hs.length ≤ 100000) :
    Tri Tryz.prog 152 #[.iface 228 (.pointer (some ⟨b, 0, none⟩))] σ (h ++ [(b, rowO 229 [sv])]) (fun v σ' H' => v = .iface 39 (hashV (hs.getD 0 0)) ∧ (∃ sv' gs h', SlO σ eHash 39 32 sv' gs h' ∧ (gs ++ [hs.getD 0 0]).Perm hs ∧ HeapN gs gs.length ∧ H' = h' ++ [(b, rowO 229 [sv'])]) ∧ σ' = σ) := by
  obtain ⟨b1, cap, l, rfl, rfl, hrow⟩ := hso.hsRow (by omega)
  rw [hn]
  have hpop := hheap.pop hn
  refine Tri.of_body [(0, .iface 228 (.pointer (some ⟨b, 0, none⟩)))] Tryz.func152 rfl Tryz.ntmps152 (by simp) rfl (fun Hr => ?_)
  simp only [List.cons_append, List.nil_append]
  refine WC.seq ?_
  refine WC.region ?_
  refine WL.pur (Pur.assign rfl) ?_
  refine WL.nil ?_
  refine WQ.thn ?_
  refine WC.seq ?_
  refine WC.region ?_
  refine WL.pur (Pur.move rfl) ?_
  refine WL.callIP rfl rfl (d_Len (sv := .slice (some ⟨b1, 0, none⟩) (n + 1) cap) (by first | exact List.Mem.head _ | (apply List.Mem.tail; first | exact List.Mem.head _ | (apply List.Mem.tail; exact List.Mem.head _)))) (rd_Len _ _ _ _) ?_
  refine' WL.pur (Pur.bin rfl rfl ?h1_0) ?k1
  case h1_0 => exact Bin.subK (c := n) (by omega) (by omega)
  refine WL.pur (Pur.assign rfl) ?_
  refine WL.nil ?_
  refine WQ.thn ?_
  refine WC.seq ?_
  refine WC.region ?_
  refine WL.pur (Pur.move rfl) ?_
  refine WL.pur (Pur.move rfl) ?_
  refine WL.callI (H0 := [(b1, rowO 39 l)]) (Hr := (b, rowO 229 [.slice (some ⟨b1, 0, none⟩) (n + 1) cap]) :: Hr) rfl rfl (d_Swap (sv := .slice (some ⟨b1, 0, none⟩) (n + 1) cap) (by first | exact List.Mem.head _ | (apply List.Mem.tail; first | exact List.Mem.head _ | (apply List.Mem.tail; exact List.Mem.head _))) _ _) (List.Perm.refl _) (rd_Swap _ b1 cap 0 n (n + 1) hs l hrow hn (by omega) (by omega)) ?_
  rintro vx σ _ ⟨⟨g1, hrow1, rfl⟩, rfl⟩ _
  rw [List.cons_append, List.nil_append]
  refine WL.nil ?_
  refine WQ.thn ?_
  refine WC.seq ?_
  refine WC.region ?_
  refine WL.pur (Pur.move rfl) ?_
  refine WL.pur (Pur.move rfl) ?_
  refine WL.call (H0 := [(b1, rowO 39 g1), (b, rowO 229 [.slice (some ⟨b1, 0, none⟩) (n + 1) cap])]) (Hr := Hr) rfl Tryz.call182 (List.Perm.refl _) (heap_down _ b b1 cap (n + 1) n (swapL hs 0 n) g1 hrow1 (by rw [swapL_len]; exact hn) (by omega) hpop (by omega)) ?_
  rintro v12 σ _ ⟨⟨gs, g2, hrow2, hlen2, hperm2, hheap2, hrest2, rfl⟩, rfl⟩ _
  have hlast : gs.getD n 0 = hs.getD 0 0 := by rw [hrest2 n (Nat.le_refl _), swapL_get (by omega) (by omega), if_pos rfl]
  have htl : (gs.take n).length = n := by simp; omega
  have hs2 := (hrow2.pop (gs := gs.take n) (by omega) (fun k hk => take_getD' (by omega))).slO (σ := σ) (b := b1)
  rw [htl] at hs2
  refine WL.nil ?_
  refine WQ.thn ?_
  refine WC.seq ?_
  refine WC.region ?_
  refine WL.pur (Pur.move rfl) ?_
  refine WL.callI (H0 := [(b1, rowO 39 g2), (b, rowO 229 [.slice (some ⟨b1, 0, none⟩) (n + 1) cap])]) (Hr := Hr) rfl rfl (d_Pop _) (List.Perm.refl _) (rd_Pop _ b b1 cap n gs g2 hrow2 hlen2 (by omega)) ?_
  rintro v14 σ _ ⟨rfl, rfl, rfl⟩ _
  refine WL.pur (Pur.assign rfl) ?_
  refine WL.nil ?_
  refine WQ.thn ?_
  refine WC.ret ?_
  refine WQ.ret1 Tryz.results152 rfl ([(b1, rowO 39 g2)] ++ [(b, rowO 229 [.slice (some ⟨b1, 0, none⟩) n cap])]) (List.Sublist.refl _) (View.le_refl _) ?_
  refine ⟨by rw [hlast], ⟨_, gs.take n, _, hs2, ?_, ?_, rfl⟩, rfl⟩
  · rw [← hlast, ← take_getD hlen2]; exact hperm2.trans (swapL_perm (by omega) (by omega))
  · rw [htl]; exact hheap2.congr (fun k hk => take_getD' hk)

end Go.Proofs.YtgoooilgmabkmaaGreat
namespace Go.Proofs.YtgoooilgmabkmaaGreat
open Go Go.Sl
set_option linter.unusedVariables false
set_option linter.unusedSimpArgs false
set_option maxRecDepth 100000

theorem past_order (σ : View) (lv : Value) (bm : Nat) (l : List EntD) (h : Ents σ lv l) (hg : GoodE l) (hat : σ bm = some (mapO hashV (idsFrom l 0))) :
    Tri Tryz.prog 93 #[lv, .map (some bm)] σ [] (fun v σ' H' => ∃ h, SlO σ' eEnt 45 36 v (ordE l) h ∧ H' = h) := by
  have h' := h
  obtain ⟨la, lc, rfl, hlc, hlby⟩ := h.shape
  obtain ⟨lb, loff, hel⟩ := addr_of h
  have hmost := hg.most
  have hids : ∀ e ∈ l, IsH e.id := fun e he => by
    obtain ⟨i, hi⟩ := List.getElem?_of_mem he
    obtain ⟨_, _, _, hH, _⟩ := ent_rd h' hel hi
    exact hH
  have hok := ids_ok hids 0
  refine Tri.of_body [(0, .slice la l.length lc), (1, .map (some bm))] Tryz.func93 rfl Tryz.ntmps93 (by simp) rfl (fun Hr => ?_)
  rw [List.nil_append]
  refine WC.seq ?_
  refine WC.region ?_
  refine WL.pur (Pur.assign rfl) ?_
  refine WL.nil ?_
  refine WQ.thn ?_
  refine WC.seq ?_
  refine WC.region ?_
  refine WL.pur (Pur.move rfl) ?_
  refine WL.pur (Pur.len rfl isSlice_22) ?_
  refine WL.any (Any.make1 sl_72 zc_3 by_3 rfl rfl (by omega) (by omega)) ?_
  rintro _ σ _ ⟨b18, rfl, rfl, rfl⟩ _
  refine WL.pur (Pur.assign rfl) ?_
  refine WL.nil ?_
  refine WQ.thn ?_
  refine WC.seq ?_
  refine WC.region ?_
  refine WL.pur (Pur.move rfl) ?_
  refine WL.pur (Pur.len rfl isSlice_22) ?_
  refine WL.any (Any.make1 sl_227 zc_72 by_72 rfl rfl (by omega) (by omega)) ?_
  rintro _ σ _ ⟨b21, rfl, rfl, rfl⟩ _
  refine WL.pur (Pur.assign rfl) ?_
  refine WL.nil ?_
  refine WQ.thn ?_
  refine WC.seq ?_
  refine WC.region ?_
  refine WL.new (New.buildSlice0 sl_229) (fun b22 => ?_)
  refine WL.new (New.box1 rfl (by rfl)) (fun b23 => ?_)
  refine WL.pur (Pur.assign rfl) ?_
  refine WL.nil ?_
  refine WQ.thn ?_
  refine WC.seq ?_
  refine WC.seq ?_
  refine WC.region ?_
  refine WL.pur (Pur.move rfl) ?_
  refine WL.pur (Pur.len rfl isSlice_22) ?_
  refine WL.pur (Pur.move rfl) ?_
  refine WL.nil ?_
  refine WQ.thn ?_
  refine WC.block ?_
  rw [replicate_range, replicate_range]
  refine WC.perm ?_ (List.Perm.swap _ _ _)
  refine WC.loop (fun j m σ' H' => ∃ (i : Nat) (svs : Nat → Value) (hs : Nat → HList) (g : Nat → Value) (hp : List Nat) (sv : Value) (hh : HList), j = l.length - i ∧ i ≤ l.length ∧ KidsO σ' l.length (kidsF l i 0) svs hs ∧ (∀ k, k < l.length → g k = .int .i64 ((if k < i then (parsAt l k).length else 0 : Nat) : Int)) ∧ SlO σ' eHash 39 32 sv hp hh ∧ HeapN hp hp.length ∧ hp.Perm (((List.range i).filter (readyB l [])).map (idAt l)) ∧ m = [(0, .slice la l.length lc), (1, .map (some bm)), (5, .slice (some ⟨b18, 0, none⟩) l.length l.length), (6, .slice (some ⟨b21, 0, none⟩) l.length l.length), (7, .pointer (some ⟨b23, 0, none⟩)), (24, .slice la l.length lc), (25, .int .i64 (l.length : Int)), (26, .int .i64 (i : Int))] ∧ σ' = σ ∧ H' = hh ++ (b23, rowO 229 [sv]) :: (b21, rowO 72 ((List.range l.length).map svs)) :: (b18, rowO 3 ((List.range l.length).map g)) :: ((List.range l.length).flatMap hs ++ Hr)) ⟨0, fun _ => .slice none 0 0, fun _ => [], fun _ => .int .i64 0, [], _, [(b22, rowO 39 [])], rfl, by omega, fun n hn => by rw [kidsF_zero]; exact SlO.nil, fun k _ => by simp, row_nilH _ b22, fun k h0 hk => absurd hk (Nat.not_lt_zero _), List.Perm.refl _, rfl, rfl, rfl⟩ zcV (by rw [flat_nil]; exact List.Sublist.refl _) ?_
  rintro _ _ σ Hr ⟨i, svs, hs, g, hp0, sv, hh, rfl, hi, hk, hgr, hso, hheap, hperm, rfl, rfl, rfl⟩
  refine WC.seq ?_
  refine WC.region ?_
  refine' WL.pur (Pur.bin rfl rfl ?h1_0) ?k1
  case h1_0 => first | exact Bin.ltN | exact Bin.ltI | exact Bin.ltS
  refine WL.nil ?_
  refine WQ.thn ?_
  refine WC.seq ?_
  first | refine WC.cond rfl (fun hc0 => ?_) (fun hc0 => ?_) | refine WC.condB rfl (fun hc0 => ?_) (fun hc0 => ?_)
  · obtain ⟨e, he⟩ : ∃ e, l[i]? = some e := ⟨_, List.getElem?_eq_getElem hc0⟩
    obtain ⟨pv, ov, hrd, heH, hNR⟩ := ent_rd h' hel he
    have hps' := hNR.1
    have hops' := hNR.2.1
    obtain ⟨pa, pc, rfl, hpc, hpb⟩ := hps'.shape
    obtain ⟨oa, oc, rfl, hoc, hob⟩ := hops'.shape
    obtain ⟨pb, poff, hep⟩ := addr_of hps'
    have hpa := parsAt_of he
    have hie := idAt_of he
    refine WC.skip ?_
    refine WQ.thn ?_
    refine WC.seq ?_
    refine WC.block ?_
    refine WC.seq ?_
    refine WC.region ?_
    refine WL.pur (Pur.move rfl) ?_
    refine' WL.pur (Pur.indexAddr (eqA (hel (by omega))) rfl sl_22 ?h2_0) ?k2
    case h2_0 => omega
    refine' WL.pur (Pur.loadN rfl ty_45 ?h3_0 ?h3_1) ?k3
    case h3_0 => first | (apply Rd.own_sub; exact zmE; exact Sub.refl _) | (apply RdV.rd; assumption)
    case h3_1 => first | rfl | assumption
    refine WL.new (New.alloc zc_45) (fun b9 => ?_)
    refine WL.pur (Pur.assign rfl) ?_
    refine' WL.run0 (Run.storeAll rfl rfl ty_45 ?h4_0 (by first | rfl | assumption) ?h4_1 (by first | rfl | assumption)) ?k4
    case h4_0 => repeat (first | exact Part.one | exact Part.here | apply Part.cons | apply Part.app)
    case h4_1 => first | rfl | assumption
    refine WL.nil ?_
    refine WQ.thn ?_
    refine WC.seq ?_
    refine WC.region ?_
    refine WL.pur (Pur.move rfl) ?_
    refine WL.pur (Pur.move rfl) ?_
    refine WL.pur (Pur.fieldAddr rfl fo_45_1) ?_
    refine WL.pur (Pur.fieldAddr rfl fo_43_2) ?_
    refine' WL.pur (Pur.load1 rfl ty_41 ?h5_0) ?k5
    case h5_0 => first | (apply Rd.own1; exact zmE; rfl) | (apply RdV.rd; apply RdV.idx (i := 34); assumption; rfl) | (apply RdV.rd; apply RdV.idx (off := 0) (i := 34); assumption; rfl)
    refine WL.pur (Pur.len rfl isSlice_41) ?_
    refine' WL.pur (Pur.indexAddr rfl rfl sl_72 ?h6_0) ?k6
    case h6_0 => omega
    refine' WL.run0 (Run.storeF rfl rfl ty_3 (by first | rfl | assumption) ?h7_0 ?h7_1 sz_3) ?k7
    case h7_0 => repeat (first | exact Part.one | exact Part.here | apply Part.cons | apply Part.app)
    case h7_1 => first | assumption | omega
    refine WL.nil ?_
    refine WQ.thn ?_
    refine WC.seq ?_
    refine WC.seq ?_
    refine WC.region ?_
    refine WL.pur (Pur.fieldAddr rfl fo_45_1) ?_
    refine WL.pur (Pur.fieldAddr rfl fo_43_2) ?_
    refine' WL.pur (Pur.load1 rfl ty_41 ?h8_0) ?k8
    case h8_0 => first | (apply Rd.own1; exact zmE; rfl) | (apply RdV.rd; apply RdV.idx (i := 34); assumption; rfl) | (apply RdV.rd; apply RdV.idx (off := 0) (i := 34); assumption; rfl)
    refine WL.pur (Pur.len rfl isSlice_41) ?_
    refine WL.pur (Pur.move rfl) ?_
    refine WL.nil ?_
    refine WQ.thn ?_
    refine WC.block ?_
    refine WC.loop (fun j m σ' H' => ∃ (q : Nat) (svs : Nat → Value) (hs : Nat → HList), j = e.node.ps.length - q ∧ q ≤ e.node.ps.length ∧ KidsO σ' l.length (kidsF l i q) svs hs ∧ m = [(0, .slice la l.length lc), (1, .map (some bm)), (5, .slice (some ⟨b18, 0, none⟩) l.length l.length), (6, .slice (some ⟨b21, 0, none⟩) l.length l.length), (7, .pointer (some ⟨b23, 0, none⟩)), (24, .slice la l.length lc), (25, .int .i64 (l.length : Int)), (26, .int .i64 (i : Int)), (8, .int .i64 (i : Int)), (9, .pointer (some ⟨b9, 0, none⟩)), (40, .slice pa e.node.ps.length pc), (41, .int .i64 (e.node.ps.length : Int)), (42, .int .i64 (q : Int))] ∧ σ' = σ ∧ H' = (b9, rowO 45 (entCells e.id e.node.au e.node.cl (.slice pa e.node.ps.length pc) (.slice oa e.node.ops.length oc))) :: (hh ++ (b23, rowO 229 [sv]) :: (b21, rowO 72 ((List.range l.length).map svs)) :: (b18, rowO 3 ((List.range l.length).map (fun j => if j = i then Value.int .i64 (e.node.ps.length : Int) else g j))) :: ((List.range l.length).flatMap hs ++ Hr))) ⟨0, svs, hs, rfl, by omega, hk, rfl, rfl, rfl⟩ zcV zsL ?_
    rintro _ _ σ Hr ⟨q, svs2, hs2, rfl, hq, hk2, rfl, rfl, rfl⟩
    refine WC.seq ?_
    refine WC.region ?_
    refine' WL.pur (Pur.bin rfl rfl ?h9_0) ?k9
    case h9_0 => first | exact Bin.ltN | exact Bin.ltI | exact Bin.ltS
    refine WL.nil ?_
    refine WQ.thn ?_
    refine WC.seq ?_
    first | refine WC.cond rfl (fun hc1 => ?_) (fun hc1 => ?_) | refine WC.condB rfl (fun hc1 => ?_) (fun hc1 => ?_)
    · obtain ⟨p, hp⟩ : ∃ p, e.node.ps[q]? = some p := ⟨_, List.getElem?_eq_getElem hc1⟩
      obtain ⟨hpr, hpH⟩ := hash_rd hps' hep hp
      have hpp : (parsAt l i)[q]? = some p := by rw [hpa]; exact hp
      obtain ⟨n0, e2, hn0, he2, hcl2⟩ := hg.par e (List.mem_of_getElem? he) p (List.mem_of_getElem? hp)
      have hn0l := (List.getElem?_eq_some_iff.1 he2).1
      have hmg : (mget (idsFrom l 0) p).getD (.int .i64 0) = .int .i64 (n0 : Int) := by rw [mget_ids0, hn0]; rfl
      refine WC.skip ?_
      refine WQ.thn ?_
      refine WC.seq ?_
      refine WC.block ?_
      refine WC.seq ?_
      refine WC.region ?_
      refine' WL.pur (Pur.indexAddr (eqA (hep (by omega))) rfl sl_41 ?h10_0) ?k10
      case h10_0 => omega
      refine' WL.pur (Pur.loadN rfl ty_39 ?h11_0 ?h11_1) ?k11
      case h11_0 => exact RdV.rd hpr
      case h11_1 => first | rfl | assumption
      refine WL.new (New.alloc zc_39) (fun b11 => ?_)
      refine' WL.run0 (Run.storeAll rfl rfl ty_39 ?h12_0 (by first | rfl | assumption) ?h12_1 (by first | rfl | assumption)) ?k12
      case h12_0 => repeat (first | exact Part.one | exact Part.here | apply Part.cons | apply Part.app)
      case h12_1 => first | rfl | assumption
      refine WL.nil ?_
      refine WQ.thn ?_
      refine WC.draw 13 15 ((b11, rowO 39 (hashCells p)) :: (b9, rowO 45 (entCells e.id e.node.au e.node.cl (.slice pa e.node.ps.length pc) (.slice oa e.node.ops.length oc))) :: (hh ++ (b23, rowO 229 [sv]) :: (b21, rowO 72 ((List.range l.length).map svs2)) :: (b18, rowO 3 ((List.range l.length).map (fun j => if j = i then Value.int .i64 (e.node.ps.length : Int) else g j))) :: [])) mixed (by kernel_rfl) rfl ?_
      refine SA.takeW 0 (by kernel_rfl) rfl rfl rfl (Wanted.plain rfl) (tells_move rfl) ?_
      refine SA.takeW 1 (by kernel_rfl) rfl rfl rfl (Wanted.plain rfl) (tells_move rfl) ?_
      refine' SA.take 2 (by kernel_rfl) rfl rfl rfl (Wanted.plain rfl) zsL (View.le_refl _) (Pur.loadN rfl ty_39 ?h13_0 ?h13_1) ?k13
      case h13_0 => first | (apply Rd.own_sub; exact zmE; exact Sub.refl _) | (apply RdV.rd; assumption)
      case h13_1 => first | rfl | assumption
      refine SA.take 3 (by kernel_rfl) rfl rfl rfl (Wanted.plain rfl) zsL (View.le_refl _) ((pur_look hmg (Pur.lookup (K := hashV) rfl rfl mt_142 (keyC_hash isHKey_39) zv_3 (Or.inr hat) hok hpH))) ?_
      refine SA.takeW 4 (by kernel_rfl) rfl rfl rfl (Wanted.plain rfl) (tells_move rfl) ?_
      refine SA.takeW 5 (by kernel_rfl) rfl rfl rfl (Wanted.plain rfl) (tells_move rfl) ?_
      refine' SA.take 6 (by kernel_rfl) rfl rfl rfl (Wanted.plain rfl) zsL (View.le_refl _) (Pur.loadN rfl ty_39 ?h14_0 ?h14_1) ?k14
      case h14_0 => first | (apply Rd.own_sub; exact zmE; exact Sub.refl _) | (apply RdV.rd; assumption)
      case h14_1 => first | rfl | assumption
      refine SA.take 7 (by kernel_rfl) rfl rfl rfl (Wanted.plain rfl) zsL (View.le_refl _) ((pur_look hmg (Pur.lookup (K := hashV) rfl rfl mt_142 (keyC_hash isHKey_39) zv_3 (Or.inr hat) hok hpH))) ?_
      refine' SA.takeP 8 (by kernel_rfl) rfl rfl rfl (Wanted.plain rfl) (fun _ _ => Pur.indexAddr rfl rfl sl_227 ?h15_0) ?k15
      case h15_0 => omega
      refine' SA.take 9 (by kernel_rfl) rfl rfl rfl (Wanted.plain rfl) zsL (View.le_refl _) (Pur.load1 rfl ty_72 ?h16_0) ?k16
      case h16_0 => apply Rd.own1; exact zmE; exact get_range_map1 hn0l
      refine SA.takeW 10 (by kernel_rfl) rfl rfl rfl (Wanted.plain rfl) (tells_move rfl) ?_
      refine SA.new 11 rfl rfl rfl (Wanted.plain rfl) (by kernel_rfl) (New.buildSliceS (xs := [.tmp 56]) sl_72 zc_3 rfl rfl rfl (by rfl) (by rfl)) (.inr ⟨zsL, View.le_refl _⟩) (fun b57 => ?_)
      refine' SA.any 12 rfl rfl rfl (Wanted.plain rfl) (by kernel_rfl) (Any.push (H1 := ((b57, rowO 3 [.int .i64 (i : Int)]) :: (b11, rowO 39 (hashCells p)) :: (b9, rowO 45 (entCells e.id e.node.au e.node.cl (.slice pa e.node.ps.length pc) (.slice oa e.node.ops.length oc))) :: (hh ++ [(b23, rowO 229 [sv]), (b21, rowO 72 ((List.range l.length).map svs2)), (b18, rowO 3 ((List.range l.length).map (fun j => if j = i then Value.int .i64 (e.node.ps.length : Int) else g j)))])) ++ (List.range n0).flatMap hs2) (H2 := (List.range' (n0 + 1) (l.length - (n0 + 1))).flatMap hs2 ++ Hr) sl_72 zc_3 rfl by_3 rfl rfl (hk2 n0 hn0l) ?h17_0 ?h17_1 ?h17_2 ?h17_3 (by rw [← ksplit hn0l]; simp) (by have := kidsF_len l i q n0; omega) (by have := kidsF_len l i q n0; omega)) (fun _ _ _ hJ => .inr ⟨by (obtain ⟨_, _, hσ, hH⟩ := hJ; subst hH; (try simp only [List.append_assoc, List.cons_append, List.nil_append]); exact zsL), View.le_refl _⟩) ?k17
      case h17_0 => apply Rd.own_sub; exact zmE; exact Sub.refl _
      case h17_1 => first | rfl | assumption
      case h17_2 => first | rfl | assumption
      case h17_3 => first | rfl | exact ⟨rfl, by assumption⟩
      rintro v58 σ _ ⟨ho', hso', rfl, rfl⟩ _
      rw [kfold hn0l]
      simp only [List.cons_append, List.append_assoc, List.nil_append]
      have h1c := SlO.one_cell hso'
      refine' SA.run 13 rfl (fun _ e => by cases e; rfl) (Wanted.plain rfl) (by kernel_rfl) (Pur.run (Pur.indexAddr rfl rfl sl_227 ?h18_0)) (.inl (by decide)) ?k18
      case h18_0 => omega
      refine' SA.run 14 rfl (fun _ e => by cases e) (Wanted.plain rfl) (by kernel_rfl) (Run.storeF rfl rfl ty_72 (by first | rfl | assumption) ?h19_0 ?h19_1 sz_72) (.inl (by decide)) ?k19
      case h19_0 => repeat (first | exact Part.one | exact Part.here | apply Part.cons | apply Part.app)
      case h19_1 => first | assumption | omega
      refine SA.done (by kernel_rfl) ?_
      refine WQ.blk ?_
      refine WQ.thn ?_
      refine WC.region ?_
      refine' WL.pur (Pur.bin rfl rfl ?h20_0) ?k20
      case h20_0 => first | (refine Bin.addN (b := 1) ?_; omega) | (refine Bin.addI ?_; omega)
      refine WL.pur (Pur.move rfl) ?_
      refine WL.nil ?_
      refine WQ.back _ ⟨q + 1, _, _, rfl, by omega, hk2.set hso' (fun k hk => kidsF_step hg hpp hn0 k hk), rfl, rfl, rfl⟩ (by omega) zcV zsL
    · have hg1i : (fun j => if j = i then Value.int .i64 (e.node.ps.length : Int) else g j) i = .int .i64 (e.node.ps.length : Int) := if_pos rfl
      refine WC.exit ?_
      refine WQ.thn_exit ?_
      refine WQ.back_exit ?_
      refine WQ.blk_here ?_
      refine WQ.thn ?_
      refine WC.seq ?_
      refine WC.region ?_
      refine WL.pur (Pur.move rfl) ?_
      refine WL.pur (Pur.move rfl) ?_
      refine' WL.pur (Pur.indexAddr rfl rfl sl_72 ?h21_0) ?k21
      case h21_0 => omega
      refine' WL.pur (Pur.load1 rfl ty_3 ?h22_0) ?k22
      case h22_0 => apply Rd.own1; exact zmE; exact (get_range_map1 hc0).trans (congrArg some hg1i)
      refine' WL.pur (Pur.bin rfl rfl ?h23_0) ?k23
      case h23_0 => first | exact Bin.eqN (b := 0) | exact Bin.eqI
      refine WL.nil ?_
      refine WQ.thn ?_
      first | refine WC.cond rfl (fun hc2 => ?_) (fun hc2 => ?_) | refine WC.condB rfl (fun hc2 => ?_) (fun hc2 => ?_)
      · have hrdy : readyB l [] i = true := (ready_zero hg i).2 ⟨hc0, by rw [hpa]; exact nil_len.2 (by omega)⟩
        refine WC.region ?_
        refine WL.pur (Pur.move rfl) ?_
        refine WL.pur (Pur.makeInterface rfl (mi228 _)) ?_
        refine WL.pur (Pur.fieldAddr rfl fo_45_0) ?_
        refine' WL.pur (Pur.loadN rfl ty_39 ?h24_0 ?h24_1) ?k24
        case h24_0 => first | (apply Rd.own_sub; exact zmE; exact Sub.ent_hash _ _ _ _ _) | (apply RdV.rd; apply RdV.sub0; assumption; exact Sub.ent_hash _ _ _ _ _)
        case h24_1 => first | rfl | assumption
        refine WL.pur (Pur.makeInterface rfl (mi39 _)) ?_
        refine WL.call (H0 := hh ++ [(b23, rowO 229 [sv])]) (Hr := (b9, rowO 45 (entCells e.id e.node.au e.node.cl (.slice pa e.node.ps.length pc) (.slice oa e.node.ops.length oc))) :: (b21, rowO 72 ((List.range l.length).map svs2)) :: (b18, rowO 3 ((List.range l.length).map (fun j => if j = i then Value.int .i64 (e.node.ps.length : Int) else g j))) :: ((List.range l.length).flatMap hs2 ++ Hr)) rfl Tryz.call150 heap_perm (heap_Push _ b23 e.id sv hp0 hh hso hheap heH (by have := rdy_len (by simp; omega) hperm; omega)) ?_
        rintro v71 σ _ ⟨⟨sv2, hp2, hh2, hso2, hperm2, hheap2, rfl⟩, rfl⟩ _
        simp only [List.append_assoc, List.cons_append, List.nil_append]
        refine WL.nil ?_
        refine WQ.blk ?_
        refine WQ.thn ?_
        refine WC.region ?_
        refine' WL.pur (Pur.bin rfl rfl ?h25_0) ?k25
        case h25_0 => first | (refine Bin.addN (b := 1) ?_; omega) | (refine Bin.addI ?_; omega)
        refine WL.pur (Pur.move rfl) ?_
        refine WL.nil ?_
        refine WQ.back _ ⟨i + 1, svs2, hs2, _, hp2, sv2, hh2, rfl, by omega, fun n hn => by rw [← kidsF_end (show (parsAt l i).length ≤ q by rw [hpa]; omega)]; exact hk2 n hn, rowlen_step (by rw [hpa]) hgr, hso2, hheap2, by rw [rdy_step, if_pos hrdy, hie]; exact hperm2.trans (hperm.append_right _), rfl, rfl, rfl⟩ (by omega) zcV zsL
      · have hrdy : ¬ readyB l [] i = true := fun hx => hc2 (by have := ((ready_zero hg i).1 hx).2; rw [hpa] at this; rw [this]; rfl)
        refine WC.skip ?_
        refine WQ.blk ?_
        refine WQ.thn ?_
        refine WC.region ?_
        refine' WL.pur (Pur.bin rfl rfl ?h26_0) ?k26
        case h26_0 => first | (refine Bin.addN (b := 1) ?_; omega) | (refine Bin.addI ?_; omega)
        refine WL.pur (Pur.move rfl) ?_
        refine WL.nil ?_
        refine WQ.back _ ⟨i + 1, svs2, hs2, _, hp0, sv, hh, rfl, by omega, fun n hn => by rw [← kidsF_end (show (parsAt l i).length ≤ q by rw [hpa]; omega)]; exact hk2 n hn, rowlen_step (by rw [hpa]) hgr, hso, hheap, by rw [rdy_step, if_neg hrdy, List.append_nil]; exact hperm, rfl, rfl, rfl⟩ (by omega) zcV zsL
  · have hil : i = l.length := by omega
    subst hil
    have hkk : KidsO σ l.length (kidsL l) svs hs := fun n hn => by rw [← kidsF_all]; exact hk n hn
    have hgr0 : ∀ k, k < l.length → g k = .int .i64 ((lackN l (ordN l 0) k : Nat) : Int) := fun k hk => by rw [hgr k hk, if_pos hk]; show _ = Value.int .i64 ((lackN l [] k : Nat) : Int); rw [lackN_nil l hg]
    refine WC.perm (H0 := (b21, rowO 72 ((List.range l.length).map svs)) :: ((hh ++ [(b23, rowO 229 [sv]), (b18, rowO 3 ((List.range l.length).map g))]) ++ ((List.range l.length).flatMap hs ++ Hr))) ?_ kids_perm
    refine WC.giveKids (bk := b21) (H1 := hh ++ [(b23, rowO 229 [sv]), (b18, rowO 3 ((List.range l.length).map g))]) (H2 := Hr) (fun n => by have := kidsL_len l n; omega) (by omega) hkk rfl (fun σ2 hle2 hkids => ?_)
    simp only [List.append_assoc, List.cons_append, List.nil_append]
    have h' := h'.mono eEnt_mono hle2
    have hat := hle2.2 _ _ hat
    have hso := hso.mono eHash_mono hle2
    refine WC.exit ?_
    refine WQ.thn_exit ?_
    refine WQ.back_exit ?_
    refine WQ.blk_here ?_
    refine WQ.thn ?_
    refine WC.seq ?_
    refine WC.region ?_
    refine WL.pur (Pur.move rfl) ?_
    refine WL.pur (Pur.len rfl isSlice_22) ?_
    refine WL.any (Any.make0 sl_22 zc_45 by_45 rfl rfl (by omega) (by omega)) ?_
    rintro v75 σ _ ⟨h75, hm75, rfl, rfl⟩ _
    refine WL.pur (Pur.assign rfl) ?_
    refine WL.nil ?_
    refine WQ.thn ?_
    refine WC.seq ?_
    refine WC.block ?_
    refine WC.loop (fun j m σ' H' => ∃ (n : Nat) (hp : List Nat) (sv os : Value) (hh ho : HList) (gl : Nat → Value), j = l.length - n ∧ n ≤ l.length ∧ SlO σ' eHash 39 32 sv hp hh ∧ HeapN hp hp.length ∧ hp.Perm ((readyL l (ordN l n)).map (idAt l)) ∧ (∀ k, k < l.length → gl k = .int .i64 ((lackN l (ordN l n) k : Nat) : Int)) ∧ SlO σ' eEnt 45 36 os (ordEn l n) ho ∧ m = [(0, .slice la l.length lc), (1, .map (some bm)), (5, .slice (some ⟨b18, 0, none⟩) l.length l.length), (6, .slice (some ⟨b21, 0, none⟩) l.length l.length), (7, .pointer (some ⟨b23, 0, none⟩)), (12, os)] ∧ σ' = σ ∧ H' = ho ++ (hh ++ (b23, rowO 229 [sv]) :: (b18, rowO 3 ((List.range l.length).map gl)) :: Hr)) ⟨0, hp0, sv, v75, hh, h75, g, rfl, by omega, hso, hheap, by rw [← ready_start (Nat.le_refl _) rfl]; exact hperm, hgr0, ⟨[], hm75, ElR.nil⟩, rfl, rfl, rfl⟩ zcV zsL ?_
    rintro _ _ σ Hr ⟨n, hpA, svA, os, hhA, ho, gl, rfl, hn, hsoA, hheapA, hpermA, hgl, hoso, rfl, rfl, rfl⟩
    obtain ⟨sa, sc, rfl, hsc⟩ := hsoA.shape
    refine WC.seq ?_
    refine WC.seq ?_
    refine WC.region ?_
    refine WL.pur (Pur.move rfl) ?_
    refine WL.pur (Pur.nilCheck rfl) ?_
    refine' WL.pur (Pur.load1 rfl ty_229 ?h27_0) ?k27
    case h27_0 => first | (apply Rd.own1; exact zmE; rfl) | (apply RdV.rd; apply RdV.idx (i := 0); assumption; rfl)
    refine WL.callP rfl Tryz.call151 (rd_Len _ sa hpA.length sc) ?_
    refine' WL.pur (Pur.bin rfl rfl ?h28_0) ?k28
    case h28_0 => first | exact Bin.gtN (b := 0) | exact Bin.gtI
    refine WL.nil ?_
    refine WQ.thn ?_
    first | refine WC.cond rfl (fun hc3 => ?_) (fun hc3 => ?_) | refine WC.condB rfl (fun hc3 => ?_) (fun hc3 => ?_)
    · obtain ⟨i0, hi0, hid0⟩ := next_min hg hpermA hheapA hc3
      have hr0 := readyB_iff.1 (nextR_some hi0).1
      have hi0l := hr0.1
      have hidx : idxOf l (hpA.getD 0 0) = some i0 := (idx_id hg.nodup).2 ⟨hi0l, hid0⟩
      have hmg0 : (mget (idsFrom l 0) (hpA.getD 0 0)).getD (.int .i64 0) = .int .i64 (i0 : Int) := by rw [mget_ids0, hidx]; rfl
      obtain ⟨e, he⟩ : ∃ e, l[i0]? = some e := ⟨_, List.getElem?_eq_getElem hi0l⟩
      obtain ⟨pv, ov, hrd, heH, hNR⟩ := ent_rd h' hel he
      obtain ⟨pa, pc, rfl, hpc, hpb⟩ := hNR.1.shape
      obtain ⟨oa, oc, rfl, hoc, hob⟩ := hNR.2.1.shape
      have hpH0 : IsH (hpA.getD 0 0) := by rw [← hid0]; exact (id_rd h' hel hi0l).2
      obtain ⟨ka, kc, hkr, hke⟩ := kids_rd hkids hi0l
      obtain ⟨kb, koff, hek⟩ := addr_of hke
      have hklen := kidsL_len l i0
      have hoel := ordEn_len hg hn
      have hn2 : n < l.length := by
        rcases Nat.lt_or_ge n l.length with hlt | hge
        · exact hlt
        · exfalso
          have hnn : n = l.length := by omega
          subst hnn
          have := missing_none hg (nextR_some hi0).1
          exact this
      refine WC.skip ?_
      refine WQ.thn ?_
      refine WC.block ?_
      refine WC.seq ?_
      refine WC.region ?_
      refine WL.pur (Pur.move rfl) ?_
      refine WL.pur (Pur.move rfl) ?_
      refine WL.pur (Pur.makeInterface rfl (mi228 _)) ?_
      refine WL.call (H0 := hhA ++ [(b23, rowO 229 [.slice sa hpA.length sc])]) (Hr := ho ++ ((b18, rowO 3 ((List.range l.length).map gl)) :: Hr)) rfl Tryz.call152 pop_perm (heap_Pop _ b23 (hpA.length - 1) (.slice sa hpA.length sc) hpA hhA hsoA hheapA (by omega) (by have := rdy_len (is := List.range l.length) (by simp) hpermA; omega)) ?_
      rintro v84 σ _ ⟨rfl, ⟨sv2, hp2, hh2, hso2, hperm2, hheap2, rfl⟩, rfl⟩ _
      refine WL.perm (H0 := ho ++ (hh2 ++ (b23, rowO 229 [sv2]) :: (b18, rowO 3 ((List.range l.length).map gl)) :: Hr)) ?_ pop_perm.symm
      have hperm20 : hp2.Perm ((restL l n i0 ++ freeL l n ((kidsL l i0).take 0)).map (idAt l)) := by
        have h1 := (hperm2.trans hpermA).trans ((ready_split hi0).map (idAt l))
        rw [List.map_cons, hid0] at h1
        have h2 := (List.perm_append_comm.trans h1)
        simpa [freeL] using h2
      refine WL.pur (Pur.typeAssert rfl isPlainT_39) ?_
      refine WL.pur ((pur_look hmg0 (Pur.lookup (K := hashV) rfl rfl mt_142 (keyC_hash isHKey_39) zv_3 (Or.inr hat) hok hpH0))) ?_
      refine WL.pur (Pur.assign rfl) ?_
      refine WL.nil ?_
      refine WQ.thn ?_
      refine WC.seq ?_
      refine WC.region ?_
      refine WL.pur (Pur.move rfl) ?_
      refine WL.pur (Pur.move rfl) ?_
      refine WL.pur (Pur.move rfl) ?_
      refine' WL.pur (Pur.indexAddr (eqA (hel (by omega))) rfl sl_22 ?h29_0) ?k29
      case h29_0 => omega
      refine' WL.pur (Pur.loadN rfl ty_45 ?h30_0 ?h30_1) ?k30
      case h30_0 => first | (apply Rd.own_sub; exact zmE; exact Sub.refl _) | (apply RdV.rd; assumption)
      case h30_1 => first | rfl | assumption
      refine WL.new (New.buildSliceN (xs := [.tmp 91]) (vss := [entCells e.id e.node.au e.node.cl (.slice pa e.node.ps.length pc) (.slice oa e.node.ops.length oc)]) sl_22 zc_45 rfl rfl rfl (by rfl) (by rfl)) (fun b92 => ?_)
      refine' WL.any (Any.push (H1 := [(b92, _)]) (H2 := hh2 ++ (b23, rowO 229 [sv2]) :: (b18, rowO 3 ((List.range l.length).map gl)) :: Hr) sl_22 zc_45 rfl by_45 rfl rfl hoso ?h31_0 ?h31_1 ?h31_2 ?h31_3 rfl (by omega) (by omega)) ?k31
      case h31_0 => apply Rd.own_sub; exact zmE; exact Sub.refl _
      case h31_1 => first | rfl | assumption
      case h31_2 => first | rfl | assumption
      case h31_3 => exact ⟨_, _, rfl, heH, hNR⟩
      rintro v93 σ _ ⟨ho', hso', rfl, rfl⟩ _
      refine WL.pur (Pur.assign rfl) ?_
      refine WL.nil ?_
      refine WQ.thn ?_
      refine WC.seq ?_
      refine WC.region ?_
      refine WL.pur (Pur.move rfl) ?_
      refine WL.pur (Pur.move rfl) ?_
      refine' WL.pur (Pur.indexAddr rfl rfl sl_227 ?h32_0) ?k32
      case h32_0 => omega
      refine' WL.pur (Pur.load1 rfl ty_72 ?h33_0) ?k33
      case h33_0 => exact RdV.rd hkr
      refine WL.pur (Pur.len rfl isSlice_72) ?_
      refine WL.pur (Pur.move rfl) ?_
      refine WL.nil ?_
      refine WQ.thn ?_
      refine WC.block ?_
      refine WC.loop (fun j m σ' H' => ∃ (q : Nat) (gl4 : Nat → Value) (hp3 : List Nat) (sv3 : Value) (hh3 : HList), j = (kidsL l i0).length - q ∧ q ≤ (kidsL l i0).length ∧ (∀ k, k < l.length → gl4 k = .int .i64 ((lackN l (ordN l n) k - (if k ∈ (kidsL l i0).take q then 1 else 0) : Nat) : Int)) ∧ SlO σ' eHash 39 32 sv3 hp3 hh3 ∧ HeapN hp3 hp3.length ∧ hp3.Perm ((restL l n i0 ++ freeL l n ((kidsL l i0).take q)).map (idAt l)) ∧ m = [(0, .slice la l.length lc), (1, .map (some bm)), (5, .slice (some ⟨b18, 0, none⟩) l.length l.length), (6, .slice (some ⟨b21, 0, none⟩) l.length l.length), (7, .pointer (some ⟨b23, 0, none⟩)), (12, v93), (13, .int .i64 (i0 : Int)), (97, .slice ka (kidsL l i0).length kc), (98, .int .i64 ((kidsL l i0).length : Int)), (99, .int .i64 (q : Int))] ∧ σ' = σ ∧ H' = ho' ++ (hh3 ++ (b23, rowO 229 [sv3]) :: (b18, rowO 3 ((List.range l.length).map gl4)) :: Hr)) ⟨0, gl, hp2, sv2, hh2, rfl, by omega, fun k hk => by rw [hgl k hk]; simp, hso2, hheap2, hperm20, rfl, rfl, rfl⟩ zcV zsL ?_
      rintro _ _ σ Hr ⟨q, gl4, hp3, sv3, hh3, rfl, hq, hgl4, hso3, hheap3, hperm3, rfl, rfl, rfl⟩
      refine WC.seq ?_
      refine WC.region ?_
      refine' WL.pur (Pur.bin rfl rfl ?h34_0) ?k34
      case h34_0 => first | exact Bin.ltN | exact Bin.ltI | exact Bin.ltS
      refine WL.nil ?_
      refine WQ.thn ?_
      refine WC.seq ?_
      first | refine WC.cond rfl (fun hc4 => ?_) (fun hc4 => ?_) | refine WC.condB rfl (fun hc4 => ?_) (fun hc4 => ?_)
      · have hkq := nat_rd hke hek hc4
        have hkm := getD_mem hc4
        have hk0 := (kidsL_lt hkm).1
        have hpos := kid_pos hg hi0 hkm
        have hgk : gl4 ((kidsL l i0).getD q 0) = .int .i64 ((lackN l (ordN l n) ((kidsL l i0).getD q 0) : Nat) : Int) := by rw [hgl4 _ hk0, if_neg (kid_take hc4)]; simp
        have hks := kid_step hc4 hgl4
        have hlkb := lackN_le hg (ordN l n) ((kidsL l i0).getD q 0)
        have hfs := freeL_step (l := l) (n := n) hc4
        have hks0 : (if (kidsL l i0).getD q 0 = (kidsL l i0).getD q 0 then Value.int .i64 ((lackN l (ordN l n) ((kidsL l i0).getD q 0) - 1 : Nat) : Int) else gl4 ((kidsL l i0).getD q 0)) = Value.int .i64 ((lackN l (ordN l n) ((kidsL l i0).getD q 0) - 1 : Nat) : Int) := if_pos rfl
        have hidr := id_rd h' hel hk0
        have hidH := hidr.2
        refine WC.skip ?_
        refine WQ.thn ?_
        refine WC.seq ?_
        refine WC.block ?_
        refine WC.seq ?_
        refine WC.region ?_
        refine' WL.pur (Pur.indexAddr (eqA (hek (by omega))) rfl sl_72 ?h35_0) ?k35
        case h35_0 => omega
        refine' WL.pur (Pur.load1 rfl ty_3 ?h36_0) ?k36
        case h36_0 => exact RdV.rd hkq
        refine WL.pur (Pur.assign rfl) ?_
        refine WL.nil ?_
        refine WQ.thn ?_
        refine WC.seq ?_
        refine WC.region ?_
        refine WL.pur (Pur.move rfl) ?_
        refine WL.pur (Pur.move rfl) ?_
        refine' WL.pur (Pur.indexAddr rfl rfl sl_72 ?h37_0) ?k37
        case h37_0 => omega
        refine' WL.pur (Pur.load1 rfl ty_3 ?h38_0) ?k38
        case h38_0 => apply Rd.own1; exact zmE; exact (get_range_map1 hk0).trans (congrArg some hgk)
        refine' WL.pur (Pur.bin rfl rfl ?h39_0) ?k39
        case h39_0 => first | (refine Bin.subN (b := 1) ?_ ?_ <;> omega) | (refine Bin.subI ?_; omega)
        refine' WL.pur (Pur.indexAddr rfl rfl sl_72 ?h40_0) ?k40
        case h40_0 => omega
        refine' WL.run0 (Run.storeF rfl rfl ty_3 (by first | rfl | assumption) ?h41_0 ?h41_1 sz_3) ?k41
        case h41_0 => repeat (first | exact Part.one | exact Part.here | apply Part.cons | apply Part.app)
        case h41_1 => first | assumption | omega
        refine WL.nil ?_
        refine WQ.thn ?_
        refine WC.seq ?_
        refine WC.region ?_
        refine WL.pur (Pur.move rfl) ?_
        refine WL.pur (Pur.move rfl) ?_
        refine' WL.pur (Pur.indexAddr rfl rfl sl_72 ?h42_0) ?k42
        case h42_0 => omega
        refine' WL.pur (Pur.load1 rfl ty_3 ?h43_0) ?k43
        case h43_0 => apply Rd.own1; exact zmE; exact (get_range_map1 hk0).trans (congrArg some hks0)
        refine' WL.pur (Pur.bin rfl rfl ?h44_0) ?k44
        case h44_0 => first | exact Bin.eqN (b := 0) | exact Bin.eqI
        refine WL.nil ?_
        refine WQ.thn ?_
        first | refine WC.cond rfl (fun hc5 => ?_) (fun hc5 => ?_) | refine WC.condB rfl (fun hc5 => ?_) (fun hc5 => ?_)
        · rw [if_pos (by omega)] at hfs
          refine WC.region ?_
          refine WL.pur (Pur.move rfl) ?_
          refine WL.pur (Pur.makeInterface rfl (mi228 _)) ?_
          refine WL.pur (Pur.move rfl) ?_
          refine WL.pur (Pur.move rfl) ?_
          refine' WL.pur (Pur.indexAddr (eqA (hel (by omega))) rfl sl_22 ?h45_0) ?k45
          case h45_0 => omega
          refine WL.pur (Pur.fieldAddr rfl fo_45_0) ?_
          refine' WL.pur (Pur.loadN rfl ty_39 ?h46_0 ?h46_1) ?k46
          case h46_0 => exact RdV.rd hidr.1
          case h46_1 => first | rfl | assumption
          refine WL.pur (Pur.makeInterface rfl (mi39 _)) ?_
          refine WL.call (H0 := hh3 ++ [(b23, rowO 229 [sv3])]) (Hr := ho' ++ ((b18, rowO 3 ((List.range l.length).map (fun j => if j = (kidsL l i0).getD q 0 then Value.int .i64 ((lackN l (ordN l n) ((kidsL l i0).getD q 0) - 1 : Nat) : Int) else gl4 j))) :: Hr)) rfl Tryz.call150 pop_perm (heap_Push _ b23 (idAt l ((kidsL l i0).getD q 0)) sv3 hp3 hh3 hso3 hheap3 hidH (by have := rest_len hg hn2 hperm3 (by simp; omega); omega)) ?_
          rintro v122 σ _ ⟨⟨sv4, hp4, hh4, hso4, hperm4, hheap4, rfl⟩, rfl⟩ _
          refine WL.perm (H0 := ho' ++ (hh4 ++ (b23, rowO 229 [sv4]) :: (b18, rowO 3 ((List.range l.length).map (fun j => if j = (kidsL l i0).getD q 0 then Value.int .i64 ((lackN l (ordN l n) ((kidsL l i0).getD q 0) - 1 : Nat) : Int) else gl4 j))) :: Hr)) ?_ pop_perm.symm
          refine WL.nil ?_
          refine WQ.blk ?_
          refine WQ.thn ?_
          refine WC.region ?_
          refine' WL.pur (Pur.bin rfl rfl ?h47_0) ?k47
          case h47_0 => first | (refine Bin.addN (b := 1) ?_; omega) | (refine Bin.addI ?_; omega)
          refine WL.pur (Pur.move rfl) ?_
          refine WL.nil ?_
          refine WQ.back _ ⟨q + 1, _, hp4, sv4, hh4, rfl, by omega, hks, hso4, hheap4, by rw [hfs, ← List.append_assoc, List.map_append]; exact hperm4.trans (hperm3.append_right _), rfl, rfl, rfl⟩ (by omega) zcV zsL
        · rw [if_neg (by omega)] at hfs
          refine WC.skip ?_
          refine WQ.blk ?_
          refine WQ.thn ?_
          refine WC.region ?_
          refine' WL.pur (Pur.bin rfl rfl ?h48_0) ?k48
          case h48_0 => first | (refine Bin.addN (b := 1) ?_; omega) | (refine Bin.addI ?_; omega)
          refine WL.pur (Pur.move rfl) ?_
          refine WL.nil ?_
          refine WQ.back _ ⟨q + 1, _, hp3, sv3, hh3, rfl, by omega, hks, hso3, hheap3, by rw [hfs]; exact hperm3, rfl, rfl, rfl⟩ (by omega) zcV zsL
      · have hq2 : q = (kidsL l i0).length := by omega
        rw [hq2, List.take_of_length_le (Nat.le_refl _)] at hgl4 hperm3
        refine WC.exit ?_
        refine WQ.thn_exit ?_
        refine WQ.back_exit ?_
        refine WQ.blk_here ?_
        refine WQ.blk ?_
        refine WQ.back _ ⟨n + 1, hp3, sv3, _, hh3, ho', _, rfl, by omega, hso3, hheap3, hperm3.trans ((ready_after hg hi0).map _).symm, lack_step hg hi0 hgl4, by rw [ordEn_succ hi0 he]; exact hso', rfl, rfl, rfl⟩ (by omega) zcV zsL
    · have hnl := readyL_nil hg hn hpermA (by omega)
      refine WC.exit ?_
      refine WQ.thn_exit ?_
      refine WQ.back_exit ?_
      refine WQ.blk_here ?_
      refine WQ.thn ?_
      refine WC.seq ?_
      refine WC.region ?_
      refine WL.pur (Pur.move rfl) ?_
      refine WL.pur (Pur.assign rfl) ?_
      refine WL.nil ?_
      refine WQ.thn ?_
      refine WC.ret ?_
      refine WQ.ret1 Tryz.results93 rfl ho (List.Sublist.append_left ((List.Sublist.cons _ (List.Sublist.cons _ (List.Sublist.refl _))).trans (List.sublist_append_right hhA _)) ho) hle2 ?_
      exact ⟨ho, by subst hnl; exact hoso, rfl⟩

end Go.Proofs.YtgoooilgmabkmaaGreat
namespace Go.Proofs.YtgoooilgmabkmaaGreat
open Go Go.Sl
set_option linter.unusedVariables false
set_option linter.unusedSimpArgs false
set_option maxRecDepth 100000

theorem by_51' : (Tryz.prog.info? 51).map (·.bytes) = some 88 := by kernel_rfl
theorem zc_51' : zc Tryz.prog 51 = some (opCells 0 ByteArray.empty ByteArray.empty 0 0 0) := by kernel_rfl
theorem sl_41' : slE Tryz.prog 41 = some (39, 32) := by kernel_rfl
theorem by_39' : (Tryz.prog.info? 39).map (·.bytes) = some 32 := by kernel_rfl

theorem past_own (σ : View) (id : Nat) (x : NodeD) (pv ov : Value) (h : NodeR σ x pv ov) :
    Tri Tryz.prog 112 #[.agg (entCells id x.au x.cl pv ov).toArray] σ [] (fun v σ' H' => (∃ pv' ov', v = .agg (entCells id x.au x.cl pv' ov').toArray ∧ NodeR σ' x pv' ov') ∧ H' = []) := by
  obtain ⟨hps, hops, hau, hcl⟩ := h
  obtain ⟨pa, pc, rfl, hpc, hpb⟩ := hps.shape
  obtain ⟨oa, oc, rfl, hoc, hob⟩ := hops.shape
  refine Tri.of_body [(0, .agg (entCells id x.au x.cl (.slice pa x.ps.length pc) (.slice oa x.ops.length oc)).toArray)] Tryz.func112 rfl Tryz.ntmps112 (by simp) rfl (fun Hr => ?_)
  rw [List.nil_append]
  refine WC.seq ?_
  refine WC.region ?_
  refine WL.new (New.boxN rfl) (fun b1 => ?_)
  refine WL.new (New.alloc zc_45) (fun b2 => ?_)
  refine WL.nil ?_
  refine WQ.thn ?_
  refine WC.seq ?_
  refine WC.region ?_
  refine WL.pur (Pur.fieldAddr rfl fo_45_1) ?_
  refine WL.pur (Pur.fieldAddr rfl fo_43_2) ?_
  refine' WL.pur (Pur.load1 rfl ty_41 ?h1_0) ?k1
  case h1_0 => first | (apply Rd.own1; exact zmE; rfl) | (apply RdV.rd; apply RdV.idx (i := 34); assumption; rfl) | (apply RdV.rd; apply RdV.idx (off := 0) (i := 34); assumption; rfl)
  refine WL.any (Any.pushAll (H1 := []) sl_41' zc_39 rfl by_39' rfl rfl SlO.nil hps rfl (by simp; omega) (by simp; omega)) ?_
  rintro v6 σ _ ⟨h6, hs6, rfl, rfl⟩ _
  have h1c6 := hs6.one_cell
  refine WL.pur (Pur.fieldAddr rfl fo_45_1) ?_
  refine WL.pur (Pur.fieldAddr rfl fo_43_2) ?_
  refine' WL.run0 (Run.store1 rfl rfl ty_41 (by first | rfl | assumption) ?h2_0 ?h2_1 sz_41) ?k2
  case h2_0 => repeat (first | exact Part.one | exact Part.here | apply Part.cons | apply Part.app)
  case h2_1 => exact Nat.le_of_ble_eq_true rfl
  refine WL.nil ?_
  refine WQ.thn ?_
  refine WC.seq ?_
  refine WC.region ?_
  refine WL.pur (Pur.fieldAddr rfl fo_45_1) ?_
  refine WL.pur (Pur.fieldAddr rfl fo_43_3) ?_
  refine' WL.pur (Pur.load1 rfl ty_40 ?h3_0) ?k3
  case h3_0 => first | (apply Rd.own1; exact zmE; rfl) | (apply RdV.rd; apply RdV.idx (i := 35); assumption; rfl) | (apply RdV.rd; apply RdV.idx (off := 0) (i := 35); assumption; rfl)
  refine WL.any (Any.pushAll (H1 := []) sl_40 zc_51' rfl by_51' rfl rfl SlO.nil hops rfl (by simp; omega) (by simp; omega)) ?_
  rintro v12 σ _ ⟨h12, hs12, rfl, rfl⟩ _
  have h1c12 := hs12.one_cell
  refine WL.pur (Pur.fieldAddr rfl fo_45_1) ?_
  refine WL.pur (Pur.fieldAddr rfl fo_43_3) ?_
  refine' WL.run0 (Run.store1 rfl rfl ty_40 (by first | rfl | assumption) ?h4_0 ?h4_1 sz_40) ?k4
  case h4_0 => repeat (first | exact Part.one | exact Part.here | apply Part.cons | apply Part.app)
  case h4_1 => exact Nat.le_of_ble_eq_true rfl
  refine WL.nil ?_
  refine WQ.thn ?_
  refine WC.seq ?_
  refine WC.region ?_
  have hes : (((entCells id x.au x.cl (.slice pa x.ps.length pc) (.slice oa x.ops.length oc)).set (0 + 32 + 2) v6).set (0 + 32 + 3) v12) = entCells id x.au x.cl v6 v12 := rfl
  rw [hes]
  have hone : (entCells id x.au x.cl v6 v12).all (·.oneCell') = true := by rw [entCells, List.all_append, hashCells_one]; exact by (show (true && (true && (true && (v6.oneCell' && (v12.oneCell' && true))))) = true; rw [h1c6, h1c12]; rfl)
  refine' WL.pur (Pur.loadN rfl ty_45 ?h5_0 ?h5_1) ?k5
  case h5_0 => first | (apply Rd.own_sub; exact zmE; exact Sub.refl _) | (apply RdV.rd; assumption)
  case h5_1 => first | rfl | assumption
  refine' WL.run0 (Run.storeAll rfl rfl ty_45 ?h6_0 (by first | rfl | assumption) ?h6_1 (by first | rfl | assumption)) ?k6
  case h6_0 => repeat (first | exact Part.one | exact Part.here | apply Part.cons | apply Part.app)
  case h6_1 => first | rfl | assumption
  refine WL.nil ?_
  refine WQ.thn ?_
  refine WC.ret ?_
  refine WQ.giveS (byt := 88) (H1 := []) eOp_mono hs12 (by simpa using hob) rfl (fun σ1 hle1 hsl1 => ?_)
  refine WQ.giveS (byt := 32) (H1 := []) eHash_mono (hs6.mono eHash_mono hle1) (by simpa using hpb) rfl (fun σ2 hle2 hsl2 => ?_)
  rw [List.nil_append]
  refine' WQ.retC Tryz.results112 rfl ty_45 ?h7_0 ?h7_1 [] zsL (View.le_trans hle1 hle2) ?k7
  case h7_0 => apply Rd.own_sub; exact zmE; exact Sub.refl _
  case h7_1 => rfl
  exact ⟨⟨v6, v12, rfl, by simpa using hsl2, (hsl1.mono eOp_mono hle2), hau, hcl⟩, rfl⟩

end Go.Proofs.YtgoooilgmabkmaaGreat
