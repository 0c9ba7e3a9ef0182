/-
  Contracts of the functions of the program: what each call hands back, from what is known and owned.
-/
import Derived.Test.YtgoooilgmabkmaaCa
import Derived.Test.YtgoooilgmabkmaaRows
import Derived.WalkKit
import Derived.ProofKit
import Derived.OpenShut
import Derived.ShutString
import Derived.ChangeOld
import Derived.Below
set_option linter.unusedVariables false
set_option linter.unusedSimpArgs false
set_option linter.unusedSectionVars false
namespace Go.Proofs.Ytgoooilgmabkmaa
open Go Go.Sl
set_option linter.unusedVariables false
set_option linter.unusedSimpArgs false
set_option maxRecDepth 100000

theorem past_made (σ0 : View) (lv : Value) (L : List EntD) (h : Ents σ0 lv L) (ho : OrdOk L) :
    Tri Try.prog 36 #[lv] σ0 [] (fun v σ' H' => PastV σ' v L ∧ H' = []) := by
  have h0' := h
  obtain ⟨la, lc, rfl, hlc, hlby⟩ := h.shape
  obtain ⟨lb, loff, hel⟩ := addr_of h
  have hmost := ho.most
  have hids : ∀ e ∈ L, IsH e.id := fun e he => by
    obtain ⟨i, hi⟩ := List.getElem?_of_mem he
    obtain ⟨_, _, _, hH, _⟩ := ent_rd h0' hel hi
    exact hH
  refine Tri.of_body [(0, .slice la L.length lc)] Try.func36 rfl Try.ntmps36 (by simp) rfl (fun Hr => ?_)
  rw [List.nil_append]
  refine WC.seq ?_
  refine WC.region ?_
  refine WL.pur (Pur.assign rfl) ?_
  refine WL.nil ?_
  refine WQ.thn ?_
  refine WC.seq ?_
  refine WC.region ?_
  refine WL.new (New.makeMap) (fun b12 => ?_)
  refine WL.pur (Pur.build (l := [_, _, _]) pl_84 zc_84 rfl rfl) ?_
  refine WL.new (New.boxN rfl) (fun b14 => ?_)
  refine WL.pur (Pur.assign rfl) ?_
  refine WL.nil ?_
  refine WQ.thn ?_
  refine WC.seq ?_
  refine WC.seq ?_
  refine WC.region ?_
  refine WL.pur (Pur.move rfl) ?_
  refine WL.pur (Pur.len rfl isSlice_23) ?_
  refine WL.pur (Pur.move rfl) ?_
  refine WL.nil ?_
  refine WQ.thn ?_
  refine WC.block ?_
  refine WC.loop (fun j m σ' H' => ∃ (i : Nat) (lsv : Value) (hl : HList) (sa : Option Addr) (sc : Nat) (hsn : HList), j = L.length - i ∧ i ≤ L.length ∧ SlO σ' eEnt 37 36 lsv (L.take i) hl ∧ SlO σ' (eRowJ L) 100 1 (.slice sa i sc) (List.range i) hsn ∧ σ0.le σ' ∧ lsv.oneCell' = true ∧ m = [(0, .slice la L.length lc), (3, .pointer (some ⟨b14, 0, none⟩)), (15, .slice la L.length lc), (16, .int .i64 (L.length : Int)), (17, .int .i64 (i : Int))] ∧ H' = (b14, rowO 84 [lsv, .map (some b12), .slice sa i sc]) :: (b12, mapO hashV (idsFrom (L.take i) 0)) :: (hl ++ (hsn ++ Hr))) ⟨0, .slice none 0 0, [], none, 0, [], rfl, by omega, SlO.nil, SlO.nil, View.le_refl _, rfl, rfl, rfl⟩ zcV zsL ?_
  rintro _ _ σ Hr ⟨i, lsv, hl, sa, sc, hsn, rfl, hi, hso, hss, hle, h1c, rfl, rfl⟩
  have htl : (L.take i).length = i := by rw [List.length_take]; omega
  obtain ⟨bs, hsa, hsat⟩ := hss.rds
  rw [List.length_range] at hsa
  refine WC.seq ?_
  refine WC.region ?_
  refine' WL.pur (Pur.bin rfl rfl ?h1_0) ?k1
  case h1_0 => first | exact Bin.ltN | exact Bin.ltI | exact Bin.ltS
  refine WL.nil ?_
  refine WQ.thn ?_
  refine WC.seq ?_
  first | refine WC.cond rfl (fun hc0 => ?_) (fun hc0 => ?_) | refine WC.condB rfl (fun hc0 => ?_) (fun hc0 => ?_)
  · have h' := h0'.mono eEnt_mono hle
    obtain ⟨e, he⟩ : ∃ e, L[i]? = some e := ⟨_, List.getElem?_eq_getElem hc0⟩
    obtain ⟨qv, ov, hrd, heH, hNR⟩ := ent_rd h' hel he
    have hps' := hNR.1
    have hops' := hNR.2.1
    obtain ⟨pa, pc, rfl, hpc, hpb⟩ := hps'.shape
    obtain ⟨oa, oc, rfl, hoc, hob⟩ := hops'.shape
    obtain ⟨pb, poff, hep⟩ := addr_of hps'
    have hok : ∀ p ∈ idsFrom (L.take i) 0, IsH p.1 := ids_ok (fun e he => hids e (List.mem_of_mem_take he)) 0
    have hok1 : ∀ p ∈ idsFrom (L.take (i + 1)) 0, IsH p.1 := ids_ok (fun e he => hids e (List.mem_of_mem_take he)) 0
    have hstep := ids_step he (idx_fresh ho.nodup he)
    refine WC.skip ?_
    refine WQ.thn ?_
    refine WC.seq ?_
    refine WC.block ?_
    refine WC.seq ?_
    refine WC.region ?_
    refine WL.pur (Pur.move rfl) ?_
    refine' WL.pur (Pur.indexAddr (eqA (hel (by omega))) rfl sl_23 ?h2_0) ?k2
    case h2_0 => omega
    refine' WL.pur (Pur.loadN rfl ty_37 ?h3_0 ?h3_1) ?k3
    case h3_0 => first | (apply Rd.own_sub; exact zmE; exact Sub.refl _) | (apply RdV.rd; assumption)
    case h3_1 => first | rfl | assumption
    refine WL.new (New.alloc zc_37) (fun b5 => ?_)
    refine WL.pur (Pur.assign rfl) ?_
    refine' WL.run0 (Run.storeAll rfl rfl ty_37 ?h4_0 (by first | rfl | assumption) ?h4_1 (by first | rfl | assumption)) ?k4
    case h4_0 => repeat (first | exact Part.one | exact Part.here | apply Part.cons | apply Part.app)
    case h4_1 => first | rfl | assumption
    refine WL.nil ?_
    refine WQ.thn ?_
    refine WC.seq ?_
    refine WC.draw 9 12 ((b5, rowO 37 (entCells e.id e.node.au e.node.cl (.slice pa e.node.ps.length pc) (.slice oa e.node.ops.length oc))) :: (b14, rowO 84 [lsv, .map (some b12), .slice sa i sc]) :: (b12, mapO hashV (idsFrom (L.take i) 0)) :: []) mixed (by kernel_rfl) rfl ?_
    refine SA.takeW 0 (by kernel_rfl) rfl rfl rfl (Wanted.plain rfl) (tells_move rfl) ?_
    refine SA.takeW 1 (by kernel_rfl) rfl rfl rfl (Wanted.plain rfl) (tells_move rfl) ?_
    refine SA.takeP 2 (by kernel_rfl) rfl rfl rfl (Wanted.plain rfl) (fun _ _ => Pur.nilCheck rfl) ?_
    refine SA.takeP 3 (by kernel_rfl) rfl rfl rfl (Wanted.plain rfl) (fun _ _ => Pur.fieldAddr rfl fo_84_0) ?_
    refine' SA.take 4 (by kernel_rfl) rfl rfl rfl (Wanted.plain rfl) zsL (by first | exact View.le_refl _ | assumption) (Pur.load1 rfl ty_23 ?h5_0) ?k5
    case h5_0 => first | (apply Rd.own1; exact zmE; rfl) | (apply RdV.rd; apply RdV.idx (i := 0); assumption; rfl)
    refine' SA.take 5 (by kernel_rfl) rfl rfl rfl (Wanted.plain rfl) zsL (by first | exact View.le_refl _ | assumption) (Pur.loadN rfl ty_37 ?h6_0 ?h6_1) ?k6
    case h6_0 => first | (apply Rd.own_sub; exact zmE; exact Sub.refl _) | (apply RdV.rd; assumption)
    case h6_1 => first | rfl | assumption
    refine SA.callR 6 (H1 := []) rfl rfl (Wanted.plain rfl) (by kernel_rfl) rfl Try.call38 (List.Perm.refl _) (.inr ⟨zsL, View.le_refl _⟩) (past_own _ e.id e.node _ _ hNR) ?_
    rintro v28 σ3 _ ⟨⟨pv', ov', rfl, hNR3⟩, rfl⟩ hle3
    rw [List.nil_append]
    obtain ⟨pa3, pc3, rfl, _, _⟩ := hNR3.1.shape
    obtain ⟨oa3, oc3, rfl, _, _⟩ := hNR3.2.1.shape
    refine SA.new 7 rfl rfl rfl (Wanted.plain rfl) (by kernel_rfl) (New.buildSliceN (xs := [.tmp 28]) (vss := [entCells e.id e.node.au e.node.cl (.slice pa3 e.node.ps.length pc3) (.slice oa3 e.node.ops.length oc3)]) sl_23 zc_37 rfl rfl rfl (by rfl) (by rfl)) (.inr ⟨zsL, (by first | exact View.le_refl _ | assumption)⟩) (fun b29 => ?_)
    refine' SA.any 8 rfl rfl rfl (Wanted.plain rfl) (by kernel_rfl) (Any.push (H1 := [(b29, _), (b5, _), (b14, _), (b12, _)]) (H2 := hsn ++ Hr) sl_23 zc_37 rfl by_37 rfl rfl (hso.mono eEnt_mono hle3) ?h7_0 ?h7_1 ?h7_2 ?h7_3 rfl (by rw [htl]; omega) (by rw [htl]; omega)) (fun _ _ _ hJ => .inr ⟨by (obtain ⟨_, _, hσ, hH⟩ := hJ; subst hH; (try simp only [List.append_assoc, List.cons_append, List.nil_append]); exact zsL), (by first | exact View.le_refl _ | assumption)⟩) ?k7
    case h7_0 => apply Rd.own_sub; exact zmE; exact Sub.refl _
    case h7_1 => first | rfl | assumption
    case h7_2 => first | rfl | assumption
    case h7_3 => exact ⟨_, _, rfl, heH, hNR3⟩
    rintro v30 σ _ ⟨ho', hso', rfl, rfl⟩ _
    have h1c8 := SlO.one_cell hso'
    have hss3 := hss.mono (eRowJ_mono L) hle3
    obtain ⟨bs8, hsa8, hsat8⟩ := hss3.rds
    rw [List.length_range] at hsa8
    have hps8 := hps'.mono eHash_mono hle3
    rw [show L.take i ++ [e] = L.take (i + 1) by rw [List.take_add_one, he]; rfl] at hso'
    refine SA.run 9 rfl (fun _ e => by cases e; rfl) (Wanted.plain rfl) (by kernel_rfl) (Pur.run (Pur.nilCheck rfl)) (.inl (by decide)) ?_
    refine SA.run 10 rfl (fun _ e => by cases e; rfl) (Wanted.plain rfl) (by kernel_rfl) (Pur.run (Pur.fieldAddr rfl fo_84_0)) (.inl (by decide)) ?_
    refine' SA.run 11 rfl (fun _ e => by cases e) (Wanted.plain rfl) (by kernel_rfl) (Run.store1 rfl rfl ty_23 (by first | rfl | assumption) ?h8_0 ?h8_1 sz_23) (.inl (by decide)) ?k8
    case h8_0 => repeat (first | exact Part.one | exact Part.here | apply Part.cons | apply Part.app)
    case h8_1 => first | exact Nat.le_of_ble_eq_true rfl | decide | (simp; done) | (simp; omega) | omega
    refine SA.done (by kernel_rfl) ?_
    refine WQ.thn ?_
    refine WC.seq ?_
    refine WC.drawH 7 8 mixed (by kernel_rfl) rfl ?_
    refine SA.takeW 0 (by kernel_rfl) rfl rfl rfl (Wanted.plain rfl) (tells_move rfl) ?_
    refine SA.takeP 1 (by kernel_rfl) rfl rfl rfl (Wanted.plain rfl) (fun _ _ => Pur.nilCheck rfl) ?_
    refine SA.takeP 2 (by kernel_rfl) rfl rfl rfl (Wanted.plain rfl) (fun _ _ => Pur.fieldAddr rfl fo_84_1) ?_
    refine' SA.take 3 (by kernel_rfl) rfl rfl rfl (Wanted.plain rfl) zsL (by first | exact View.le_refl _ | assumption) (Pur.load1 rfl ty_77 ?h9_0) ?k9
    case h9_0 => first | (apply Rd.own1; exact zmE; rfl) | (apply RdV.rd; apply RdV.idx (i := 1); assumption; rfl) | (apply RdV.rd; apply RdV.idx (off := 0) (i := 1); assumption; rfl)
    refine SA.takeP 4 (by kernel_rfl) rfl rfl rfl (Wanted.plain rfl) (fun _ _ => Pur.fieldAddr rfl fo_37_0) ?_
    refine' SA.take 5 (by kernel_rfl) rfl rfl rfl (Wanted.plain rfl) zsL (by first | exact View.le_refl _ | assumption) (Pur.loadN rfl ty_31 ?h10_0 ?h10_1) ?k10
    case h10_0 => first | (apply Rd.own_sub; exact zmE; exact Sub.ent_hash _ _ _ _ _) | (apply RdV.rd; apply RdV.sub0; assumption; exact Sub.ent_hash _ _ _ _ _)
    case h10_1 => first | rfl | assumption
    refine SA.takeW 6 (by kernel_rfl) rfl rfl rfl (Wanted.plain rfl) (tells_move rfl) ?_
    refine' SA.run 7 rfl (fun _ e => by cases e) (Wanted.plain rfl) (by kernel_rfl) (Run.mapUpdate rfl rfl rfl mt_77 (K := hashV) (keyC_hash isHKey_31) ?h11_0 ?h11_1 ?h11_2) (.inl (by decide)) ?k11
    case h11_0 => repeat (first | exact Part.one | exact Part.here | apply Part.cons | apply Part.app)
    case h11_1 => first | assumption | exact fun _ _ => trivial
    case h11_2 => first | assumption | trivial
    refine SA.done (by kernel_rfl) ?_
    refine WQ.thn ?_
    refine WC.seq ?_
    refine WC.region ?_
    rw [hstep]
    refine WL.pur (Pur.move rfl) ?_
    refine' WL.pur (Pur.bin rfl rfl ?h12_0) ?k12
    case h12_0 => first | (refine Bin.addN (b := 63) ?_; omega) | (refine Bin.addI ?_; omega)
    refine' WL.pur (Pur.bin rfl rfl ?h13_0) ?k13
    case h13_0 => first | (refine Bin.quoN (b := 64) ?_ ?_ <;> omega)
    refine WL.any (Any.make1 sl_100 zc_101 by_101 rfl rfl (by omega) (by omega)) ?_
    rintro _ σ _ ⟨b43, rfl, rfl, rfl⟩ _
    refine WL.pur (Pur.assign rfl) ?_
    refine WL.nil ?_
    refine WQ.thn ?_
    refine WC.seq ?_
    refine WC.seq ?_
    refine WC.region ?_
    refine WL.pur (Pur.fieldAddr rfl fo_37_1) ?_
    refine WL.pur (Pur.fieldAddr rfl fo_35_2) ?_
    refine' WL.pur (Pur.load1 rfl ty_32 ?h14_0) ?k14
    case h14_0 => first | (apply Rd.own1; exact zmE; rfl) | (apply RdV.rd; apply RdV.idx (i := 34); assumption; rfl) | (apply RdV.rd; apply RdV.idx (off := 0) (i := 34); assumption; rfl)
    refine WL.pur (Pur.len rfl isSlice_32) ?_
    refine WL.pur (Pur.move rfl) ?_
    refine WL.nil ?_
    refine WQ.thn ?_
    refine WC.block ?_
    rw [words_zero]
    refine WC.loop (fun j m σ' H' => ∃ q : Nat, j = e.node.ps.length - q ∧ q ≤ e.node.ps.length ∧ m = [(0, .slice la L.length lc), (3, .pointer (some ⟨b14, 0, none⟩)), (15, .slice la L.length lc), (16, .int .i64 (L.length : Int)), (17, .int .i64 (i : Int)), (4, .int .i64 (i : Int)), (6, .slice (some ⟨b43, 0, none⟩) ((i + 63) / 64) ((i + 63) / 64)), (46, .slice pa e.node.ps.length pc), (47, .int .i64 (e.node.ps.length : Int)), (48, .int .i64 (q : Int))] ∧ σ' = σ ∧ H' = (b43, rowO 101 ((List.range ((i + 63) / 64)).map (wordV (rowAcc (rowsN L i) (pk L e.node.ps q))))) :: (b14, rowO 84 [v30, .map (some b12), .slice sa i sc]) :: (b12, mapO hashV (idsFrom (L.take (i + 1)) 0)) :: (ho' ++ (hsn ++ Hr))) ⟨0, rfl, by omega, rfl, rfl, by rw [pk_zero, rowAcc_nil]⟩ zcV zsL ?_
    rintro _ _ σ Hr ⟨q, rfl, hq, rfl, rfl, rfl⟩
    refine WC.seq ?_
    refine WC.region ?_
    refine' WL.pur (Pur.bin rfl rfl ?h15_0) ?k15
    case h15_0 => first | exact Bin.ltN | exact Bin.ltI | exact Bin.ltS
    refine WL.nil ?_
    refine WQ.thn ?_
    refine WC.seq ?_
    first | refine WC.cond rfl (fun hc1 => ?_) (fun hc1 => ?_) | refine WC.condB rfl (fun hc1 => ?_) (fun hc1 => ?_)
    · obtain ⟨p, hp⟩ : ∃ p, e.node.ps[q]? = some p := ⟨_, List.getElem?_eq_getElem (by omega)⟩
      obtain ⟨hpr, hpH⟩ := hash_rd hps8 hep hp
      obtain ⟨k, hki, hkx⟩ := ho.par i e he p (List.mem_of_getElem? hp)
      have hmg : (mget (idsFrom (L.take (i + 1)) 0) p).getD (.int .i64 0) = .int .i64 (k : Int) := by rw [mget_ids0, idxOf_take hkx (by omega)]; rfl
      obtain ⟨vs, hv1, hv2, ⟨wv, rfl, hv3, hwv⟩, hvr⟩ := hsat8 k k (List.getElem?_range hki)
      obtain ⟨wa, wc, rfl, hwc, hwb⟩ := hwv.shape
      obtain ⟨wb, woff, hew⟩ := addr_of hwv
      have hwl : (wordsOf L k).length = (k + 63) / 64 := wordsOf_len L k
      have hrk := rows_at hki (show i ≤ L.length by omega)
      have hrk2 : (rowsN L i).getD k 0 < 2 ^ k := by rw [← hrk]; exact rowsN_lt ho L.length k (by omega)
      refine WC.skip ?_
      refine WQ.thn ?_
      refine WC.seq ?_
      refine WC.block ?_
      refine WC.seq ?_
      refine WC.region ?_
      refine' WL.pur (Pur.indexAddr (eqA (hep (by omega))) rfl sl_32 ?h16_0) ?k16
      case h16_0 => omega
      refine' WL.pur (Pur.loadN rfl ty_31 ?h17_0 ?h17_1) ?k17
      case h17_0 => exact RdV.rd hpr
      case h17_1 => first | rfl | assumption
      refine WL.new (New.alloc zc_31) (fun b8 => ?_)
      refine' WL.run0 (Run.storeAll rfl rfl ty_31 ?h18_0 (by first | rfl | assumption) ?h18_1 (by first | rfl | assumption)) ?k18
      case h18_0 => repeat (first | exact Part.one | exact Part.here | apply Part.cons | apply Part.app)
      case h18_1 => first | rfl | assumption
      refine WL.nil ?_
      refine WQ.thn ?_
      refine WC.seq ?_
      refine WC.drawH 7 7 mixed (by kernel_rfl) rfl ?_
      refine SA.take 0 (by kernel_rfl) rfl rfl rfl (Wanted.plain rfl) zsL (by first | exact View.le_refl _ | assumption) (Pur.move rfl) ?_
      refine SA.take 1 (by kernel_rfl) rfl rfl rfl (Wanted.plain rfl) zsL (by first | exact View.le_refl _ | assumption) (Pur.nilCheck rfl) ?_
      refine SA.take 2 (by kernel_rfl) rfl rfl rfl (Wanted.plain rfl) zsL (by first | exact View.le_refl _ | assumption) (Pur.fieldAddr rfl fo_84_1) ?_
      refine' SA.take 3 (by kernel_rfl) rfl rfl rfl (Wanted.plain rfl) zsL (by first | exact View.le_refl _ | assumption) (Pur.load1 rfl ty_77 ?h19_0) ?k19
      case h19_0 => first | (apply Rd.own1; exact zmE; rfl) | (apply RdV.rd; apply RdV.idx (i := 1); assumption; rfl) | (apply RdV.rd; apply RdV.idx (off := 0) (i := 1); assumption; rfl)
      refine' SA.take 4 (by kernel_rfl) rfl rfl rfl (Wanted.plain rfl) zsL (by first | exact View.le_refl _ | assumption) (Pur.loadN rfl ty_31 ?h20_0 ?h20_1) ?k20
      case h20_0 => first | (apply Rd.own_sub; exact zmE; exact Sub.refl _) | (apply RdV.rd; assumption)
      case h20_1 => first | rfl | assumption
      refine SA.take 5 (by kernel_rfl) rfl rfl rfl (Wanted.plain rfl) zsL (by first | exact View.le_refl _ | assumption) ((pur_look hmg (Pur.lookup (K := hashV) rfl rfl mt_77 (keyC_hash isHKey_31) zv_3 (Or.inl (by repeat (first | exact List.Mem.head _ | apply List.Mem.tail | apply List.mem_append_right))) hok1 hpH))) ?_
      refine SA.take 6 (by kernel_rfl) rfl rfl rfl (Wanted.plain rfl) zsL (by first | exact View.le_refl _ | assumption) (Pur.assign rfl) ?_
      refine SA.done (by kernel_rfl) ?_
      refine WQ.thn ?_
      refine WC.seq ?_
      refine WC.seq ?_
      refine WC.region ?_
      refine WL.pur (Pur.move rfl) ?_
      refine WL.pur (Pur.nilCheck rfl) ?_
      refine WL.pur (Pur.fieldAddr rfl fo_84_2) ?_
      refine' WL.pur (Pur.load1 rfl ty_82 ?h21_0) ?k21
      case h21_0 => first | (apply Rd.own1; exact zmE; rfl) | (apply RdV.rd; apply RdV.idx (i := 2); assumption; rfl) | (apply RdV.rd; apply RdV.idx (off := 0) (i := 2); assumption; rfl)
      refine WL.pur (Pur.move rfl) ?_
      refine' WL.pur (Pur.indexAddr (eqA (hsa8 (by omega))) rfl sl_82 ?h22_0) ?k22
      case h22_0 => omega
      refine' WL.pur (Pur.load1 rfl ty_100 ?h23_0) ?k23
      case h23_0 => exact hvr _ _ (fun p hp => by repeat (first | exact List.mem_append_left _ hp | apply List.Mem.tail | apply List.mem_append_right))
      refine WL.pur (Pur.len rfl isSlice_100) ?_
      refine WL.pur (Pur.move rfl) ?_
      refine WL.nil ?_
      refine WQ.thn ?_
      refine WC.block ?_
      refine WC.loop (fun j m σ' H' => ∃ u : Nat, j = (wordsOf L k).length - u ∧ u ≤ (wordsOf L k).length ∧ m = [(0, .slice la L.length lc), (3, .pointer (some ⟨b14, 0, none⟩)), (15, .slice la L.length lc), (16, .int .i64 (L.length : Int)), (17, .int .i64 (i : Int)), (4, .int .i64 (i : Int)), (6, .slice (some ⟨b43, 0, none⟩) ((i + 63) / 64) ((i + 63) / 64)), (46, .slice pa e.node.ps.length pc), (47, .int .i64 (e.node.ps.length : Int)), (48, .int .i64 (q : Int)), (9, .int .i64 (k : Int)), (64, .slice wa (wordsOf L k).length wc), (65, .int .i64 ((wordsOf L k).length : Int)), (66, .int .i64 (u : Int))] ∧ σ' = σ ∧ H' = (b43, rowO 101 ((List.range ((i + 63) / 64)).map (wordUpTo (rowAcc (rowsN L i) (pk L e.node.ps q)) ((rowsN L i).getD k 0) u))) :: (b14, rowO 84 [v30, .map (some b12), .slice sa i sc]) :: (b12, mapO hashV (idsFrom (L.take (i + 1)) 0)) :: (ho' ++ (hsn ++ Hr))) ⟨0, rfl, by omega, rfl, rfl, by rw [wordUp_zero]⟩ zcV zsL ?_
      rintro _ _ σ Hr ⟨u, rfl, hu, rfl, rfl, rfl⟩
      refine WC.seq ?_
      refine WC.region ?_
      refine' WL.pur (Pur.bin rfl rfl ?h24_0) ?k24
      case h24_0 => first | exact Bin.ltN | exact Bin.ltI | exact Bin.ltS
      refine WL.nil ?_
      refine WQ.thn ?_
      refine WC.seq ?_
      first | refine WC.cond rfl (fun hc2 => ?_) (fun hc2 => ?_) | refine WC.condB rfl (fun hc2 => ?_) (fun hc2 => ?_)
      · obtain ⟨x, hx⟩ : ∃ x, (wordsOf L k)[u]? = some x := ⟨_, List.getElem?_eq_getElem hc2⟩
        have hx2 : x = wordN ((rowsN L i).getD k 0) u := by rw [wordsOf_get (show u < (k + 63) / 64 by omega)] at hx; rw [← hrk]; exact (Option.some.inj hx).symm
        subst hx2
        have hwr := u64_rd hwv hew hx
        have huW : u < (i + 63) / 64 := by omega
        refine WC.skip ?_
        refine WQ.thn ?_
        refine WC.seq ?_
        refine WC.block ?_
        refine WC.seq ?_
        refine WC.region ?_
        refine WL.pur (Pur.move rfl) ?_
        refine' WL.pur (Pur.indexAddr (eqA (hew (by omega))) rfl sl_100 ?h25_0) ?k25
        case h25_0 => omega
        refine' WL.pur (Pur.load1 rfl ty_101 ?h26_0) ?k26
        case h26_0 => exact RdV.rd hwr
        refine WL.pur (Pur.assign rfl) ?_
        refine WL.pur (Pur.assign rfl) ?_
        refine WL.nil ?_
        refine WQ.thn ?_
        refine WC.region ?_
        refine WL.pur (Pur.move rfl) ?_
        refine WL.pur (Pur.move rfl) ?_
        refine' WL.pur (Pur.indexAddr rfl rfl sl_100 ?h27_0) ?k27
        case h27_0 => omega
        refine' WL.pur (Pur.load1 rfl ty_101 ?h28_0) ?k28
        case h28_0 => apply Rd.own1; exact zmE; exact (get_range_map1 huW).trans (congrArg some wordUp_at)
        refine WL.pur (Pur.move rfl) ?_
        refine' WL.pur (Pur.bin rfl rfl ?h29_0) ?k29
        case h29_0 => exact Bin.orU (wordN_lt _ _) (wordN_lt _ _)
        refine' WL.pur (Pur.indexAddr rfl rfl sl_100 ?h30_0) ?k30
        case h30_0 => omega
        refine' WL.run0 (Run.storeF rfl rfl ty_101 (by first | rfl | assumption) ?h31_0 ?h31_1 sz_101) ?k31
        case h31_0 => repeat (first | exact Part.one | exact Part.here | apply Part.cons | apply Part.app)
        case h31_1 => first | assumption | omega
        refine WL.nil ?_
        refine WQ.blk ?_
        refine WQ.thn ?_
        refine WC.region ?_
        refine' WL.pur (Pur.bin rfl rfl ?h32_0) ?k32
        case h32_0 => first | (refine Bin.addN (b := 1) ?_; omega) | (refine Bin.addI ?_; omega)
        refine WL.pur (Pur.move rfl) ?_
        refine WL.nil ?_
        rw [wordUp_step]
        refine WQ.back _ ⟨u + 1, rfl, by omega, rfl, rfl, rfl⟩ (by omega) zcV zsL
      · have huu : u = (wordsOf L k).length := by omega
        rw [wordUp_end hrk2 (show (k + 63) / 64 ≤ u by omega)]
        have hkW : k / 64 < (i + 63) / 64 := by omega
        refine WC.exit ?_
        refine WQ.thn_exit ?_
        refine WQ.back_exit ?_
        refine WQ.blk_here ?_
        refine WQ.thn ?_
        refine WC.drawH 9 11 mixed (by kernel_rfl) rfl ?_
        refine SA.takeW 0 (by kernel_rfl) rfl rfl rfl (Wanted.plain rfl) (tells_move rfl) ?_
        refine SA.takeW 1 (by kernel_rfl) rfl rfl rfl (Wanted.plain rfl) (tells_move rfl) ?_
        refine' SA.takeP 2 (by kernel_rfl) rfl rfl rfl (Wanted.plain rfl) (fun _ _ => Pur.bin rfl rfl ?h33_0) ?k33
        case h33_0 => first | (refine Bin.quoN (b := 64) ?_ ?_ <;> omega)
        refine' SA.takeP 3 (by kernel_rfl) rfl rfl rfl (Wanted.plain rfl) (fun _ _ => Pur.indexAddr rfl rfl sl_100 ?h34_0) ?k34
        case h34_0 => omega
        refine' SA.take 4 (by kernel_rfl) rfl rfl rfl (Wanted.plain rfl) zsL (by first | exact View.le_refl _ | assumption) (Pur.load1 rfl ty_101 ?h35_0) ?k35
        case h35_0 => apply Rd.own1; exact zmE; exact get_range_map1 hkW
        refine SA.takeW 5 (by kernel_rfl) rfl rfl rfl (Wanted.plain rfl) (tells_move rfl) ?_
        refine' SA.takeP 6 (by kernel_rfl) rfl rfl rfl (Wanted.plain rfl) (fun _ _ => Pur.bin rfl rfl ?h36_0) ?k36
        case h36_0 => first | (refine Bin.remN (b := 64) ?_; omega)
        refine' SA.takeP 7 (by kernel_rfl) rfl rfl rfl (Wanted.plain rfl) (fun _ _ => Pur.bin rfl rfl ?h37_0) ?k37
        case h37_0 => exact Bin.shlU (a := 1) (Nat.mod_lt _ (by decide)) (by rw [Nat.one_mul]; exact Nat.pow_lt_pow_right (by decide) (Nat.mod_lt _ (by decide)))
        refine' SA.takeP 8 (by kernel_rfl) rfl rfl rfl (Wanted.plain rfl) (fun _ _ => Pur.bin rfl rfl ?h38_0) ?k38
        case h38_0 => exact Bin.orU (wordN_lt _ _) (by rw [Nat.one_mul]; exact Nat.pow_lt_pow_right (by decide) (Nat.mod_lt _ (by decide)))
        refine' SA.run 9 rfl (fun _ e => by cases e; rfl) (Wanted.plain rfl) (by kernel_rfl) (Pur.run (Pur.indexAddr rfl rfl sl_100 ?h39_0)) (.inl (by decide)) ?k39
        case h39_0 => omega
        refine' SA.run 10 rfl (fun _ e => by cases e) (Wanted.plain rfl) (by kernel_rfl) (Run.storeF rfl rfl ty_101 (by first | rfl | assumption) ?h40_0 ?h40_1 sz_101) (.inl (by decide)) ?k40
        case h40_0 => repeat (first | exact Part.one | exact Part.here | apply Part.cons | apply Part.app)
        case h40_1 => first | assumption | omega
        refine SA.done (by kernel_rfl) ?_
        refine WQ.blk ?_
        refine WQ.thn ?_
        refine WC.region ?_
        refine' WL.pur (Pur.bin rfl rfl ?h41_0) ?k41
        case h41_0 => first | (refine Bin.addN (b := 1) ?_; omega) | (refine Bin.addI ?_; omega)
        refine WL.pur (Pur.move rfl) ?_
        refine WL.nil ?_
        rw [wordBit, Nat.or_assoc, ← Nat.or_assoc, ← rowAcc_snoc, ← pk_step hp hkx]
        refine WQ.back _ ⟨q + 1, rfl, by omega, rfl, rfl, rfl⟩ (by omega) zcV zsL
    · have hqq : q = e.node.ps.length := by omega
      subst hqq
      rw [words_final he]
      have hWl : (wordsOf L i).length = (i + 63) / 64 := wordsOf_len L i
      rw [← hWl]
      refine WC.giveS (E := eU64) (byt := 8) (H1 := []) eU64_mono (SlO.words (wordsOf L i)) (by omega) rfl (fun σ9 hle9 hsl9 => ?_)
      rw [List.nil_append]
      have hso9 := hso'.mono eEnt_mono hle9
      have hss9 := hss3.mono (eRowJ_mono L) hle9
      refine WC.exit ?_
      refine WQ.thn_exit ?_
      refine WQ.back_exit ?_
      refine WQ.blk_here ?_
      refine WQ.thn ?_
      refine WC.region ?_
      refine WL.pur (Pur.move rfl) ?_
      refine WL.pur (Pur.move rfl) ?_
      refine WL.pur (Pur.nilCheck rfl) ?_
      refine WL.pur (Pur.fieldAddr rfl fo_84_2) ?_
      refine' WL.pur (Pur.load1 rfl ty_82 ?h42_0) ?k42
      case h42_0 => first | (apply Rd.own1; exact zmE; rfl) | (apply RdV.rd; apply RdV.idx (i := 2); assumption; rfl) | (apply RdV.rd; apply RdV.idx (off := 0) (i := 2); assumption; rfl)
      refine WL.pur (Pur.move rfl) ?_
      refine WL.new (New.buildSliceS (xs := [.tmp 95]) sl_82 zc_100 rfl rfl rfl (by rfl) (by rfl)) (fun b96 => ?_)
      refine' WL.any (Any.push (H1 := [(b96, _), (b14, _), (b12, _)] ++ ho') (H2 := Hr) sl_82 zc_100 rfl by_100 rfl rfl hss9 ?h43_0 ?h43_1 ?h43_2 ?h43_3 (List.append_assoc [_, _, _] ho' _).symm (by rw [List.length_range]; omega) (by rw [List.length_range]; omega)) ?k43
      case h43_0 => apply Rd.own_sub; exact zmE; exact Sub.refl _
      case h43_1 => first | rfl | assumption
      case h43_2 => first | rfl | assumption
      case h43_3 => exact ⟨_, rfl, rfl, hsl9⟩
      rintro v97 σ _ ⟨hn8, hss8, rfl, rfl⟩ _
      simp only [List.cons_append, List.append_assoc, List.nil_append]
      rw [← List.range_succ] at hss8
      obtain ⟨sa8, sc8, rfl, _⟩ := hss8.shape
      rw [List.length_range] at hss8 ⊢
      have hso8 := hso9
      have hle8 := View.le_trans hle (View.le_trans hle3 hle9)
      refine WL.pur (Pur.nilCheck rfl) ?_
      refine WL.pur (Pur.fieldAddr rfl fo_84_2) ?_
      refine' WL.run0 (Run.store1 rfl rfl ty_82 (by first | rfl | assumption) ?h44_0 ?h44_1 sz_82) ?k44
      case h44_0 => repeat (first | exact Part.one | exact Part.here | apply Part.cons | apply Part.app)
      case h44_1 => first | exact Nat.le_of_ble_eq_true rfl | decide | (simp; done) | (simp; omega) | omega
      refine WL.nil ?_
      refine WQ.blk ?_
      refine WQ.thn ?_
      refine WC.region ?_
      refine' WL.pur (Pur.bin rfl rfl ?h45_0) ?k45
      case h45_0 => first | (refine Bin.addN (b := 1) ?_; omega) | (refine Bin.addI ?_; omega)
      refine WL.pur (Pur.move rfl) ?_
      refine WL.nil ?_
      refine WQ.back _ ⟨i + 1, _, _, _, _, _, rfl, by omega, hso8, hss8, hle8, h1c8, rfl, rfl⟩ (by omega) zcV zsL
  · have hil : i = L.length := by omega
    subst hil
    rw [List.take_length] at hso ⊢
    refine WC.giveS (byt := 96) (H1 := [(b14, _), (b12, _)]) (H2 := hsn ++ Hr) eEnt_mono hso (by omega) rfl (fun σ1 hle1 hsl1 => ?_)
    refine WC.giveS (byt := 24) (H1 := [(b14, _), (b12, _)]) (H2 := Hr) (eRowJ_mono L) (hss.mono (eRowJ_mono L) hle1) (by rw [List.length_range]; omega) rfl (fun σ2 hle2 hsl2 => ?_)
    refine WC.give (H1 := [(b14, _)]) (H2 := Hr) (fun hb12 => ?_)
    refine WC.give (H1 := []) (H2 := Hr) (fun hb14 => ?_)
    rw [List.nil_append]
    have hleF := View.le_trans (View.le_add (mapO hashV (idsFrom L 0)) hb12) (View.le_add (rowO 84 [lsv, .map (some b12), .slice sa L.length sc]) hb14)
    refine WC.exit ?_
    refine WQ.thn_exit ?_
    refine WQ.back_exit ?_
    refine WQ.blk_here ?_
    refine WQ.thn ?_
    refine WC.seq ?_
    refine WC.region ?_
    refine WL.pur (Pur.move rfl) ?_
    refine WL.pur (Pur.assign rfl) ?_
    refine WL.nil ?_
    refine WQ.thn ?_
    refine WC.ret ?_
    refine WQ.ret1 Try.results36 rfl [] zsL (View.le_trans hle (View.le_trans hle1 (View.le_trans hle2 hleF))) ?_
    exact ⟨⟨b14, b12, _, _, rfl, RdV.row (View.add_same _ _ _), hsl1.mono eEnt_mono (View.le_trans hle2 hleF), (View.le_add _ hb14).2 _ _ (View.add_same _ _ _), hsl2.mono (eRowJ_mono L) hleF⟩, rfl⟩

end Go.Proofs.Ytgoooilgmabkmaa
namespace Go.Proofs.Ytgoooilgmabkmaa
open Go Go.Sl
set_option linter.unusedVariables false
set_option linter.unusedSimpArgs false
set_option maxRecDepth 100000

theorem past_Of (σ : View) (lv : Value) (l : List EntD) (h : Ents σ lv l) :
    Tri Try.prog 10 #[lv] σ [] (fun v σ' H' => (((rightErr l).1 = 0 ∧ ∃ pv, v = .tuple #[pv, .int .i64 0, .int .i64 0] ∧ PastV σ' pv (ordE l)) ∨ ((rightErr l).1 ≠ 0 ∧ v = .tuple #[.pointer none, .int .i64 (rightErr l).1, .int .i64 ((rightErr l).2 : Int)])) ∧ H' = []) := by
  have h0' := h
  obtain ⟨la, lc, rfl, hlc, hlby⟩ := h.shape
  refine Tri.of_body [(0, .slice la l.length lc)] Try.func10 rfl Try.ntmps10 (by simp) rfl (fun Hr => ?_)
  rw [List.nil_append]
  refine WC.seq ?_
  refine WC.region ?_
  refine WL.pur (Pur.assign rfl) ?_
  refine WL.pur (Pur.assign rfl) ?_
  refine WL.pur (Pur.assign rfl) ?_
  refine WL.nil ?_
  refine WQ.thn ?_
  refine WC.seq ?_
  refine WC.region ?_
  refine WL.pur (Pur.move rfl) ?_
  refine WL.call (H0 := []) (Hr := Hr) rfl Try.call35 (List.Perm.refl _) (past_check _ _ l h0') ?_
  rintro v10 σ1 _ ⟨⟨mv, rfl, hrr⟩, rfl⟩ hle1
  rw [List.nil_append]
  refine WL.pur (Pur.move rfl) ?_
  first | refine WL.pur (Pur.ex2_0 rfl) ?_ | refine WL.pur (Pur.ex3_0 rfl) ?_ | refine WL.pur (Pur.extractNext rfl) ?_ | refine WL.pur (Pur.extract rfl rfl) ?_
  first | refine WL.pur (Pur.ex2_1 rfl) ?_ | refine WL.pur (Pur.ex3_1 rfl) ?_ | refine WL.pur (Pur.extract rfl rfl) ?_
  first | refine WL.pur (Pur.ex3_2 rfl) ?_ | refine WL.pur (Pur.extract rfl rfl) ?_
  refine WL.pur (Pur.assign rfl) ?_
  refine WL.pur (Pur.assign rfl) ?_
  refine WL.pur (Pur.assign rfl) ?_
  refine WL.nil ?_
  refine WQ.thn ?_
  refine WC.seq ?_
  refine WC.seq ?_
  refine WC.region ?_
  refine WL.pur (Pur.move rfl) ?_
  refine' WL.pur (Pur.bin rfl rfl ?h1_0) ?k1
  case h1_0 => first | exact Bin.neN (b := 0) | exact Bin.neI
  refine WL.nil ?_
  refine WQ.thn ?_
  first | refine WC.cond rfl (fun hc0 => ?_) (fun hc0 => ?_) | refine WC.condB rfl (fun hc0 => ?_) (fun hc0 => ?_)
  · refine WC.seq ?_
    refine WC.region ?_
    refine WL.pur (Pur.move rfl) ?_
    refine WL.pur (Pur.move rfl) ?_
    refine WL.pur (Pur.assign rfl) ?_
    refine WL.pur (Pur.assign rfl) ?_
    refine WL.pur (Pur.assign rfl) ?_
    refine WL.nil ?_
    refine WQ.thn ?_
    refine WC.ret ?_
    refine WQ.thn_ret ?_
    refine WQ.ret3 Try.results10 rfl rfl rfl [] zsL hle1 ?_
    exact ⟨.inr ⟨hc0, rfl⟩, rfl⟩
  · have h0 : (rightErr l).1 = 0 := Decidable.not_not.1 hc0
    have hg := good_of_right h0
    obtain ⟨hr2, bm, rfl, hbm⟩ := hrr h0
    have h1' := h0'.mono eEnt_mono hle1
    refine WC.skip ?_
    refine WQ.thn ?_
    refine WC.seq ?_
    refine WC.region ?_
    refine WL.pur (Pur.move rfl) ?_
    refine WL.pur (Pur.move rfl) ?_
    refine WL.call (H0 := []) (Hr := Hr) rfl Try.call37 (List.Perm.refl _) (past_order _ _ bm l h1' hg hbm) ?_
    rintro v20 σ2 _ ⟨hh, hso, rfl⟩ hle2
    refine WL.giveS (byt := 96) (H1 := []) (H2 := Hr) eEnt_mono hso (by rw [ordE_len hg]; have := hg.most; omega) rfl (fun σ3 hle3 hsl3 => ?_)
    rw [List.nil_append]
    refine WL.call (H0 := []) (Hr := Hr) rfl Try.call36 (List.Perm.refl _) (past_made _ _ (ordE l) hsl3 (ordE_ok hg)) ?_
    rintro v21 σ4 _ ⟨hpv, rfl⟩ hle4
    rw [List.nil_append]
    refine WL.pur (Pur.assign rfl) ?_
    refine WL.pur (Pur.assign rfl) ?_
    refine WL.pur (Pur.assign rfl) ?_
    refine WL.nil ?_
    refine WQ.thn ?_
    refine WC.ret ?_
    refine WQ.ret3 Try.results10 rfl rfl rfl [] zsL (View.le_trans hle1 (View.le_trans hle2 (View.le_trans hle3 hle4))) ?_
    exact ⟨.inl ⟨h0, _, rfl, hpv⟩, rfl⟩

end Go.Proofs.Ytgoooilgmabkmaa
namespace Go.Proofs.Ytgoooilgmabkmaa
open Go Go.Sl
set_option linter.unusedVariables false
set_option linter.unusedSimpArgs false
set_option maxRecDepth 100000

theorem past_Of2 (σ : View) (lv : Value) (l : List EntD) (h : Ents σ lv l) : Tri Try.prog 10 #[lv] σ [] (fun v σ' H' => (∃ pa n3, v = .tuple #[.pointer pa, .int .i64 (rightErr l).1, n3] ∧ ((rightErr l).1 = 0 → PastV σ' (.pointer pa) (ordE l)) ∧ ((rightErr l).1 ≠ 0 → pa = none)) ∧ H' = []) := by
  refine (past_Of σ lv l h).mono ?_
  rintro v σ' H' ⟨⟨h0, pv, rfl, hp⟩ | ⟨h0, rfl⟩, rfl⟩
  · have hp2 := hp
    obtain ⟨b, _, _, _, rfl, _⟩ := hp2
    exact ⟨⟨_, _, by rw [h0], fun _ => hp, fun h => absurd h0 h⟩, rfl⟩
  · exact ⟨⟨_, _, rfl, fun h => absurd h h0, fun _ => rfl⟩, rfl⟩

end Go.Proofs.Ytgoooilgmabkmaa
namespace Go.Proofs.Ytgoooilgmabkmaa
open Go Go.Sl
theorem own : ownKnob Try.prog.godebug = none := by kernel_rfl
theorem laidOut : laidOutB Try.prog = true := by kernel_rfl
end Go.Proofs.Ytgoooilgmabkmaa
