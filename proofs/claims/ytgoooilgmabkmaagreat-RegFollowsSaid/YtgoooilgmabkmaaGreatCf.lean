/-
  Contracts of the functions of the program and of its references: what each call hands back, from what is known and owned.
-/
import Derived.Test.YtgoooilgmabkmaaGreatCe
set_option linter.unusedVariables false
set_option linter.unusedSimpArgs false
set_option linter.unusedSectionVars false
namespace Go.Proofs.YtgoooilgmabkmaaGreat
open Go Go.Sl
set_option linter.unusedVariables false
set_option linter.unusedSimpArgs false
set_option maxRecDepth 100000

theorem r11_Number (σ : View) (pv : Value) (L : List EntD) (id : Nat) (h : R11V σ pv L) (ho : OrdOk L) (hid : IsH id) :
    TriP Tryz.prog 37 #[pv, hashV id] σ (.int .i64 (numV (idxOf L id))) := by
  obtain ⟨b, plv, psv, pqv, rfl, hr, hE, hS, hQ⟩ := h
  obtain ⟨pla, plc, rfl, hplc, hplb⟩ := hE.shape
  obtain ⟨qa, qc, rfl, hqc, hqb⟩ := hQ.shape
  refine Tri.of_body [(0, .pointer (some ⟨b, 0, none⟩)), (1, hashV id)] Tryz.func37 rfl Tryz.ntmps37 (by simp) rfl (fun Hr => ?_)
  rw [List.nil_append]
  refine WC.seq ?_
  refine WC.region ?_
  refine WL.new (New.boxN rfl) (fun b3 => ?_)
  refine WL.pur (Pur.assign rfl) ?_
  refine WL.nil ?_
  refine WQ.thn ?_
  refine WC.seq ?_
  refine WC.drawH 11 11 mixed (by kernel_rfl) rfl ?_
  refine SA.take 0 (by kernel_rfl) rfl rfl rfl (Wanted.plain rfl) (by repeat (first | exact List.Sublist.refl _ | exact List.nil_sublist _ | apply List.Sublist.cons_cons | apply List.Sublist.cons | apply List.Sublist.append_left | exact List.sublist_append_right _ _)) (View.le_refl _) (Pur.move rfl) ?_
  refine SA.take 1 (by kernel_rfl) rfl rfl rfl (Wanted.plain rfl) (by repeat (first | exact List.Sublist.refl _ | exact List.nil_sublist _ | apply List.Sublist.cons_cons | apply List.Sublist.cons | apply List.Sublist.append_left | exact List.sublist_append_right _ _)) (View.le_refl _) (Pur.nilCheck rfl) ?_
  refine SA.take 2 (by kernel_rfl) rfl rfl rfl (Wanted.plain rfl) (by repeat (first | exact List.Sublist.refl _ | exact List.nil_sublist _ | apply List.Sublist.cons_cons | apply List.Sublist.cons | apply List.Sublist.append_left | exact List.sublist_append_right _ _)) (View.le_refl _) (Pur.fieldAddr rfl fo_74_0) ?_
  refine' SA.take 3 (by kernel_rfl) rfl rfl rfl (Wanted.plain rfl) (by repeat (first | exact List.Sublist.refl _ | exact List.nil_sublist _ | apply List.Sublist.cons_cons | apply List.Sublist.cons | apply List.Sublist.append_left | exact List.sublist_append_right _ _)) (View.le_refl _) (Pur.load1 rfl ty_22 ?h1_0) ?k1
  case h1_0 => first | (apply Rd.own1; (focus repeat (first | exact List.Mem.head _ | apply List.Mem.tail | apply List.mem_append_right)); rfl) | (apply RdV.rd; apply RdV.idx (i := 0); assumption; rfl)
  refine SA.take 4 (by kernel_rfl) rfl rfl rfl (Wanted.plain rfl) (by repeat (first | exact List.Sublist.refl _ | exact List.nil_sublist _ | apply List.Sublist.cons_cons | apply List.Sublist.cons | apply List.Sublist.append_left | exact List.sublist_append_right _ _)) (View.le_refl _) (Pur.move rfl) ?_
  refine SA.take 5 (by kernel_rfl) rfl rfl rfl (Wanted.plain rfl) (by repeat (first | exact List.Sublist.refl _ | exact List.nil_sublist _ | apply List.Sublist.cons_cons | apply List.Sublist.cons | apply List.Sublist.append_left | exact List.sublist_append_right _ _)) (View.le_refl _) (Pur.nilCheck rfl) ?_
  refine SA.take 6 (by kernel_rfl) rfl rfl rfl (Wanted.plain rfl) (by repeat (first | exact List.Sublist.refl _ | exact List.nil_sublist _ | apply List.Sublist.cons_cons | apply List.Sublist.cons | apply List.Sublist.append_left | exact List.sublist_append_right _ _)) (View.le_refl _) (Pur.fieldAddr rfl fo_74_2) ?_
  refine' SA.take 7 (by kernel_rfl) rfl rfl rfl (Wanted.plain rfl) (by repeat (first | exact List.Sublist.refl _ | exact List.nil_sublist _ | apply List.Sublist.cons_cons | apply List.Sublist.cons | apply List.Sublist.append_left | exact List.sublist_append_right _ _)) (View.le_refl _) (Pur.load1 rfl ty_72 ?h2_0) ?k2
  case h2_0 => first | (apply Rd.own1; (focus repeat (first | exact List.Mem.head _ | apply List.Mem.tail | apply List.mem_append_right)); rfl) | (apply RdV.rd; apply RdV.idx (i := 2); assumption; rfl) | (apply RdV.rd; apply RdV.idx (off := 0) (i := 2); assumption; rfl)
  refine' SA.take 8 (by kernel_rfl) rfl rfl rfl (Wanted.plain rfl) (by repeat (first | exact List.Sublist.refl _ | exact List.nil_sublist _ | apply List.Sublist.cons_cons | apply List.Sublist.cons | apply List.Sublist.append_left | exact List.sublist_append_right _ _)) (View.le_refl _) (Pur.loadN rfl ty_39 ?h3_0 ?h3_1) ?k3
  case h3_0 => first | (apply Rd.own_sub; (focus repeat (first | exact List.Mem.head _ | apply List.Mem.tail | apply List.mem_append_right)); exact Sub.refl _) | (apply RdV.rd; assumption)
  case h3_1 => first | rfl | assumption
  refine SA.callP 9 rfl rfl (Wanted.plain rfl) (by kernel_rfl) rfl Tryz.call97 (by repeat (first | exact List.Sublist.refl _ | exact List.nil_sublist _ | apply List.Sublist.cons_cons | apply List.Sublist.cons | apply List.Sublist.append_left | exact List.sublist_append_right _ _)) (View.le_refl _) (r11_find _ _ _ L _ id hE hQ (rankL_ranked _) ho.nodup hid) ?_
  refine SA.take 10 (by kernel_rfl) rfl rfl rfl (Wanted.plain rfl) (by repeat (first | exact List.Sublist.refl _ | exact List.nil_sublist _ | apply List.Sublist.cons_cons | apply List.Sublist.cons | apply List.Sublist.append_left | exact List.sublist_append_right _ _)) (View.le_refl _) (Pur.assign rfl) ?_
  refine SA.done (by kernel_rfl) ?_
  refine WQ.thn ?_
  refine WC.ret ?_
  refine WQ.ret1 Tryz.results37 rfl [] (by repeat (first | exact List.Sublist.refl _ | exact List.nil_sublist _ | apply List.Sublist.cons_cons | apply List.Sublist.cons | apply List.Sublist.append_left | exact List.sublist_append_right _ _)) (View.le_refl _) ?_
  refine ⟨?_, rfl, rfl⟩
  rfl

theorem r11_Heads (σ : View) (pv : Value) (L : List EntD) (h : R11V σ pv L) (ho : OrdOk L) :
    Tri Tryz.prog 107 #[pv] σ [] (fun v σ' H' => (∃ h, SlO σ eHash 39 32 v (headsL L) h ∧ H' = h) ∧ σ' = σ) := by
  obtain ⟨b, plv, psv, pqv, rfl, hr, hE, hS, hQ⟩ := h
  obtain ⟨pla, plc, rfl, hplc, hplb⟩ := hE.shape
  obtain ⟨plb, ploff, hel⟩ := addr_of hE
  have hmost := ho.most
  obtain ⟨psa, psc, rfl, hpsc, hpsb⟩ := hS.shape
  obtain ⟨sb, soff, hes, hsat⟩ := hS.rds
  rw [List.length_range] at hes
  obtain ⟨qa, qc, rfl, hqc, hqb⟩ := hQ.shape
  obtain ⟨qb, qoff, heq⟩ := addr_of hQ
  have hlr : (List.range L.length).length = L.length := List.length_range
  have hrl := rankL_len L 0 L.length
  refine Tri.of_body [(0, .pointer (some ⟨b, 0, none⟩))] Tryz.func107 rfl Tryz.ntmps107 (by simp) rfl (fun Hr => ?_)
  rw [List.nil_append]
  refine WC.seq ?_
  refine WC.region ?_
  refine WL.pur (Pur.assign rfl) ?_
  refine WL.nil ?_
  refine WQ.thn ?_
  refine WC.seq ?_
  refine WC.region ?_
  refine WL.pur (Pur.move rfl) ?_
  refine WL.pur (Pur.nilCheck rfl) ?_
  refine WL.pur (Pur.fieldAddr rfl fo_74_0) ?_
  refine' WL.pur (Pur.load1 rfl ty_22 ?h1_0) ?k1
  case h1_0 => first | (apply Rd.own1; (focus repeat (first | exact List.Mem.head _ | apply List.Mem.tail | apply List.mem_append_right)); rfl) | (apply RdV.rd; apply RdV.idx (i := 0); assumption; rfl)
  refine WL.pur (Pur.len rfl isSlice_22) ?_
  refine' WL.pur (Pur.bin rfl rfl ?h2_0) ?k2
  case h2_0 => first | (refine Bin.addN (b := 63) ?_; omega) | (refine Bin.addI ?_; omega)
  refine' WL.pur (Pur.bin rfl rfl ?h3_0) ?k3
  case h3_0 => first | (refine Bin.quoN (b := 64) ?_ ?_ <;> omega)
  refine WL.any (Any.make1 sl_151 zc_60 by_60 rfl rfl (by omega) (by omega)) ?_
  rintro _ σ _ ⟨b16, rfl, rfl, rfl⟩ _
  refine WL.pur (Pur.assign rfl) ?_
  refine WL.nil ?_
  refine WQ.thn ?_
  refine WC.seq ?_
  refine WC.seq ?_
  refine WC.region ?_
  refine WL.pur (Pur.assign rfl) ?_
  refine WL.nil ?_
  refine WQ.thn ?_
  refine WC.block ?_
  rw [words_zero]
  refine WC.loop (fun j m σ' H' => ∃ i : Nat, j = L.length - i ∧ i ≤ L.length ∧ m = [(0, .pointer (some ⟨b, 0, none⟩)), (3, .slice (some ⟨b16, 0, none⟩) ((L.length + 63) / 64) ((L.length + 63) / 64)), (4, .int .i64 (i : Int))] ∧ σ' = σ ∧ H' = (b16, rowO 60 ((List.range ((L.length + 63) / 64)).map (wordV (orRow L i)))) :: Hr) ⟨0, rfl, by omega, rfl, rfl, rfl⟩ (by repeat (first | exact Covers.nil _ | refine Covers.cons rfl ?_)) (by repeat (first | exact List.Sublist.refl _ | exact List.nil_sublist _ | apply List.Sublist.cons_cons | apply List.Sublist.cons | apply List.Sublist.append_left | exact List.sublist_append_right _ _)) ?_
  rintro _ _ σ Hr ⟨i, rfl, hi, rfl, rfl, rfl⟩
  refine WC.seq ?_
  refine WC.seq ?_
  refine WC.region ?_
  refine WL.pur (Pur.move rfl) ?_
  refine WL.pur (Pur.move rfl) ?_
  refine WL.pur (Pur.nilCheck rfl) ?_
  refine WL.pur (Pur.fieldAddr rfl fo_74_0) ?_
  refine' WL.pur (Pur.load1 rfl ty_22 ?h4_0) ?k4
  case h4_0 => first | (apply Rd.own1; (focus repeat (first | exact List.Mem.head _ | apply List.Mem.tail | apply List.mem_append_right)); rfl) | (apply RdV.rd; apply RdV.idx (i := 0); assumption; rfl)
  refine WL.pur (Pur.len rfl isSlice_22) ?_
  refine' WL.pur (Pur.bin rfl rfl ?h5_0) ?k5
  case h5_0 => first | exact Bin.ltN | exact Bin.ltI | exact Bin.ltS
  refine WL.nil ?_
  refine WQ.thn ?_
  first | refine WC.cond rfl (fun hc0 => ?_) (fun hc0 => ?_) | refine WC.condB rfl (fun hc0 => ?_) (fun hc0 => ?_)
  · obtain ⟨vs, _, _, ⟨wv, rfl, _, hw⟩, hwr⟩ := hsat i i (List.getElem?_range hc0)
    obtain ⟨wa, wc, rfl, hwc, hwb⟩ := hw.shape
    obtain ⟨wb, woff, hew, hwat⟩ := hw.rds
    have hwl := wordsN_len L i
    refine WC.skip ?_
    refine WQ.thn ?_
    refine WC.seq ?_
    refine WC.block ?_
    refine WC.seq ?_
    refine WC.region ?_
    refine WL.pur (Pur.assign rfl) ?_
    refine WL.nil ?_
    refine WQ.thn ?_
    refine WC.block ?_
    refine WC.loop (fun j m σ' H' => ∃ u : Nat, j = ((L.length + 63) / 64) - u ∧ u ≤ ((L.length + 63) / 64) ∧ m = [(0, .pointer (some ⟨b, 0, none⟩)), (3, .slice (some ⟨b16, 0, none⟩) ((L.length + 63) / 64) ((L.length + 63) / 64)), (4, .int .i64 (i : Int)), (5, .int .i64 (u : Int))] ∧ σ' = σ ∧ H' = (b16, rowO 60 ((List.range ((L.length + 63) / 64)).map (wordUpTo (orRow L i) ((rowsN L L.length).getD i 0) u))) :: Hr) ⟨0, rfl, by omega, rfl, rfl, by rw [wordUp_zero]⟩ (by repeat (first | exact Covers.nil _ | refine Covers.cons rfl ?_)) (by repeat (first | exact List.Sublist.refl _ | exact List.nil_sublist _ | apply List.Sublist.cons_cons | apply List.Sublist.cons | apply List.Sublist.append_left | exact List.sublist_append_right _ _)) ?_
    rintro _ _ σ Hr ⟨u, rfl, hu, rfl, rfl, rfl⟩
    refine WC.seq ?_
    refine WC.seq ?_
    refine WC.region ?_
    refine WL.pur (Pur.move rfl) ?_
    refine WL.pur (Pur.move rfl) ?_
    refine WL.pur (Pur.len rfl isSlice_151) ?_
    refine' WL.pur (Pur.bin rfl rfl ?h6_0) ?k6
    case h6_0 => first | exact Bin.ltN | exact Bin.ltI | exact Bin.ltS
    refine WL.nil ?_
    refine WQ.thn ?_
    first | refine WC.cond rfl (fun hc1 => ?_) (fun hc1 => ?_) | refine WC.condB rfl (fun hc1 => ?_) (fun hc1 => ?_)
    · have hww := wordsN_get (L := L) (j := i) hc1
      obtain ⟨ws, _, _, rfl, hwd⟩ := hwat _ _ hww
      refine WC.skip ?_
      refine WQ.thn ?_
      refine WC.seq ?_
      refine WC.block ?_
      refine WC.drawH 15 17 mixed (by kernel_rfl) rfl ?_
      refine SA.takeW 0 (by kernel_rfl) rfl rfl rfl (Wanted.plain rfl) (tells_move rfl) ?_
      refine SA.takeW 1 (by kernel_rfl) rfl rfl rfl (Wanted.plain rfl) (tells_move rfl) ?_
      refine' SA.takeP 2 (by kernel_rfl) rfl rfl rfl (Wanted.plain rfl) (fun _ _ => Pur.indexAddr rfl rfl sl_151 ?h7_0) ?k7
      case h7_0 => omega
      refine' SA.take 3 (by kernel_rfl) rfl rfl rfl (Wanted.plain rfl) (by repeat (first | exact List.Sublist.refl _ | exact List.nil_sublist _ | apply List.Sublist.cons_cons | apply List.Sublist.cons | apply List.Sublist.append_left | exact List.sublist_append_right _ _)) (View.le_refl _) (Pur.load1 rfl ty_60 ?h8_0) ?k8
      case h8_0 => apply Rd.own1; (focus repeat (first | exact List.Mem.head _ | apply List.Mem.tail | apply List.mem_append_right)); exact (get_range_map1 hc1).trans (congrArg some wordUp_at)
      refine SA.takeW 4 (by kernel_rfl) rfl rfl rfl (Wanted.plain rfl) (tells_move rfl) ?_
      refine SA.takeP 5 (by kernel_rfl) rfl rfl rfl (Wanted.plain rfl) (fun _ _ => Pur.nilCheck rfl) ?_
      refine SA.takeP 6 (by kernel_rfl) rfl rfl rfl (Wanted.plain rfl) (fun _ _ => Pur.fieldAddr rfl fo_74_1) ?_
      refine' SA.take 7 (by kernel_rfl) rfl rfl rfl (Wanted.plain rfl) (by repeat (first | exact List.Sublist.refl _ | exact List.nil_sublist _ | apply List.Sublist.cons_cons | apply List.Sublist.cons | apply List.Sublist.append_left | exact List.sublist_append_right _ _)) (View.le_refl _) (Pur.load1 rfl ty_71 ?h9_0) ?k9
      case h9_0 => first | (apply Rd.own1; (focus repeat (first | exact List.Mem.head _ | apply List.Mem.tail | apply List.mem_append_right)); rfl) | (apply RdV.rd; apply RdV.idx (i := 1); assumption; rfl) | (apply RdV.rd; apply RdV.idx (off := 0) (i := 1); assumption; rfl)
      refine SA.takeW 8 (by kernel_rfl) rfl rfl rfl (Wanted.plain rfl) (tells_move rfl) ?_
      refine' SA.takeP 9 (by kernel_rfl) rfl rfl rfl (Wanted.plain rfl) (fun _ _ => Pur.indexAddr (eqA (hes (by omega))) rfl sl_71 ?h10_0) ?k10
      case h10_0 => omega
      refine' SA.take 10 (by kernel_rfl) rfl rfl rfl (Wanted.plain rfl) (by repeat (first | exact List.Sublist.refl _ | exact List.nil_sublist _ | apply List.Sublist.cons_cons | apply List.Sublist.cons | apply List.Sublist.append_left | exact List.sublist_append_right _ _)) (View.le_refl _) (Pur.load1 rfl ty_151 ?h11_0) ?k11
      case h11_0 => exact RdV.rd hwr
      refine SA.takeW 11 (by kernel_rfl) rfl rfl rfl (Wanted.plain rfl) (tells_move rfl) ?_
      refine' SA.takeP 12 (by kernel_rfl) rfl rfl rfl (Wanted.plain rfl) (fun _ _ => Pur.indexAddr (eqA (hew (by omega))) rfl sl_151 ?h12_0) ?k12
      case h12_0 => omega
      refine' SA.take 13 (by kernel_rfl) rfl rfl rfl (Wanted.plain rfl) (by repeat (first | exact List.Sublist.refl _ | exact List.nil_sublist _ | apply List.Sublist.cons_cons | apply List.Sublist.cons | apply List.Sublist.append_left | exact List.sublist_append_right _ _)) (View.le_refl _) (Pur.load1 rfl ty_60 ?h13_0) ?k13
      case h13_0 => exact RdV.rd hwd
      refine' SA.takeP 14 (by kernel_rfl) rfl rfl rfl (Wanted.plain rfl) (fun _ _ => Pur.bin rfl rfl ?h14_0) ?k14
      case h14_0 => exact Bin.orU (wordN_lt _ _) (wordN_lt _ _)
      refine' SA.run 15 rfl (fun _ e => by cases e; rfl) (Wanted.plain rfl) (by kernel_rfl) (Pur.run (Pur.indexAddr rfl rfl sl_151 ?h15_0)) (.inl (by decide)) ?k15
      case h15_0 => omega
      refine' SA.run 16 rfl (fun _ e => by cases e) (Wanted.plain rfl) (by kernel_rfl) (Run.storeF rfl rfl ty_60 (by first | rfl | assumption) ?h16_0 ?h16_1 sz_60) (.inl (by decide)) ?k16
      case h16_0 => repeat (first | exact Part.one | exact Part.here | apply Part.cons | apply Part.app)
      case h16_1 => first | assumption | omega
      refine SA.done (by kernel_rfl) ?_
      refine WQ.blk ?_
      refine WQ.thn ?_
      refine WC.region ?_
      refine WL.pur (Pur.move rfl) ?_
      refine' WL.pur (Pur.bin rfl rfl ?h17_0) ?k17
      case h17_0 => first | (refine Bin.addN (b := 1) ?_; omega) | (refine Bin.addI ?_; omega)
      refine WL.pur (Pur.assign rfl) ?_
      refine WL.nil ?_
      rw [wordUp_step]
      refine WQ.back _ ⟨u + 1, rfl, by omega, rfl, rfl, rfl⟩ (by omega) (by repeat (first | exact Covers.nil _ | refine Covers.cons rfl ?_)) (by repeat (first | exact List.Sublist.refl _ | exact List.nil_sublist _ | apply List.Sublist.cons_cons | apply List.Sublist.cons | apply List.Sublist.append_left | exact List.sublist_append_right _ _))
    · have huu : u = ((L.length + 63) / 64) := by omega
      subst huu
      rw [wordUp_all, orRow_succ hc0]
      refine WC.exit ?_
      refine WQ.thn_exit ?_
      refine WQ.back_exit ?_
      refine WQ.blk_here ?_
      refine WQ.blk ?_
      refine WQ.thn ?_
      refine WC.region ?_
      refine WL.pur (Pur.move rfl) ?_
      refine' WL.pur (Pur.bin rfl rfl ?h18_0) ?k18
      case h18_0 => first | (refine Bin.addN (b := 1) ?_; omega) | (refine Bin.addI ?_; omega)
      refine WL.pur (Pur.assign rfl) ?_
      refine WL.nil ?_
      refine WQ.back _ ⟨i + 1, rfl, by omega, rfl, rfl, rfl⟩ (by omega) (by repeat (first | exact Covers.nil _ | refine Covers.cons rfl ?_)) (by repeat (first | exact List.Sublist.refl _ | exact List.nil_sublist _ | apply List.Sublist.cons_cons | apply List.Sublist.cons | apply List.Sublist.append_left | exact List.sublist_append_right _ _))
  · have hil : i = L.length := by omega
    subst hil
    refine WC.exit ?_
    refine WQ.thn_exit ?_
    refine WQ.back_exit ?_
    refine WQ.blk_here ?_
    refine WQ.thn ?_
    refine WC.seq ?_
    refine WC.region ?_
    refine WL.new (New.buildSlice0 sl_41) (fun b48 => ?_)
    refine WL.pur (Pur.assign rfl) ?_
    refine WL.nil ?_
    refine WQ.thn ?_
    refine WC.seq ?_
    refine WC.seq ?_
    refine WC.region ?_
    refine WL.pur (Pur.assign rfl) ?_
    refine WL.nil ?_
    refine WQ.thn ?_
    refine WC.block ?_
    refine WC.loop (fun j m σ' H' => ∃ (s : Nat) (sv : Value) (hh : HList), j = (rankL L 0 L.length).length - s ∧ s ≤ (rankL L 0 L.length).length ∧ SlO σ eHash 39 32 sv (hUp L s) hh ∧ m = [(0, .pointer (some ⟨b, 0, none⟩)), (3, .slice (some ⟨b16, 0, none⟩) ((L.length + 63) / 64) ((L.length + 63) / 64)), (6, sv), (7, .int .i64 (s : Int))] ∧ σ' = σ ∧ H' = hh ++ ((b16, rowO 60 ((List.range ((L.length + 63) / 64)).map (wordV (orRow L L.length)))) :: Hr)) ⟨0, _, [(b48, rowO 39 [])], rfl, by omega, by rw [hUp_zero]; exact SlO.row (b := b48) (ElR.nil (σ := σ) (E := eHash) (sz := 32)), rfl, rfl, rfl⟩ (by repeat (first | exact Covers.nil _ | refine Covers.cons rfl ?_)) (by repeat (first | exact List.Sublist.refl _ | exact List.nil_sublist _ | apply List.Sublist.cons_cons | apply List.Sublist.cons | apply List.Sublist.append_left | exact List.sublist_append_right _ _)) ?_
    rintro _ _ σ Hr ⟨s, sv, hh, rfl, hs, hso, rfl, rfl, rfl⟩
    refine WC.seq ?_
    refine WC.seq ?_
    refine WC.region ?_
    refine WL.pur (Pur.move rfl) ?_
    refine WL.pur (Pur.move rfl) ?_
    refine WL.pur (Pur.nilCheck rfl) ?_
    refine WL.pur (Pur.fieldAddr rfl fo_74_2) ?_
    refine' WL.pur (Pur.load1 rfl ty_72 ?h19_0) ?k19
    case h19_0 => first | (apply Rd.own1; (focus repeat (first | exact List.Mem.head _ | apply List.Mem.tail | apply List.mem_append_right)); rfl) | (apply RdV.rd; apply RdV.idx (i := 2); assumption; rfl) | (apply RdV.rd; apply RdV.idx (off := 0) (i := 2); assumption; rfl)
    refine WL.pur (Pur.len rfl isSlice_72) ?_
    refine' WL.pur (Pur.bin rfl rfl ?h20_0) ?k20
    case h20_0 => first | exact Bin.ltN | exact Bin.ltI | exact Bin.ltS
    refine WL.nil ?_
    refine WQ.thn ?_
    first | refine WC.cond rfl (fun hc2 => ?_) (fun hc2 => ?_) | refine WC.condB rfl (fun hc2 => ?_) (fun hc2 => ?_)
    · obtain ⟨k, hk⟩ : ∃ k, (rankL L 0 L.length)[s]? = some k := ⟨_, List.getElem?_eq_getElem hc2⟩
      have hkl : k < L.length := (rankL_mem.1 (List.mem_of_getElem? hk)).2
      have hkr := natE_rd hQ heq hk
      have hkW : k / 64 < ((L.length + 63) / 64) := by omega
      have hwlt := wordN_lt (orRow L L.length) (k / 64)
      have hdl := Nat.div_le_self (wordN (orRow L L.length) (k / 64)) (2 ^ (k % 64))
      refine WC.skip ?_
      refine WQ.thn ?_
      refine WC.seq ?_
      refine WC.block ?_
      refine WC.seq ?_
      refine WC.region ?_
      refine WL.pur (Pur.move rfl) ?_
      refine WL.pur (Pur.nilCheck rfl) ?_
      refine WL.pur (Pur.fieldAddr rfl fo_74_2) ?_
      refine' WL.pur (Pur.load1 rfl ty_72 ?h21_0) ?k21
      case h21_0 => first | (apply Rd.own1; (focus repeat (first | exact List.Mem.head _ | apply List.Mem.tail | apply List.mem_append_right)); rfl) | (apply RdV.rd; apply RdV.idx (i := 2); assumption; rfl) | (apply RdV.rd; apply RdV.idx (off := 0) (i := 2); assumption; rfl)
      refine WL.pur (Pur.move rfl) ?_
      refine' WL.pur (Pur.indexAddr (eqA (heq (by omega))) rfl sl_72 ?h22_0) ?k22
      case h22_0 => omega
      refine' WL.pur (Pur.load1 rfl ty_3 ?h23_0) ?k23
      case h23_0 => exact RdV.rd hkr
      refine WL.pur (Pur.assign rfl) ?_
      refine WL.nil ?_
      refine WQ.thn ?_
      refine WC.seq ?_
      refine WC.region ?_
      refine WL.pur (Pur.move rfl) ?_
      refine WL.pur (Pur.move rfl) ?_
      refine' WL.pur (Pur.bin rfl rfl ?h24_0) ?k24
      case h24_0 => first | (refine Bin.quoN (b := 64) ?_ ?_ <;> omega)
      refine' WL.pur (Pur.indexAddr rfl rfl sl_151 ?h25_0) ?k25
      case h25_0 => omega
      refine' WL.pur (Pur.load1 rfl ty_60 ?h26_0) ?k26
      case h26_0 => apply Rd.own1; (focus repeat (first | exact List.Mem.head _ | apply List.Mem.tail | apply List.mem_append_right)); exact get_range_map1 hkW
      refine WL.pur (Pur.move rfl) ?_
      refine' WL.pur (Pur.bin rfl rfl ?h27_0) ?k27
      case h27_0 => first | (refine Bin.remN (b := 64) ?_; omega)
      refine' WL.pur (Pur.bin rfl rfl ?h28_0) ?k28
      case h28_0 => first | (refine Bin.shrU ?_; omega)
      refine' WL.pur (Pur.bin rfl rfl ?h29_0) ?k29
      case h29_0 => first | (refine Bin.andU (b := 1) ?_ ?_ <;> omega)
      refine' WL.pur (Pur.bin rfl rfl ?h30_0) ?k30
      case h30_0 => first | exact Bin.eqN (b := 0) | exact Bin.eqI
      refine WL.nil ?_
      refine WQ.thn ?_
      first | refine WC.cond rfl (fun hc3 => ?_) (fun hc3 => ?_) | refine WC.condB rfl (fun hc3 => ?_) (fun hc3 => ?_)
      · have htop := (orRow_ask ho).1 hc3
        obtain ⟨e, he⟩ : ∃ e, L[k]? = some e := ⟨_, List.getElem?_eq_getElem hkl⟩
        obtain ⟨qv, ov, hrd, heH, hNR⟩ := ent_rd hE hel he
        have hid : idAt L k = e.id := idAt_of he
        have hul := hUp_len L s
        refine WC.region ?_
        refine WL.pur (Pur.move rfl) ?_
        refine WL.pur (Pur.move rfl) ?_
        refine WL.pur (Pur.nilCheck rfl) ?_
        refine WL.pur (Pur.fieldAddr rfl fo_74_0) ?_
        refine' WL.pur (Pur.load1 rfl ty_22 ?h31_0) ?k31
        case h31_0 => first | (apply Rd.own1; (focus repeat (first | exact List.Mem.head _ | apply List.Mem.tail | apply List.mem_append_right)); rfl) | (apply RdV.rd; apply RdV.idx (i := 0); assumption; rfl)
        refine WL.pur (Pur.move rfl) ?_
        refine' WL.pur (Pur.indexAddr (eqA (hel (by omega))) rfl sl_22 ?h32_0) ?k32
        case h32_0 => omega
        refine WL.pur (Pur.fieldAddr rfl fo_45_0) ?_
        refine' WL.pur (Pur.loadN rfl ty_39 ?h33_0 ?h33_1) ?k33
        case h33_0 => (apply RdV.rd; apply RdV.sub0; exact hrd; exact Sub.ent_hash _ _ _ _ _)
        case h33_1 => first | rfl | assumption
        refine WL.new (New.buildSliceN (xs := [.tmp 83]) (vss := [hashCells e.id]) sl_41 zc_39 rfl rfl rfl (by rfl) (by rfl)) (fun b84 => ?_)
        refine' WL.any (Any.push (H1 := [(b84, _)]) (H2 := (b16, _) :: Hr) sl_41 zc_39 rfl by_39 rfl rfl hso ?h34_0 ?h34_1 ?h34_2 ?h34_3 rfl (by omega) (by omega)) ?k34
        case h34_0 => apply Rd.own_sub; (focus repeat (first | exact List.Mem.head _ | apply List.Mem.tail | apply List.mem_append_right)); exact Sub.refl _
        case h34_1 => first | rfl | assumption
        case h34_2 => first | rfl | assumption
        case h34_3 => exact ⟨rfl, heH⟩
        rintro v85 σ _ ⟨hh2, hso2, rfl, rfl⟩ _
        refine WL.pur (Pur.assign rfl) ?_
        refine WL.nil ?_
        refine WQ.blk ?_
        refine WQ.thn ?_
        refine WC.region ?_
        refine WL.pur (Pur.move rfl) ?_
        refine' WL.pur (Pur.bin rfl rfl ?h35_0) ?k35
        case h35_0 => first | (refine Bin.addN (b := 1) ?_; omega) | (refine Bin.addI ?_; omega)
        refine WL.pur (Pur.assign rfl) ?_
        refine WL.nil ?_
        refine WQ.back _ ⟨s + 1, _, _, rfl, by omega, by rw [hUp_step hk, if_pos htop, hid]; exact hso2, rfl, rfl, rfl⟩ (by omega) (by repeat (first | exact Covers.nil _ | refine Covers.cons rfl ?_)) (by repeat (first | exact List.Sublist.refl _ | exact List.nil_sublist _ | apply List.Sublist.cons_cons | apply List.Sublist.cons | apply List.Sublist.append_left | exact List.sublist_append_right _ _))
      · have htop : ¬ topB L k = true := fun h => hc3 ((orRow_ask ho).2 h)
        refine WC.skip ?_
        refine WQ.blk ?_
        refine WQ.thn ?_
        refine WC.region ?_
        refine WL.pur (Pur.move rfl) ?_
        refine' WL.pur (Pur.bin rfl rfl ?h36_0) ?k36
        case h36_0 => first | (refine Bin.addN (b := 1) ?_; omega) | (refine Bin.addI ?_; omega)
        refine WL.pur (Pur.assign rfl) ?_
        refine WL.nil ?_
        refine WQ.back _ ⟨s + 1, sv, hh, rfl, by omega, by rw [hUp_step hk, if_neg htop, List.append_nil]; exact hso, rfl, rfl, rfl⟩ (by omega) (by repeat (first | exact Covers.nil _ | refine Covers.cons rfl ?_)) (by repeat (first | exact List.Sublist.refl _ | exact List.nil_sublist _ | apply List.Sublist.cons_cons | apply List.Sublist.cons | apply List.Sublist.append_left | exact List.sublist_append_right _ _))
    · rw [hUp_all (by omega)] at hso
      refine WC.exit ?_
      refine WQ.thn_exit ?_
      refine WQ.back_exit ?_
      refine WQ.blk_here ?_
      refine WQ.thn ?_
      refine WC.seq ?_
      refine WC.region ?_
      refine WL.pur (Pur.move rfl) ?_
      refine WL.pur (Pur.assign rfl) ?_
      refine WL.nil ?_
      refine WQ.thn ?_
      refine WC.ret ?_
      refine WQ.ret1 Tryz.results107 rfl hh (by repeat (first | exact List.Sublist.refl _ | exact List.nil_sublist _ | apply List.Sublist.cons_cons | apply List.Sublist.cons | apply List.Sublist.append_left | exact List.sublist_append_right _ _)) (View.le_refl _) ?_
      exact ⟨⟨_, hso, rfl⟩, rfl⟩

theorem r11_Behind (σ : View) (pv ov : Value) (L : List EntD) (id : Nat) (ops : List OpD) (h : R11V σ pv L) (ho : OrdOk L) (hid : IsH id) (hops : SlE σ eOp 37 88 ov ops) :
    Tri Tryz.prog 30 #[pv, hashV id, ov] σ [] (fun v σ' H' => (∃ hv, v = .tuple #[.agg (entCells id 1 (clB L) hv ov).toArray, .bool (decide (mayB L id ops))] ∧ NodeR σ' (behindE L id ops).node hv ov) ∧ H' = []) := by
  have h' := h
  obtain ⟨b, plv, psv, pqv, rfl, hr, hE, hS, hQ⟩ := h
  obtain ⟨pla, plc, rfl, hplc, hplb⟩ := hE.shape
  obtain ⟨plb, ploff, hel⟩ := addr_of hE
  have hmost := ho.most
  obtain ⟨oa, oc, rfl, hoc, hob⟩ := hops.shape
  have hhl := heads_len L
  refine Tri.of_body [(0, .pointer (some ⟨b, 0, none⟩)), (1, hashV id), (2, .slice oa ops.length oc)] Tryz.func30 rfl Tryz.ntmps30 (by simp) rfl (fun Hr => ?_)
  rw [List.nil_append]
  refine WC.seq ?_
  refine WC.region ?_
  refine WL.new (New.boxN rfl) (fun b4 => ?_)
  refine WL.new (New.alloc zc_45) (fun b6 => ?_)
  refine WL.pur (Pur.assign rfl) ?_
  refine WL.nil ?_
  refine WQ.thn ?_
  refine WC.seq ?_
  refine WC.drawH 7 8 mixed (by kernel_rfl) rfl ?_
  refine' SA.take 0 (by kernel_rfl) rfl rfl rfl (Wanted.plain rfl) (by repeat (first | exact List.Sublist.refl _ | exact List.nil_sublist _ | apply List.Sublist.cons_cons | apply List.Sublist.cons | apply List.Sublist.append_left | exact List.sublist_append_right _ _)) (View.le_refl _) (Pur.loadN rfl ty_39 ?h1_0 ?h1_1) ?k1
  case h1_0 => first | (apply Rd.own_sub; (focus repeat (first | exact List.Mem.head _ | apply List.Mem.tail | apply List.mem_append_right)); exact Sub.refl _) | (apply RdV.rd; assumption)
  case h1_1 => first | rfl | assumption
  refine SA.takeW 1 (by kernel_rfl) rfl rfl rfl (Wanted.plain rfl) (tells_move rfl) ?_
  refine SA.takeW 3 (by kernel_rfl) rfl rfl rfl (Wanted.plain rfl) (tells_move rfl) ?_
  refine SA.two 2 6 (by kernel_rfl) ?_ ?_
  · refine SStep.callR 2 (H1 := []) rfl rfl (Wanted.plain rfl) rfl Tryz.call107 (List.Perm.refl _) (.inr ⟨(by first | exact List.Sublist.refl _ | exact List.sublist_cons_self _ _), View.le_refl _⟩) (r11_Heads _ _ L h' ho) ?_
    rintro v13 σ _ ⟨⟨hh, hsH, rfl⟩, rfl⟩ _
    obtain ⟨ha, hc, rfl, hhc⟩ := hsH.shape
    refine SA.takeP 4 (by kernel_rfl) rfl rfl rfl (Wanted.plain rfl) (fun _ _ => Pur.build (l := nodeCells 1 1 (.slice ha (headsL L).length hc) (.slice oa ops.length oc)) pl_43 zc_43 rfl rfl) ?_
    refine SA.takeP 5 (by kernel_rfl) rfl rfl rfl (Wanted.plain rfl) (fun _ _ => Pur.build (l := (entCells id 1 1 (.slice ha (headsL L).length hc) (.slice oa ops.length oc))) pl_45 zc_45 rfl rfl) ?_
    refine SA.new 6 rfl rfl rfl (Wanted.plain rfl) (by kernel_rfl) (New.alloc zc_45) (.inr ⟨(by repeat (first | exact List.Sublist.refl _ | exact List.nil_sublist _ | apply List.Sublist.cons_cons | apply List.Sublist.cons | apply List.Sublist.append_left | exact List.sublist_append_right _ _)), View.le_refl _⟩) (fun b8 => ?_)
    refine' SA.run 7 rfl (fun _ e => by cases e) (Wanted.plain rfl) (by kernel_rfl) (Run.storeAll rfl rfl ty_45 ?h2_0 (by first | rfl | assumption) ?h2_1 (by first | rfl | assumption)) (.inl (by decide)) ?k2
    case h2_0 => repeat (first | exact Part.one | exact Part.here | apply Part.cons | apply Part.app)
    case h2_1 => first | rfl | assumption
    refine SA.done (by kernel_rfl) ?_
    refine WQ.thn ?_
    refine WC.seq ?_
    refine WC.seq ?_
    refine WC.region ?_
    refine WL.pur (Pur.assign rfl) ?_
    refine WL.nil ?_
    refine WQ.thn ?_
    refine WC.block ?_
    first | refine WC.giveS (byt := 32) (H1 := [(b8, _)]) (H2 := (b6, rowO 45 (entCells 0 0 0 (.slice none 0 0) (.slice none 0 0))) :: (b4, rowO 39 (hashCells id)) :: Hr) eHash_mono hsH (by omega) rfl (fun σ hle1 hs1 => ?_) | refine WC.giveS (byt := 32) (H1 := []) (H2 := (b8, _) :: (b6, rowO 45 (entCells 0 0 0 (.slice none 0 0) (.slice none 0 0))) :: (b4, rowO 39 (hashCells id)) :: Hr) eHash_mono hsH (by omega) rfl (fun σ hle1 hs1 => ?_)
    first | rw [List.singleton_append] | rw [List.nil_append]
    have hE1 := hE.mono eEnt_mono hle1
    have hops1 := hops.mono eOp_mono hle1
    have hr1 := hr.mono hle1
    have h1' := h'.mono hle1
    refine WC.loop (fun j m σ' H' => ∃ i : Nat, j = L.length - i ∧ i ≤ L.length ∧ m = [(0, .pointer (some ⟨b, 0, none⟩)), (4, .pointer (some ⟨b4, 0, none⟩)), (6, .pointer (some ⟨b6, 0, none⟩)), (8, .pointer (some ⟨b8, 0, none⟩)), (9, .int .i64 (i : Int))] ∧ σ' = σ ∧ H' = (b8, rowO 45 (entCells id 1 (clUp L i) (.slice ha (headsL L).length hc) (.slice oa ops.length oc))) :: (b6, rowO 45 (entCells 0 0 0 (.slice none 0 0) (.slice none 0 0))) :: (b4, rowO 39 (hashCells id)) :: Hr) ⟨0, rfl, by omega, rfl, rfl, by rw [clUp_zero]⟩ (by repeat (first | exact Covers.nil _ | refine Covers.cons rfl ?_)) (by repeat (first | exact List.Sublist.refl _ | exact List.nil_sublist _ | apply List.Sublist.cons_cons | apply List.Sublist.cons | apply List.Sublist.append_left | exact List.sublist_append_right _ _)) ?_
    rintro _ _ σ Hr ⟨i, rfl, hi, rfl, rfl, rfl⟩
    refine WC.seq ?_
    refine WC.seq ?_
    refine WC.region ?_
    refine WL.pur (Pur.move rfl) ?_
    refine WL.pur (Pur.move rfl) ?_
    refine WL.pur (Pur.nilCheck rfl) ?_
    refine WL.pur (Pur.fieldAddr rfl fo_74_0) ?_
    refine' WL.pur (Pur.load1 rfl ty_22 ?h3_0) ?k3
    case h3_0 => first | (apply Rd.own1; (focus repeat (first | exact List.Mem.head _ | apply List.Mem.tail | apply List.mem_append_right)); rfl) | (apply RdV.rd; apply RdV.idx (i := 0); assumption; rfl)
    refine WL.pur (Pur.len rfl isSlice_22) ?_
    refine' WL.pur (Pur.bin rfl rfl ?h4_0) ?k4
    case h4_0 => first | exact Bin.ltN | exact Bin.ltI | exact Bin.ltS
    refine WL.nil ?_
    refine WQ.thn ?_
    first | refine WC.cond rfl (fun hc0 => ?_) (fun hc0 => ?_) | refine WC.condB rfl (fun hc0 => ?_) (fun hc0 => ?_)
    · obtain ⟨e, he⟩ : ∃ e, L[i]? = some e := ⟨_, List.getElem?_eq_getElem (by omega)⟩
      obtain ⟨qv, ov, hrd, heH, hNR⟩ := ent_rd hE1 hel he
      have hcb := (nodeErr_zero (ho.node e (List.mem_of_getElem? he))).2.1
      refine WC.skip ?_
      refine WQ.thn ?_
      refine WC.seq ?_
      refine WC.block ?_
      refine WC.seq ?_
      refine WC.drawH 13 13 mixed (by kernel_rfl) rfl ?_
      refine SA.take 0 (by kernel_rfl) rfl rfl rfl (Wanted.plain rfl) (by repeat (first | exact List.Sublist.refl _ | exact List.nil_sublist _ | apply List.Sublist.cons_cons | apply List.Sublist.cons | apply List.Sublist.append_left | exact List.sublist_append_right _ _)) (View.le_refl _) (Pur.move rfl) ?_
      refine SA.take 1 (by kernel_rfl) rfl rfl rfl (Wanted.plain rfl) (by repeat (first | exact List.Sublist.refl _ | exact List.nil_sublist _ | apply List.Sublist.cons_cons | apply List.Sublist.cons | apply List.Sublist.append_left | exact List.sublist_append_right _ _)) (View.le_refl _) (Pur.nilCheck rfl) ?_
      refine SA.take 2 (by kernel_rfl) rfl rfl rfl (Wanted.plain rfl) (by repeat (first | exact List.Sublist.refl _ | exact List.nil_sublist _ | apply List.Sublist.cons_cons | apply List.Sublist.cons | apply List.Sublist.append_left | exact List.sublist_append_right _ _)) (View.le_refl _) (Pur.fieldAddr rfl fo_74_0) ?_
      refine' SA.take 3 (by kernel_rfl) rfl rfl rfl (Wanted.plain rfl) (by repeat (first | exact List.Sublist.refl _ | exact List.nil_sublist _ | apply List.Sublist.cons_cons | apply List.Sublist.cons | apply List.Sublist.append_left | exact List.sublist_append_right _ _)) (View.le_refl _) (Pur.load1 rfl ty_22 ?h5_0) ?k5
      case h5_0 => first | (apply Rd.own1; (focus repeat (first | exact List.Mem.head _ | apply List.Mem.tail | apply List.mem_append_right)); rfl) | (apply RdV.rd; apply RdV.idx (i := 0); assumption; rfl)
      refine SA.take 4 (by kernel_rfl) rfl rfl rfl (Wanted.plain rfl) (by repeat (first | exact List.Sublist.refl _ | exact List.nil_sublist _ | apply List.Sublist.cons_cons | apply List.Sublist.cons | apply List.Sublist.append_left | exact List.sublist_append_right _ _)) (View.le_refl _) (Pur.move rfl) ?_
      refine' SA.take 5 (by kernel_rfl) rfl rfl rfl (Wanted.plain rfl) (by repeat (first | exact List.Sublist.refl _ | exact List.nil_sublist _ | apply List.Sublist.cons_cons | apply List.Sublist.cons | apply List.Sublist.append_left | exact List.sublist_append_right _ _)) (View.le_refl _) (Pur.indexAddr (eqA (hel (by omega))) rfl sl_22 ?h6_0) ?k6
      case h6_0 => omega
      refine SA.take 6 (by kernel_rfl) rfl rfl rfl (Wanted.plain rfl) (by repeat (first | exact List.Sublist.refl _ | exact List.nil_sublist _ | apply List.Sublist.cons_cons | apply List.Sublist.cons | apply List.Sublist.append_left | exact List.sublist_append_right _ _)) (View.le_refl _) (Pur.fieldAddr rfl fo_45_1) ?_
      refine SA.take 7 (by kernel_rfl) rfl rfl rfl (Wanted.plain rfl) (by repeat (first | exact List.Sublist.refl _ | exact List.nil_sublist _ | apply List.Sublist.cons_cons | apply List.Sublist.cons | apply List.Sublist.append_left | exact List.sublist_append_right _ _)) (View.le_refl _) (Pur.fieldAddr rfl fo_43_1) ?_
      refine' SA.take 8 (by kernel_rfl) rfl rfl rfl (Wanted.plain rfl) (by repeat (first | exact List.Sublist.refl _ | exact List.nil_sublist _ | apply List.Sublist.cons_cons | apply List.Sublist.cons | apply List.Sublist.append_left | exact List.sublist_append_right _ _)) (View.le_refl _) (Pur.load1 rfl ty_3 ?h7_0) ?k7
      case h7_0 => first | (apply Rd.own1; (focus repeat (first | exact List.Mem.head _ | apply List.Mem.tail | apply List.mem_append_right)); rfl) | (apply RdV.rd; apply RdV.idx (i := 33); assumption; rfl) | (apply RdV.rd; apply RdV.idx (off := 0) (i := 33); assumption; rfl)
      refine SA.take 9 (by kernel_rfl) rfl rfl rfl (Wanted.plain rfl) (by repeat (first | exact List.Sublist.refl _ | exact List.nil_sublist _ | apply List.Sublist.cons_cons | apply List.Sublist.cons | apply List.Sublist.append_left | exact List.sublist_append_right _ _)) (View.le_refl _) (Pur.fieldAddr rfl fo_45_1) ?_
      refine SA.take 10 (by kernel_rfl) rfl rfl rfl (Wanted.plain rfl) (by repeat (first | exact List.Sublist.refl _ | exact List.nil_sublist _ | apply List.Sublist.cons_cons | apply List.Sublist.cons | apply List.Sublist.append_left | exact List.sublist_append_right _ _)) (View.le_refl _) (Pur.fieldAddr rfl fo_43_1) ?_
      refine' SA.take 11 (by kernel_rfl) rfl rfl rfl (Wanted.plain rfl) (by repeat (first | exact List.Sublist.refl _ | exact List.nil_sublist _ | apply List.Sublist.cons_cons | apply List.Sublist.cons | apply List.Sublist.append_left | exact List.sublist_append_right _ _)) (View.le_refl _) (Pur.load1 rfl ty_3 ?h8_0) ?k8
      case h8_0 => first | (apply Rd.own1; (focus repeat (first | exact List.Mem.head _ | apply List.Mem.tail | apply List.mem_append_right)); rfl) | (apply RdV.rd; apply RdV.idx (i := 33); assumption; rfl) | (apply RdV.rd; apply RdV.idx (off := 0) (i := 33); assumption; rfl)
      refine' SA.take 12 (by kernel_rfl) rfl rfl rfl (Wanted.plain rfl) (by repeat (first | exact List.Sublist.refl _ | exact List.nil_sublist _ | apply List.Sublist.cons_cons | apply List.Sublist.cons | apply List.Sublist.append_left | exact List.sublist_append_right _ _)) (View.le_refl _) (Pur.bin rfl rfl ?h9_0) ?k9
      case h9_0 => first | exact Bin.geN | exact Bin.geI
      refine SA.done (by kernel_rfl) ?_
      refine WQ.thn ?_
      first | refine WC.cond rfl (fun hc1 => ?_) (fun hc1 => ?_) | refine WC.condB rfl (fun hc1 => ?_) (fun hc1 => ?_)
      · refine WC.region ?_
        refine WL.pur (Pur.move rfl) ?_
        refine WL.pur (Pur.nilCheck rfl) ?_
        refine WL.pur (Pur.fieldAddr rfl fo_74_0) ?_
        refine' WL.pur (Pur.load1 rfl ty_22 ?h10_0) ?k10
        case h10_0 => first | (apply Rd.own1; (focus repeat (first | exact List.Mem.head _ | apply List.Mem.tail | apply List.mem_append_right)); rfl) | (apply RdV.rd; apply RdV.idx (i := 0); assumption; rfl)
        refine WL.pur (Pur.move rfl) ?_
        refine' WL.pur (Pur.indexAddr (eqA (hel (by omega))) rfl sl_22 ?h11_0) ?k11
        case h11_0 => omega
        refine WL.pur (Pur.fieldAddr rfl fo_45_1) ?_
        refine WL.pur (Pur.fieldAddr rfl fo_43_1) ?_
        refine' WL.pur (Pur.load1 rfl ty_3 ?h12_0) ?k12
        case h12_0 => first | (apply Rd.own1; (focus repeat (first | exact List.Mem.head _ | apply List.Mem.tail | apply List.mem_append_right)); rfl) | (apply RdV.rd; apply RdV.idx (i := 33); assumption; rfl) | (apply RdV.rd; apply RdV.idx (off := 0) (i := 33); assumption; rfl)
        refine' WL.pur (Pur.bin rfl rfl ?h13_0) ?k13
        case h13_0 => first | (refine Bin.addN (b := 1) ?_; omega) | (refine Bin.addI ?_; omega)
        refine WL.pur (Pur.fieldAddr rfl fo_45_1) ?_
        refine WL.pur (Pur.fieldAddr rfl fo_43_1) ?_
        refine' WL.run0 (Run.store1 rfl rfl ty_3 (by first | rfl | assumption) ?h14_0 ?h14_1 sz_3) ?k14
        case h14_0 => repeat (first | exact Part.one | exact Part.here | apply Part.cons | apply Part.app)
        case h14_1 => first | exact Nat.le_of_ble_eq_true rfl | decide | (simp; done) | (simp; omega) | omega
        refine WL.nil ?_
        refine WQ.blk ?_
        refine WQ.thn ?_
        refine WC.region ?_
        refine WL.pur (Pur.move rfl) ?_
        refine' WL.pur (Pur.bin rfl rfl ?h15_0) ?k15
        case h15_0 => first | (refine Bin.addN (b := 1) ?_; omega) | (refine Bin.addI ?_; omega)
        refine WL.pur (Pur.assign rfl) ?_
        refine WL.nil ?_
        refine WQ.back _ ⟨i + 1, rfl, by omega, rfl, rfl, by rw [clUp_step he, if_pos hc1]⟩ (by omega) (by repeat (first | exact Covers.nil _ | refine Covers.cons rfl ?_)) (by repeat (first | exact List.Sublist.refl _ | exact List.nil_sublist _ | apply List.Sublist.cons_cons | apply List.Sublist.cons | apply List.Sublist.append_left | exact List.sublist_append_right _ _))
      · refine WC.skip ?_
        refine WQ.blk ?_
        refine WQ.thn ?_
        refine WC.region ?_
        refine WL.pur (Pur.move rfl) ?_
        refine' WL.pur (Pur.bin rfl rfl ?h16_0) ?k16
        case h16_0 => first | (refine Bin.addN (b := 1) ?_; omega) | (refine Bin.addI ?_; omega)
        refine WL.pur (Pur.assign rfl) ?_
        refine WL.nil ?_
        refine WQ.back _ ⟨i + 1, rfl, by omega, rfl, rfl, by rw [clUp_step he, if_neg hc1]⟩ (by omega) (by repeat (first | exact Covers.nil _ | refine Covers.cons rfl ?_)) (by repeat (first | exact List.Sublist.refl _ | exact List.nil_sublist _ | apply List.Sublist.cons_cons | apply List.Sublist.cons | apply List.Sublist.append_left | exact List.sublist_append_right _ _))
    · have hil : i = L.length := by omega
      subst hil
      rw [clUp_all (Nat.le_refl _)]
      have hcB := clUp_i64 ho L.length
      rw [clUp_all (Nat.le_refl _)] at hcB
      have hNB : NodeR σ (behindE L id ops).node (.slice ha (headsL L).length hc) (.slice oa ops.length oc) := ⟨hs1, hops1, by unfold I64 behindE; simp only; omega, by unfold I64 behindE; simp only; omega⟩
      refine WC.exit ?_
      refine WQ.thn_exit ?_
      refine WQ.back_exit ?_
      refine WQ.blk_here ?_
      refine WQ.thn ?_
      refine WC.seq ?_
      refine WC.region ?_
      refine WL.pur (Pur.move rfl) ?_
      refine WL.pur (Pur.nilCheck rfl) ?_
      refine WL.pur (Pur.fieldAddr rfl fo_74_0) ?_
      refine' WL.pur (Pur.load1 rfl ty_22 ?h17_0) ?k17
      case h17_0 => first | (apply Rd.own1; (focus repeat (first | exact List.Mem.head _ | apply List.Mem.tail | apply List.mem_append_right)); rfl) | (apply RdV.rd; apply RdV.idx (i := 0); assumption; rfl)
      refine WL.pur (Pur.len rfl isSlice_22) ?_
      refine' WL.pur (Pur.bin rfl rfl ?h18_0) ?k18
      case h18_0 => first | exact Bin.ltN (b := 4096) | exact Bin.ltI | exact Bin.ltS
      refine WL.pur (Pur.move rfl) ?_
      refine' WL.andp (u := 57) (t := 62) rfl ?h19_0 ?h19_1 ?h19_2 rfl ?k19
      case h19_0 =>
        intro hg57 K57
        refine WL.gpur (u := 57) rfl rfl (gT hg57) (Pur.move rfl) ?_
        refine' WL.gpur (u := 57) rfl rfl (gT hg57) (Pur.loadN rfl ty_39 ?h20_0 ?h20_1) ?k20
        case h20_0 => first | (apply Rd.own_sub; (focus repeat (first | exact List.Mem.head _ | apply List.Mem.tail | apply List.mem_append_right)); exact Sub.refl _) | (apply RdV.rd; assumption)
        case h20_1 => first | rfl | assumption
        refine WL.gcallP (u := 57) rfl rfl (gT hg57) rfl Tryz.call37 ((r11_Number _ _ L id h1' ho hid)) ?_
        refine' WL.gpur (u := 57) rfl rfl (gT hg57) (Pur.bin rfl rfl ?h21_0) ?k21
        case h21_0 => first | exact Bin.ltN (b := 0) | exact Bin.ltI | exact Bin.ltS
        exact K57 _ (by repeat (first | exact Covers.refl _ | refine Covers.push ?_ rfl)) rfl
      case h19_1 =>
        intro hg57 K57
        refine WL.gskip (u := 57) rfl rfl (sT hg57) ?_
        refine WL.gskip (u := 57) rfl rfl (sT hg57) ?_
        refine WL.gskip (u := 57) rfl rfl (sT hg57) ?_
        refine WL.gskip (u := 57) rfl rfl (sT hg57) ?_
        exact K57 _ (by repeat (first | exact Covers.refl _ | refine Covers.push ?_ rfl))
      case h19_2 => exact Wanted.plain rfl
      refine WL.pur (Pur.move rfl) ?_
      refine' WL.andp (u := 63) (t := 68) rfl ?h22_0 ?h22_1 ?h22_2 rfl ?k22
      case h22_0 =>
        intro hg63 K63
        refine WL.gpur (u := 63) rfl rfl (gT hg63) (Pur.fieldAddr rfl fo_45_1) ?_
        refine' WL.gpur (u := 63) rfl rfl (gT hg63) (Pur.loadN rfl ty_43 ?h23_0 ?h23_1) ?k23
        case h23_0 => first | (apply Rd.own_sub; (focus repeat (first | exact List.Mem.head _ | apply List.Mem.tail | apply List.mem_append_right)); exact Sub.ent_node _ _ _ _ _) | (apply RdV.rd; apply RdV.sub (i := 32); assumption; exact Sub.ent_node _ _ _ _ _)
        case h23_1 => first | rfl | assumption
        refine WL.gcallP (u := 63) rfl rfl (gT hg63) rfl Tryz.call108 ((r5_Check _ (behindE L id ops).node _ _ hNB)) ?_
        refine' WL.gpur (u := 63) rfl rfl (gT hg63) (Pur.bin rfl rfl ?h24_0) ?k24
        case h24_0 => first | exact Bin.eqN (b := 0) | exact Bin.eqI
        exact K63 _ (by repeat (first | exact Covers.refl _ | refine Covers.push ?_ rfl)) rfl
      case h22_1 =>
        intro hg63 K63
        refine WL.gskip (u := 63) rfl rfl (sT hg63) ?_
        refine WL.gskip (u := 63) rfl rfl (sT hg63) ?_
        refine WL.gskip (u := 63) rfl rfl (sT hg63) ?_
        refine WL.gskip (u := 63) rfl rfl (sT hg63) ?_
        exact K63 _ (by repeat (first | exact Covers.refl _ | refine Covers.push ?_ rfl))
      case h22_2 => exact Wanted.plain rfl
      refine WL.pur (Pur.assign rfl) ?_
      refine WL.nil ?_
      refine WQ.thn ?_
      refine WC.seq ?_
      refine WC.region ?_
      refine' WL.pur (Pur.loadN rfl ty_45 ?h25_0 ?h25_1) ?k25
      case h25_0 => first | (apply Rd.own_sub; (focus repeat (first | exact List.Mem.head _ | apply List.Mem.tail | apply List.mem_append_right)); exact Sub.refl _) | (apply RdV.rd; assumption)
      case h25_1 => first | rfl | assumption
      refine WL.pur (Pur.move rfl) ?_
      refine' WL.run0 (Run.storeAll rfl rfl ty_45 ?h26_0 (by first | rfl | assumption) ?h26_1 (by first | rfl | assumption)) ?k26
      case h26_0 => repeat (first | exact Part.one | exact Part.here | apply Part.cons | apply Part.app)
      case h26_1 => first | rfl | assumption
      refine WL.pur (Pur.assign rfl) ?_
      refine WL.nil ?_
      refine WQ.thn ?_
      refine WC.ret ?_
      refine' WQ.retCT Tryz.results30 rfl rfl ty_45 ?h27_0 ?h27_1 [] (by repeat (first | exact List.Sublist.refl _ | exact List.nil_sublist _ | apply List.Sublist.cons_cons | apply List.Sublist.cons | apply List.Sublist.append_left | exact List.sublist_append_right _ _)) hle1 ?k27
      case h27_0 => apply Rd.own_sub; (focus repeat (first | exact List.Mem.head _ | apply List.Mem.tail | apply List.mem_append_right)); exact Sub.refl _
      case h27_1 => rfl
      exact ⟨⟨_, rfl, hNB⟩, rfl⟩
  · refine SStep.new 6 rfl rfl rfl (Wanted.plain rfl) (New.alloc zc_45) (.inr ⟨(by repeat (first | exact List.Sublist.refl _ | exact List.nil_sublist _ | apply List.Sublist.cons_cons | apply List.Sublist.cons | apply List.Sublist.append_left | exact List.sublist_append_right _ _)), View.le_refl _⟩) (fun b8 => ?_)
    refine SA.callR 2 (H1 := []) rfl rfl (Wanted.plain rfl) (by kernel_rfl) rfl Tryz.call107 (List.Perm.refl _) (.inr ⟨(by first | exact List.Sublist.refl _ | exact List.sublist_cons_self _ _), View.le_refl _⟩) (r11_Heads _ _ L h' ho) ?_
    rintro v13 σ _ ⟨⟨hh, hsH, rfl⟩, rfl⟩ _
    obtain ⟨ha, hc, rfl, hhc⟩ := hsH.shape
    refine SA.takeP 4 (by kernel_rfl) rfl rfl rfl (Wanted.plain rfl) (fun _ _ => Pur.build (l := nodeCells 1 1 (.slice ha (headsL L).length hc) (.slice oa ops.length oc)) pl_43 zc_43 rfl rfl) ?_
    refine SA.takeP 5 (by kernel_rfl) rfl rfl rfl (Wanted.plain rfl) (fun _ _ => Pur.build (l := (entCells id 1 1 (.slice ha (headsL L).length hc) (.slice oa ops.length oc))) pl_45 zc_45 rfl rfl) ?_
    refine' SA.run 7 rfl (fun _ e => by cases e) (Wanted.plain rfl) (by kernel_rfl) (Run.storeAll rfl rfl ty_45 ?h28_0 (by first | rfl | assumption) ?h28_1 (by first | rfl | assumption)) (.inl (by decide)) ?k28
    case h28_0 => repeat (first | exact Part.one | exact Part.here | apply Part.cons | apply Part.app)
    case h28_1 => first | rfl | assumption
    refine SA.done (by kernel_rfl) ?_
    refine WQ.thn ?_
    refine WC.seq ?_
    refine WC.seq ?_
    refine WC.region ?_
    refine WL.pur (Pur.assign rfl) ?_
    refine WL.nil ?_
    refine WQ.thn ?_
    refine WC.block ?_
    first | refine WC.giveS (byt := 32) (H1 := [(b8, _)]) (H2 := (b6, rowO 45 (entCells 0 0 0 (.slice none 0 0) (.slice none 0 0))) :: (b4, rowO 39 (hashCells id)) :: Hr) eHash_mono hsH (by omega) rfl (fun σ hle1 hs1 => ?_) | refine WC.giveS (byt := 32) (H1 := []) (H2 := (b8, _) :: (b6, rowO 45 (entCells 0 0 0 (.slice none 0 0) (.slice none 0 0))) :: (b4, rowO 39 (hashCells id)) :: Hr) eHash_mono hsH (by omega) rfl (fun σ hle1 hs1 => ?_)
    first | rw [List.singleton_append] | rw [List.nil_append]
    have hE1 := hE.mono eEnt_mono hle1
    have hops1 := hops.mono eOp_mono hle1
    have hr1 := hr.mono hle1
    have h1' := h'.mono hle1
    refine WC.loop (fun j m σ' H' => ∃ i : Nat, j = L.length - i ∧ i ≤ L.length ∧ m = [(0, .pointer (some ⟨b, 0, none⟩)), (4, .pointer (some ⟨b4, 0, none⟩)), (6, .pointer (some ⟨b6, 0, none⟩)), (8, .pointer (some ⟨b8, 0, none⟩)), (9, .int .i64 (i : Int))] ∧ σ' = σ ∧ H' = (b8, rowO 45 (entCells id 1 (clUp L i) (.slice ha (headsL L).length hc) (.slice oa ops.length oc))) :: (b6, rowO 45 (entCells 0 0 0 (.slice none 0 0) (.slice none 0 0))) :: (b4, rowO 39 (hashCells id)) :: Hr) ⟨0, rfl, by omega, rfl, rfl, by rw [clUp_zero]⟩ (by repeat (first | exact Covers.nil _ | refine Covers.cons rfl ?_)) (by repeat (first | exact List.Sublist.refl _ | exact List.nil_sublist _ | apply List.Sublist.cons_cons | apply List.Sublist.cons | apply List.Sublist.append_left | exact List.sublist_append_right _ _)) ?_
    rintro _ _ σ Hr ⟨i, rfl, hi, rfl, rfl, rfl⟩
    refine WC.seq ?_
    refine WC.seq ?_
    refine WC.region ?_
    refine WL.pur (Pur.move rfl) ?_
    refine WL.pur (Pur.move rfl) ?_
    refine WL.pur (Pur.nilCheck rfl) ?_
    refine WL.pur (Pur.fieldAddr rfl fo_74_0) ?_
    refine' WL.pur (Pur.load1 rfl ty_22 ?h29_0) ?k29
    case h29_0 => first | (apply Rd.own1; (focus repeat (first | exact List.Mem.head _ | apply List.Mem.tail | apply List.mem_append_right)); rfl) | (apply RdV.rd; apply RdV.idx (i := 0); assumption; rfl)
    refine WL.pur (Pur.len rfl isSlice_22) ?_
    refine' WL.pur (Pur.bin rfl rfl ?h30_0) ?k30
    case h30_0 => first | exact Bin.ltN | exact Bin.ltI | exact Bin.ltS
    refine WL.nil ?_
    refine WQ.thn ?_
    first | refine WC.cond rfl (fun hc0 => ?_) (fun hc0 => ?_) | refine WC.condB rfl (fun hc0 => ?_) (fun hc0 => ?_)
    · obtain ⟨e, he⟩ : ∃ e, L[i]? = some e := ⟨_, List.getElem?_eq_getElem (by omega)⟩
      obtain ⟨qv, ov, hrd, heH, hNR⟩ := ent_rd hE1 hel he
      have hcb := (nodeErr_zero (ho.node e (List.mem_of_getElem? he))).2.1
      refine WC.skip ?_
      refine WQ.thn ?_
      refine WC.seq ?_
      refine WC.block ?_
      refine WC.seq ?_
      refine WC.drawH 13 13 mixed (by kernel_rfl) rfl ?_
      refine SA.take 0 (by kernel_rfl) rfl rfl rfl (Wanted.plain rfl) (by repeat (first | exact List.Sublist.refl _ | exact List.nil_sublist _ | apply List.Sublist.cons_cons | apply List.Sublist.cons | apply List.Sublist.append_left | exact List.sublist_append_right _ _)) (View.le_refl _) (Pur.move rfl) ?_
      refine SA.take 1 (by kernel_rfl) rfl rfl rfl (Wanted.plain rfl) (by repeat (first | exact List.Sublist.refl _ | exact List.nil_sublist _ | apply List.Sublist.cons_cons | apply List.Sublist.cons | apply List.Sublist.append_left | exact List.sublist_append_right _ _)) (View.le_refl _) (Pur.nilCheck rfl) ?_
      refine SA.take 2 (by kernel_rfl) rfl rfl rfl (Wanted.plain rfl) (by repeat (first | exact List.Sublist.refl _ | exact List.nil_sublist _ | apply List.Sublist.cons_cons | apply List.Sublist.cons | apply List.Sublist.append_left | exact List.sublist_append_right _ _)) (View.le_refl _) (Pur.fieldAddr rfl fo_74_0) ?_
      refine' SA.take 3 (by kernel_rfl) rfl rfl rfl (Wanted.plain rfl) (by repeat (first | exact List.Sublist.refl _ | exact List.nil_sublist _ | apply List.Sublist.cons_cons | apply List.Sublist.cons | apply List.Sublist.append_left | exact List.sublist_append_right _ _)) (View.le_refl _) (Pur.load1 rfl ty_22 ?h31_0) ?k31
      case h31_0 => first | (apply Rd.own1; (focus repeat (first | exact List.Mem.head _ | apply List.Mem.tail | apply List.mem_append_right)); rfl) | (apply RdV.rd; apply RdV.idx (i := 0); assumption; rfl)
      refine SA.take 4 (by kernel_rfl) rfl rfl rfl (Wanted.plain rfl) (by repeat (first | exact List.Sublist.refl _ | exact List.nil_sublist _ | apply List.Sublist.cons_cons | apply List.Sublist.cons | apply List.Sublist.append_left | exact List.sublist_append_right _ _)) (View.le_refl _) (Pur.move rfl) ?_
      refine' SA.take 5 (by kernel_rfl) rfl rfl rfl (Wanted.plain rfl) (by repeat (first | exact List.Sublist.refl _ | exact List.nil_sublist _ | apply List.Sublist.cons_cons | apply List.Sublist.cons | apply List.Sublist.append_left | exact List.sublist_append_right _ _)) (View.le_refl _) (Pur.indexAddr (eqA (hel (by omega))) rfl sl_22 ?h32_0) ?k32
      case h32_0 => omega
      refine SA.take 6 (by kernel_rfl) rfl rfl rfl (Wanted.plain rfl) (by repeat (first | exact List.Sublist.refl _ | exact List.nil_sublist _ | apply List.Sublist.cons_cons | apply List.Sublist.cons | apply List.Sublist.append_left | exact List.sublist_append_right _ _)) (View.le_refl _) (Pur.fieldAddr rfl fo_45_1) ?_
      refine SA.take 7 (by kernel_rfl) rfl rfl rfl (Wanted.plain rfl) (by repeat (first | exact List.Sublist.refl _ | exact List.nil_sublist _ | apply List.Sublist.cons_cons | apply List.Sublist.cons | apply List.Sublist.append_left | exact List.sublist_append_right _ _)) (View.le_refl _) (Pur.fieldAddr rfl fo_43_1) ?_
      refine' SA.take 8 (by kernel_rfl) rfl rfl rfl (Wanted.plain rfl) (by repeat (first | exact List.Sublist.refl _ | exact List.nil_sublist _ | apply List.Sublist.cons_cons | apply List.Sublist.cons | apply List.Sublist.append_left | exact List.sublist_append_right _ _)) (View.le_refl _) (Pur.load1 rfl ty_3 ?h33_0) ?k33
      case h33_0 => first | (apply Rd.own1; (focus repeat (first | exact List.Mem.head _ | apply List.Mem.tail | apply List.mem_append_right)); rfl) | (apply RdV.rd; apply RdV.idx (i := 33); assumption; rfl) | (apply RdV.rd; apply RdV.idx (off := 0) (i := 33); assumption; rfl)
      refine SA.take 9 (by kernel_rfl) rfl rfl rfl (Wanted.plain rfl) (by repeat (first | exact List.Sublist.refl _ | exact List.nil_sublist _ | apply List.Sublist.cons_cons | apply List.Sublist.cons | apply List.Sublist.append_left | exact List.sublist_append_right _ _)) (View.le_refl _) (Pur.fieldAddr rfl fo_45_1) ?_
      refine SA.take 10 (by kernel_rfl) rfl rfl rfl (Wanted.plain rfl) (by repeat (first | exact List.Sublist.refl _ | exact List.nil_sublist _ | apply List.Sublist.cons_cons | apply List.Sublist.cons | apply List.Sublist.append_left | exact List.sublist_append_right _ _)) (View.le_refl _) (Pur.fieldAddr rfl fo_43_1) ?_
      refine' SA.take 11 (by kernel_rfl) rfl rfl rfl (Wanted.plain rfl) (by repeat (first | exact List.Sublist.refl _ | exact List.nil_sublist _ | apply List.Sublist.cons_cons | apply List.Sublist.cons | apply List.Sublist.append_left | exact List.sublist_append_right _ _)) (View.le_refl _) (Pur.load1 rfl ty_3 ?h34_0) ?k34
      case h34_0 => first | (apply Rd.own1; (focus repeat (first | exact List.Mem.head _ | apply List.Mem.tail | apply List.mem_append_right)); rfl) | (apply RdV.rd; apply RdV.idx (i := 33); assumption; rfl) | (apply RdV.rd; apply RdV.idx (off := 0) (i := 33); assumption; rfl)
      refine' SA.take 12 (by kernel_rfl) rfl rfl rfl (Wanted.plain rfl) (by repeat (first | exact List.Sublist.refl _ | exact List.nil_sublist _ | apply List.Sublist.cons_cons | apply List.Sublist.cons | apply List.Sublist.append_left | exact List.sublist_append_right _ _)) (View.le_refl _) (Pur.bin rfl rfl ?h35_0) ?k35
      case h35_0 => first | exact Bin.geN | exact Bin.geI
      refine SA.done (by kernel_rfl) ?_
      refine WQ.thn ?_
      first | refine WC.cond rfl (fun hc1 => ?_) (fun hc1 => ?_) | refine WC.condB rfl (fun hc1 => ?_) (fun hc1 => ?_)
      · refine WC.region ?_
        refine WL.pur (Pur.move rfl) ?_
        refine WL.pur (Pur.nilCheck rfl) ?_
        refine WL.pur (Pur.fieldAddr rfl fo_74_0) ?_
        refine' WL.pur (Pur.load1 rfl ty_22 ?h36_0) ?k36
        case h36_0 => first | (apply Rd.own1; (focus repeat (first | exact List.Mem.head _ | apply List.Mem.tail | apply List.mem_append_right)); rfl) | (apply RdV.rd; apply RdV.idx (i := 0); assumption; rfl)
        refine WL.pur (Pur.move rfl) ?_
        refine' WL.pur (Pur.indexAddr (eqA (hel (by omega))) rfl sl_22 ?h37_0) ?k37
        case h37_0 => omega
        refine WL.pur (Pur.fieldAddr rfl fo_45_1) ?_
        refine WL.pur (Pur.fieldAddr rfl fo_43_1) ?_
        refine' WL.pur (Pur.load1 rfl ty_3 ?h38_0) ?k38
        case h38_0 => first | (apply Rd.own1; (focus repeat (first | exact List.Mem.head _ | apply List.Mem.tail | apply List.mem_append_right)); rfl) | (apply RdV.rd; apply RdV.idx (i := 33); assumption; rfl) | (apply RdV.rd; apply RdV.idx (off := 0) (i := 33); assumption; rfl)
        refine' WL.pur (Pur.bin rfl rfl ?h39_0) ?k39
        case h39_0 => first | (refine Bin.addN (b := 1) ?_; omega) | (refine Bin.addI ?_; omega)
        refine WL.pur (Pur.fieldAddr rfl fo_45_1) ?_
        refine WL.pur (Pur.fieldAddr rfl fo_43_1) ?_
        refine' WL.run0 (Run.store1 rfl rfl ty_3 (by first | rfl | assumption) ?h40_0 ?h40_1 sz_3) ?k40
        case h40_0 => repeat (first | exact Part.one | exact Part.here | apply Part.cons | apply Part.app)
        case h40_1 => first | exact Nat.le_of_ble_eq_true rfl | decide | (simp; done) | (simp; omega) | omega
        refine WL.nil ?_
        refine WQ.blk ?_
        refine WQ.thn ?_
        refine WC.region ?_
        refine WL.pur (Pur.move rfl) ?_
        refine' WL.pur (Pur.bin rfl rfl ?h41_0) ?k41
        case h41_0 => first | (refine Bin.addN (b := 1) ?_; omega) | (refine Bin.addI ?_; omega)
        refine WL.pur (Pur.assign rfl) ?_
        refine WL.nil ?_
        refine WQ.back _ ⟨i + 1, rfl, by omega, rfl, rfl, by rw [clUp_step he, if_pos hc1]⟩ (by omega) (by repeat (first | exact Covers.nil _ | refine Covers.cons rfl ?_)) (by repeat (first | exact List.Sublist.refl _ | exact List.nil_sublist _ | apply List.Sublist.cons_cons | apply List.Sublist.cons | apply List.Sublist.append_left | exact List.sublist_append_right _ _))
      · refine WC.skip ?_
        refine WQ.blk ?_
        refine WQ.thn ?_
        refine WC.region ?_
        refine WL.pur (Pur.move rfl) ?_
        refine' WL.pur (Pur.bin rfl rfl ?h42_0) ?k42
        case h42_0 => first | (refine Bin.addN (b := 1) ?_; omega) | (refine Bin.addI ?_; omega)
        refine WL.pur (Pur.assign rfl) ?_
        refine WL.nil ?_
        refine WQ.back _ ⟨i + 1, rfl, by omega, rfl, rfl, by rw [clUp_step he, if_neg hc1]⟩ (by omega) (by repeat (first | exact Covers.nil _ | refine Covers.cons rfl ?_)) (by repeat (first | exact List.Sublist.refl _ | exact List.nil_sublist _ | apply List.Sublist.cons_cons | apply List.Sublist.cons | apply List.Sublist.append_left | exact List.sublist_append_right _ _))
    · have hil : i = L.length := by omega
      subst hil
      rw [clUp_all (Nat.le_refl _)]
      have hcB := clUp_i64 ho L.length
      rw [clUp_all (Nat.le_refl _)] at hcB
      have hNB : NodeR σ (behindE L id ops).node (.slice ha (headsL L).length hc) (.slice oa ops.length oc) := ⟨hs1, hops1, by unfold I64 behindE; simp only; omega, by unfold I64 behindE; simp only; omega⟩
      refine WC.exit ?_
      refine WQ.thn_exit ?_
      refine WQ.back_exit ?_
      refine WQ.blk_here ?_
      refine WQ.thn ?_
      refine WC.seq ?_
      refine WC.region ?_
      refine WL.pur (Pur.move rfl) ?_
      refine WL.pur (Pur.nilCheck rfl) ?_
      refine WL.pur (Pur.fieldAddr rfl fo_74_0) ?_
      refine' WL.pur (Pur.load1 rfl ty_22 ?h43_0) ?k43
      case h43_0 => first | (apply Rd.own1; (focus repeat (first | exact List.Mem.head _ | apply List.Mem.tail | apply List.mem_append_right)); rfl) | (apply RdV.rd; apply RdV.idx (i := 0); assumption; rfl)
      refine WL.pur (Pur.len rfl isSlice_22) ?_
      refine' WL.pur (Pur.bin rfl rfl ?h44_0) ?k44
      case h44_0 => first | exact Bin.ltN (b := 4096) | exact Bin.ltI | exact Bin.ltS
      refine WL.pur (Pur.move rfl) ?_
      refine' WL.andp (u := 57) (t := 62) rfl ?h45_0 ?h45_1 ?h45_2 rfl ?k45
      case h45_0 =>
        intro hg57 K57
        refine WL.gpur (u := 57) rfl rfl (gT hg57) (Pur.move rfl) ?_
        refine' WL.gpur (u := 57) rfl rfl (gT hg57) (Pur.loadN rfl ty_39 ?h46_0 ?h46_1) ?k46
        case h46_0 => first | (apply Rd.own_sub; (focus repeat (first | exact List.Mem.head _ | apply List.Mem.tail | apply List.mem_append_right)); exact Sub.refl _) | (apply RdV.rd; assumption)
        case h46_1 => first | rfl | assumption
        refine WL.gcallP (u := 57) rfl rfl (gT hg57) rfl Tryz.call37 ((r11_Number _ _ L id h1' ho hid)) ?_
        refine' WL.gpur (u := 57) rfl rfl (gT hg57) (Pur.bin rfl rfl ?h47_0) ?k47
        case h47_0 => first | exact Bin.ltN (b := 0) | exact Bin.ltI | exact Bin.ltS
        exact K57 _ (by repeat (first | exact Covers.refl _ | refine Covers.push ?_ rfl)) rfl
      case h45_1 =>
        intro hg57 K57
        refine WL.gskip (u := 57) rfl rfl (sT hg57) ?_
        refine WL.gskip (u := 57) rfl rfl (sT hg57) ?_
        refine WL.gskip (u := 57) rfl rfl (sT hg57) ?_
        refine WL.gskip (u := 57) rfl rfl (sT hg57) ?_
        exact K57 _ (by repeat (first | exact Covers.refl _ | refine Covers.push ?_ rfl))
      case h45_2 => exact Wanted.plain rfl
      refine WL.pur (Pur.move rfl) ?_
      refine' WL.andp (u := 63) (t := 68) rfl ?h48_0 ?h48_1 ?h48_2 rfl ?k48
      case h48_0 =>
        intro hg63 K63
        refine WL.gpur (u := 63) rfl rfl (gT hg63) (Pur.fieldAddr rfl fo_45_1) ?_
        refine' WL.gpur (u := 63) rfl rfl (gT hg63) (Pur.loadN rfl ty_43 ?h49_0 ?h49_1) ?k49
        case h49_0 => first | (apply Rd.own_sub; (focus repeat (first | exact List.Mem.head _ | apply List.Mem.tail | apply List.mem_append_right)); exact Sub.ent_node _ _ _ _ _) | (apply RdV.rd; apply RdV.sub (i := 32); assumption; exact Sub.ent_node _ _ _ _ _)
        case h49_1 => first | rfl | assumption
        refine WL.gcallP (u := 63) rfl rfl (gT hg63) rfl Tryz.call108 ((r5_Check _ (behindE L id ops).node _ _ hNB)) ?_
        refine' WL.gpur (u := 63) rfl rfl (gT hg63) (Pur.bin rfl rfl ?h50_0) ?k50
        case h50_0 => first | exact Bin.eqN (b := 0) | exact Bin.eqI
        exact K63 _ (by repeat (first | exact Covers.refl _ | refine Covers.push ?_ rfl)) rfl
      case h48_1 =>
        intro hg63 K63
        refine WL.gskip (u := 63) rfl rfl (sT hg63) ?_
        refine WL.gskip (u := 63) rfl rfl (sT hg63) ?_
        refine WL.gskip (u := 63) rfl rfl (sT hg63) ?_
        refine WL.gskip (u := 63) rfl rfl (sT hg63) ?_
        exact K63 _ (by repeat (first | exact Covers.refl _ | refine Covers.push ?_ rfl))
      case h48_2 => exact Wanted.plain rfl
      refine WL.pur (Pur.assign rfl) ?_
      refine WL.nil ?_
      refine WQ.thn ?_
      refine WC.seq ?_
      refine WC.region ?_
      refine' WL.pur (Pur.loadN rfl ty_45 ?h51_0 ?h51_1) ?k51
      case h51_0 => first | (apply Rd.own_sub; (focus repeat (first | exact List.Mem.head _ | apply List.Mem.tail | apply List.mem_append_right)); exact Sub.refl _) | (apply RdV.rd; assumption)
      case h51_1 => first | rfl | assumption
      refine WL.pur (Pur.move rfl) ?_
      refine' WL.run0 (Run.storeAll rfl rfl ty_45 ?h52_0 (by first | rfl | assumption) ?h52_1 (by first | rfl | assumption)) ?k52
      case h52_0 => repeat (first | exact Part.one | exact Part.here | apply Part.cons | apply Part.app)
      case h52_1 => first | rfl | assumption
      refine WL.pur (Pur.assign rfl) ?_
      refine WL.nil ?_
      refine WQ.thn ?_
      refine WC.ret ?_
      refine' WQ.retCT Tryz.results30 rfl rfl ty_45 ?h53_0 ?h53_1 [] (by repeat (first | exact List.Sublist.refl _ | exact List.nil_sublist _ | apply List.Sublist.cons_cons | apply List.Sublist.cons | apply List.Sublist.append_left | exact List.sublist_append_right _ _)) hle1 ?k53
      case h53_0 => apply Rd.own_sub; (focus repeat (first | exact List.Mem.head _ | apply List.Mem.tail | apply List.mem_append_right)); exact Sub.refl _
      case h53_1 => rfl
      exact ⟨⟨_, rfl, hNB⟩, rfl⟩

end Go.Proofs.YtgoooilgmabkmaaGreat
namespace Go.Proofs.YtgoooilgmabkmaaGreat
open Go Go.Sl
set_option linter.unusedVariables false
set_option linter.unusedSimpArgs false
set_option maxRecDepth 100000

theorem kOk : StrOk kB := by unfold StrOk; decide
theorem lOk : StrOk lB := by unfold StrOk; decide

set_option maxHeartbeats 2000000 in
theorem law14_RegFollows (σ : View) (lv ov : Value) (id : Nat) (ops : List OpD) (l : List EntD) (h : Ents σ lv l) (hid : IsH id) (hops : SlE σ eOp 37 88 ov ops) :
    Tri Tryz.prog 4 #[lv, hashV id, ov] σ [] (fun v σ' H' => v = .bool true) := by
  have h' := h
  have hops' := hops
  obtain ⟨la, lc, rfl, hlc, hlby⟩ := h.shape
  obtain ⟨oa, oc, rfl, hoc, hob⟩ := hops.shape
  refine Tri.of_body [(0, .slice la l.length lc), (1, hashV id), (2, .slice oa ops.length oc)] Tryz.func4 rfl Tryz.ntmps4 (by simp) rfl (fun Hr => ?_)
  rw [List.nil_append]
  refine WC.seq ?_
  refine WC.region ?_
  refine WL.new (New.boxN rfl) (fun b4 => ?_)
  refine WL.pur (Pur.assign rfl) ?_
  refine WL.nil ?_
  refine WQ.thn ?_
  refine WC.seq ?_
  refine WC.seq ?_
  refine WC.region ?_
  refine WL.call (H0 := []) (Hr := (b4, _) :: Hr) rfl Tryz.call22 (List.Perm.refl _) (law14_awake σ) ?_
  rintro _ σ1 _ ⟨rfl, rfl⟩ hle1
  rw [List.nil_append]
  first | refine WL.pur (Pur.not rfl) ?_ | refine WL.pur (Pur.notB rfl) ?_
  refine WL.nil ?_
  refine WQ.thn ?_
  refine WC.condF rfl ?_
  refine WC.skip ?_
  refine WQ.thn ?_
  refine WC.seq ?_
  refine WC.region ?_
  refine WL.pur (Pur.move rfl) ?_
  refine WL.call (H0 := []) (Hr := (b4, _) :: Hr) rfl Tryz.call24 (List.Perm.refl _) (r11_Of2 _ _ l (h'.mono eEnt_mono hle1)) ?_
  rintro _ σ2 _ ⟨⟨qa, m3, rfl, hqq, hqn⟩, rfl⟩ hle2
  rw [List.nil_append]
  refine WL.pur (Pur.move rfl) ?_
  first | refine WL.pur (Pur.ex2_0 rfl) ?_ | refine WL.pur (Pur.ex3_0 rfl) ?_ | refine WL.pur (Pur.extractNext rfl) ?_ | refine WL.pur (Pur.extract rfl rfl) ?_
  first | refine WL.pur (Pur.ex2_1 rfl) ?_ | refine WL.pur (Pur.ex3_1 rfl) ?_ | refine WL.pur (Pur.extract rfl rfl) ?_
  first | refine WL.pur (Pur.ex3_2 rfl) ?_ | refine WL.pur (Pur.extract rfl rfl) ?_
  refine WL.pur (Pur.assign rfl) ?_
  refine WL.pur (Pur.assign rfl) ?_
  refine WL.pur (Pur.assign rfl) ?_
  refine WL.nil ?_
  refine WQ.thn ?_
  refine WC.seq ?_
  refine WC.seq ?_
  refine WC.region ?_
  refine WL.pur (Pur.move rfl) ?_
  refine' WL.pur (Pur.bin rfl rfl ?h1_0) ?k1
  case h1_0 => first | exact Bin.neN (b := 0) | exact Bin.neI
  refine WL.nil ?_
  refine WQ.thn ?_
  first | refine WC.cond rfl (fun hc1 => ?_) (fun hc1 => ?_) | refine WC.condB rfl (fun hc1 => ?_) (fun hc1 => ?_)
  · refine WC.seq ?_
    refine WC.region ?_
    refine WL.pur (Pur.assign rfl) ?_
    refine WL.nil ?_
    refine WQ.thn ?_
    refine WC.ret ?_
    refine WQ.thn_ret ?_
    refine WQ.ret1 Tryz.results4 rfl [] (by repeat (first | exact List.Sublist.refl _ | exact List.nil_sublist _ | apply List.Sublist.cons_cons | apply List.Sublist.cons | apply List.Sublist.append_left | exact List.sublist_append_right _ _)) (View.le_trans hle1 hle2) ?_
    exact rfl
  · have h0 : (rightErr l).1 = 0 := Decidable.not_not.1 hc1
    have hg := good_of_right h0
    have ho := ordE_ok hg
    have hq2 := hqq h0
    have hops2 := hops'.mono eOp_mono (View.le_trans hle1 hle2)
    have hmost := hg.most
    refine WC.skip ?_
    refine WQ.thn ?_
    refine WC.seq ?_
    refine WC.region ?_
    refine WL.pur (Pur.move rfl) ?_
    refine' WL.pur (Pur.loadN rfl ty_39 ?h2_0 ?h2_1) ?k2
    case h2_0 => first | (apply Rd.own_sub; (focus repeat (first | exact List.Mem.head _ | apply List.Mem.tail | apply List.mem_append_right)); exact Sub.refl _) | (apply RdV.rd; assumption)
    case h2_1 => first | rfl | assumption
    refine WL.pur (Pur.move rfl) ?_
    refine WL.call (H0 := []) (Hr := (b4, _) :: Hr) rfl Tryz.call30 (List.Perm.refl _) (r11_Behind _ _ _ (ordE l) id ops hq2 ho hid hops2) ?_
    rintro _ σ3 _ ⟨⟨xv, rfl, hX⟩, rfl⟩ hle3
    rw [List.nil_append]
    have hXp : SlE σ3 eHash 32 32 xv (headsL (ordE l)) := hX.1
    obtain ⟨xa, xcp, rfl, hxc, hxb⟩ := hXp.shape
    refine WL.pur (Pur.move rfl) ?_
    first | refine WL.pur (Pur.ex2_0 rfl) ?_ | refine WL.pur (Pur.ex3_0 rfl) ?_ | refine WL.pur (Pur.extractNext rfl) ?_ | refine WL.pur (Pur.extract rfl rfl) ?_
    first | refine WL.pur (Pur.ex2_1 rfl) ?_ | refine WL.pur (Pur.ex3_1 rfl) ?_ | refine WL.pur (Pur.extract rfl rfl) ?_
    refine WL.new (New.alloc zc_45) (fun b10 => ?_)
    refine' WL.run0 (Run.storeAll rfl rfl ty_45 ?h3_0 (by first | rfl | assumption) ?h3_1 (by first | rfl | assumption)) ?k3
    case h3_0 => repeat (first | exact Part.one | exact Part.here | apply Part.cons | apply Part.app)
    case h3_1 => first | rfl | assumption
    refine WL.pur (Pur.assign rfl) ?_
    refine WL.nil ?_
    refine WQ.thn ?_
    refine WC.seq ?_
    refine WC.seq ?_
    refine WC.region ?_
    refine WL.pur (Pur.move rfl) ?_
    first | refine WL.pur (Pur.not rfl) ?_ | refine WL.pur (Pur.notB rfl) ?_
    refine WL.nil ?_
    refine WQ.thn ?_
    first | refine WC.cond rfl (fun hc2 => ?_) (fun hc2 => ?_) | refine WC.condB rfl (fun hc2 => ?_) (fun hc2 => ?_)
    · refine WC.seq ?_
      refine WC.region ?_
      refine WL.pur (Pur.assign rfl) ?_
      refine WL.nil ?_
      refine WQ.thn ?_
      refine WC.ret ?_
      refine WQ.thn_ret ?_
      refine WQ.ret1 Tryz.results4 rfl [] (by repeat (first | exact List.Sublist.refl _ | exact List.nil_sublist _ | apply List.Sublist.cons_cons | apply List.Sublist.cons | apply List.Sublist.append_left | exact List.sublist_append_right _ _)) (View.le_trans hle1 (View.le_trans hle2 hle3)) ?_
      exact rfl
    · have hmay : mayB (ordE l) id ops := by first | exact Decidable.not_not.1 hc2 | simpa using hc2
      have hmay2 := hmay
      obtain ⟨⟨hlt, hnum⟩, hxe⟩ := hmay2
      have hLl := ordE_len hg
      have hidn : idxOf (ordE l) id = none := numV_none.1 hnum
      have hid2 : ∀ e ∈ l, e.id ≠ id := fun e he => idxOf_none.1 hidn e ((mem_ordE hg).2 he)
      have hr2 := behind_right h0 hid2 (by omega) hxe
      have hg2 := good_of_right hr2
      have hord := behind_ord hg hg2 rfl
      have ho2 : OrdOk (ordE l ++ [(behindE (ordE l) id ops)]) := by rw [← hord]; exact ordE_ok hg2
      have hopl : ops.length ≤ 1024 := opsErr_len (nodeErr_zero hxe).2.2.2
      have hKl := regKeys_len ho
      refine WC.skip ?_
      refine WQ.thn ?_
      refine WC.seq ?_
      refine WC.region ?_
      refine WL.pur (Pur.move rfl) ?_
      refine WL.call (H0 := []) (Hr := (b10, _) :: (b4, _) :: Hr) rfl Tryz.call23 (List.Perm.refl _) (past_Of2 _ _ l (h'.mono eEnt_mono (View.le_trans hle1 (View.le_trans hle2 hle3)))) ?_
      rintro _ σ4 _ ⟨⟨pa, n3, rfl, hpp, hpn⟩, rfl⟩ hle4
      rw [List.nil_append]
      have hp4 := hpp h0
      have hX4 := hX.mono hle4
      have hl4 := h'.mono eEnt_mono (View.le_trans hle1 (View.le_trans hle2 (View.le_trans hle3 hle4)))
      refine WL.pur (Pur.move rfl) ?_
      first | refine WL.pur (Pur.ex2_0 rfl) ?_ | refine WL.pur (Pur.ex3_0 rfl) ?_ | refine WL.pur (Pur.extractNext rfl) ?_ | refine WL.pur (Pur.extract rfl rfl) ?_
      first | refine WL.pur (Pur.ex2_1 rfl) ?_ | refine WL.pur (Pur.ex3_1 rfl) ?_ | refine WL.pur (Pur.extract rfl rfl) ?_
      first | refine WL.pur (Pur.ex3_2 rfl) ?_ | refine WL.pur (Pur.extract rfl rfl) ?_
      refine WL.pur (Pur.assign rfl) ?_
      refine WL.pur (Pur.assign rfl) ?_
      refine WL.pur (Pur.assign rfl) ?_
      refine WL.nil ?_
      refine WQ.thn ?_
      refine WC.seqK (fun m σ' H' => ∃ na, σ4.le σ' ∧ PastV σ' (.pointer na) (ordE l ++ [(behindE (ordE l) id ops)]) ∧ m = [(2, .slice oa ops.length oc), (12, .pointer pa), (15, .pointer na), (13, .int .i64 (rightErr l).1), (16, .int .i64 (rightErr (l ++ [(behindE (ordE l) id ops)])).1)] ∧ H' = Hr) (fun KM => ?_) ?_
      · refine WC.draw 11 14 ([(b10, rowO 45 (entCells id 1 (clB (ordE l)) (.slice xa (headsL (ordE l)).length xcp) (.slice oa ops.length oc))), (b4, rowO 39 (hashCells id))]) mixed (by kernel_rfl) rfl ?_
        refine SA.takeW 1 (by kernel_rfl) rfl rfl rfl (Wanted.plain rfl) (tells_move rfl) ?_
        refine' SA.take 3 (by kernel_rfl) rfl rfl rfl (Wanted.plain rfl) (by repeat (first | exact List.nil_sublist _ | apply List.Sublist.cons_cons | apply List.Sublist.cons | apply sub_app)) (by first | exact View.le_refl _ | assumption) (Pur.loadN rfl ty_45 ?h4_0 ?h4_1) ?k4
        case h4_0 => first | (apply Rd.own_sub; (focus repeat (first | exact List.Mem.head _ | apply List.Mem.tail | apply List.mem_append_right)); exact Sub.refl _) | (apply RdV.rd; assumption)
        case h4_1 => first | rfl | assumption
        refine SA.two 0 4 (by kernel_rfl) ?_ ?_
        · refine SStep.new 0 rfl rfl rfl (Wanted.plain rfl) (New.buildSlice0 sl_22) (.inr ⟨(by repeat (first | exact List.nil_sublist _ | apply List.Sublist.cons_cons | apply List.Sublist.cons | apply sub_app)), (by first | exact View.le_refl _ | assumption)⟩) (fun b52 => ?_)
          refine SA.two 2 4 (by kernel_rfl) ?_ ?_
          · refine SStep.any 2 rfl rfl rfl (Wanted.plain rfl) (Any.pushAll (E := eEnt) (H1 := []) (h := [(b52, _)]) (H2 := _) sl_22 zc_45 rfl by_45 rfl rfl (SlO.row (b := b52) (ElR.nil (σ := σ4) (E := eEnt) (sz := 36))) hl4 rfl (by simp only [List.length_nil]; omega) (by simp only [List.length_nil]; omega)) (fun _ _ _ hJ => .inr ⟨by (obtain ⟨_, _, hσ, hH⟩ := hJ; subst hH; repeat (first | exact List.nil_sublist _ | apply List.Sublist.cons_cons | apply List.Sublist.cons | apply sub_app)), View.le_refl _⟩) ?_
            rintro v54 σ4 _ ⟨h54, hs54, rfl, rfl⟩ _
            refine SA.new 4 rfl rfl rfl (Wanted.plain rfl) (by kernel_rfl) (New.buildSliceN (xs := [.tmp 55]) (vss := [entCells id 1 (clB (ordE l)) (.slice xa (headsL (ordE l)).length xcp) (.slice oa ops.length oc)]) sl_22 zc_45 rfl rfl rfl (by rfl) (by rfl)) (.inr ⟨(by repeat (first | exact List.nil_sublist _ | apply List.Sublist.cons_cons | apply List.Sublist.cons | apply sub_app)), (by first | exact View.le_refl _ | assumption)⟩) (fun b56 => ?_)
            refine SA.any 5 rfl rfl rfl (Wanted.plain rfl) (by kernel_rfl) (Any.push (E := eEnt) (H1 := [(b56, _)]) (H2 := _) sl_22 zc_45 rfl by_45 rfl rfl hs54 (by apply Rd.own_sub; (focus repeat (first | exact List.Mem.head _ | apply List.Mem.tail | apply List.mem_append_right)); exact Sub.refl _) (by rfl) (by rfl) (by exact (show eEnt _ (behindE (ordE l) id ops) (entCells id 1 (clB (ordE l)) (.slice xa (headsL (ordE l)).length xcp) (.slice oa ops.length oc)) from ⟨.slice xa (headsL (ordE l)).length xcp, .slice oa ops.length oc, rfl, hid, hX4⟩)) rfl (by simp only [List.nil_append]; omega) (by simp only [List.nil_append]; omega)) (fun _ _ _ hJ => .inr ⟨by (obtain ⟨_, _, hσ, hH⟩ := hJ; subst hH; repeat (first | exact List.nil_sublist _ | apply List.Sublist.cons_cons | apply List.Sublist.cons | apply sub_app)), View.le_refl _⟩) ?_
            rintro v57 σ4 _ ⟨h57, hs57, rfl, rfl⟩ _
            refine SA.callR 6 (H1 := h57) (Hr := (b56, _) :: (b10, _) :: (b4, _) :: Hr) rfl rfl (Wanted.plain rfl) (by kernel_rfl) rfl Tryz.call23 (by first | exact List.perm_middle | exact List.Perm.refl _) (.inr ⟨(by repeat (first | exact List.nil_sublist _ | apply List.Sublist.cons_cons | apply List.Sublist.cons | apply sub_app)), View.le_refl _⟩) (hs57.hand (byt := 96) eEnt_mono (by simp only [List.nil_append, List.length_append, List.length_cons, List.length_nil]; omega) (fun σ' hl' hs' => past_Of2 σ' _ _ hs')) ?_
            rintro _ σ5 _ ⟨⟨na, n5, rfl, hnp, hnn⟩, rfl⟩ hle5
            rw [List.nil_append] at *
            refine SA.takeW 7 (by kernel_rfl) rfl rfl rfl (Wanted.plain rfl) (tells_move rfl) ?_
            first | refine SA.takeP 8 (by kernel_rfl) rfl rfl rfl (Wanted.plain rfl) (fun _ _ => Pur.ex2_0 rfl) ?_ | refine SA.takeP 8 (by kernel_rfl) rfl rfl rfl (Wanted.plain rfl) (fun _ _ => Pur.ex3_0 rfl) ?_ | refine SA.takeP 8 (by kernel_rfl) rfl rfl rfl (Wanted.plain rfl) (fun _ _ => Pur.extractNext rfl) ?_ | refine SA.takeP 8 (by kernel_rfl) rfl rfl rfl (Wanted.plain rfl) (fun _ _ => Pur.extract rfl rfl) ?_
            first | refine SA.takeP 9 (by kernel_rfl) rfl rfl rfl (Wanted.plain rfl) (fun _ _ => Pur.ex2_1 rfl) ?_ | refine SA.takeP 9 (by kernel_rfl) rfl rfl rfl (Wanted.plain rfl) (fun _ _ => Pur.ex3_1 rfl) ?_ | refine SA.takeP 9 (by kernel_rfl) rfl rfl rfl (Wanted.plain rfl) (fun _ _ => Pur.extract rfl rfl) ?_
            first | refine SA.takeP 10 (by kernel_rfl) rfl rfl rfl (Wanted.plain rfl) (fun _ _ => Pur.ex3_2 rfl) ?_ | refine SA.takeP 10 (by kernel_rfl) rfl rfl rfl (Wanted.plain rfl) (fun _ _ => Pur.extract rfl rfl) ?_
            refine SA.run 11 rfl (fun _ e => by cases e; rfl) (Wanted.plain rfl) (by kernel_rfl) (Pur.run (Pur.assign rfl)) (.inl (by decide)) ?_
            refine SA.run 12 rfl (fun _ e => by cases e; rfl) (Wanted.plain rfl) (by kernel_rfl) (Pur.run (Pur.assign rfl)) (.inl (by decide)) ?_
            refine SA.run 13 rfl (fun _ e => by cases e; rfl) (Wanted.plain rfl) (by kernel_rfl) (Pur.run (Pur.assign rfl)) (.inl (by decide)) ?_
            refine SA.done (by kernel_rfl) ?_
            exact WQ.thnK (KM _ _ _ ⟨na, hle5, by rw [← hord]; exact hnp hr2, rfl, rfl⟩) (by repeat (first | exact Covers.nil _ | refine Covers.cons rfl ?_)) (by repeat (first | exact List.Sublist.refl _ | exact List.nil_sublist _ | apply List.Sublist.cons_cons | apply List.Sublist.cons | apply List.Sublist.append_left | exact List.sublist_append_right _ _))
          · refine SStep.new 4 rfl rfl rfl (Wanted.plain rfl) (New.buildSliceN (xs := [.tmp 55]) (vss := [entCells id 1 (clB (ordE l)) (.slice xa (headsL (ordE l)).length xcp) (.slice oa ops.length oc)]) sl_22 zc_45 rfl rfl rfl (by rfl) (by rfl)) (.inr ⟨(by repeat (first | exact List.nil_sublist _ | apply List.Sublist.cons_cons | apply List.Sublist.cons | apply sub_app)), (by first | exact View.le_refl _ | assumption)⟩) (fun b56 => ?_)
            refine SA.any 2 rfl rfl rfl (Wanted.plain rfl) (by kernel_rfl) (Any.pushAll (E := eEnt) (H1 := [(b56, _)]) (h := [(b52, _)]) (H2 := _) sl_22 zc_45 rfl by_45 rfl rfl (SlO.row (b := b52) (ElR.nil (σ := σ4) (E := eEnt) (sz := 36))) hl4 rfl (by simp only [List.length_nil]; omega) (by simp only [List.length_nil]; omega)) (fun _ _ _ hJ => .inr ⟨by (obtain ⟨_, _, hσ, hH⟩ := hJ; subst hH; repeat (first | exact List.nil_sublist _ | apply List.Sublist.cons_cons | apply List.Sublist.cons | apply sub_app)), View.le_refl _⟩) ?_
            rintro v54 σ4 _ ⟨h54, hs54, rfl, rfl⟩ _
            refine SA.any 5 rfl rfl rfl (Wanted.plain rfl) (by kernel_rfl) (Any.push (E := eEnt) (H1 := [(b56, _)]) (H2 := _) sl_22 zc_45 rfl by_45 rfl rfl hs54 (by apply Rd.own_sub; (focus repeat (first | exact List.Mem.head _ | apply List.Mem.tail | apply List.mem_append_right)); exact Sub.refl _) (by rfl) (by rfl) (by exact (show eEnt _ (behindE (ordE l) id ops) (entCells id 1 (clB (ordE l)) (.slice xa (headsL (ordE l)).length xcp) (.slice oa ops.length oc)) from ⟨.slice xa (headsL (ordE l)).length xcp, .slice oa ops.length oc, rfl, hid, hX4⟩)) rfl (by simp only [List.nil_append]; omega) (by simp only [List.nil_append]; omega)) (fun _ _ _ hJ => .inr ⟨by (obtain ⟨_, _, hσ, hH⟩ := hJ; subst hH; repeat (first | exact List.nil_sublist _ | apply List.Sublist.cons_cons | apply List.Sublist.cons | apply sub_app)), View.le_refl _⟩) ?_
            rintro v57 σ4 _ ⟨h57, hs57, rfl, rfl⟩ _
            refine SA.callR 6 (H1 := h57) (Hr := (b56, _) :: (b10, _) :: (b4, _) :: Hr) rfl rfl (Wanted.plain rfl) (by kernel_rfl) rfl Tryz.call23 (by first | exact List.perm_middle | exact List.Perm.refl _) (.inr ⟨(by repeat (first | exact List.nil_sublist _ | apply List.Sublist.cons_cons | apply List.Sublist.cons | apply sub_app)), View.le_refl _⟩) (hs57.hand (byt := 96) eEnt_mono (by simp only [List.nil_append, List.length_append, List.length_cons, List.length_nil]; omega) (fun σ' hl' hs' => past_Of2 σ' _ _ hs')) ?_
            rintro _ σ5 _ ⟨⟨na, n5, rfl, hnp, hnn⟩, rfl⟩ hle5
            rw [List.nil_append] at *
            refine SA.takeW 7 (by kernel_rfl) rfl rfl rfl (Wanted.plain rfl) (tells_move rfl) ?_
            first | refine SA.takeP 8 (by kernel_rfl) rfl rfl rfl (Wanted.plain rfl) (fun _ _ => Pur.ex2_0 rfl) ?_ | refine SA.takeP 8 (by kernel_rfl) rfl rfl rfl (Wanted.plain rfl) (fun _ _ => Pur.ex3_0 rfl) ?_ | refine SA.takeP 8 (by kernel_rfl) rfl rfl rfl (Wanted.plain rfl) (fun _ _ => Pur.extractNext rfl) ?_ | refine SA.takeP 8 (by kernel_rfl) rfl rfl rfl (Wanted.plain rfl) (fun _ _ => Pur.extract rfl rfl) ?_
            first | refine SA.takeP 9 (by kernel_rfl) rfl rfl rfl (Wanted.plain rfl) (fun _ _ => Pur.ex2_1 rfl) ?_ | refine SA.takeP 9 (by kernel_rfl) rfl rfl rfl (Wanted.plain rfl) (fun _ _ => Pur.ex3_1 rfl) ?_ | refine SA.takeP 9 (by kernel_rfl) rfl rfl rfl (Wanted.plain rfl) (fun _ _ => Pur.extract rfl rfl) ?_
            first | refine SA.takeP 10 (by kernel_rfl) rfl rfl rfl (Wanted.plain rfl) (fun _ _ => Pur.ex3_2 rfl) ?_ | refine SA.takeP 10 (by kernel_rfl) rfl rfl rfl (Wanted.plain rfl) (fun _ _ => Pur.extract rfl rfl) ?_
            refine SA.run 11 rfl (fun _ e => by cases e; rfl) (Wanted.plain rfl) (by kernel_rfl) (Pur.run (Pur.assign rfl)) (.inl (by decide)) ?_
            refine SA.run 12 rfl (fun _ e => by cases e; rfl) (Wanted.plain rfl) (by kernel_rfl) (Pur.run (Pur.assign rfl)) (.inl (by decide)) ?_
            refine SA.run 13 rfl (fun _ e => by cases e; rfl) (Wanted.plain rfl) (by kernel_rfl) (Pur.run (Pur.assign rfl)) (.inl (by decide)) ?_
            refine SA.done (by kernel_rfl) ?_
            exact WQ.thnK (KM _ _ _ ⟨na, hle5, by rw [← hord]; exact hnp hr2, rfl, rfl⟩) (by repeat (first | exact Covers.nil _ | refine Covers.cons rfl ?_)) (by repeat (first | exact List.Sublist.refl _ | exact List.nil_sublist _ | apply List.Sublist.cons_cons | apply List.Sublist.cons | apply List.Sublist.append_left | exact List.sublist_append_right _ _))
        · refine SStep.new 4 rfl rfl rfl (Wanted.plain rfl) (New.buildSliceN (xs := [.tmp 55]) (vss := [entCells id 1 (clB (ordE l)) (.slice xa (headsL (ordE l)).length xcp) (.slice oa ops.length oc)]) sl_22 zc_45 rfl rfl rfl (by rfl) (by rfl)) (.inr ⟨(by repeat (first | exact List.nil_sublist _ | apply List.Sublist.cons_cons | apply List.Sublist.cons | apply sub_app)), (by first | exact View.le_refl _ | assumption)⟩) (fun b56 => ?_)
          refine SA.new 0 rfl rfl rfl (Wanted.plain rfl) (by kernel_rfl) (New.buildSlice0 sl_22) (.inr ⟨(by repeat (first | exact List.nil_sublist _ | apply List.Sublist.cons_cons | apply List.Sublist.cons | apply sub_app)), (by first | exact View.le_refl _ | assumption)⟩) (fun b52 => ?_)
          refine SA.any 2 rfl rfl rfl (Wanted.plain rfl) (by kernel_rfl) (Any.pushAll (E := eEnt) (H1 := []) (h := [(b52, _)]) (H2 := _) sl_22 zc_45 rfl by_45 rfl rfl (SlO.row (b := b52) (ElR.nil (σ := σ4) (E := eEnt) (sz := 36))) hl4 rfl (by simp only [List.length_nil]; omega) (by simp only [List.length_nil]; omega)) (fun _ _ _ hJ => .inr ⟨by (obtain ⟨_, _, hσ, hH⟩ := hJ; subst hH; repeat (first | exact List.nil_sublist _ | apply List.Sublist.cons_cons | apply List.Sublist.cons | apply sub_app)), View.le_refl _⟩) ?_
          rintro v54 σ4 _ ⟨h54, hs54, rfl, rfl⟩ _
          refine SA.any 5 rfl rfl rfl (Wanted.plain rfl) (by kernel_rfl) (Any.push (E := eEnt) (H1 := []) (H2 := _) sl_22 zc_45 rfl by_45 rfl rfl hs54 (by apply Rd.own_sub; (focus repeat (first | exact List.Mem.head _ | apply List.Mem.tail | apply List.mem_append_right)); exact Sub.refl _) (by rfl) (by rfl) (by exact (show eEnt _ (behindE (ordE l) id ops) (entCells id 1 (clB (ordE l)) (.slice xa (headsL (ordE l)).length xcp) (.slice oa ops.length oc)) from ⟨.slice xa (headsL (ordE l)).length xcp, .slice oa ops.length oc, rfl, hid, hX4⟩)) rfl (by simp only [List.nil_append]; omega) (by simp only [List.nil_append]; omega)) (fun _ _ _ hJ => .inr ⟨by (obtain ⟨_, _, hσ, hH⟩ := hJ; subst hH; repeat (first | exact List.nil_sublist _ | apply List.Sublist.cons_cons | apply List.Sublist.cons | apply sub_app)), View.le_refl _⟩) ?_
          rintro v57 σ4 _ ⟨h57, hs57, rfl, rfl⟩ _
          refine SA.callR 6 (H1 := h57) (Hr := (b56, _) :: (b10, _) :: (b4, _) :: Hr) rfl rfl (Wanted.plain rfl) (by kernel_rfl) rfl Tryz.call23 (by first | exact List.perm_middle | exact List.Perm.refl _) (.inr ⟨(by repeat (first | exact List.nil_sublist _ | apply List.Sublist.cons_cons | apply List.Sublist.cons | apply sub_app)), View.le_refl _⟩) (hs57.hand (byt := 96) eEnt_mono (by simp only [List.nil_append, List.length_append, List.length_cons, List.length_nil]; omega) (fun σ' hl' hs' => past_Of2 σ' _ _ hs')) ?_
          rintro _ σ5 _ ⟨⟨na, n5, rfl, hnp, hnn⟩, rfl⟩ hle5
          rw [List.nil_append] at *
          refine SA.takeW 7 (by kernel_rfl) rfl rfl rfl (Wanted.plain rfl) (tells_move rfl) ?_
          first | refine SA.takeP 8 (by kernel_rfl) rfl rfl rfl (Wanted.plain rfl) (fun _ _ => Pur.ex2_0 rfl) ?_ | refine SA.takeP 8 (by kernel_rfl) rfl rfl rfl (Wanted.plain rfl) (fun _ _ => Pur.ex3_0 rfl) ?_ | refine SA.takeP 8 (by kernel_rfl) rfl rfl rfl (Wanted.plain rfl) (fun _ _ => Pur.extractNext rfl) ?_ | refine SA.takeP 8 (by kernel_rfl) rfl rfl rfl (Wanted.plain rfl) (fun _ _ => Pur.extract rfl rfl) ?_
          first | refine SA.takeP 9 (by kernel_rfl) rfl rfl rfl (Wanted.plain rfl) (fun _ _ => Pur.ex2_1 rfl) ?_ | refine SA.takeP 9 (by kernel_rfl) rfl rfl rfl (Wanted.plain rfl) (fun _ _ => Pur.ex3_1 rfl) ?_ | refine SA.takeP 9 (by kernel_rfl) rfl rfl rfl (Wanted.plain rfl) (fun _ _ => Pur.extract rfl rfl) ?_
          first | refine SA.takeP 10 (by kernel_rfl) rfl rfl rfl (Wanted.plain rfl) (fun _ _ => Pur.ex3_2 rfl) ?_ | refine SA.takeP 10 (by kernel_rfl) rfl rfl rfl (Wanted.plain rfl) (fun _ _ => Pur.extract rfl rfl) ?_
          refine SA.run 11 rfl (fun _ e => by cases e; rfl) (Wanted.plain rfl) (by kernel_rfl) (Pur.run (Pur.assign rfl)) (.inl (by decide)) ?_
          refine SA.run 12 rfl (fun _ e => by cases e; rfl) (Wanted.plain rfl) (by kernel_rfl) (Pur.run (Pur.assign rfl)) (.inl (by decide)) ?_
          refine SA.run 13 rfl (fun _ e => by cases e; rfl) (Wanted.plain rfl) (by kernel_rfl) (Pur.run (Pur.assign rfl)) (.inl (by decide)) ?_
          refine SA.done (by kernel_rfl) ?_
          exact WQ.thnK (KM _ _ _ ⟨na, hle5, by rw [← hord]; exact hnp hr2, rfl, rfl⟩) (by repeat (first | exact Covers.nil _ | refine Covers.cons rfl ?_)) (by repeat (first | exact List.Sublist.refl _ | exact List.nil_sublist _ | apply List.Sublist.cons_cons | apply List.Sublist.cons | apply List.Sublist.append_left | exact List.sublist_append_right _ _))
      · rintro _ σ Hr ⟨na, hle5, hn5, rfl, rfl⟩
        have hops5 := hops2.mono eOp_mono (View.le_trans hle3 (View.le_trans hle4 hle5))
        have hp5 := hp4.mono hle5
        refine WC.seq ?_
        refine WC.seq ?_
        refine WC.region ?_
        refine WL.pur (Pur.move rfl) ?_
        refine' WL.pur (Pur.bin rfl rfl ?h5_0) ?k5
        case h5_0 => first | exact Bin.neN (b := 0) | exact Bin.neI
        refine WL.pur (Pur.move rfl) ?_
        refine' WL.orp (u := 64) (t := 67) rfl ?h6_0 ?h6_1 ?h6_2 rfl ?k6
        case h6_0 =>
          intro hg64 K64
          refine WL.gpur (u := 64) rfl rfl (gF hg64) (Pur.move rfl) ?_
          refine' WL.gpur (u := 64) rfl rfl (gF hg64) (Pur.bin rfl rfl ?h7_0) ?k7
          case h7_0 => first | exact Bin.neN (b := 0) | exact Bin.neI
          exact K64 _ (by repeat (first | exact Covers.refl _ | refine Covers.push ?_ rfl)) rfl
        case h6_1 =>
          intro hg64 K64
          refine WL.gskip (u := 64) rfl rfl (sF hg64) ?_
          refine WL.gskip (u := 64) rfl rfl (sF hg64) ?_
          exact K64 _ (by repeat (first | exact Covers.refl _ | refine Covers.push ?_ rfl))
        case h6_2 => exact Wanted.plain rfl
        refine WL.pur (Pur.move rfl) ?_
        refine' WL.orp (u := 68) (t := 71) rfl ?h8_0 ?h8_1 ?h8_2 rfl ?k8
        case h8_0 =>
          intro hg68 K68
          refine WL.gpur (u := 68) rfl rfl (gF hg68) (Pur.move rfl) ?_
          refine' WL.gpur (u := 68) rfl rfl (gF hg68) (Pur.bin rfl rfl ?h9_0) ?k9
          case h9_0 => exact Bin.eqP isPtr_25
          exact K68 _ (by repeat (first | exact Covers.refl _ | refine Covers.push ?_ rfl)) rfl
        case h8_1 =>
          intro hg68 K68
          refine WL.gskip (u := 68) rfl rfl (sF hg68) ?_
          refine WL.gskip (u := 68) rfl rfl (sF hg68) ?_
          exact K68 _ (by repeat (first | exact Covers.refl _ | refine Covers.push ?_ rfl))
        case h8_2 => exact Wanted.plain rfl
        refine WL.pur (Pur.move rfl) ?_
        refine' WL.orp (u := 72) (t := 75) rfl ?h10_0 ?h10_1 ?h10_2 rfl ?k10
        case h10_0 =>
          intro hg72 K72
          refine WL.gpur (u := 72) rfl rfl (gF hg72) (Pur.move rfl) ?_
          refine' WL.gpur (u := 72) rfl rfl (gF hg72) (Pur.bin rfl rfl ?h11_0) ?k11
          case h11_0 => exact Bin.eqP isPtr_25
          exact K72 _ (by repeat (first | exact Covers.refl _ | refine Covers.push ?_ rfl)) rfl
        case h10_1 =>
          intro hg72 K72
          refine WL.gskip (u := 72) rfl rfl (sF hg72) ?_
          refine WL.gskip (u := 72) rfl rfl (sF hg72) ?_
          exact K72 _ (by repeat (first | exact Covers.refl _ | refine Covers.push ?_ rfl))
        case h10_2 => exact Wanted.plain rfl
        refine WL.nil ?_
        refine WQ.thn ?_
        first | refine WC.cond rfl (fun hc3 => ?_) (fun hc3 => ?_) | refine WC.condB rfl (fun hc3 => ?_) (fun hc3 => ?_)
        · obtain ⟨_, _, _, _, hpe, _⟩ := hp5
          obtain ⟨_, _, _, _, hne, _⟩ := hn5
          rcases hc3 with ((hc | hc) | hc) | hc
          · exact absurd h0 hc
          · exact absurd hr2 hc
          · subst hc; cases hpe
          · subst hc; cases hne
        · refine WC.skip ?_
          refine WQ.thn ?_
          refine WC.seq ?_
          refine WC.region ?_
          refine WL.new (New.buildSliceS (xs := [.const (.string ⟨#[107]⟩), .const (.string ⟨#[108]⟩)]) sl_23 zc_9 rfl rfl rfl (by rfl) (by rfl)) (fun b76 => ?_)
          refine WL.pur (Pur.move rfl) ?_
          refine WL.call (H0 := []) (Hr := (b76, _) :: Hr) rfl Tryz.call27 (List.Perm.refl _) (reg_Keys _ _ (ordE l) hp5 ho) ?_
          rintro _ σ6 _ ⟨_, hso6, rfl⟩ hle6
          refine WL.giveS (byt := 16) (H1 := []) (H2 := (b76, _) :: Hr) eStr_mono hso6 (by omega) rfl (fun σ7 hle7 hK7 => ?_)
          rw [List.nil_append]
          have hops7 := hops5.mono eOp_mono (View.le_trans hle6 hle7)
          have hp7 := hp5.mono (View.le_trans hle6 hle7)
          have hn7 := hn5.mono (View.le_trans hle6 hle7)
          obtain ⟨ob, ooff, heo, hoat⟩ := hops7.rds
          refine WL.any (Any.pushAll (E := eStr) (H1 := []) (H2 := Hr) sl_23 zc_9 rfl by_9 rfl rfl (SlO.row (T := 9) (b := b76) (l := [kB, lB]) (show ElR σ7 eStr 1 [kB, lB] [[.string kB], [.string lB]] from (ElR.single rfl rfl ⟨rfl, kOk⟩).push rfl rfl ⟨rfl, lOk⟩)) hK7 rfl (by simp only [List.length_cons, List.length_nil]; omega) (by simp only [List.length_cons, List.length_nil]; omega)) ?_
          rintro v79 σ7 _ ⟨h79, hs79, rfl, rfl⟩ _
          refine WL.pur (Pur.assign rfl) ?_
          refine WL.nil ?_
          refine WQ.thn ?_
          refine WC.seq ?_
          refine WC.seq ?_
          refine WC.region ?_
          refine WL.pur (Pur.move rfl) ?_
          refine WL.pur (Pur.len rfl isSlice_40) ?_
          refine WL.pur (Pur.move rfl) ?_
          refine WL.nil ?_
          refine WQ.thn ?_
          refine WC.block ?_
          refine WC.loop (fun j m σ' H' => ∃ (q : Nat) (sv : Value) (hh : HList), j = ops.length - q ∧ q ≤ ops.length ∧ SlO σ' eStr 9 1 sv (([kB, lB] ++ regKeys (ordE l)) ++ (ops.take q).map (·.key)) hh ∧ m = [(2, .slice oa ops.length oc), (12, .pointer pa), (15, .pointer na), (18, sv), (80, .slice oa ops.length oc), (81, .int .i64 (ops.length : Int)), (82, .int .i64 (q : Int))] ∧ σ' = σ7 ∧ H' = hh ++ Hr) ⟨0, _, h79, rfl, by omega, by simpa using hs79, rfl, rfl, rfl⟩ (by repeat (first | exact Covers.nil _ | refine Covers.cons rfl ?_)) (by repeat (first | exact List.Sublist.refl _ | exact List.nil_sublist _ | apply List.Sublist.cons_cons | apply List.Sublist.cons | apply List.Sublist.append_left | exact List.sublist_append_right _ _)) ?_
          rintro _ _ σ Hr ⟨q, sv, hh, rfl, hq, hso, rfl, rfl, rfl⟩
          refine WC.seq ?_
          refine WC.region ?_
          refine' WL.pur (Pur.bin rfl rfl ?h12_0) ?k12
          case h12_0 => first | exact Bin.ltN | exact Bin.ltI | exact Bin.ltS
          refine WL.nil ?_
          refine WQ.thn ?_
          refine WC.seq ?_
          first | refine WC.cond rfl (fun hc4 => ?_) (fun hc4 => ?_) | refine WC.condB rfl (fun hc4 => ?_) (fun hc4 => ?_)
          · obtain ⟨o, hoq⟩ : ∃ o, ops[q]? = some o := ⟨_, List.getElem?_eq_getElem hc4⟩
            obtain ⟨vs, _, _, ⟨rfl, hook⟩, hord2⟩ := hoat q o hoq
            have htk : (ops.take (q + 1)).map (·.key) = (ops.take q).map (·.key) ++ [o.key] := by rw [List.take_add_one, hoq]; simp
            have hlq : (([kB, lB] ++ regKeys (ordE l)) ++ (ops.take q).map (·.key)).length ≤ 5000000 := by simp only [List.length_append, List.length_map, List.length_take, List.length_cons, List.length_nil]; omega
            refine WC.skip ?_
            refine WQ.thn ?_
            refine WC.seq ?_
            refine WC.block ?_
            refine WC.seq ?_
            refine WC.region ?_
            refine' WL.pur (Pur.indexAddr (eqA (heo (by omega))) rfl sl_40 ?h13_0) ?k13
            case h13_0 => omega
            refine' WL.pur (Pur.loadN rfl ty_51 ?h14_0 ?h14_1) ?k14
            case h14_0 => exact RdV.rd hord2
            case h14_1 => first | rfl | assumption
            refine WL.new (New.alloc zc_51) (fun b20 => ?_)
            refine' WL.run0 (Run.storeAll rfl rfl ty_51 ?h15_0 (by first | rfl | assumption) ?h15_1 (by first | rfl | assumption)) ?k15
            case h15_0 => repeat (first | exact Part.one | exact Part.here | apply Part.cons | apply Part.app)
            case h15_1 => first | rfl | assumption
            refine WL.nil ?_
            refine WQ.thn ?_
            refine WC.region ?_
            refine WL.pur (Pur.move rfl) ?_
            refine WL.pur (Pur.fieldAddr rfl fo_51_1) ?_
            refine' WL.pur (Pur.load1 rfl ty_9 ?h16_0) ?k16
            case h16_0 => first | (apply Rd.own1; (focus repeat (first | exact List.Mem.head _ | apply List.Mem.tail | apply List.mem_append_right)); rfl) | (apply RdV.rd; apply RdV.idx (i := 1); assumption; rfl) | (apply RdV.rd; apply RdV.idx (off := 0) (i := 1); assumption; rfl)
            refine WL.new (New.buildSliceS (xs := [.tmp 88]) sl_23 zc_9 rfl rfl rfl (by rfl) (by rfl)) (fun b89 => ?_)
            refine' WL.any (Any.push (H1 := [(b89, _), (b20, _)]) (H2 := Hr) sl_23 zc_9 rfl by_9 rfl rfl hso ?h17_0 ?h17_1 ?h17_2 ?h17_3 rfl (by omega) (by omega)) ?k17
            case h17_0 => apply Rd.own_sub; (focus repeat (first | exact List.Mem.head _ | apply List.Mem.tail | apply List.mem_append_right)); exact Sub.refl _
            case h17_1 => first | rfl | assumption
            case h17_2 => first | rfl | assumption
            case h17_3 => exact ⟨rfl, hook.2.1⟩
            rintro v90 σ _ ⟨hh2, hso2, rfl, rfl⟩ _
            refine WL.pur (Pur.assign rfl) ?_
            refine WL.nil ?_
            refine WQ.blk ?_
            refine WQ.thn ?_
            refine WC.region ?_
            refine' WL.pur (Pur.bin rfl rfl ?h18_0) ?k18
            case h18_0 => first | (refine Bin.addN (b := 1) ?_; omega) | (refine Bin.addI ?_; omega)
            refine WL.pur (Pur.move rfl) ?_
            refine WL.nil ?_
            refine WQ.back _ ⟨q + 1, _, _, rfl, by omega, by rw [htk, ← List.append_assoc]; exact hso2, rfl, rfl, rfl⟩ (by omega) (by repeat (first | exact Covers.nil _ | refine Covers.cons rfl ?_)) (by repeat (first | exact List.Sublist.refl _ | exact List.nil_sublist _ | apply List.Sublist.cons_cons | apply List.Sublist.cons | apply List.Sublist.append_left | exact List.sublist_append_right _ _))
          · have hqq' : q = ops.length := by omega
            subst hqq'
            rw [List.take_length] at hso
            refine WC.giveS (byt := 16) (H1 := []) (H2 := Hr) eStr_mono hso (by simp only [List.length_append, List.length_map, List.length_cons, List.length_nil]; omega) rfl (fun σ8 hle8 hK8 => ?_)
            rw [List.nil_append]
            obtain ⟨ka, kc, rfl, hkc, hkb⟩ := hK8.shape
            obtain ⟨kb, koff, hek, hkat⟩ := hK8.rds
            have hp8 := hp7.mono hle8
            have hn8 := hn7.mono hle8
            refine WC.exit ?_
            refine WQ.thn_exit ?_
            refine WQ.back_exit ?_
            refine WQ.blk_here ?_
            refine WQ.thn ?_
            refine WC.seq ?_
            refine WC.seq ?_
            refine WC.region ?_
            refine WL.pur (Pur.move rfl) ?_
            refine WL.pur (Pur.len rfl isSlice_23) ?_
            refine WL.pur (Pur.move rfl) ?_
            refine WL.nil ?_
            refine WQ.thn ?_
            refine WC.block ?_
            refine WC.loop (fun j m σ' H' => ∃ i : Nat, j = ([kB, lB] ++ regKeys (ordE l) ++ ops.map (·.key)).length - i ∧ i ≤ ([kB, lB] ++ regKeys (ordE l) ++ ops.map (·.key)).length ∧ σ8.le σ' ∧ m = [(2, .slice oa ops.length oc), (12, .pointer pa), (15, .pointer na), (92, .slice ka ([kB, lB] ++ regKeys (ordE l) ++ ops.map (·.key)).length kc), (93, .int .i64 (([kB, lB] ++ regKeys (ordE l) ++ ops.map (·.key)).length : Int)), (94, .int .i64 (i : Int))] ∧ H' = Hr) ⟨0, rfl, by omega, View.le_refl _, rfl, rfl⟩ (by repeat (first | exact Covers.nil _ | refine Covers.cons rfl ?_)) (by repeat (first | exact List.Sublist.refl _ | exact List.nil_sublist _ | apply List.Sublist.cons_cons | apply List.Sublist.cons | apply List.Sublist.append_left | exact List.sublist_append_right _ _)) ?_
            rintro _ _ σ Hr ⟨i, rfl, hi, hlei, rfl, rfl⟩
            refine WC.seq ?_
            refine WC.region ?_
            refine' WL.pur (Pur.bin rfl rfl ?h19_0) ?k19
            case h19_0 => first | exact Bin.ltN | exact Bin.ltI | exact Bin.ltS
            refine WL.nil ?_
            refine WQ.thn ?_
            refine WC.seq ?_
            first | refine WC.cond rfl (fun hc5 => ?_) (fun hc5 => ?_) | refine WC.condB rfl (fun hc5 => ?_) (fun hc5 => ?_)
            · obtain ⟨k, hk⟩ : ∃ k, ([kB, lB] ++ regKeys (ordE l) ++ ops.map (·.key))[i]? = some k := ⟨_, List.getElem?_eq_getElem hc5⟩
              obtain ⟨vs, _, _, ⟨rfl, hkok⟩, hkr⟩ := hkat i k hk
              have hWl := regHeld_len ho k
              refine WC.skip ?_
              refine WQ.thn ?_
              refine WC.seq ?_
              refine WC.block ?_
              refine WC.seq ?_
              refine WC.region ?_
              refine' WL.pur (Pur.indexAddr (eqA (hek (by omega))) rfl sl_23 ?h20_0) ?k20
              case h20_0 => omega
              refine' WL.pur (Pur.load1 rfl ty_9 ?h21_0) ?k21
              case h21_0 => exact RdV.rd (hkr.mono hlei)
              refine WL.pur (Pur.assign rfl) ?_
              refine WL.nil ?_
              refine WQ.thn ?_
              refine WC.seq ?_
              refine WC.region ?_
              refine WL.pur (Pur.move rfl) ?_
              refine WL.pur (Pur.move rfl) ?_
              refine WL.call (H0 := []) (Hr := Hr) rfl Tryz.call28 (List.Perm.refl _) (reg_Read _ _ (ordE l) k (hp8.mono hlei) ho) ?_
              rintro _ σ9 _ ⟨_, hso9, rfl⟩ hle9
              refine WL.giveS (byt := 16) (H1 := []) (H2 := Hr) eStr_mono hso9 (by omega) rfl (fun σ10 hle10 hW10 => ?_)
              rw [List.nil_append]
              refine WL.pur (Pur.assign rfl) ?_
              refine WL.nil ?_
              refine WQ.thn ?_
              refine WC.seq ?_
              refine WC.seq ?_
              refine WC.region ?_
              refine WL.pur (Pur.move rfl) ?_
              refine WL.pur (Pur.len rfl isSlice_40) ?_
              refine WL.pur (Pur.move rfl) ?_
              refine WL.nil ?_
              refine WQ.thn ?_
              refine WC.block ?_
              refine WC.loop (fun j m σ' H' => ∃ (q : Nat) (wv : Value), j = ops.length - q ∧ q ≤ ops.length ∧ SlE σ' eStr 1 16 wv (followS k (ops.take q) (regHeld (ordE l) k)) ∧ σ10.le σ' ∧ m = [(2, .slice oa ops.length oc), (12, .pointer pa), (15, .pointer na), (92, .slice ka ([kB, lB] ++ regKeys (ordE l) ++ ops.map (·.key)).length kc), (93, .int .i64 (([kB, lB] ++ regKeys (ordE l) ++ ops.map (·.key)).length : Int)), (94, .int .i64 (i : Int)), (22, .string k), (23, wv), (101, .slice oa ops.length oc), (102, .int .i64 (ops.length : Int)), (103, .int .i64 (q : Int))] ∧ H' = Hr) ⟨0, _, rfl, by omega, by simpa [followS] using hW10, View.le_refl _, rfl, rfl⟩ (by repeat (first | exact Covers.nil _ | refine Covers.cons rfl ?_)) (by repeat (first | exact List.Sublist.refl _ | exact List.nil_sublist _ | apply List.Sublist.cons_cons | apply List.Sublist.cons | apply List.Sublist.append_left | exact List.sublist_append_right _ _)) ?_
              rintro _ _ σ Hr ⟨q, wv, rfl, hq, hw, hleq, rfl, rfl⟩
              refine WC.seq ?_
              refine WC.region ?_
              refine' WL.pur (Pur.bin rfl rfl ?h22_0) ?k22
              case h22_0 => first | exact Bin.ltN | exact Bin.ltI | exact Bin.ltS
              refine WL.nil ?_
              refine WQ.thn ?_
              refine WC.seq ?_
              first | refine WC.cond rfl (fun hc6 => ?_) (fun hc6 => ?_) | refine WC.condB rfl (fun hc6 => ?_) (fun hc6 => ?_)
              · obtain ⟨o, hoq⟩ : ∃ o, ops[q]? = some o := ⟨_, List.getElem?_eq_getElem hc6⟩
                obtain ⟨vs, _, _, ⟨rfl, hook⟩, hord2⟩ := hoat q o hoq
                have hord3 := hord2.mono (View.le_trans hle8 (View.le_trans hlei (View.le_trans hle9 (View.le_trans hle10 hleq))))
                refine WC.skip ?_
                refine WQ.thn ?_
                refine WC.seq ?_
                refine WC.block ?_
                refine WC.seq ?_
                refine WC.region ?_
                refine' WL.pur (Pur.indexAddr (eqA (heo (by omega))) rfl sl_40 ?h23_0) ?k23
                case h23_0 => omega
                refine' WL.pur (Pur.loadN rfl ty_51 ?h24_0 ?h24_1) ?k24
                case h24_0 => exact RdV.rd hord3
                case h24_1 => first | rfl | assumption
                refine WL.new (New.alloc zc_51) (fun b25 => ?_)
                refine' WL.run0 (Run.storeAll rfl rfl ty_51 ?h25_0 (by first | rfl | assumption) ?h25_1 (by first | rfl | assumption)) ?k25
                case h25_0 => repeat (first | exact Part.one | exact Part.here | apply Part.cons | apply Part.app)
                case h25_1 => first | rfl | assumption
                refine WL.nil ?_
                refine WQ.thn ?_
                refine WC.seq ?_
                refine WC.seq ?_
                refine WC.region ?_
                refine WL.pur (Pur.fieldAddr rfl fo_51_1) ?_
                refine' WL.pur (Pur.load1 rfl ty_9 ?h26_0) ?k26
                case h26_0 => first | (apply Rd.own1; (focus repeat (first | exact List.Mem.head _ | apply List.Mem.tail | apply List.mem_append_right)); rfl) | (apply RdV.rd; apply RdV.idx (i := 1); assumption; rfl) | (apply RdV.rd; apply RdV.idx (off := 0) (i := 1); assumption; rfl)
                refine WL.pur (Pur.move rfl) ?_
                refine' WL.pur (Pur.bin rfl rfl ?h27_0) ?k27
                case h27_0 => exact Bin.eqS
                refine WL.pur (Pur.move rfl) ?_
                refine' WL.andp (u := 111) (t := 115) rfl ?h28_0 ?h28_1 ?h28_2 rfl ?k28
                case h28_0 =>
                  intro hg111 K111
                  refine WL.gpur (u := 111) rfl rfl (gT hg111) (Pur.fieldAddr rfl fo_51_0) ?_
                  refine' WL.gpur (u := 111) rfl rfl (gT hg111) (Pur.load1 rfl ty_3 ?h29_0) ?k29
                  case h29_0 => first | (apply Rd.own1; (focus repeat (first | exact List.Mem.head _ | apply List.Mem.tail | apply List.mem_append_right)); rfl) | (apply RdV.rd; apply RdV.idx (i := 0); assumption; rfl)
                  refine' WL.gpur (u := 111) rfl rfl (gT hg111) (Pur.bin rfl rfl ?h30_0) ?k30
                  case h30_0 => first | exact Bin.eqN (b := 1) | exact Bin.eqI
                  exact K111 _ (by repeat (first | exact Covers.refl _ | refine Covers.push ?_ rfl)) rfl
                case h28_1 =>
                  intro hg111 K111
                  refine WL.gskip (u := 111) rfl rfl (sT hg111) ?_
                  refine WL.gskip (u := 111) rfl rfl (sT hg111) ?_
                  refine WL.gskip (u := 111) rfl rfl (sT hg111) ?_
                  exact K111 _ (by repeat (first | exact Covers.refl _ | refine Covers.push ?_ rfl))
                case h28_2 => exact Wanted.plain rfl
                refine WL.nil ?_
                refine WQ.thn ?_
                first | refine WC.cond rfl (fun hc7 => ?_) (fun hc7 => ?_) | refine WC.condB rfl (fun hc7 => ?_) (fun hc7 => ?_)
                · refine WC.region ?_
                  refine WL.pur (Pur.fieldAddr rfl fo_51_2) ?_
                  refine' WL.pur (Pur.load1 rfl ty_9 ?h31_0) ?k31
                  case h31_0 => first | (apply Rd.own1; (focus repeat (first | exact List.Mem.head _ | apply List.Mem.tail | apply List.mem_append_right)); rfl) | (apply RdV.rd; apply RdV.idx (i := 2); assumption; rfl) | (apply RdV.rd; apply RdV.idx (off := 0) (i := 2); assumption; rfl)
                  refine WL.new (New.buildSliceS (xs := [.tmp 117]) sl_23 zc_9 rfl rfl rfl (by rfl) (by rfl)) (fun b118 => ?_)
                  refine WL.pur (Pur.assign rfl) ?_
                  refine WL.nil ?_
                  refine WQ.thn ?_
                  refine WC.seq ?_
                  refine WC.region ?_
                  refine WL.pur (Pur.fieldAddr rfl fo_51_1) ?_
                  refine' WL.pur (Pur.load1 rfl ty_9 ?h32_0) ?k32
                  case h32_0 => first | (apply Rd.own1; (focus repeat (first | exact List.Mem.head _ | apply List.Mem.tail | apply List.mem_append_right)); rfl) | (apply RdV.rd; apply RdV.idx (i := 1); assumption; rfl) | (apply RdV.rd; apply RdV.idx (off := 0) (i := 1); assumption; rfl)
                  refine WL.pur (Pur.move rfl) ?_
                  refine' WL.pur (Pur.bin rfl rfl ?h33_0) ?k33
                  case h33_0 => exact Bin.eqS
                  refine WL.pur (Pur.move rfl) ?_
                  refine' WL.andp (u := 123) (t := 127) rfl ?h34_0 ?h34_1 ?h34_2 rfl ?k34
                  case h34_0 =>
                    intro hg123 K123
                    refine WL.gpur (u := 123) rfl rfl (gT hg123) (Pur.fieldAddr rfl fo_51_0) ?_
                    refine' WL.gpur (u := 123) rfl rfl (gT hg123) (Pur.load1 rfl ty_3 ?h35_0) ?k35
                    case h35_0 => first | (apply Rd.own1; (focus repeat (first | exact List.Mem.head _ | apply List.Mem.tail | apply List.mem_append_right)); rfl) | (apply RdV.rd; apply RdV.idx (i := 0); assumption; rfl)
                    refine' WL.gpur (u := 123) rfl rfl (gT hg123) (Pur.bin rfl rfl ?h36_0) ?k36
                    case h36_0 => first | exact Bin.eqN (b := 2) | exact Bin.eqI
                    exact K123 _ (by repeat (first | exact Covers.refl _ | refine Covers.push ?_ rfl)) rfl
                  case h34_1 =>
                    intro hg123 K123
                    refine WL.gskip (u := 123) rfl rfl (sT hg123) ?_
                    refine WL.gskip (u := 123) rfl rfl (sT hg123) ?_
                    refine WL.gskip (u := 123) rfl rfl (sT hg123) ?_
                    exact K123 _ (by repeat (first | exact Covers.refl _ | refine Covers.push ?_ rfl))
                  case h34_2 => exact Wanted.plain rfl
                  refine WL.nil ?_
                  refine WQ.thn ?_
                  first | refine WC.cond rfl (fun hc8 => ?_) (fun hc8 => ?_) | refine WC.condB rfl (fun hc8 => ?_) (fun hc8 => ?_)
                  · exact absurd (hc7.2.symm.trans hc8.2) (by decide)
                  · refine WC.skip ?_
                    refine WQ.blk ?_
                    refine WQ.thn ?_
                    refine WC.region ?_
                    refine' WL.pur (Pur.bin rfl rfl ?h37_0) ?k37
                    case h37_0 => first | (refine Bin.addN (b := 1) ?_; omega) | (refine Bin.addI ?_; omega)
                    refine WL.pur (Pur.move rfl) ?_
                    refine WL.nil ?_
                    refine WQ.giveS (E := eStr) (byt := 16) (T := 9) (H1 := []) (H2 := (b25, _) :: Hr) eStr_mono (SlO.row (b := b118) (l := [o.text]) (ElR.single rfl rfl ⟨rfl, hook.2.2.1⟩)) (by simp) rfl (fun σ11 hle11 hs11 => ?_)
                    rw [List.nil_append]
                    refine WQ.back _ ⟨q + 1, _, rfl, by omega, by rw [followS_take hoq]; unfold putOn; rw [if_pos hc7]; exact hs11, View.le_trans hleq hle11, rfl, rfl⟩ (by omega) (by repeat (first | exact Covers.nil _ | refine Covers.cons rfl ?_)) (by repeat (first | exact List.Sublist.refl _ | exact List.nil_sublist _ | apply List.Sublist.cons_cons | apply List.Sublist.cons | apply List.Sublist.append_left | exact List.sublist_append_right _ _))
                · refine WC.skip ?_
                  refine WQ.thn ?_
                  refine WC.seq ?_
                  refine WC.region ?_
                  refine WL.pur (Pur.fieldAddr rfl fo_51_1) ?_
                  refine' WL.pur (Pur.load1 rfl ty_9 ?h38_0) ?k38
                  case h38_0 => first | (apply Rd.own1; (focus repeat (first | exact List.Mem.head _ | apply List.Mem.tail | apply List.mem_append_right)); rfl) | (apply RdV.rd; apply RdV.idx (i := 1); assumption; rfl) | (apply RdV.rd; apply RdV.idx (off := 0) (i := 1); assumption; rfl)
                  refine WL.pur (Pur.move rfl) ?_
                  refine' WL.pur (Pur.bin rfl rfl ?h39_0) ?k39
                  case h39_0 => exact Bin.eqS
                  refine WL.pur (Pur.move rfl) ?_
                  refine' WL.andp (u := 123) (t := 127) rfl ?h40_0 ?h40_1 ?h40_2 rfl ?k40
                  case h40_0 =>
                    intro hg123 K123
                    refine WL.gpur (u := 123) rfl rfl (gT hg123) (Pur.fieldAddr rfl fo_51_0) ?_
                    refine' WL.gpur (u := 123) rfl rfl (gT hg123) (Pur.load1 rfl ty_3 ?h41_0) ?k41
                    case h41_0 => first | (apply Rd.own1; (focus repeat (first | exact List.Mem.head _ | apply List.Mem.tail | apply List.mem_append_right)); rfl) | (apply RdV.rd; apply RdV.idx (i := 0); assumption; rfl)
                    refine' WL.gpur (u := 123) rfl rfl (gT hg123) (Pur.bin rfl rfl ?h42_0) ?k42
                    case h42_0 => first | exact Bin.eqN (b := 2) | exact Bin.eqI
                    exact K123 _ (by repeat (first | exact Covers.refl _ | refine Covers.push ?_ rfl)) rfl
                  case h40_1 =>
                    intro hg123 K123
                    refine WL.gskip (u := 123) rfl rfl (sT hg123) ?_
                    refine WL.gskip (u := 123) rfl rfl (sT hg123) ?_
                    refine WL.gskip (u := 123) rfl rfl (sT hg123) ?_
                    exact K123 _ (by repeat (first | exact Covers.refl _ | refine Covers.push ?_ rfl))
                  case h40_2 => exact Wanted.plain rfl
                  refine WL.nil ?_
                  refine WQ.thn ?_
                  first | refine WC.cond rfl (fun hc9 => ?_) (fun hc9 => ?_) | refine WC.condB rfl (fun hc9 => ?_) (fun hc9 => ?_)
                  · refine WC.region ?_
                    refine WL.pur (Pur.assign rfl) ?_
                    refine WL.nil ?_
                    refine WQ.blk ?_
                    refine WQ.thn ?_
                    refine WC.region ?_
                    refine' WL.pur (Pur.bin rfl rfl ?h43_0) ?k43
                    case h43_0 => first | (refine Bin.addN (b := 1) ?_; omega) | (refine Bin.addI ?_; omega)
                    refine WL.pur (Pur.move rfl) ?_
                    refine WL.nil ?_
                    refine WQ.back _ ⟨q + 1, _, rfl, by omega, by rw [followS_take hoq]; unfold putOn; rw [if_neg hc7, if_pos hc9]; exact SlE.nilS, hleq, rfl, rfl⟩ (by omega) (by repeat (first | exact Covers.nil _ | refine Covers.cons rfl ?_)) (by repeat (first | exact List.Sublist.refl _ | exact List.nil_sublist _ | apply List.Sublist.cons_cons | apply List.Sublist.cons | apply List.Sublist.append_left | exact List.sublist_append_right _ _))
                  · refine WC.skip ?_
                    refine WQ.blk ?_
                    refine WQ.thn ?_
                    refine WC.region ?_
                    refine' WL.pur (Pur.bin rfl rfl ?h44_0) ?k44
                    case h44_0 => first | (refine Bin.addN (b := 1) ?_; omega) | (refine Bin.addI ?_; omega)
                    refine WL.pur (Pur.move rfl) ?_
                    refine WL.nil ?_
                    refine WQ.back _ ⟨q + 1, _, rfl, by omega, by rw [followS_take hoq]; unfold putOn; rw [if_neg hc7, if_neg hc9]; exact hw, hleq, rfl, rfl⟩ (by omega) (by repeat (first | exact Covers.nil _ | refine Covers.cons rfl ?_)) (by repeat (first | exact List.Sublist.refl _ | exact List.nil_sublist _ | apply List.Sublist.cons_cons | apply List.Sublist.cons | apply List.Sublist.append_left | exact List.sublist_append_right _ _))
              · have hqq' : q = ops.length := by omega
                subst hqq'
                rw [List.take_length] at hw
                have hfl := follow_len (key := k) ops hWl (by decide)
                have hbe : regHeld (ordE l ++ [(behindE (ordE l) id ops)]) k = followS k ops (regHeld (ordE l) k) := regHeld_behind ho ho2 rfl k
                refine WC.exit ?_
                refine WQ.thn_exit ?_
                refine WQ.back_exit ?_
                refine WQ.blk_here ?_
                refine WQ.thn ?_
                refine WC.seq ?_
                refine WC.region ?_
                refine WL.pur (Pur.move rfl) ?_
                refine WL.pur (Pur.move rfl) ?_
                refine WL.call (H0 := []) (Hr := Hr) rfl Tryz.call28 (List.Perm.refl _) (reg_Read _ _ (ordE l ++ [(behindE (ordE l) id ops)]) k (hn8.mono (View.le_trans hlei (View.le_trans hle9 (View.le_trans hle10 hleq)))) ho2) ?_
                rintro _ σ12 _ ⟨_, hso12, rfl⟩ hle12
                rw [hbe] at hso12
                refine WL.giveS (byt := 16) (H1 := []) (H2 := Hr) eStr_mono hso12 (by omega) rfl (fun σ13 hle13 hN13 => ?_)
                rw [List.nil_append]
                refine WL.pur (Pur.move rfl) ?_
                refine WL.callP rfl Tryz.call26 ((r11_EqTexts _ _ _ _ _ hN13 (hw.mono eStr_mono (View.le_trans hle12 hle13)))) ?_
                first | refine WL.pur (Pur.not rfl) ?_ | refine WL.pur (Pur.notB rfl) ?_
                refine WL.nil ?_
                refine WQ.thn ?_
                first | refine WC.cond rfl (fun hc10 => ?_) (fun hc10 => ?_) | refine WC.condB rfl (fun hc10 => ?_) (fun hc10 => ?_)
                · exact absurd rfl hc10
                · refine WC.skip ?_
                  refine WQ.blk ?_
                  refine WQ.thn ?_
                  refine WC.region ?_
                  refine' WL.pur (Pur.bin rfl rfl ?h45_0) ?k45
                  case h45_0 => first | (refine Bin.addN (b := 1) ?_; omega) | (refine Bin.addI ?_; omega)
                  refine WL.pur (Pur.move rfl) ?_
                  refine WL.nil ?_
                  refine WQ.back _ ⟨i + 1, rfl, by omega, (View.le_trans hlei (View.le_trans hle9 (View.le_trans hle10 (View.le_trans hleq (View.le_trans hle12 hle13))))), rfl, rfl⟩ (by omega) (by repeat (first | exact Covers.nil _ | refine Covers.cons rfl ?_)) (by repeat (first | exact List.Sublist.refl _ | exact List.nil_sublist _ | apply List.Sublist.cons_cons | apply List.Sublist.cons | apply List.Sublist.append_left | exact List.sublist_append_right _ _))
            · refine WC.exit ?_
              refine WQ.thn_exit ?_
              refine WQ.back_exit ?_
              refine WQ.blk_here ?_
              refine WQ.thn ?_
              refine WC.seq ?_
              refine WC.region ?_
              refine WL.pur (Pur.assign rfl) ?_
              refine WL.nil ?_
              refine WQ.thn ?_
              refine WC.ret ?_
              refine WQ.ret1 Tryz.results4 rfl [] (by repeat (first | exact List.Sublist.refl _ | exact List.nil_sublist _ | apply List.Sublist.cons_cons | apply List.Sublist.cons | apply List.Sublist.append_left | exact List.sublist_append_right _ _)) (View.le_trans hle1 (View.le_trans hle2 (View.le_trans hle3 (View.le_trans hle4 (View.le_trans hle5 (View.le_trans hle6 (View.le_trans hle7 (View.le_trans hle8 hlei)))))))) ?_
              exact rfl

end Go.Proofs.YtgoooilgmabkmaaGreat
