/-
  Contracts of the functions of the program and of its references: what each call hands back, from what is known and owned.
-/
import Derived.Test.YtgoooilgmabkmaaGreatCe
set_option linter.unusedVariables false
set_option linter.unusedSimpArgs false
set_option linter.unusedSectionVars false
namespace Go.Proofs.YtgoooilgmabkmaaGreat
open Go Go.Sl
set_option linter.unusedVariables false
set_option linter.unusedSimpArgs false
set_option maxRecDepth 100000

instance : DecidableEq NodeD := fun a b => decidable_of_iff (a.au = b.au ∧ a.cl = b.cl ∧ a.ps = b.ps ∧ a.ops = b.ops)
  ⟨fun ⟨h1, h2, h3, h4⟩ => by cases a; cases b; simp only at h1 h2 h3 h4; subst h1; subst h2; subst h3; subst h4; rfl, fun h => by subst h; exact ⟨rfl, rfl, rfl, rfl⟩⟩
instance : DecidableEq EntD := fun a b => decidable_of_iff (a.id = b.id ∧ a.node = b.node)
  ⟨fun ⟨h1, h2⟩ => by cases a; cases b; simp only at h1 h2; subst h1; subst h2; rfl, fun h => by subst h; exact ⟨rfl, rfl⟩⟩
theorem opD_eq {a b : OpD} : (((((a.kind = b.kind ∧ a.key = b.key) ∧ a.text = b.text) ∧ a.n = b.n) ∧ a.ato = b.ato) ∧ a.atn = b.atn) ↔ a = b := by
  constructor
  · rintro ⟨⟨⟨⟨⟨h1, h2⟩, h3⟩, h4⟩, h5⟩, h6⟩
    cases a; cases b
    simp only at h1 h2 h3 h4 h5 h6
    subst h1; subst h2; subst h3; subst h4; subst h5; subst h6; rfl
  · rintro rfl; exact ⟨⟨⟨⟨⟨rfl, rfl⟩, rfl⟩, rfl⟩, rfl⟩, rfl⟩
theorem entD_eq {a b : EntD} : (a.id = b.id ∧ a.node = b.node) ↔ a = b := by
  constructor
  · rintro ⟨h1, h2⟩
    cases a; cases b
    simp only at h1 h2
    subst h1; subst h2; rfl
  · rintro rfl; exact ⟨rfl, rfl⟩
theorem nodeD_eq {a b : NodeD} (h1 : a.au = b.au) (h2 : a.cl = b.cl) (h3 : a.ps = b.ps) (h4 : a.ops = b.ops) : a = b := by
  cases a; cases b
  simp only at h1 h2 h3 h4
  subst h1; subst h2; subst h3; subst h4; rfl

theorem r1_Same (σ : View) (av bv : Value) (a b : List Nat) (ha : Hashes σ av a) (hb : Hashes σ bv b) :
    TriP Tryz.prog 114 #[av, bv] σ (.bool (decide (a = b))) := by
  have ha' := ha; have hb' := hb
  obtain ⟨aa, ac, rfl, hac, hab⟩ := ha.shape
  obtain ⟨ba, bc, rfl, hbc, hbb⟩ := hb.shape
  refine Tri.of_body [(0, .slice aa a.length ac), (1, .slice ba b.length bc)] Tryz.func114 rfl Tryz.ntmps114 (by simp) rfl (fun Hr => ?_)
  rw [List.nil_append]
  refine WC.seq ?_
  refine WC.region ?_
  refine WL.pur (Pur.assign rfl) ?_
  refine WL.nil ?_
  refine WQ.thn ?_
  refine WC.seq ?_
  refine WC.seq ?_
  refine WC.region ?_
  refine WL.pur (Pur.move rfl) ?_
  refine WL.pur (Pur.len rfl isSlice_41) ?_
  refine WL.pur (Pur.move rfl) ?_
  refine WL.pur (Pur.len rfl isSlice_41) ?_
  refine' WL.pur (Pur.bin rfl rfl ?h1_0) ?k1
  case h1_0 => first | exact Bin.neN | exact Bin.neI
  refine WL.nil ?_
  refine WQ.thn ?_
  first | refine WC.cond rfl (fun hc0 => ?_) (fun hc0 => ?_) | refine WC.condB rfl (fun hc0 => ?_) (fun hc0 => ?_)
  · refine WC.seq ?_
    refine WC.region ?_
    refine WL.pur (Pur.assign rfl) ?_
    refine WL.nil ?_
    refine WQ.thn ?_
    refine WC.ret ?_
    refine WQ.thn_ret ?_
    refine WQ.ret1 Tryz.results114 rfl [] zsL (View.le_refl _) ?_
    refine ⟨?_, rfl, rfl⟩
    exact boolF (by rintro rfl; omega)
  · refine WC.skip ?_
    refine WQ.thn ?_
    refine WC.seq ?_
    refine WC.seq ?_
    refine WC.region ?_
    refine WL.pur (Pur.assign rfl) ?_
    refine WL.nil ?_
    refine WQ.thn ?_
    refine WC.block ?_
    refine WC.loop (fun j m σ' H' => ∃ i : Nat, j = a.length - i ∧ i ≤ a.length ∧ a.take i = b.take i ∧ m = [(0, .slice aa a.length ac), (1, .slice ba b.length bc), (5, .int .i64 (i : Int))] ∧ σ' = σ ∧ H' = Hr) ⟨0, rfl, by omega, by simp, rfl, rfl, rfl⟩ zcV zsL ?_
    rintro _ _ σ Hr ⟨i, rfl, hi, heq, rfl, rfl, rfl⟩
    refine WC.seq ?_
    refine WC.seq ?_
    refine WC.region ?_
    refine WL.pur (Pur.move rfl) ?_
    refine WL.pur (Pur.move rfl) ?_
    refine WL.pur (Pur.len rfl isSlice_41) ?_
    refine' WL.pur (Pur.bin rfl rfl ?h2_0) ?k2
    case h2_0 => first | exact Bin.ltN | exact Bin.ltI | exact Bin.ltS
    refine WL.nil ?_
    refine WQ.thn ?_
    first | refine WC.cond rfl (fun hc1 => ?_) (fun hc1 => ?_) | refine WC.condB rfl (fun hc1 => ?_) (fun hc1 => ?_)
    · obtain ⟨ab, aoff, ac2, e1, _, _, haat⟩ := ha'.at (by omega)
      cases e1
      obtain ⟨bb, boff, bc2, e2, _, _, hbat⟩ := hb'.at (by omega)
      cases e2
      obtain ⟨x, hx⟩ : ∃ x, a[i]? = some x := ⟨_, List.getElem?_eq_getElem (by omega)⟩
      obtain ⟨y, hy⟩ : ∃ y, b[i]? = some y := ⟨_, List.getElem?_eq_getElem (by omega)⟩
      obtain ⟨vx, _, _, ⟨rfl, hxo⟩, hrx⟩ := haat i x hx
      obtain ⟨vy, _, _, ⟨rfl, hyo⟩, hry⟩ := hbat i y hy
      refine WC.skip ?_
      refine WQ.thn ?_
      refine WC.seq ?_
      refine WC.block ?_
      refine WC.seq ?_
      refine WC.drawH 9 9 mixed (by kernel_rfl) rfl ?_
      refine SA.take 0 (by kernel_rfl) rfl rfl rfl (Wanted.plain rfl) zsL (View.le_refl _) (Pur.move rfl) ?_
      refine SA.take 1 (by kernel_rfl) rfl rfl rfl (Wanted.plain rfl) zsL (View.le_refl _) (Pur.move rfl) ?_
      refine' SA.take 2 (by kernel_rfl) rfl rfl rfl (Wanted.plain rfl) zsL (View.le_refl _) (Pur.indexAddr rfl rfl sl_41 ?h3_0) ?k3
      case h3_0 => omega
      refine' SA.take 3 (by kernel_rfl) rfl rfl rfl (Wanted.plain rfl) zsL (View.le_refl _) (Pur.loadN rfl ty_39 ?h4_0 ?h4_1) ?k4
      case h4_0 => exact RdV.rd hrx
      case h4_1 => first | rfl | assumption
      refine SA.take 4 (by kernel_rfl) rfl rfl rfl (Wanted.plain rfl) zsL (View.le_refl _) (Pur.move rfl) ?_
      refine SA.take 5 (by kernel_rfl) rfl rfl rfl (Wanted.plain rfl) zsL (View.le_refl _) (Pur.move rfl) ?_
      refine' SA.take 6 (by kernel_rfl) rfl rfl rfl (Wanted.plain rfl) zsL (View.le_refl _) (Pur.indexAddr rfl rfl sl_41 ?h5_0) ?k5
      case h5_0 => omega
      refine' SA.take 7 (by kernel_rfl) rfl rfl rfl (Wanted.plain rfl) zsL (View.le_refl _) (Pur.loadN rfl ty_39 ?h6_0 ?h6_1) ?k6
      case h6_0 => exact RdV.rd hry
      case h6_1 => first | rfl | assumption
      refine' SA.take 8 (by kernel_rfl) rfl rfl rfl (Wanted.plain rfl) zsL (View.le_refl _) (Pur.bin rfl rfl ?h7_0) ?k7
      case h7_0 => (refine Bin.neH isHash_39 ?_ ?_ <;> assumption)
      refine SA.done (by kernel_rfl) ?_
      refine WQ.thn ?_
      first | refine WC.cond rfl (fun hc2 => ?_) (fun hc2 => ?_) | refine WC.condB rfl (fun hc2 => ?_) (fun hc2 => ?_)
      · refine WC.seq ?_
        refine WC.region ?_
        refine WL.pur (Pur.assign rfl) ?_
        refine WL.nil ?_
        refine WQ.thn ?_
        refine WC.ret ?_
        refine WQ.blk_ret ?_
        refine WQ.thn_ret ?_
        refine WQ.back_ret ?_
        refine WQ.blk_ret ?_
        refine WQ.thn_ret ?_
        refine WQ.ret1 Tryz.results114 rfl [] zsL (View.le_refl _) ?_
        refine ⟨?_, rfl, rfl⟩
        exact boolF (by rintro rfl; rw [hx] at hy; cases hy; exact hc2 rfl)
      · refine WC.skip ?_
        refine WQ.blk ?_
        refine WQ.thn ?_
        refine WC.region ?_
        refine WL.pur (Pur.move rfl) ?_
        refine' WL.pur (Pur.bin rfl rfl ?h8_0) ?k8
        case h8_0 => first | (refine Bin.addN (b := 1) ?_; omega) | (refine Bin.addI ?_; omega)
        refine WL.pur (Pur.assign rfl) ?_
        refine WL.nil ?_
        refine WQ.back _ ⟨i + 1, rfl, by omega, by rw [List.take_add_one, List.take_add_one, hx, hy, heq, Decidable.not_not.1 hc2], rfl, rfl, rfl⟩ (by omega) zcV zsL
    · refine WC.exit ?_
      refine WQ.thn_exit ?_
      refine WQ.back_exit ?_
      refine WQ.blk_here ?_
      refine WQ.thn ?_
      refine WC.seq ?_
      refine WC.region ?_
      refine WL.pur (Pur.assign rfl) ?_
      refine WL.nil ?_
      refine WQ.thn ?_
      refine WC.ret ?_
      refine WQ.ret1 Tryz.results114 rfl [] zsL (View.le_refl _) ?_
      refine ⟨?_, rfl, rfl⟩
      rw [List.take_of_length_le (by omega), List.take_of_length_le (by omega)] at heq; exact boolT heq

theorem r4_Same (σ : View) (a b : OpD) (ha : a.ok) (hb : b.ok) :
    TriP Tryz.prog 160 #[.agg a.cells.toArray, .agg b.cells.toArray] σ (.bool (decide (a = b))) := by
  have ha5 := ha.2.2.2.2.1
  have hb5 := hb.2.2.2.2.1
  refine Tri.of_body [(0, .agg a.cells.toArray), (1, .agg b.cells.toArray)] Tryz.func160 rfl Tryz.ntmps160 (by simp) rfl (fun Hr => ?_)
  rw [List.nil_append]
  refine WC.seq ?_
  refine WC.region ?_
  refine WL.new (New.boxN rfl) (fun b2 => ?_)
  refine WL.new (New.boxN rfl) (fun b3 => ?_)
  refine WL.pur (Pur.assign rfl) ?_
  refine WL.nil ?_
  refine WQ.thn ?_
  refine WC.seq ?_
  refine WC.region ?_
  refine WL.pur (Pur.fieldAddr rfl fo_51_0) ?_
  refine' WL.pur (Pur.load1 rfl ty_3 ?h1_0) ?k1
  case h1_0 => first | (apply Rd.own1; exact zmE; rfl) | (apply RdV.rd; apply RdV.idx (i := 0); assumption; rfl)
  refine WL.pur (Pur.fieldAddr rfl fo_51_0) ?_
  refine' WL.pur (Pur.load1 rfl ty_3 ?h2_0) ?k2
  case h2_0 => first | (apply Rd.own1; exact zmE; rfl) | (apply RdV.rd; apply RdV.idx (i := 0); assumption; rfl)
  refine' WL.pur (Pur.bin rfl rfl ?h3_0) ?k3
  case h3_0 => first | exact Bin.eqN | exact Bin.eqI
  refine WL.pur (Pur.move rfl) ?_
  refine' WL.andp (u := 10) (t := 16) rfl ?h4_0 ?h4_1 ?h4_2 rfl ?k4
  case h4_0 =>
    intro hg10 K10
    refine WL.gpur (u := 10) rfl rfl (gT hg10) (Pur.fieldAddr rfl fo_51_1) ?_
    refine' WL.gpur (u := 10) rfl rfl (gT hg10) (Pur.load1 rfl ty_9 ?h5_0) ?k5
    case h5_0 => first | (apply Rd.own1; exact zmE; rfl) | (apply RdV.rd; apply RdV.idx (i := 1); assumption; rfl) | (apply RdV.rd; apply RdV.idx (off := 0) (i := 1); assumption; rfl)
    refine WL.gpur (u := 10) rfl rfl (gT hg10) (Pur.fieldAddr rfl fo_51_1) ?_
    refine' WL.gpur (u := 10) rfl rfl (gT hg10) (Pur.load1 rfl ty_9 ?h6_0) ?k6
    case h6_0 => first | (apply Rd.own1; exact zmE; rfl) | (apply RdV.rd; apply RdV.idx (i := 1); assumption; rfl) | (apply RdV.rd; apply RdV.idx (off := 0) (i := 1); assumption; rfl)
    refine' WL.gpur (u := 10) rfl rfl (gT hg10) (Pur.bin rfl rfl ?h7_0) ?k7
    case h7_0 => exact Bin.eqS
    exact K10 _ zcR rfl
  case h4_1 =>
    intro hg10 K10
    refine WL.gskip (u := 10) rfl rfl (sT hg10) ?_
    refine WL.gskip (u := 10) rfl rfl (sT hg10) ?_
    refine WL.gskip (u := 10) rfl rfl (sT hg10) ?_
    refine WL.gskip (u := 10) rfl rfl (sT hg10) ?_
    refine WL.gskip (u := 10) rfl rfl (sT hg10) ?_
    exact K10 _ zcR
  case h4_2 => exact Wanted.plain rfl
  refine WL.pur (Pur.move rfl) ?_
  refine' WL.andp (u := 17) (t := 23) rfl ?h8_0 ?h8_1 ?h8_2 rfl ?k8
  case h8_0 =>
    intro hg17 K17
    refine WL.gpur (u := 17) rfl rfl (gT hg17) (Pur.fieldAddr rfl fo_51_2) ?_
    refine' WL.gpur (u := 17) rfl rfl (gT hg17) (Pur.load1 rfl ty_9 ?h9_0) ?k9
    case h9_0 => first | (apply Rd.own1; exact zmE; rfl) | (apply RdV.rd; apply RdV.idx (i := 2); assumption; rfl) | (apply RdV.rd; apply RdV.idx (off := 0) (i := 2); assumption; rfl)
    refine WL.gpur (u := 17) rfl rfl (gT hg17) (Pur.fieldAddr rfl fo_51_2) ?_
    refine' WL.gpur (u := 17) rfl rfl (gT hg17) (Pur.load1 rfl ty_9 ?h10_0) ?k10
    case h10_0 => first | (apply Rd.own1; exact zmE; rfl) | (apply RdV.rd; apply RdV.idx (i := 2); assumption; rfl) | (apply RdV.rd; apply RdV.idx (off := 0) (i := 2); assumption; rfl)
    refine' WL.gpur (u := 17) rfl rfl (gT hg17) (Pur.bin rfl rfl ?h11_0) ?k11
    case h11_0 => exact Bin.eqS
    exact K17 _ zcR rfl
  case h8_1 =>
    intro hg17 K17
    refine WL.gskip (u := 17) rfl rfl (sT hg17) ?_
    refine WL.gskip (u := 17) rfl rfl (sT hg17) ?_
    refine WL.gskip (u := 17) rfl rfl (sT hg17) ?_
    refine WL.gskip (u := 17) rfl rfl (sT hg17) ?_
    refine WL.gskip (u := 17) rfl rfl (sT hg17) ?_
    exact K17 _ zcR
  case h8_2 => exact Wanted.plain rfl
  refine WL.pur (Pur.move rfl) ?_
  refine' WL.andp (u := 24) (t := 30) rfl ?h12_0 ?h12_1 ?h12_2 rfl ?k12
  case h12_0 =>
    intro hg24 K24
    refine WL.gpur (u := 24) rfl rfl (gT hg24) (Pur.fieldAddr rfl fo_51_3) ?_
    refine' WL.gpur (u := 24) rfl rfl (gT hg24) (Pur.load1 rfl ty_2 ?h13_0) ?k13
    case h13_0 => first | (apply Rd.own1; exact zmE; rfl) | (apply RdV.rd; apply RdV.idx (i := 3); assumption; rfl) | (apply RdV.rd; apply RdV.idx (off := 0) (i := 3); assumption; rfl)
    refine WL.gpur (u := 24) rfl rfl (gT hg24) (Pur.fieldAddr rfl fo_51_3) ?_
    refine' WL.gpur (u := 24) rfl rfl (gT hg24) (Pur.load1 rfl ty_2 ?h14_0) ?k14
    case h14_0 => first | (apply Rd.own1; exact zmE; rfl) | (apply RdV.rd; apply RdV.idx (i := 3); assumption; rfl) | (apply RdV.rd; apply RdV.idx (off := 0) (i := 3); assumption; rfl)
    refine' WL.gpur (u := 24) rfl rfl (gT hg24) (Pur.bin rfl rfl ?h15_0) ?k15
    case h15_0 => first | exact Bin.eqN | exact Bin.eqI
    exact K24 _ zcR rfl
  case h12_1 =>
    intro hg24 K24
    refine WL.gskip (u := 24) rfl rfl (sT hg24) ?_
    refine WL.gskip (u := 24) rfl rfl (sT hg24) ?_
    refine WL.gskip (u := 24) rfl rfl (sT hg24) ?_
    refine WL.gskip (u := 24) rfl rfl (sT hg24) ?_
    refine WL.gskip (u := 24) rfl rfl (sT hg24) ?_
    exact K24 _ zcR
  case h12_2 => exact Wanted.plain rfl
  refine WL.pur (Pur.move rfl) ?_
  refine' WL.andp (u := 31) (t := 39) rfl ?h16_0 ?h16_1 ?h16_2 rfl ?k16
  case h16_0 =>
    intro hg31 K31
    refine WL.gpur (u := 31) rfl rfl (gT hg31) (Pur.fieldAddr rfl fo_51_4) ?_
    refine WL.gpur (u := 31) rfl rfl (gT hg31) (Pur.fieldAddr rfl fo_49_1) ?_
    refine' WL.gpur (u := 31) rfl rfl (gT hg31) (Pur.load1 rfl ty_3 ?h17_0) ?k17
    case h17_0 => first | (apply Rd.own1; exact zmE; rfl) | (apply RdV.rd; apply RdV.idx (i := 36); assumption; rfl) | (apply RdV.rd; apply RdV.idx (off := 0) (i := 36); assumption; rfl)
    refine WL.gpur (u := 31) rfl rfl (gT hg31) (Pur.fieldAddr rfl fo_51_4) ?_
    refine WL.gpur (u := 31) rfl rfl (gT hg31) (Pur.fieldAddr rfl fo_49_1) ?_
    refine' WL.gpur (u := 31) rfl rfl (gT hg31) (Pur.load1 rfl ty_3 ?h18_0) ?k18
    case h18_0 => first | (apply Rd.own1; exact zmE; rfl) | (apply RdV.rd; apply RdV.idx (i := 36); assumption; rfl) | (apply RdV.rd; apply RdV.idx (off := 0) (i := 36); assumption; rfl)
    refine' WL.gpur (u := 31) rfl rfl (gT hg31) (Pur.bin rfl rfl ?h19_0) ?k19
    case h19_0 => first | exact Bin.eqN | exact Bin.eqI
    exact K31 _ zcR rfl
  case h16_1 =>
    intro hg31 K31
    refine WL.gskip (u := 31) rfl rfl (sT hg31) ?_
    refine WL.gskip (u := 31) rfl rfl (sT hg31) ?_
    refine WL.gskip (u := 31) rfl rfl (sT hg31) ?_
    refine WL.gskip (u := 31) rfl rfl (sT hg31) ?_
    refine WL.gskip (u := 31) rfl rfl (sT hg31) ?_
    refine WL.gskip (u := 31) rfl rfl (sT hg31) ?_
    refine WL.gskip (u := 31) rfl rfl (sT hg31) ?_
    exact K31 _ zcR
  case h16_2 => exact Wanted.plain rfl
  refine WL.pur (Pur.move rfl) ?_
  refine' WL.andp (u := 40) (t := 48) rfl ?h20_0 ?h20_1 ?h20_2 rfl ?k20
  case h20_0 =>
    intro hg40 K40
    refine WL.gpur (u := 40) rfl rfl (gT hg40) (Pur.fieldAddr rfl fo_51_4) ?_
    refine WL.gpur (u := 40) rfl rfl (gT hg40) (Pur.fieldAddr rfl fo_49_0) ?_
    refine' WL.gpur (u := 40) rfl rfl (gT hg40) (Pur.loadN rfl ty_39 ?h21_0 ?h21_1) ?k21
    case h21_0 => first | (apply Rd.own_sub; exact zmE; exact Sub.op_hash _ _ _ _ _ _) | (apply RdV.rd; apply RdV.sub (i := 4); assumption; exact Sub.op_hash _ _ _ _ _ _)
    case h21_1 => first | rfl | assumption
    refine WL.gpur (u := 40) rfl rfl (gT hg40) (Pur.fieldAddr rfl fo_51_4) ?_
    refine WL.gpur (u := 40) rfl rfl (gT hg40) (Pur.fieldAddr rfl fo_49_0) ?_
    refine' WL.gpur (u := 40) rfl rfl (gT hg40) (Pur.loadN rfl ty_39 ?h22_0 ?h22_1) ?k22
    case h22_0 => first | (apply Rd.own_sub; exact zmE; exact Sub.op_hash _ _ _ _ _ _) | (apply RdV.rd; apply RdV.sub (i := 4); assumption; exact Sub.op_hash _ _ _ _ _ _)
    case h22_1 => first | rfl | assumption
    refine' WL.gpur (u := 40) rfl rfl (gT hg40) (Pur.bin rfl rfl ?h23_0) ?k23
    case h23_0 => (refine Bin.eqH isHash_39 ?_ ?_ <;> assumption)
    exact K40 _ zcR rfl
  case h20_1 =>
    intro hg40 K40
    refine WL.gskip (u := 40) rfl rfl (sT hg40) ?_
    refine WL.gskip (u := 40) rfl rfl (sT hg40) ?_
    refine WL.gskip (u := 40) rfl rfl (sT hg40) ?_
    refine WL.gskip (u := 40) rfl rfl (sT hg40) ?_
    refine WL.gskip (u := 40) rfl rfl (sT hg40) ?_
    refine WL.gskip (u := 40) rfl rfl (sT hg40) ?_
    refine WL.gskip (u := 40) rfl rfl (sT hg40) ?_
    exact K40 _ zcR
  case h20_2 => exact Wanted.plain rfl
  refine WL.pur (Pur.assign rfl) ?_
  refine WL.nil ?_
  refine WQ.thn ?_
  refine WC.ret ?_
  refine WQ.ret1 Tryz.results160 rfl [] zsL (View.le_refl _) ?_
  refine ⟨?_, rfl, rfl⟩
  exact decB opD_eq

theorem r5_Same (σ : View) (x y : NodeD) (pv ov qv rv : Value) (hx : NodeR σ x pv ov) (hy : NodeR σ y qv rv) :
    TriP Tryz.prog 116 #[.agg (nodeCells x.au x.cl pv ov).toArray, .agg (nodeCells y.au y.cl qv rv).toArray] σ (.bool (decide (x = y))) := by
  obtain ⟨hxp, hxo, _, _⟩ := hx
  obtain ⟨hyp, hyo, _, _⟩ := hy
  obtain ⟨pa, pc, rfl, hpc, hpb⟩ := hxp.shape
  obtain ⟨oa, oc, rfl, hoc, hob⟩ := hxo.shape
  obtain ⟨qa, qc, rfl, hqc, hqb⟩ := hyp.shape
  obtain ⟨ra, rc, rfl, hrc, hrb⟩ := hyo.shape
  obtain ⟨pb, poff, hep, hpat⟩ := hxp.rds
  obtain ⟨ob, ooff, heo, hoat⟩ := hxo.rds
  obtain ⟨qb, qoff, heq, hqat⟩ := hyp.rds
  obtain ⟨rb, roff, her, hrat⟩ := hyo.rds
  refine Tri.of_body [(0, .agg (nodeCells x.au x.cl (.slice pa x.ps.length pc) (.slice oa x.ops.length oc)).toArray), (1, .agg (nodeCells y.au y.cl (.slice qa y.ps.length qc) (.slice ra y.ops.length rc)).toArray)] Tryz.func116 rfl Tryz.ntmps116 (by simp) rfl (fun Hr => ?_)
  rw [List.nil_append]
  refine WC.seq ?_
  refine WC.region ?_
  refine WL.new (New.boxN rfl) (fun b2 => ?_)
  refine WL.new (New.boxN rfl) (fun b3 => ?_)
  refine WL.pur (Pur.assign rfl) ?_
  refine WL.nil ?_
  refine WQ.thn ?_
  refine WC.seq ?_
  refine WC.seq ?_
  refine WC.region ?_
  refine WL.pur (Pur.fieldAddr rfl fo_43_0) ?_
  refine' WL.pur (Pur.load1 rfl ty_3 ?h1_0) ?k1
  case h1_0 => first | (apply Rd.own1; exact zmE; rfl) | (apply RdV.rd; apply RdV.idx (i := 0); assumption; rfl)
  refine WL.pur (Pur.fieldAddr rfl fo_43_0) ?_
  refine' WL.pur (Pur.load1 rfl ty_3 ?h2_0) ?k2
  case h2_0 => first | (apply Rd.own1; exact zmE; rfl) | (apply RdV.rd; apply RdV.idx (i := 0); assumption; rfl)
  refine' WL.pur (Pur.bin rfl rfl ?h3_0) ?k3
  case h3_0 => first | exact Bin.neN | exact Bin.neI
  refine WL.pur (Pur.move rfl) ?_
  refine' WL.orp (u := 12) (t := 18) rfl ?h4_0 ?h4_1 ?h4_2 rfl ?k4
  case h4_0 =>
    intro hg12 K12
    refine WL.gpur (u := 12) rfl rfl (gF hg12) (Pur.fieldAddr rfl fo_43_1) ?_
    refine' WL.gpur (u := 12) rfl rfl (gF hg12) (Pur.load1 rfl ty_3 ?h5_0) ?k5
    case h5_0 => first | (apply Rd.own1; exact zmE; rfl) | (apply RdV.rd; apply RdV.idx (i := 1); assumption; rfl) | (apply RdV.rd; apply RdV.idx (off := 0) (i := 1); assumption; rfl)
    refine WL.gpur (u := 12) rfl rfl (gF hg12) (Pur.fieldAddr rfl fo_43_1) ?_
    refine' WL.gpur (u := 12) rfl rfl (gF hg12) (Pur.load1 rfl ty_3 ?h6_0) ?k6
    case h6_0 => first | (apply Rd.own1; exact zmE; rfl) | (apply RdV.rd; apply RdV.idx (i := 1); assumption; rfl) | (apply RdV.rd; apply RdV.idx (off := 0) (i := 1); assumption; rfl)
    refine' WL.gpur (u := 12) rfl rfl (gF hg12) (Pur.bin rfl rfl ?h7_0) ?k7
    case h7_0 => first | exact Bin.neN | exact Bin.neI
    exact K12 _ zcR rfl
  case h4_1 =>
    intro hg12 K12
    refine WL.gskip (u := 12) rfl rfl (sF hg12) ?_
    refine WL.gskip (u := 12) rfl rfl (sF hg12) ?_
    refine WL.gskip (u := 12) rfl rfl (sF hg12) ?_
    refine WL.gskip (u := 12) rfl rfl (sF hg12) ?_
    refine WL.gskip (u := 12) rfl rfl (sF hg12) ?_
    exact K12 _ zcR
  case h4_2 => exact Wanted.plain rfl
  refine WL.pur (Pur.move rfl) ?_
  refine' WL.orp (u := 19) (t := 27) rfl ?h8_0 ?h8_1 ?h8_2 rfl ?k8
  case h8_0 =>
    intro hg19 K19
    refine WL.gpur (u := 19) rfl rfl (gF hg19) (Pur.fieldAddr rfl fo_43_2) ?_
    refine' WL.gpur (u := 19) rfl rfl (gF hg19) (Pur.load1 rfl ty_41 ?h9_0) ?k9
    case h9_0 => first | (apply Rd.own1; exact zmE; rfl) | (apply RdV.rd; apply RdV.idx (i := 2); assumption; rfl) | (apply RdV.rd; apply RdV.idx (off := 0) (i := 2); assumption; rfl)
    refine WL.gpur (u := 19) rfl rfl (gF hg19) (Pur.len rfl isSlice_41) ?_
    refine WL.gpur (u := 19) rfl rfl (gF hg19) (Pur.fieldAddr rfl fo_43_2) ?_
    refine' WL.gpur (u := 19) rfl rfl (gF hg19) (Pur.load1 rfl ty_41 ?h10_0) ?k10
    case h10_0 => first | (apply Rd.own1; exact zmE; rfl) | (apply RdV.rd; apply RdV.idx (i := 2); assumption; rfl) | (apply RdV.rd; apply RdV.idx (off := 0) (i := 2); assumption; rfl)
    refine WL.gpur (u := 19) rfl rfl (gF hg19) (Pur.len rfl isSlice_41) ?_
    refine' WL.gpur (u := 19) rfl rfl (gF hg19) (Pur.bin rfl rfl ?h11_0) ?k11
    case h11_0 => first | exact Bin.neN | exact Bin.neI
    exact K19 _ zcR rfl
  case h8_1 =>
    intro hg19 K19
    refine WL.gskip (u := 19) rfl rfl (sF hg19) ?_
    refine WL.gskip (u := 19) rfl rfl (sF hg19) ?_
    refine WL.gskip (u := 19) rfl rfl (sF hg19) ?_
    refine WL.gskip (u := 19) rfl rfl (sF hg19) ?_
    refine WL.gskip (u := 19) rfl rfl (sF hg19) ?_
    refine WL.gskip (u := 19) rfl rfl (sF hg19) ?_
    refine WL.gskip (u := 19) rfl rfl (sF hg19) ?_
    exact K19 _ zcR
  case h8_2 => exact Wanted.plain rfl
  refine WL.pur (Pur.move rfl) ?_
  refine' WL.orp (u := 28) (t := 36) rfl ?h12_0 ?h12_1 ?h12_2 rfl ?k12
  case h12_0 =>
    intro hg28 K28
    refine WL.gpur (u := 28) rfl rfl (gF hg28) (Pur.fieldAddr rfl fo_43_3) ?_
    refine' WL.gpur (u := 28) rfl rfl (gF hg28) (Pur.load1 rfl ty_40 ?h13_0) ?k13
    case h13_0 => first | (apply Rd.own1; exact zmE; rfl) | (apply RdV.rd; apply RdV.idx (i := 3); assumption; rfl) | (apply RdV.rd; apply RdV.idx (off := 0) (i := 3); assumption; rfl)
    refine WL.gpur (u := 28) rfl rfl (gF hg28) (Pur.len rfl isSlice_40) ?_
    refine WL.gpur (u := 28) rfl rfl (gF hg28) (Pur.fieldAddr rfl fo_43_3) ?_
    refine' WL.gpur (u := 28) rfl rfl (gF hg28) (Pur.load1 rfl ty_40 ?h14_0) ?k14
    case h14_0 => first | (apply Rd.own1; exact zmE; rfl) | (apply RdV.rd; apply RdV.idx (i := 3); assumption; rfl) | (apply RdV.rd; apply RdV.idx (off := 0) (i := 3); assumption; rfl)
    refine WL.gpur (u := 28) rfl rfl (gF hg28) (Pur.len rfl isSlice_40) ?_
    refine' WL.gpur (u := 28) rfl rfl (gF hg28) (Pur.bin rfl rfl ?h15_0) ?k15
    case h15_0 => first | exact Bin.neN | exact Bin.neI
    exact K28 _ zcR rfl
  case h12_1 =>
    intro hg28 K28
    refine WL.gskip (u := 28) rfl rfl (sF hg28) ?_
    refine WL.gskip (u := 28) rfl rfl (sF hg28) ?_
    refine WL.gskip (u := 28) rfl rfl (sF hg28) ?_
    refine WL.gskip (u := 28) rfl rfl (sF hg28) ?_
    refine WL.gskip (u := 28) rfl rfl (sF hg28) ?_
    refine WL.gskip (u := 28) rfl rfl (sF hg28) ?_
    refine WL.gskip (u := 28) rfl rfl (sF hg28) ?_
    exact K28 _ zcR
  case h12_2 => exact Wanted.plain rfl
  refine WL.nil ?_
  refine WQ.thn ?_
  first | refine WC.cond rfl (fun hc0 => ?_) (fun hc0 => ?_) | refine WC.condB rfl (fun hc0 => ?_) (fun hc0 => ?_)
  · refine WC.seq ?_
    refine WC.region ?_
    refine WL.pur (Pur.assign rfl) ?_
    refine WL.nil ?_
    refine WQ.thn ?_
    refine WC.ret ?_
    refine WQ.thn_ret ?_
    refine WQ.ret1 Tryz.results116 rfl [] zsL (View.le_refl _) ?_
    refine ⟨?_, rfl, rfl⟩
    exact boolF (by rintro rfl; simp at hc0)
  · have hlens : ((x.au = y.au ∧ x.cl = y.cl) ∧ x.ps.length = y.ps.length) ∧ x.ops.length = y.ops.length := by
      refine ⟨⟨⟨?_, ?_⟩, ?_⟩, ?_⟩
      · exact Decidable.not_not.1 fun h => hc0 (.inl (.inl (.inl h)))
      · exact Decidable.not_not.1 fun h => hc0 (.inl (.inl (.inr h)))
      · exact Decidable.not_not.1 fun h => hc0 (.inl (.inr h))
      · exact Decidable.not_not.1 fun h => hc0 (.inr h)
    obtain ⟨⟨⟨eau, ecl⟩, epl⟩, eol⟩ := hlens
    refine WC.skip ?_
    refine WQ.thn ?_
    refine WC.seq ?_
    refine WC.seq ?_
    refine WC.region ?_
    refine WL.pur (Pur.assign rfl) ?_
    refine WL.nil ?_
    refine WQ.thn ?_
    refine WC.block ?_
    refine WC.loop (fun j m σ' H' => ∃ i : Nat, j = x.ps.length - i ∧ i ≤ x.ps.length ∧ x.ps.take i = y.ps.take i ∧ m = [(2, .pointer (some ⟨b2, 0, none⟩)), (3, .pointer (some ⟨b3, 0, none⟩)), (5, .int .i64 (i : Int))] ∧ σ' = σ ∧ H' = (b3, rowO 43 (nodeCells y.au y.cl (.slice qa y.ps.length qc) (.slice ra y.ops.length rc))) :: (b2, rowO 43 (nodeCells x.au x.cl (.slice pa x.ps.length pc) (.slice oa x.ops.length oc))) :: Hr) ⟨0, rfl, by omega, by simp, rfl, rfl, rfl⟩ zcV zsL ?_
    rintro _ _ σ Hr ⟨i, rfl, hi, hps, rfl, rfl, rfl⟩
    refine WC.seq ?_
    refine WC.seq ?_
    refine WC.region ?_
    refine WL.pur (Pur.move rfl) ?_
    refine WL.pur (Pur.fieldAddr rfl fo_43_2) ?_
    refine' WL.pur (Pur.load1 rfl ty_41 ?h16_0) ?k16
    case h16_0 => first | (apply Rd.own1; exact zmE; rfl) | (apply RdV.rd; apply RdV.idx (i := 2); assumption; rfl) | (apply RdV.rd; apply RdV.idx (off := 0) (i := 2); assumption; rfl)
    refine WL.pur (Pur.len rfl isSlice_41) ?_
    refine' WL.pur (Pur.bin rfl rfl ?h17_0) ?k17
    case h17_0 => first | exact Bin.ltN | exact Bin.ltI | exact Bin.ltS
    refine WL.nil ?_
    refine WQ.thn ?_
    first | refine WC.cond rfl (fun hc1 => ?_) (fun hc1 => ?_) | refine WC.condB rfl (fun hc1 => ?_) (fun hc1 => ?_)
    · obtain ⟨u, hu⟩ : ∃ u, x.ps[i]? = some u := ⟨_, List.getElem?_eq_getElem (by omega)⟩
      obtain ⟨v, hv⟩ : ∃ v, y.ps[i]? = some v := ⟨_, List.getElem?_eq_getElem (by omega)⟩
      obtain ⟨_, _, _, ⟨rfl, hxu⟩, hru⟩ := hpat i u hu
      obtain ⟨_, _, _, ⟨rfl, hyv⟩, hrv⟩ := hqat i v hv
      refine WC.skip ?_
      refine WQ.thn ?_
      refine WC.seq ?_
      refine WC.block ?_
      refine WC.seq ?_
      refine WC.drawH 11 11 mixed (by kernel_rfl) rfl ?_
      refine SA.take 0 (by kernel_rfl) rfl rfl rfl (Wanted.plain rfl) zsL (View.le_refl _) (Pur.fieldAddr rfl fo_43_2) ?_
      refine' SA.take 1 (by kernel_rfl) rfl rfl rfl (Wanted.plain rfl) zsL (View.le_refl _) (Pur.load1 rfl ty_41 ?h18_0) ?k18
      case h18_0 => first | (apply Rd.own1; exact zmE; rfl) | (apply RdV.rd; apply RdV.idx (i := 2); assumption; rfl) | (apply RdV.rd; apply RdV.idx (off := 0) (i := 2); assumption; rfl)
      refine SA.take 2 (by kernel_rfl) rfl rfl rfl (Wanted.plain rfl) zsL (View.le_refl _) (Pur.move rfl) ?_
      refine' SA.take 3 (by kernel_rfl) rfl rfl rfl (Wanted.plain rfl) zsL (View.le_refl _) (Pur.indexAddr (eqA (hep (by omega))) rfl sl_41 ?h19_0) ?k19
      case h19_0 => omega
      refine' SA.take 4 (by kernel_rfl) rfl rfl rfl (Wanted.plain rfl) zsL (View.le_refl _) (Pur.loadN rfl ty_39 ?h20_0 ?h20_1) ?k20
      case h20_0 => exact RdV.rd hru
      case h20_1 => first | rfl | assumption
      refine SA.take 5 (by kernel_rfl) rfl rfl rfl (Wanted.plain rfl) zsL (View.le_refl _) (Pur.fieldAddr rfl fo_43_2) ?_
      refine' SA.take 6 (by kernel_rfl) rfl rfl rfl (Wanted.plain rfl) zsL (View.le_refl _) (Pur.load1 rfl ty_41 ?h21_0) ?k21
      case h21_0 => first | (apply Rd.own1; exact zmE; rfl) | (apply RdV.rd; apply RdV.idx (i := 2); assumption; rfl) | (apply RdV.rd; apply RdV.idx (off := 0) (i := 2); assumption; rfl)
      refine SA.take 7 (by kernel_rfl) rfl rfl rfl (Wanted.plain rfl) zsL (View.le_refl _) (Pur.move rfl) ?_
      refine' SA.take 8 (by kernel_rfl) rfl rfl rfl (Wanted.plain rfl) zsL (View.le_refl _) (Pur.indexAddr (eqA (heq (by omega))) rfl sl_41 ?h22_0) ?k22
      case h22_0 => omega
      refine' SA.take 9 (by kernel_rfl) rfl rfl rfl (Wanted.plain rfl) zsL (View.le_refl _) (Pur.loadN rfl ty_39 ?h23_0 ?h23_1) ?k23
      case h23_0 => exact RdV.rd hrv
      case h23_1 => first | rfl | assumption
      refine' SA.take 10 (by kernel_rfl) rfl rfl rfl (Wanted.plain rfl) zsL (View.le_refl _) (Pur.bin rfl rfl ?h24_0) ?k24
      case h24_0 => (refine Bin.neH isHash_39 ?_ ?_ <;> assumption)
      refine SA.done (by kernel_rfl) ?_
      refine WQ.thn ?_
      first | refine WC.cond rfl (fun hc2 => ?_) (fun hc2 => ?_) | refine WC.condB rfl (fun hc2 => ?_) (fun hc2 => ?_)
      · refine WC.seq ?_
        refine WC.region ?_
        refine WL.pur (Pur.assign rfl) ?_
        refine WL.nil ?_
        refine WQ.thn ?_
        refine WC.ret ?_
        refine WQ.blk_ret ?_
        refine WQ.thn_ret ?_
        refine WQ.back_ret ?_
        refine WQ.blk_ret ?_
        refine WQ.thn_ret ?_
        refine WQ.ret1 Tryz.results116 rfl [] zsL (View.le_refl _) ?_
        refine ⟨?_, rfl, rfl⟩
        exact boolF (by rintro rfl; rw [hu] at hv; cases hv; exact hc2 rfl)
      · refine WC.skip ?_
        refine WQ.blk ?_
        refine WQ.thn ?_
        refine WC.region ?_
        refine WL.pur (Pur.move rfl) ?_
        refine' WL.pur (Pur.bin rfl rfl ?h25_0) ?k25
        case h25_0 => first | (refine Bin.addN (b := 1) ?_; omega) | (refine Bin.addI ?_; omega)
        refine WL.pur (Pur.assign rfl) ?_
        refine WL.nil ?_
        refine WQ.back _ ⟨i + 1, rfl, by omega, by rw [List.take_add_one, List.take_add_one, hu, hv, hps, Decidable.not_not.1 hc2], rfl, rfl, rfl⟩ (by omega) zcV zsL
    · rw [List.take_of_length_le (by omega), List.take_of_length_le (by omega)] at hps
      refine WC.exit ?_
      refine WQ.thn_exit ?_
      refine WQ.back_exit ?_
      refine WQ.blk_here ?_
      refine WQ.thn ?_
      refine WC.seq ?_
      refine WC.seq ?_
      refine WC.region ?_
      refine WL.pur (Pur.assign rfl) ?_
      refine WL.nil ?_
      refine WQ.thn ?_
      refine WC.block ?_
      refine WC.loop (fun j m σ' H' => ∃ i : Nat, j = x.ops.length - i ∧ i ≤ x.ops.length ∧ x.ops.take i = y.ops.take i ∧ m = [(2, .pointer (some ⟨b2, 0, none⟩)), (3, .pointer (some ⟨b3, 0, none⟩)), (6, .int .i64 (i : Int))] ∧ σ' = σ ∧ H' = (b3, rowO 43 (nodeCells y.au y.cl (.slice qa y.ps.length qc) (.slice ra y.ops.length rc))) :: (b2, rowO 43 (nodeCells x.au x.cl (.slice pa x.ps.length pc) (.slice oa x.ops.length oc))) :: Hr) ⟨0, rfl, by omega, by simp, rfl, rfl, rfl⟩ zcV zsL ?_
      rintro _ _ σ Hr ⟨i, rfl, hi, hos, rfl, rfl, rfl⟩
      refine WC.seq ?_
      refine WC.seq ?_
      refine WC.region ?_
      refine WL.pur (Pur.move rfl) ?_
      refine WL.pur (Pur.fieldAddr rfl fo_43_3) ?_
      refine' WL.pur (Pur.load1 rfl ty_40 ?h26_0) ?k26
      case h26_0 => first | (apply Rd.own1; exact zmE; rfl) | (apply RdV.rd; apply RdV.idx (i := 3); assumption; rfl) | (apply RdV.rd; apply RdV.idx (off := 0) (i := 3); assumption; rfl)
      refine WL.pur (Pur.len rfl isSlice_40) ?_
      refine' WL.pur (Pur.bin rfl rfl ?h27_0) ?k27
      case h27_0 => first | exact Bin.ltN | exact Bin.ltI | exact Bin.ltS
      refine WL.nil ?_
      refine WQ.thn ?_
      first | refine WC.cond rfl (fun hc3 => ?_) (fun hc3 => ?_) | refine WC.condB rfl (fun hc3 => ?_) (fun hc3 => ?_)
      · obtain ⟨u, hu⟩ : ∃ u, x.ops[i]? = some u := ⟨_, List.getElem?_eq_getElem (by omega)⟩
        obtain ⟨v, hv⟩ : ∃ v, y.ops[i]? = some v := ⟨_, List.getElem?_eq_getElem (by omega)⟩
        obtain ⟨_, _, _, ⟨rfl, hku⟩, hru⟩ := hoat i u hu
        obtain ⟨_, _, _, ⟨rfl, hkv⟩, hrv⟩ := hrat i v hv
        refine WC.skip ?_
        refine WQ.thn ?_
        refine WC.seq ?_
        refine WC.block ?_
        refine WC.seq ?_
        refine WC.drawH 12 12 mixed (by kernel_rfl) rfl ?_
        refine SA.take 0 (by kernel_rfl) rfl rfl rfl (Wanted.plain rfl) zsL (View.le_refl _) (Pur.fieldAddr rfl fo_43_3) ?_
        refine' SA.take 1 (by kernel_rfl) rfl rfl rfl (Wanted.plain rfl) zsL (View.le_refl _) (Pur.load1 rfl ty_40 ?h28_0) ?k28
        case h28_0 => first | (apply Rd.own1; exact zmE; rfl) | (apply RdV.rd; apply RdV.idx (i := 3); assumption; rfl) | (apply RdV.rd; apply RdV.idx (off := 0) (i := 3); assumption; rfl)
        refine SA.take 2 (by kernel_rfl) rfl rfl rfl (Wanted.plain rfl) zsL (View.le_refl _) (Pur.move rfl) ?_
        refine' SA.take 3 (by kernel_rfl) rfl rfl rfl (Wanted.plain rfl) zsL (View.le_refl _) (Pur.indexAddr (eqA (heo (by omega))) rfl sl_40 ?h29_0) ?k29
        case h29_0 => omega
        refine' SA.take 4 (by kernel_rfl) rfl rfl rfl (Wanted.plain rfl) zsL (View.le_refl _) (Pur.loadN rfl ty_51 ?h30_0 ?h30_1) ?k30
        case h30_0 => exact RdV.rd hru
        case h30_1 => first | rfl | assumption
        refine SA.take 5 (by kernel_rfl) rfl rfl rfl (Wanted.plain rfl) zsL (View.le_refl _) (Pur.fieldAddr rfl fo_43_3) ?_
        refine' SA.take 6 (by kernel_rfl) rfl rfl rfl (Wanted.plain rfl) zsL (View.le_refl _) (Pur.load1 rfl ty_40 ?h31_0) ?k31
        case h31_0 => first | (apply Rd.own1; exact zmE; rfl) | (apply RdV.rd; apply RdV.idx (i := 3); assumption; rfl) | (apply RdV.rd; apply RdV.idx (off := 0) (i := 3); assumption; rfl)
        refine SA.take 7 (by kernel_rfl) rfl rfl rfl (Wanted.plain rfl) zsL (View.le_refl _) (Pur.move rfl) ?_
        refine' SA.take 8 (by kernel_rfl) rfl rfl rfl (Wanted.plain rfl) zsL (View.le_refl _) (Pur.indexAddr (eqA (her (by omega))) rfl sl_40 ?h32_0) ?k32
        case h32_0 => omega
        refine' SA.take 9 (by kernel_rfl) rfl rfl rfl (Wanted.plain rfl) zsL (View.le_refl _) (Pur.loadN rfl ty_51 ?h33_0 ?h33_1) ?k33
        case h33_0 => exact RdV.rd hrv
        case h33_1 => first | rfl | assumption
        refine SA.callP 10 rfl rfl (Wanted.plain rfl) (by kernel_rfl) rfl Tryz.call160 zsL (View.le_refl _) ((r4_Same _ u v hku hkv)) ?_
        first | refine SA.take 11 (by kernel_rfl) rfl rfl rfl (Wanted.plain rfl) zsL (View.le_refl _) (Pur.not rfl) ?_ | refine SA.take 11 (by kernel_rfl) rfl rfl rfl (Wanted.plain rfl) zsL (View.le_refl _) (Pur.notB rfl) ?_
        refine SA.done (by kernel_rfl) ?_
        refine WQ.thn ?_
        first | refine WC.cond rfl (fun hc4 => ?_) (fun hc4 => ?_) | refine WC.condB rfl (fun hc4 => ?_) (fun hc4 => ?_)
        · refine WC.seq ?_
          refine WC.region ?_
          refine WL.pur (Pur.assign rfl) ?_
          refine WL.nil ?_
          refine WQ.thn ?_
          refine WC.ret ?_
          refine WQ.blk_ret ?_
          refine WQ.thn_ret ?_
          refine WQ.back_ret ?_
          refine WQ.blk_ret ?_
          refine WQ.thn_ret ?_
          refine WQ.ret1 Tryz.results116 rfl [] zsL (View.le_refl _) ?_
          refine ⟨?_, rfl, rfl⟩
          exact boolF (by rintro rfl; rw [hu] at hv; cases hv; exact hc4 rfl)
        · refine WC.skip ?_
          refine WQ.blk ?_
          refine WQ.thn ?_
          refine WC.region ?_
          refine WL.pur (Pur.move rfl) ?_
          refine' WL.pur (Pur.bin rfl rfl ?h34_0) ?k34
          case h34_0 => first | (refine Bin.addN (b := 1) ?_; omega) | (refine Bin.addI ?_; omega)
          refine WL.pur (Pur.assign rfl) ?_
          refine WL.nil ?_
          refine WQ.back _ ⟨i + 1, rfl, by omega, by rw [List.take_add_one, List.take_add_one, hu, hv, hos, Decidable.not_not.1 hc4], rfl, rfl, rfl⟩ (by omega) zcV zsL
      · refine WC.exit ?_
        refine WQ.thn_exit ?_
        refine WQ.back_exit ?_
        refine WQ.blk_here ?_
        refine WQ.thn ?_
        refine WC.seq ?_
        refine WC.region ?_
        refine WL.pur (Pur.assign rfl) ?_
        refine WL.nil ?_
        refine WQ.thn ?_
        refine WC.ret ?_
        refine WQ.ret1 Tryz.results116 rfl [] zsL (View.le_refl _) ?_
        refine ⟨?_, rfl, rfl⟩
        rw [List.take_of_length_le (by omega), List.take_of_length_le (by omega)] at hos; exact boolT (nodeD_eq eau ecl hps hos)

theorem r5_SameEntry (σ : View) (x y : EntD) (pv ov qv rv : Value) (hx : NodeR σ x.node pv ov) (hy : NodeR σ y.node qv rv) (hxi : IsH x.id) (hyi : IsH y.id) :
    TriP Tryz.prog 45 #[.agg (entCells x.id x.node.au x.node.cl pv ov).toArray, .agg (entCells y.id y.node.au y.node.cl qv rv).toArray] σ (.bool (decide (x = y))) := by
  have hx2 := hx
  have hy2 := hy
  obtain ⟨pa, pc, rfl, _, _⟩ := hx2.1.shape
  obtain ⟨oa, oc, rfl, _, _⟩ := hx2.2.1.shape
  obtain ⟨qa, qc, rfl, _, _⟩ := hy2.1.shape
  obtain ⟨ra, rc, rfl, _, _⟩ := hy2.2.1.shape
  refine Tri.of_body [(0, .agg (entCells x.id x.node.au x.node.cl (.slice pa x.node.ps.length pc) (.slice oa x.node.ops.length oc)).toArray), (1, .agg (entCells y.id y.node.au y.node.cl (.slice qa y.node.ps.length qc) (.slice ra y.node.ops.length rc)).toArray)] Tryz.func45 rfl Tryz.ntmps45 (by simp) rfl (fun Hr => ?_)
  rw [List.nil_append]
  refine WC.seq ?_
  refine WC.region ?_
  refine WL.new (New.boxN rfl) (fun b2 => ?_)
  refine WL.new (New.boxN rfl) (fun b3 => ?_)
  refine WL.pur (Pur.assign rfl) ?_
  refine WL.nil ?_
  refine WQ.thn ?_
  refine WC.seq ?_
  refine WC.region ?_
  refine WL.pur (Pur.fieldAddr rfl fo_45_0) ?_
  refine' WL.pur (Pur.loadN rfl ty_39 ?h1_0 ?h1_1) ?k1
  case h1_0 => first | (apply Rd.own_sub; exact zmE; exact Sub.ent_hash _ _ _ _ _) | (apply RdV.rd; apply RdV.sub0; assumption; exact Sub.ent_hash _ _ _ _ _)
  case h1_1 => first | rfl | assumption
  refine WL.pur (Pur.fieldAddr rfl fo_45_0) ?_
  refine' WL.pur (Pur.loadN rfl ty_39 ?h2_0 ?h2_1) ?k2
  case h2_0 => first | (apply Rd.own_sub; exact zmE; exact Sub.ent_hash _ _ _ _ _) | (apply RdV.rd; apply RdV.sub0; assumption; exact Sub.ent_hash _ _ _ _ _)
  case h2_1 => first | rfl | assumption
  refine' WL.pur (Pur.bin rfl rfl ?h3_0) ?k3
  case h3_0 => (refine Bin.eqH isHash_39 ?_ ?_ <;> assumption)
  refine WL.pur (Pur.move rfl) ?_
  refine' WL.andp (u := 10) (t := 16) rfl ?h4_0 ?h4_1 ?h4_2 rfl ?k4
  case h4_0 =>
    intro hg10 K10
    refine WL.gpur (u := 10) rfl rfl (gT hg10) (Pur.fieldAddr rfl fo_45_1) ?_
    refine' WL.gpur (u := 10) rfl rfl (gT hg10) (Pur.loadN rfl ty_43 ?h5_0 ?h5_1) ?k5
    case h5_0 => first | (apply Rd.own_sub; exact zmE; exact Sub.ent_node _ _ _ _ _) | (apply RdV.rd; apply RdV.sub (i := 32); assumption; exact Sub.ent_node _ _ _ _ _)
    case h5_1 => first | rfl | assumption
    refine WL.gpur (u := 10) rfl rfl (gT hg10) (Pur.fieldAddr rfl fo_45_1) ?_
    refine' WL.gpur (u := 10) rfl rfl (gT hg10) (Pur.loadN rfl ty_43 ?h6_0 ?h6_1) ?k6
    case h6_0 => first | (apply Rd.own_sub; exact zmE; exact Sub.ent_node _ _ _ _ _) | (apply RdV.rd; apply RdV.sub (i := 32); assumption; exact Sub.ent_node _ _ _ _ _)
    case h6_1 => first | rfl | assumption
    refine WL.gcallP (u := 10) rfl rfl (gT hg10) rfl Tryz.call116 ((r5_Same _ x.node y.node _ _ _ _ hx hy)) ?_
    exact K10 _ zcR rfl
  case h4_1 =>
    intro hg10 K10
    refine WL.gskip (u := 10) rfl rfl (sT hg10) ?_
    refine WL.gskip (u := 10) rfl rfl (sT hg10) ?_
    refine WL.gskip (u := 10) rfl rfl (sT hg10) ?_
    refine WL.gskip (u := 10) rfl rfl (sT hg10) ?_
    refine WL.gskip (u := 10) rfl rfl (sT hg10) ?_
    exact K10 _ zcR
  case h4_2 => exact Wanted.plain rfl
  refine WL.pur (Pur.assign rfl) ?_
  refine WL.nil ?_
  refine WQ.thn ?_
  refine WC.ret ?_
  refine WQ.ret1 Tryz.results45 rfl [] zsL (View.le_refl _) ?_
  refine ⟨?_, rfl, rfl⟩
  exact decB entD_eq

end Go.Proofs.YtgoooilgmabkmaaGreat
namespace Go.Proofs.YtgoooilgmabkmaaGreat
open Go Go.Sl
set_option linter.unusedVariables false
set_option linter.unusedSimpArgs false
set_option maxRecDepth 100000

theorem law16_sum (σ : View) (lv : Value) (l : List EntD) (key : ByteArray) (h : Ents σ lv l) :
    TriP Tryz.prog 33 #[lv, .string key] σ (.tuple #[.int .i64 (IntKind.i64.wrap (sumOps key (opsTo l l.length) 0)), .bool (decide (∃ o ∈ opsTo l l.length, zeroOn key o))]) := by
  have h' := h
  obtain ⟨la, lc, rfl, hlc, hlb⟩ := h.shape
  obtain ⟨b, off, hel⟩ := addr_of h
  refine Tri.of_body [(0, .slice la l.length lc), (1, .string key)] Tryz.func33 rfl Tryz.ntmps33 (by simp) rfl (fun Hr => ?_)
  rw [List.nil_append]
  refine WC.seq ?_
  refine WC.region ?_
  refine WL.pur (Pur.assign rfl) ?_
  refine WL.pur (Pur.assign rfl) ?_
  refine WL.nil ?_
  refine WQ.thn ?_
  refine WC.seq ?_
  refine WC.region ?_
  refine WL.pur (Pur.assign rfl) ?_
  refine WL.nil ?_
  refine WQ.thn ?_
  refine WC.seq ?_
  refine WC.region ?_
  refine WL.pur (Pur.assign rfl) ?_
  refine WL.nil ?_
  refine WQ.thn ?_
  refine WC.seq ?_
  refine WC.seq ?_
  refine WC.region ?_
  refine WL.pur (Pur.assign rfl) ?_
  refine WL.nil ?_
  refine WQ.thn ?_
  refine WC.block ?_
  refine WC.loop (fun j m σ' H' => ∃ (i : Nat) (a : Int) (zp : Prop) (_ : Decidable zp), j = l.length - i ∧ i ≤ l.length ∧ a = sumOps key (opsTo l i) 0 ∧ (zp ↔ ∃ o ∈ opsTo l i, zeroOn key o) ∧ m = [(0, .slice la l.length lc), (1, .string key), (6, .int .u64 a), (7, .bool (decide zp)), (8, .int .i64 (i : Int))] ∧ σ' = σ ∧ H' = Hr) ⟨0, 0, False, inferInstance, rfl, by omega, by rw [opsTo_zero]; rfl, by rw [opsTo_zero]; simp, rfl, rfl, rfl⟩ zcV zsL ?_
  rintro _ _ σ Hr ⟨i, a, zp, inst, rfl, hi, ha, hz, rfl, rfl, rfl⟩
  refine WC.seq ?_
  refine WC.seq ?_
  refine WC.region ?_
  refine WL.pur (Pur.move rfl) ?_
  refine WL.pur (Pur.move rfl) ?_
  refine WL.pur (Pur.len rfl isSlice_22) ?_
  refine' WL.pur (Pur.bin rfl rfl ?h1_0) ?k1
  case h1_0 => first | exact Bin.ltN | exact Bin.ltI | exact Bin.ltS
  refine WL.nil ?_
  refine WQ.thn ?_
  first | refine WC.cond rfl (fun hc0 => ?_) (fun hc0 => ?_) | refine WC.condB rfl (fun hc0 => ?_) (fun hc0 => ?_)
  · obtain ⟨e, he⟩ : ∃ e, l[i]? = some e := ⟨_, List.getElem?_eq_getElem (by omega)⟩
    obtain ⟨qv, ov, hrd, heH, hNR⟩ := ent_rd h' hel he
    have hops := hNR.2.1
    obtain ⟨pa, pc, rfl, hpc, hpb⟩ := hNR.1.shape
    obtain ⟨oa, oc, rfl, hoc, hob⟩ := hNR.2.1.shape
    obtain ⟨ob, ooff, heo, hoat⟩ := hops.rds
    refine WC.skip ?_
    refine WQ.thn ?_
    refine WC.seq ?_
    refine WC.block ?_
    refine WC.seq ?_
    refine WC.region ?_
    refine WL.pur (Pur.assign rfl) ?_
    refine WL.nil ?_
    refine WQ.thn ?_
    refine WC.block ?_
    refine WC.loop (fun j m σ' H' => ∃ (q : Nat) (a : Int) (zp : Prop) (_ : Decidable zp), j = e.node.ops.length - q ∧ q ≤ e.node.ops.length ∧ a = sumOps key (opsTo l i ++ e.node.ops.take q) 0 ∧ (zp ↔ ∃ o ∈ opsTo l i ++ e.node.ops.take q, zeroOn key o) ∧ m = [(0, .slice la l.length lc), (1, .string key), (6, .int .u64 a), (7, .bool (decide zp)), (8, .int .i64 (i : Int)), (9, .int .i64 (q : Int))] ∧ σ' = σ ∧ H' = Hr) ⟨0, a, zp, inst, rfl, by omega, by simpa using ha, by simpa using hz, rfl, rfl, rfl⟩ zcV zsL ?_
    rintro _ _ σ Hr ⟨q, a, zp, inst, rfl, hq, ha, hz, rfl, rfl, rfl⟩
    refine WC.seq ?_
    refine WC.seq ?_
    refine WC.region ?_
    refine WL.pur (Pur.move rfl) ?_
    refine WL.pur (Pur.move rfl) ?_
    refine WL.pur (Pur.move rfl) ?_
    refine' WL.pur (Pur.indexAddr (eqA (hel (by omega))) rfl sl_22 ?h2_0) ?k2
    case h2_0 => omega
    refine WL.pur (Pur.fieldAddr rfl fo_45_1) ?_
    refine WL.pur (Pur.fieldAddr rfl fo_43_3) ?_
    refine' WL.pur (Pur.load1 rfl ty_40 ?h3_0) ?k3
    case h3_0 => first | (apply Rd.own1; exact zmE; rfl) | (apply RdV.rd; apply RdV.idx (i := 35); assumption; rfl) | (apply RdV.rd; apply RdV.idx (off := 0) (i := 35); assumption; rfl)
    refine WL.pur (Pur.len rfl isSlice_40) ?_
    refine' WL.pur (Pur.bin rfl rfl ?h4_0) ?k4
    case h4_0 => first | exact Bin.ltN | exact Bin.ltI | exact Bin.ltS
    refine WL.nil ?_
    refine WQ.thn ?_
    first | refine WC.cond rfl (fun hc1 => ?_) (fun hc1 => ?_) | refine WC.condB rfl (fun hc1 => ?_) (fun hc1 => ?_)
    · obtain ⟨o, hoq⟩ : ∃ o, e.node.ops[q]? = some o := ⟨_, List.getElem?_eq_getElem (by omega)⟩
      obtain ⟨vs, _, _, ⟨rfl, hook⟩, hord⟩ := hoat q o hoq
      refine WC.skip ?_
      refine WQ.thn ?_
      refine WC.seq ?_
      refine WC.block ?_
      refine WC.seq ?_
      refine WC.region ?_
      refine WL.pur (Pur.move rfl) ?_
      refine WL.pur (Pur.move rfl) ?_
      refine' WL.pur (Pur.indexAddr (eqA (hel (by omega))) rfl sl_22 ?h5_0) ?k5
      case h5_0 => omega
      refine WL.pur (Pur.fieldAddr rfl fo_45_1) ?_
      refine WL.pur (Pur.fieldAddr rfl fo_43_3) ?_
      refine' WL.pur (Pur.load1 rfl ty_40 ?h6_0) ?k6
      case h6_0 => first | (apply Rd.own1; exact zmE; rfl) | (apply RdV.rd; apply RdV.idx (i := 35); assumption; rfl) | (apply RdV.rd; apply RdV.idx (off := 0) (i := 35); assumption; rfl)
      refine WL.pur (Pur.move rfl) ?_
      refine' WL.pur (Pur.indexAddr (eqA (heo (by omega))) rfl sl_40 ?h7_0) ?k7
      case h7_0 => omega
      refine' WL.pur (Pur.loadN rfl ty_51 ?h8_0 ?h8_1) ?k8
      case h8_0 => exact RdV.rd hord
      case h8_1 => first | rfl | assumption
      refine WL.new (New.alloc zc_51) (fun b10 => ?_)
      refine' WL.run0 (Run.storeAll rfl rfl ty_51 ?h9_0 (by first | rfl | assumption) ?h9_1 (by first | rfl | assumption)) ?k9
      case h9_0 => repeat (first | exact Part.one | exact Part.here | apply Part.cons | apply Part.app)
      case h9_1 => first | rfl | assumption
      refine WL.nil ?_
      refine WQ.thn ?_
      refine WC.seq ?_
      refine WC.seq ?_
      refine WC.region ?_
      refine WL.pur (Pur.fieldAddr rfl fo_51_1) ?_
      refine' WL.pur (Pur.load1 rfl ty_9 ?h10_0) ?k10
      case h10_0 => first | (apply Rd.own1; exact zmE; rfl) | (apply RdV.rd; apply RdV.idx (i := 1); assumption; rfl) | (apply RdV.rd; apply RdV.idx (off := 0) (i := 1); assumption; rfl)
      refine WL.pur (Pur.move rfl) ?_
      refine' WL.pur (Pur.bin rfl rfl ?h11_0) ?k11
      case h11_0 => exact Bin.eqS
      refine WL.pur (Pur.move rfl) ?_
      refine' WL.andp (u := 41) (t := 45) rfl ?h12_0 ?h12_1 ?h12_2 rfl ?k12
      case h12_0 =>
        intro hg41 K41
        refine WL.gpur (u := 41) rfl rfl (gT hg41) (Pur.fieldAddr rfl fo_51_0) ?_
        refine' WL.gpur (u := 41) rfl rfl (gT hg41) (Pur.load1 rfl ty_3 ?h13_0) ?k13
        case h13_0 => first | (apply Rd.own1; exact zmE; rfl) | (apply RdV.rd; apply RdV.idx (i := 0); assumption; rfl)
        refine' WL.gpur (u := 41) rfl rfl (gT hg41) (Pur.bin rfl rfl ?h14_0) ?k14
        case h14_0 => first | exact Bin.eqN (b := 6) | exact Bin.eqI
        exact K41 _ zcR rfl
      case h12_1 =>
        intro hg41 K41
        refine WL.gskip (u := 41) rfl rfl (sT hg41) ?_
        refine WL.gskip (u := 41) rfl rfl (sT hg41) ?_
        refine WL.gskip (u := 41) rfl rfl (sT hg41) ?_
        exact K41 _ zcR
      case h12_2 => exact Wanted.plain rfl
      refine WL.nil ?_
      refine WQ.thn ?_
      first | refine WC.cond rfl (fun hc2 => ?_) (fun hc2 => ?_) | refine WC.condB rfl (fun hc2 => ?_) (fun hc2 => ?_)
      · refine WC.region ?_
        refine WL.pur (Pur.move rfl) ?_
        refine WL.pur (Pur.fieldAddr rfl fo_51_3) ?_
        refine' WL.pur (Pur.load1 rfl ty_2 ?h15_0) ?k15
        case h15_0 => first | (apply Rd.own1; exact zmE; rfl) | (apply RdV.rd; apply RdV.idx (i := 3); assumption; rfl) | (apply RdV.rd; apply RdV.idx (off := 0) (i := 3); assumption; rfl)
        refine WL.pur ((Pur.conv (ks := .i64) (kt := .u64) rfl (by kernel_rfl) (by kernel_rfl))) ?_
        refine' WL.pur (Pur.bin rfl rfl ?h16_0) ?k16
        case h16_0 => exact Bin.addWU
        refine WL.pur (Pur.assign rfl) ?_
        refine WL.nil ?_
        refine WQ.thn ?_
        refine WC.region ?_
        refine WL.pur (Pur.move rfl) ?_
        refine WL.pur (Pur.move rfl) ?_
        refine' WL.orp (u := 52) (t := 62) rfl ?h17_0 ?h17_1 ?h17_2 rfl ?k17
        case h17_0 =>
          intro hg52 K52
          refine WL.gpur (u := 52) rfl rfl (gF hg52) (Pur.fieldAddr rfl fo_51_1) ?_
          refine' WL.gpur (u := 52) rfl rfl (gF hg52) (Pur.load1 rfl ty_9 ?h18_0) ?k18
          case h18_0 => first | (apply Rd.own1; exact zmE; rfl) | (apply RdV.rd; apply RdV.idx (i := 1); assumption; rfl) | (apply RdV.rd; apply RdV.idx (off := 0) (i := 1); assumption; rfl)
          refine WL.gpur (u := 52) rfl rfl (gF hg52) (Pur.move rfl) ?_
          refine' WL.gpur (u := 52) rfl rfl (gF hg52) (Pur.bin rfl rfl ?h19_0) ?k19
          case h19_0 => exact Bin.eqS
          refine WL.gpur (u := 52) rfl rfl (gF hg52) (Pur.move rfl) ?_
          refine' WL.andp (u := 57) (t := 61) rfl ?h20_0 ?h20_1 ?h20_2 rfl ?k20
          case h20_0 =>
            intro hg57 K57
            refine WL.gpur (u := 57) rfl rfl (gT hg57) (Pur.fieldAddr rfl fo_51_0) ?_
            refine' WL.gpur (u := 57) rfl rfl (gT hg57) (Pur.load1 rfl ty_3 ?h21_0) ?k21
            case h21_0 => first | (apply Rd.own1; exact zmE; rfl) | (apply RdV.rd; apply RdV.idx (i := 0); assumption; rfl)
            refine' WL.gpur (u := 57) rfl rfl (gT hg57) (Pur.bin rfl rfl ?h22_0) ?k22
            case h22_0 => first | exact Bin.eqN (b := 7) | exact Bin.eqI
            exact K57 _ zcR rfl
          case h20_1 =>
            intro hg57 K57
            refine WL.gskip (u := 57) rfl rfl (sT hg57) ?_
            refine WL.gskip (u := 57) rfl rfl (sT hg57) ?_
            refine WL.gskip (u := 57) rfl rfl (sT hg57) ?_
            exact K57 _ zcR
          case h20_2 => exact Wanted.guard (u := 52) rfl rfl rfl (gF hg52)
          exact K52 _ zcR rfl
        case h17_1 =>
          intro hg52 K52
          refine WL.gskip (u := 52) rfl rfl (sF hg52) ?_
          refine WL.gskip (u := 52) rfl rfl (sF hg52) ?_
          refine WL.gskip (u := 52) rfl rfl (sF hg52) ?_
          refine WL.gskip (u := 52) rfl rfl (sF hg52) ?_
          refine WL.gskip (u := 52) rfl rfl (sF hg52) ?_
          refine WL.gskipU (u := 57) rfl rfl ?_
          refine WL.gskipU (u := 57) rfl rfl ?_
          refine WL.gskipU (u := 57) rfl rfl ?_
          refine WL.gskip (u := 52) rfl rfl (sF hg52) ?_
          exact K52 _ zcR
        case h17_2 => exact Wanted.plain rfl
        refine WL.pur (Pur.assign rfl) ?_
        refine WL.nil ?_
        refine WQ.blk ?_
        refine WQ.thn ?_
        refine WC.region ?_
        refine WL.pur (Pur.move rfl) ?_
        refine' WL.pur (Pur.bin rfl rfl ?h23_0) ?k23
        case h23_0 => first | (refine Bin.addN (b := 1) ?_; omega) | (refine Bin.addI ?_; omega)
        refine WL.pur (Pur.assign rfl) ?_
        refine WL.nil ?_
        refine WQ.back _ ⟨q + 1, (IntKind.u64.wrap (a + IntKind.u64.wrap o.n)), (zp ∨ zeroOn key o), inferInstance, rfl, by omega, by rw [take_snoc hoq, sumOps_snoc, ← ha]; unfold addN; rw [if_pos hc2], by rw [take_snoc hoq]; exact any_snoc hz, rfl, rfl, rfl⟩ (by omega) zcV zsL
      · refine WC.skip ?_
        refine WQ.thn ?_
        refine WC.region ?_
        refine WL.pur (Pur.move rfl) ?_
        refine WL.pur (Pur.move rfl) ?_
        refine' WL.orp (u := 52) (t := 62) rfl ?h24_0 ?h24_1 ?h24_2 rfl ?k24
        case h24_0 =>
          intro hg52 K52
          refine WL.gpur (u := 52) rfl rfl (gF hg52) (Pur.fieldAddr rfl fo_51_1) ?_
          refine' WL.gpur (u := 52) rfl rfl (gF hg52) (Pur.load1 rfl ty_9 ?h25_0) ?k25
          case h25_0 => first | (apply Rd.own1; exact zmE; rfl) | (apply RdV.rd; apply RdV.idx (i := 1); assumption; rfl) | (apply RdV.rd; apply RdV.idx (off := 0) (i := 1); assumption; rfl)
          refine WL.gpur (u := 52) rfl rfl (gF hg52) (Pur.move rfl) ?_
          refine' WL.gpur (u := 52) rfl rfl (gF hg52) (Pur.bin rfl rfl ?h26_0) ?k26
          case h26_0 => exact Bin.eqS
          refine WL.gpur (u := 52) rfl rfl (gF hg52) (Pur.move rfl) ?_
          refine' WL.andp (u := 57) (t := 61) rfl ?h27_0 ?h27_1 ?h27_2 rfl ?k27
          case h27_0 =>
            intro hg57 K57
            refine WL.gpur (u := 57) rfl rfl (gT hg57) (Pur.fieldAddr rfl fo_51_0) ?_
            refine' WL.gpur (u := 57) rfl rfl (gT hg57) (Pur.load1 rfl ty_3 ?h28_0) ?k28
            case h28_0 => first | (apply Rd.own1; exact zmE; rfl) | (apply RdV.rd; apply RdV.idx (i := 0); assumption; rfl)
            refine' WL.gpur (u := 57) rfl rfl (gT hg57) (Pur.bin rfl rfl ?h29_0) ?k29
            case h29_0 => first | exact Bin.eqN (b := 7) | exact Bin.eqI
            exact K57 _ zcR rfl
          case h27_1 =>
            intro hg57 K57
            refine WL.gskip (u := 57) rfl rfl (sT hg57) ?_
            refine WL.gskip (u := 57) rfl rfl (sT hg57) ?_
            refine WL.gskip (u := 57) rfl rfl (sT hg57) ?_
            exact K57 _ zcR
          case h27_2 => exact Wanted.guard (u := 52) rfl rfl rfl (gF hg52)
          exact K52 _ zcR rfl
        case h24_1 =>
          intro hg52 K52
          refine WL.gskip (u := 52) rfl rfl (sF hg52) ?_
          refine WL.gskip (u := 52) rfl rfl (sF hg52) ?_
          refine WL.gskip (u := 52) rfl rfl (sF hg52) ?_
          refine WL.gskip (u := 52) rfl rfl (sF hg52) ?_
          refine WL.gskip (u := 52) rfl rfl (sF hg52) ?_
          refine WL.gskipU (u := 57) rfl rfl ?_
          refine WL.gskipU (u := 57) rfl rfl ?_
          refine WL.gskipU (u := 57) rfl rfl ?_
          refine WL.gskip (u := 52) rfl rfl (sF hg52) ?_
          exact K52 _ zcR
        case h24_2 => exact Wanted.plain rfl
        refine WL.pur (Pur.assign rfl) ?_
        refine WL.nil ?_
        refine WQ.blk ?_
        refine WQ.thn ?_
        refine WC.region ?_
        refine WL.pur (Pur.move rfl) ?_
        refine' WL.pur (Pur.bin rfl rfl ?h30_0) ?k30
        case h30_0 => first | (refine Bin.addN (b := 1) ?_; omega) | (refine Bin.addI ?_; omega)
        refine WL.pur (Pur.assign rfl) ?_
        refine WL.nil ?_
        refine WQ.back _ ⟨q + 1, a, (zp ∨ zeroOn key o), inferInstance, rfl, by omega, by rw [take_snoc hoq, sumOps_snoc, ← ha]; unfold addN; rw [if_neg hc2], by rw [take_snoc hoq]; exact any_snoc hz, rfl, rfl, rfl⟩ (by omega) zcV zsL
    · have hqq : q = e.node.ops.length := by omega
      subst hqq
      rw [List.take_length] at ha hz
      refine WC.exit ?_
      refine WQ.thn_exit ?_
      refine WQ.back_exit ?_
      refine WQ.blk_here ?_
      refine WQ.blk ?_
      refine WQ.thn ?_
      refine WC.region ?_
      refine WL.pur (Pur.move rfl) ?_
      refine' WL.pur (Pur.bin rfl rfl ?h31_0) ?k31
      case h31_0 => first | (refine Bin.addN (b := 1) ?_; omega) | (refine Bin.addI ?_; omega)
      refine WL.pur (Pur.assign rfl) ?_
      refine WL.nil ?_
      refine WQ.back _ ⟨i + 1, a, zp, inst, rfl, by omega, by rw [opsTo_step he]; exact ha, by rw [opsTo_step he]; exact hz, rfl, rfl, rfl⟩ (by omega) zcV zsL
  · have hil : i = l.length := by omega
    subst hil
    refine WC.exit ?_
    refine WQ.thn_exit ?_
    refine WQ.back_exit ?_
    refine WQ.blk_here ?_
    refine WQ.thn ?_
    refine WC.seq ?_
    refine WC.region ?_
    refine WL.pur (Pur.move rfl) ?_
    refine WL.pur ((Pur.conv (ks := .u64) (kt := .i64) rfl (by kernel_rfl) (by kernel_rfl))) ?_
    refine WL.pur (Pur.move rfl) ?_
    refine WL.pur (Pur.assign rfl) ?_
    refine WL.pur (Pur.assign rfl) ?_
    refine WL.nil ?_
    refine WQ.thn ?_
    refine WC.ret ?_
    refine WQ.ret2 Tryz.results33 rfl rfl [] zsL (View.le_refl _) ?_
    refine ⟨?_, rfl, rfl⟩
    rw [ha, decB hz]

end Go.Proofs.YtgoooilgmabkmaaGreat
namespace Go.Proofs.YtgoooilgmabkmaaGreat
open Go Go.Sl
set_option linter.unusedVariables false
set_option linter.unusedSimpArgs false
set_option maxRecDepth 100000

theorem r11_Sees (σ : View) (pv : Value) (L : List EntD) (i j : Nat) (h : R11V σ pv L) (ho : OrdOk L) (hj : j < L.length) (hi : i < L.length) :
    TriP Tryz.prog 115 #[pv, .int .i64 (i : Int), .int .i64 (j : Int)] σ (.bool (decide (seesN L i j = true))) := by
  obtain ⟨b, plv, psv, pqv, rfl, hr, hE, hS, hQ⟩ := h
  obtain ⟨pla, plc, rfl, hplc, hplb⟩ := hE.shape
  obtain ⟨plb, ploff, hel⟩ := addr_of hE
  have hmost := ho.most
  obtain ⟨psa, psc, rfl, hpsc, hpsb⟩ := hS.shape
  obtain ⟨sb, soff, hes, hsat⟩ := hS.rds
  rw [List.length_range] at hes
  obtain ⟨vs, _, _, ⟨wv, rfl, _, hw⟩, hwr⟩ := hsat j j (List.getElem?_range hj)
  obtain ⟨wa, wc, rfl, hwc, hwb⟩ := hw.shape
  obtain ⟨wb, woff, hew, hwat⟩ := hw.rds
  have hwl := wordsN_len L j
  have hiw : i / 64 < (L.length + 63) / 64 := by omega
  have hww := wordsN_get (L := L) (j := j) hiw
  obtain ⟨ws, _, _, rfl, hwd⟩ := hwat _ _ hww
  have hwlt := wordN_lt ((rowsN L L.length).getD j 0) (i / 64)
  have hask := wordN_ask ((rowsN L L.length).getD j 0) i
  rw [Nat.shiftRight_eq_div_pow] at hask
  have hdl := Nat.div_le_self (wordN ((rowsN L L.length).getD j 0) (i / 64)) (2 ^ (i % 64))
  have hlr : (List.range L.length).length = L.length := List.length_range
  refine Tri.of_body [(0, .pointer (some ⟨b, 0, none⟩)), (1, .int .i64 (i : Int)), (2, .int .i64 (j : Int))] Tryz.func115 rfl Tryz.ntmps115 (by simp) rfl (fun Hr => ?_)
  rw [List.nil_append]
  refine WC.seq ?_
  refine WC.region ?_
  refine WL.pur (Pur.assign rfl) ?_
  refine WL.nil ?_
  refine WQ.thn ?_
  refine WC.seq ?_
  refine WC.seq ?_
  refine WC.region ?_
  refine WL.pur (Pur.move rfl) ?_
  refine' WL.pur (Pur.bin rfl rfl ?h1_0) ?k1
  case h1_0 => first | exact Bin.ltN (b := 0) | exact Bin.ltI | exact Bin.ltS
  refine WL.pur (Pur.move rfl) ?_
  refine' WL.orp (u := 9) (t := 17) rfl ?h2_0 ?h2_1 ?h2_2 rfl ?k2
  case h2_0 =>
    intro hg9 K9
    refine WL.gpur (u := 9) rfl rfl (gF hg9) (Pur.move rfl) ?_
    refine WL.gpur (u := 9) rfl rfl (gF hg9) (Pur.move rfl) ?_
    refine WL.gpur (u := 9) rfl rfl (gF hg9) (Pur.nilCheck rfl) ?_
    refine WL.gpur (u := 9) rfl rfl (gF hg9) (Pur.fieldAddr rfl fo_74_0) ?_
    refine' WL.gpur (u := 9) rfl rfl (gF hg9) (Pur.load1 rfl ty_22 ?h3_0) ?k3
    case h3_0 => first | (apply Rd.own1; exact zmE; rfl) | (apply RdV.rd; apply RdV.idx (i := 0); assumption; rfl)
    refine WL.gpur (u := 9) rfl rfl (gF hg9) (Pur.len rfl isSlice_22) ?_
    refine' WL.gpur (u := 9) rfl rfl (gF hg9) (Pur.bin rfl rfl ?h4_0) ?k4
    case h4_0 => first | exact Bin.geN | exact Bin.geI
    exact K9 _ zcR rfl
  case h2_1 =>
    intro hg9 K9
    refine WL.gskip (u := 9) rfl rfl (sF hg9) ?_
    refine WL.gskip (u := 9) rfl rfl (sF hg9) ?_
    refine WL.gskip (u := 9) rfl rfl (sF hg9) ?_
    refine WL.gskip (u := 9) rfl rfl (sF hg9) ?_
    refine WL.gskip (u := 9) rfl rfl (sF hg9) ?_
    refine WL.gskip (u := 9) rfl rfl (sF hg9) ?_
    refine WL.gskip (u := 9) rfl rfl (sF hg9) ?_
    exact K9 _ zcR
  case h2_2 => exact Wanted.plain rfl
  refine WL.pur (Pur.move rfl) ?_
  refine' WL.orp (u := 18) (t := 21) rfl ?h5_0 ?h5_1 ?h5_2 rfl ?k5
  case h5_0 =>
    intro hg18 K18
    refine WL.gpur (u := 18) rfl rfl (gF hg18) (Pur.move rfl) ?_
    refine' WL.gpur (u := 18) rfl rfl (gF hg18) (Pur.bin rfl rfl ?h6_0) ?k6
    case h6_0 => first | exact Bin.ltN (b := 0) | exact Bin.ltI | exact Bin.ltS
    exact K18 _ zcR rfl
  case h5_1 =>
    intro hg18 K18
    refine WL.gskip (u := 18) rfl rfl (sF hg18) ?_
    refine WL.gskip (u := 18) rfl rfl (sF hg18) ?_
    exact K18 _ zcR
  case h5_2 => exact Wanted.plain rfl
  refine WL.pur (Pur.move rfl) ?_
  refine' WL.orp (u := 22) (t := 30) rfl ?h7_0 ?h7_1 ?h7_2 rfl ?k7
  case h7_0 =>
    intro hg22 K22
    refine WL.gpur (u := 22) rfl rfl (gF hg22) (Pur.move rfl) ?_
    refine WL.gpur (u := 22) rfl rfl (gF hg22) (Pur.move rfl) ?_
    refine WL.gpur (u := 22) rfl rfl (gF hg22) (Pur.nilCheck rfl) ?_
    refine WL.gpur (u := 22) rfl rfl (gF hg22) (Pur.fieldAddr rfl fo_74_0) ?_
    refine' WL.gpur (u := 22) rfl rfl (gF hg22) (Pur.load1 rfl ty_22 ?h8_0) ?k8
    case h8_0 => first | (apply Rd.own1; exact zmE; rfl) | (apply RdV.rd; apply RdV.idx (i := 0); assumption; rfl)
    refine WL.gpur (u := 22) rfl rfl (gF hg22) (Pur.len rfl isSlice_22) ?_
    refine' WL.gpur (u := 22) rfl rfl (gF hg22) (Pur.bin rfl rfl ?h9_0) ?k9
    case h9_0 => first | exact Bin.geN | exact Bin.geI
    exact K22 _ zcR rfl
  case h7_1 =>
    intro hg22 K22
    refine WL.gskip (u := 22) rfl rfl (sF hg22) ?_
    refine WL.gskip (u := 22) rfl rfl (sF hg22) ?_
    refine WL.gskip (u := 22) rfl rfl (sF hg22) ?_
    refine WL.gskip (u := 22) rfl rfl (sF hg22) ?_
    refine WL.gskip (u := 22) rfl rfl (sF hg22) ?_
    refine WL.gskip (u := 22) rfl rfl (sF hg22) ?_
    refine WL.gskip (u := 22) rfl rfl (sF hg22) ?_
    exact K22 _ zcR
  case h7_2 => exact Wanted.plain rfl
  refine WL.nil ?_
  refine WQ.thn ?_
  first | refine WC.cond rfl (fun hc0 => ?_) (fun hc0 => ?_) | refine WC.condB rfl (fun hc0 => ?_) (fun hc0 => ?_)
  · exfalso; omega
  · refine WC.skip ?_
    refine WQ.thn ?_
    refine WC.seq ?_
    refine WC.region ?_
    refine WL.pur (Pur.move rfl) ?_
    refine WL.pur (Pur.nilCheck rfl) ?_
    refine WL.pur (Pur.fieldAddr rfl fo_74_1) ?_
    refine' WL.pur (Pur.load1 rfl ty_71 ?h10_0) ?k10
    case h10_0 => first | (apply Rd.own1; exact zmE; rfl) | (apply RdV.rd; apply RdV.idx (i := 1); assumption; rfl) | (apply RdV.rd; apply RdV.idx (off := 0) (i := 1); assumption; rfl)
    refine WL.pur (Pur.move rfl) ?_
    refine' WL.pur (Pur.indexAddr (eqA (hes (by omega))) rfl sl_71 ?h11_0) ?k11
    case h11_0 => omega
    refine' WL.pur (Pur.load1 rfl ty_151 ?h12_0) ?k12
    case h12_0 => exact RdV.rd hwr
    refine WL.pur (Pur.move rfl) ?_
    refine' WL.pur (Pur.bin rfl rfl ?h13_0) ?k13
    case h13_0 => first | (refine Bin.quoN (b := 64) ?_ ?_ <;> omega)
    refine' WL.pur (Pur.indexAddr (eqA (hew (by omega))) rfl sl_151 ?h14_0) ?k14
    case h14_0 => omega
    refine' WL.pur (Pur.load1 rfl ty_60 ?h15_0) ?k15
    case h15_0 => exact RdV.rd hwd
    refine WL.pur (Pur.move rfl) ?_
    refine' WL.pur (Pur.bin rfl rfl ?h16_0) ?k16
    case h16_0 => first | (refine Bin.remN (b := 64) ?_; omega)
    refine' WL.pur (Pur.bin rfl rfl ?h17_0) ?k17
    case h17_0 => first | (refine Bin.shrU ?_; omega)
    refine' WL.pur (Pur.bin rfl rfl ?h18_0) ?k18
    case h18_0 => first | (refine Bin.andU (b := 1) ?_ ?_ <;> omega)
    refine' WL.pur (Pur.bin rfl rfl ?h19_0) ?k19
    case h19_0 => first | exact Bin.eqN (b := 1) | exact Bin.eqI
    refine WL.pur (Pur.assign rfl) ?_
    refine WL.nil ?_
    refine WQ.thn ?_
    refine WC.ret ?_
    refine WQ.ret1 Tryz.results115 rfl [] zsL (View.le_refl _) ?_
    refine ⟨?_, rfl, rfl⟩
    exact decB hask

theorem r11_Operation (σ : View) (pv : Value) (L : List EntD) (t : Trip) (h : R11V σ pv L) (ho : OrdOk L) (ht : t.1 < L.length) (h1 : 1 ≤ t.2.1) (h2 : (opsAt L t.1)[t.2.1 - 1]? = some t.2.2) :
    TriP Tryz.prog 105 #[pv, .agg #[.int .i64 (t.1 : Int), .int .i64 (t.2.1 : Int)]] σ (.agg t.2.2.cells.toArray) := by
  obtain ⟨b, plv, psv, pqv, rfl, hr, hE, hS, hQ⟩ := h
  obtain ⟨pla, plc, rfl, hplc, hplb⟩ := hE.shape
  obtain ⟨plb, ploff, hel⟩ := addr_of hE
  have hmost := ho.most
  obtain ⟨i, k, o⟩ := t
  simp only at ht h1 h2
  obtain ⟨e, he⟩ : ∃ e, L[i]? = some e := ⟨_, List.getElem?_eq_getElem (by omega)⟩
  obtain ⟨qv, ov, hrd, heH, hNR⟩ := ent_rd hE hel he
  have hops := hNR.2.1
  obtain ⟨pa, pc, rfl, hpc, hpb⟩ := hNR.1.shape
  obtain ⟨oa, oc, rfl, hoc, hob⟩ := hops.shape
  obtain ⟨ob, ooff, heo, hoat⟩ := hops.rds
  have hop := opsAt_of he
  have hol : e.node.ops.length ≤ 1024 := by rw [← hop]; exact opsAt_len ho i
  rw [hop] at h2
  have hkl := (List.getElem?_eq_some_iff.1 h2).1
  obtain ⟨vs, _, _, ⟨rfl, hook⟩, hord⟩ := hoat (k - 1) o h2
  refine Tri.of_body [(0, .pointer (some ⟨b, 0, none⟩)), (1, .agg #[.int .i64 (i : Int), .int .i64 (k : Int)])] Tryz.func105 rfl Tryz.ntmps105 (by simp) rfl (fun Hr => ?_)
  rw [List.nil_append]
  refine WC.seq ?_
  refine WC.region ?_
  refine WL.new (New.boxN rfl) (fun b3 => ?_)
  refine WL.new (New.alloc zc_51) (fun b4 => ?_)
  refine WL.nil ?_
  refine WQ.thn ?_
  refine WC.seq ?_
  refine WC.drawH 15 16 mixed (by kernel_rfl) rfl ?_
  refine SA.takeW 0 (by kernel_rfl) rfl rfl rfl (Wanted.plain rfl) (tells_move rfl) ?_
  refine SA.takeP 1 (by kernel_rfl) rfl rfl rfl (Wanted.plain rfl) (fun _ _ => Pur.nilCheck rfl) ?_
  refine SA.takeP 2 (by kernel_rfl) rfl rfl rfl (Wanted.plain rfl) (fun _ _ => Pur.fieldAddr rfl fo_74_0) ?_
  refine' SA.take 3 (by kernel_rfl) rfl rfl rfl (Wanted.plain rfl) zsL (View.le_refl _) (Pur.load1 rfl ty_22 ?h1_0) ?k1
  case h1_0 => first | (apply Rd.own1; exact zmE; rfl) | (apply RdV.rd; apply RdV.idx (i := 0); assumption; rfl)
  refine SA.takeP 4 (by kernel_rfl) rfl rfl rfl (Wanted.plain rfl) (fun _ _ => Pur.fieldAddr rfl fo_164_0) ?_
  refine' SA.take 5 (by kernel_rfl) rfl rfl rfl (Wanted.plain rfl) zsL (View.le_refl _) (Pur.load1 rfl ty_3 ?h2_0) ?k2
  case h2_0 => first | (apply Rd.own1; exact zmE; rfl) | (apply RdV.rd; apply RdV.idx (i := 0); assumption; rfl)
  refine' SA.takeP 6 (by kernel_rfl) rfl rfl rfl (Wanted.plain rfl) (fun _ _ => Pur.indexAddr (eqA (hel (by omega))) rfl sl_22 ?h3_0) ?k3
  case h3_0 => omega
  refine SA.takeP 7 (by kernel_rfl) rfl rfl rfl (Wanted.plain rfl) (fun _ _ => Pur.fieldAddr rfl fo_45_1) ?_
  refine SA.takeP 8 (by kernel_rfl) rfl rfl rfl (Wanted.plain rfl) (fun _ _ => Pur.fieldAddr rfl fo_43_3) ?_
  refine' SA.take 9 (by kernel_rfl) rfl rfl rfl (Wanted.plain rfl) zsL (View.le_refl _) (Pur.load1 rfl ty_40 ?h4_0) ?k4
  case h4_0 => first | (apply Rd.own1; exact zmE; rfl) | (apply RdV.rd; apply RdV.idx (i := 35); assumption; rfl) | (apply RdV.rd; apply RdV.idx (off := 0) (i := 35); assumption; rfl)
  refine SA.takeP 10 (by kernel_rfl) rfl rfl rfl (Wanted.plain rfl) (fun _ _ => Pur.fieldAddr rfl fo_164_1) ?_
  refine' SA.take 11 (by kernel_rfl) rfl rfl rfl (Wanted.plain rfl) zsL (View.le_refl _) (Pur.load1 rfl ty_3 ?h5_0) ?k5
  case h5_0 => first | (apply Rd.own1; exact zmE; rfl) | (apply RdV.rd; apply RdV.idx (i := 1); assumption; rfl) | (apply RdV.rd; apply RdV.idx (off := 0) (i := 1); assumption; rfl)
  refine' SA.takeP 12 (by kernel_rfl) rfl rfl rfl (Wanted.plain rfl) (fun _ _ => Pur.bin rfl rfl ?h6_0) ?k6
  case h6_0 => first | (refine Bin.subN (b := 1) ?_ ?_ <;> omega) | (refine Bin.subI ?_; omega)
  refine' SA.takeP 13 (by kernel_rfl) rfl rfl rfl (Wanted.plain rfl) (fun _ _ => Pur.indexAddr (eqA (heo (by omega))) rfl sl_40 ?h7_0) ?k7
  case h7_0 => omega
  refine' SA.take 14 (by kernel_rfl) rfl rfl rfl (Wanted.plain rfl) zsL (View.le_refl _) (Pur.loadN rfl ty_51 ?h8_0 ?h8_1) ?k8
  case h8_0 => exact RdV.rd hord
  case h8_1 => first | rfl | assumption
  refine' SA.run 15 rfl (fun _ e => by cases e) (Wanted.plain rfl) (by kernel_rfl) (Run.storeAll rfl rfl ty_51 ?h9_0 (by first | rfl | assumption) ?h9_1 (by first | rfl | assumption)) (.inl (by decide)) ?k9
  case h9_0 => repeat (first | exact Part.one | exact Part.here | apply Part.cons | apply Part.app)
  case h9_1 => first | rfl | assumption
  refine SA.done (by kernel_rfl) ?_
  refine WQ.thn ?_
  refine WC.ret ?_
  refine' WQ.retC Tryz.results105 rfl ty_51 ?h10_0 ?h10_1 [] zsL (View.le_refl _) ?k10
  case h10_0 => apply Rd.own_sub; exact zmE; exact Sub.refl _
  case h10_1 => rfl
  refine ⟨?_, rfl, rfl⟩
  rfl

theorem r11_Knows (σ : View) (pv : Value) (L : List EntD) (a c : Trip) (h : R11V σ pv L) (ho : OrdOk L) (ha : a.1 < L.length) (hc : c.1 < L.length) (hac : a.1 = c.1 → a.2.1 < c.2.1) :
    TriP Tryz.prog 106 #[pv, .agg #[.int .i64 (a.1 : Int), .int .i64 (a.2.1 : Int)], .agg #[.int .i64 (c.1 : Int), .int .i64 (c.2.1 : Int)]] σ (.bool (decide (a.1 = c.1 ∨ seesN L a.1 c.1 = true))) := by
  refine Tri.of_body [(0, pv), (1, .agg #[.int .i64 (a.1 : Int), .int .i64 (a.2.1 : Int)]), (2, .agg #[.int .i64 (c.1 : Int), .int .i64 (c.2.1 : Int)])] Tryz.func106 rfl Tryz.ntmps106 (by simp) rfl (fun Hr => ?_)
  rw [List.nil_append]
  refine WC.seq ?_
  refine WC.region ?_
  refine WL.new (New.boxN rfl) (fun b4 => ?_)
  refine WL.new (New.boxN rfl) (fun b5 => ?_)
  refine WL.pur (Pur.assign rfl) ?_
  refine WL.nil ?_
  refine WQ.thn ?_
  refine WC.seq ?_
  refine WC.seq ?_
  refine WC.region ?_
  refine WL.pur (Pur.fieldAddr rfl fo_164_0) ?_
  refine' WL.pur (Pur.load1 rfl ty_3 ?h1_0) ?k1
  case h1_0 => first | (apply Rd.own1; exact zmE; rfl) | (apply RdV.rd; apply RdV.idx (i := 0); assumption; rfl)
  refine WL.pur (Pur.fieldAddr rfl fo_164_0) ?_
  refine' WL.pur (Pur.load1 rfl ty_3 ?h2_0) ?k2
  case h2_0 => first | (apply Rd.own1; exact zmE; rfl) | (apply RdV.rd; apply RdV.idx (i := 0); assumption; rfl)
  refine' WL.pur (Pur.bin rfl rfl ?h3_0) ?k3
  case h3_0 => first | exact Bin.eqN | exact Bin.eqI
  refine WL.nil ?_
  refine WQ.thn ?_
  first | refine WC.cond rfl (fun hc0 => ?_) (fun hc0 => ?_) | refine WC.condB rfl (fun hc0 => ?_) (fun hc0 => ?_)
  · refine WC.seq ?_
    refine WC.region ?_
    refine WL.pur (Pur.fieldAddr rfl fo_164_1) ?_
    refine' WL.pur (Pur.load1 rfl ty_3 ?h4_0) ?k4
    case h4_0 => first | (apply Rd.own1; exact zmE; rfl) | (apply RdV.rd; apply RdV.idx (i := 1); assumption; rfl) | (apply RdV.rd; apply RdV.idx (off := 0) (i := 1); assumption; rfl)
    refine WL.pur (Pur.fieldAddr rfl fo_164_1) ?_
    refine' WL.pur (Pur.load1 rfl ty_3 ?h5_0) ?k5
    case h5_0 => first | (apply Rd.own1; exact zmE; rfl) | (apply RdV.rd; apply RdV.idx (i := 1); assumption; rfl) | (apply RdV.rd; apply RdV.idx (off := 0) (i := 1); assumption; rfl)
    refine' WL.pur (Pur.bin rfl rfl ?h6_0) ?k6
    case h6_0 => first | exact Bin.gtN | exact Bin.gtI
    refine WL.pur (Pur.assign rfl) ?_
    refine WL.nil ?_
    refine WQ.thn ?_
    refine WC.ret ?_
    refine WQ.thn_ret ?_
    refine WQ.ret1 Tryz.results106 rfl [] zsL (View.le_refl _) ?_
    refine ⟨?_, rfl, rfl⟩
    exact decB ⟨fun _ => .inl hc0, fun _ => hac hc0⟩
  · refine WC.skip ?_
    refine WQ.thn ?_
    refine WC.seq ?_
    refine WC.region ?_
    refine WL.pur (Pur.move rfl) ?_
    refine WL.pur (Pur.fieldAddr rfl fo_164_0) ?_
    refine' WL.pur (Pur.load1 rfl ty_3 ?h7_0) ?k7
    case h7_0 => first | (apply Rd.own1; exact zmE; rfl) | (apply RdV.rd; apply RdV.idx (i := 0); assumption; rfl)
    refine WL.pur (Pur.fieldAddr rfl fo_164_0) ?_
    refine' WL.pur (Pur.load1 rfl ty_3 ?h8_0) ?k8
    case h8_0 => first | (apply Rd.own1; exact zmE; rfl) | (apply RdV.rd; apply RdV.idx (i := 0); assumption; rfl)
    refine WL.callP rfl Tryz.call115 ((r11_Sees _ _ L a.1 c.1 h ho hc ha)) ?_
    refine WL.pur (Pur.assign rfl) ?_
    refine WL.nil ?_
    refine WQ.thn ?_
    refine WC.ret ?_
    refine WQ.ret1 Tryz.results106 rfl [] zsL (View.le_refl _) ?_
    refine ⟨?_, rfl, rfl⟩
    exact decB ⟨fun h => .inr h, fun h => h.resolve_left hc0⟩

theorem r11_Spots (σ : View) (pv : Value) (L : List EntD) (key : ByteArray) (kl kh : Int) (h : R11V σ pv L) (ho : OrdOk L) :
    Tri Tryz.prog 104 #[pv, .string key, .int .i64 kl, .int .i64 kh] σ [] (fun v σ' H' => (∃ h, SlO σ eSpot 164 2 v (tripsN L (isKey key kl kh) L.length) h ∧ H' = h) ∧ σ' = σ) := by
  obtain ⟨b, plv, psv, pqv, rfl, hr, hE, hS, hQ⟩ := h
  obtain ⟨pla, plc, rfl, hplc, hplb⟩ := hE.shape
  obtain ⟨plb, ploff, hel⟩ := addr_of hE
  have hmost := ho.most
  refine Tri.of_body [(0, .pointer (some ⟨b, 0, none⟩)), (1, .string key), (2, .int .i64 kl), (3, .int .i64 kh)] Tryz.func104 rfl Tryz.ntmps104 (by simp) rfl (fun Hr => ?_)
  rw [List.nil_append]
  refine WC.seq ?_
  refine WC.region ?_
  refine WL.pur (Pur.assign rfl) ?_
  refine WL.nil ?_
  refine WQ.thn ?_
  refine WC.seq ?_
  refine WC.region ?_
  refine WL.new (New.buildSlice0 sl_160) (fun b13 => ?_)
  refine WL.pur (Pur.assign rfl) ?_
  refine WL.nil ?_
  refine WQ.thn ?_
  refine WC.seq ?_
  refine WC.seq ?_
  refine WC.region ?_
  refine WL.pur (Pur.assign rfl) ?_
  refine WL.nil ?_
  refine WQ.thn ?_
  refine WC.block ?_
  refine WC.loop (fun j m σ' H' => ∃ (i : Nat) (sv : Value) (hl : HList), j = L.length - i ∧ i ≤ L.length ∧ SlO σ eSpot 164 2 sv (tripsN L (isKey key kl kh) i) hl ∧ m = [(0, .pointer (some ⟨b, 0, none⟩)), (1, .string key), (2, .int .i64 kl), (3, .int .i64 kh), (9, sv), (10, .int .i64 (i : Int))] ∧ σ' = σ ∧ H' = hl ++ Hr) ⟨0, _, [(b13, rowO 164 [])], rfl, by omega, SlO.row (b := b13) (ElR.nil (σ := σ) (E := eSpot) (sz := 2)), rfl, rfl, rfl⟩ zcV zsL ?_
  rintro _ _ σ Hr ⟨i, sv, hl, rfl, hi, hso, rfl, rfl, rfl⟩
  refine WC.seq ?_
  refine WC.seq ?_
  refine WC.region ?_
  refine WL.pur (Pur.move rfl) ?_
  refine WL.pur (Pur.move rfl) ?_
  refine WL.pur (Pur.nilCheck rfl) ?_
  refine WL.pur (Pur.fieldAddr rfl fo_74_0) ?_
  refine' WL.pur (Pur.load1 rfl ty_22 ?h1_0) ?k1
  case h1_0 => first | (apply Rd.own1; exact zmE; rfl) | (apply RdV.rd; apply RdV.idx (i := 0); assumption; rfl)
  refine WL.pur (Pur.len rfl isSlice_22) ?_
  refine' WL.pur (Pur.bin rfl rfl ?h2_0) ?k2
  case h2_0 => first | exact Bin.ltN | exact Bin.ltI | exact Bin.ltS
  refine WL.nil ?_
  refine WQ.thn ?_
  first | refine WC.cond rfl (fun hc0 => ?_) (fun hc0 => ?_) | refine WC.condB rfl (fun hc0 => ?_) (fun hc0 => ?_)
  · obtain ⟨e, he⟩ : ∃ e, L[i]? = some e := ⟨_, List.getElem?_eq_getElem (by omega)⟩
    obtain ⟨qv, ov, hrd, heH, hNR⟩ := ent_rd hE hel he
    have hops := hNR.2.1
    obtain ⟨pa, pc, rfl, hpc, hpb⟩ := hNR.1.shape
    obtain ⟨oa, oc, rfl, hoc, hob⟩ := hops.shape
    obtain ⟨ob, ooff, heo, hoat⟩ := hops.rds
    have hop := opsAt_of he
    have hol : e.node.ops.length ≤ 1024 := by rw [← hop]; exact opsAt_len ho i
    refine WC.skip ?_
    refine WQ.thn ?_
    refine WC.seq ?_
    refine WC.block ?_
    refine WC.seq ?_
    refine WC.region ?_
    refine WL.pur (Pur.assign rfl) ?_
    refine WL.nil ?_
    refine WQ.thn ?_
    refine WC.block ?_
    refine WC.loop (fun j m σ' H' => ∃ (q : Nat) (sv2 : Value) (hl2 : HList), j = e.node.ops.length - q ∧ q ≤ e.node.ops.length ∧ SlO σ eSpot 164 2 sv2 (tripsN L (isKey key kl kh) i ++ tripsAt (isKey key kl kh) i (e.node.ops.take q)) hl2 ∧ m = [(0, .pointer (some ⟨b, 0, none⟩)), (1, .string key), (2, .int .i64 kl), (3, .int .i64 kh), (9, sv2), (10, .int .i64 (i : Int)), (11, .int .i64 (q : Int))] ∧ σ' = σ ∧ H' = hl2 ++ Hr) ⟨0, sv, hl, rfl, by omega, by simpa [tripsAt] using hso, rfl, rfl, rfl⟩ zcV zsL ?_
    rintro _ _ σ Hr ⟨q, sv2, hl2, rfl, hq, hso2, rfl, rfl, rfl⟩
    refine WC.seq ?_
    refine WC.seq ?_
    refine WC.region ?_
    refine WL.pur (Pur.move rfl) ?_
    refine WL.pur (Pur.move rfl) ?_
    refine WL.pur (Pur.nilCheck rfl) ?_
    refine WL.pur (Pur.fieldAddr rfl fo_74_0) ?_
    refine' WL.pur (Pur.load1 rfl ty_22 ?h3_0) ?k3
    case h3_0 => first | (apply Rd.own1; exact zmE; rfl) | (apply RdV.rd; apply RdV.idx (i := 0); assumption; rfl)
    refine WL.pur (Pur.move rfl) ?_
    refine' WL.pur (Pur.indexAddr (eqA (hel (by omega))) rfl sl_22 ?h4_0) ?k4
    case h4_0 => omega
    refine WL.pur (Pur.fieldAddr rfl fo_45_1) ?_
    refine WL.pur (Pur.fieldAddr rfl fo_43_3) ?_
    refine' WL.pur (Pur.load1 rfl ty_40 ?h5_0) ?k5
    case h5_0 => first | (apply Rd.own1; exact zmE; rfl) | (apply RdV.rd; apply RdV.idx (i := 35); assumption; rfl) | (apply RdV.rd; apply RdV.idx (off := 0) (i := 35); assumption; rfl)
    refine WL.pur (Pur.len rfl isSlice_40) ?_
    refine' WL.pur (Pur.bin rfl rfl ?h6_0) ?k6
    case h6_0 => first | exact Bin.ltN | exact Bin.ltI | exact Bin.ltS
    refine WL.nil ?_
    refine WQ.thn ?_
    first | refine WC.cond rfl (fun hc1 => ?_) (fun hc1 => ?_) | refine WC.condB rfl (fun hc1 => ?_) (fun hc1 => ?_)
    · obtain ⟨o, hoq⟩ : ∃ o, e.node.ops[q]? = some o := ⟨_, List.getElem?_eq_getElem (by omega)⟩
      obtain ⟨vs, _, _, ⟨rfl, hook⟩, hord⟩ := hoat q o hoq
      have htl := tripsN_len ho (isKey key kl kh) i
      have htq := Nat.le_trans (tripsAt_len (isKey key kl kh) i (e.node.ops.take q)) (List.length_take_le q e.node.ops)
      refine WC.skip ?_
      refine WQ.thn ?_
      refine WC.seq ?_
      refine WC.block ?_
      refine WC.seq ?_
      refine WC.region ?_
      refine WL.pur (Pur.move rfl) ?_
      refine WL.pur (Pur.nilCheck rfl) ?_
      refine WL.pur (Pur.fieldAddr rfl fo_74_0) ?_
      refine' WL.pur (Pur.load1 rfl ty_22 ?h7_0) ?k7
      case h7_0 => first | (apply Rd.own1; exact zmE; rfl) | (apply RdV.rd; apply RdV.idx (i := 0); assumption; rfl)
      refine WL.pur (Pur.move rfl) ?_
      refine' WL.pur (Pur.indexAddr (eqA (hel (by omega))) rfl sl_22 ?h8_0) ?k8
      case h8_0 => omega
      refine WL.pur (Pur.fieldAddr rfl fo_45_1) ?_
      refine WL.pur (Pur.fieldAddr rfl fo_43_3) ?_
      refine' WL.pur (Pur.load1 rfl ty_40 ?h9_0) ?k9
      case h9_0 => first | (apply Rd.own1; exact zmE; rfl) | (apply RdV.rd; apply RdV.idx (i := 35); assumption; rfl) | (apply RdV.rd; apply RdV.idx (off := 0) (i := 35); assumption; rfl)
      refine WL.pur (Pur.move rfl) ?_
      refine' WL.pur (Pur.indexAddr (eqA (heo (by omega))) rfl sl_40 ?h10_0) ?k10
      case h10_0 => omega
      refine' WL.pur (Pur.loadN rfl ty_51 ?h11_0 ?h11_1) ?k11
      case h11_0 => exact RdV.rd hord
      case h11_1 => first | rfl | assumption
      refine WL.new (New.alloc zc_51) (fun b12 => ?_)
      refine' WL.run0 (Run.storeAll rfl rfl ty_51 ?h12_0 (by first | rfl | assumption) ?h12_1 (by first | rfl | assumption)) ?k12
      case h12_0 => repeat (first | exact Part.one | exact Part.here | apply Part.cons | apply Part.app)
      case h12_1 => first | rfl | assumption
      refine WL.nil ?_
      refine WQ.thn ?_
      refine WC.seq ?_
      refine WC.region ?_
      refine WL.pur (Pur.fieldAddr rfl fo_51_1) ?_
      refine' WL.pur (Pur.load1 rfl ty_9 ?h13_0) ?k13
      case h13_0 => first | (apply Rd.own1; exact zmE; rfl) | (apply RdV.rd; apply RdV.idx (i := 1); assumption; rfl) | (apply RdV.rd; apply RdV.idx (off := 0) (i := 1); assumption; rfl)
      refine WL.pur (Pur.move rfl) ?_
      refine' WL.pur (Pur.bin rfl rfl ?h14_0) ?k14
      case h14_0 => exact Bin.eqS
      refine WL.pur (Pur.move rfl) ?_
      refine' WL.andp (u := 53) (t := 58) rfl ?h15_0 ?h15_1 ?h15_2 rfl ?k15
      case h15_0 =>
        intro hg53 K53
        refine WL.gpur (u := 53) rfl rfl (gT hg53) (Pur.fieldAddr rfl fo_51_0) ?_
        refine' WL.gpur (u := 53) rfl rfl (gT hg53) (Pur.load1 rfl ty_3 ?h16_0) ?k16
        case h16_0 => first | (apply Rd.own1; exact zmE; rfl) | (apply RdV.rd; apply RdV.idx (i := 0); assumption; rfl)
        refine WL.gpur (u := 53) rfl rfl (gT hg53) (Pur.move rfl) ?_
        refine' WL.gpur (u := 53) rfl rfl (gT hg53) (Pur.bin rfl rfl ?h17_0) ?k17
        case h17_0 => first | exact Bin.geN | exact Bin.geI
        exact K53 _ zcR rfl
      case h15_1 =>
        intro hg53 K53
        refine WL.gskip (u := 53) rfl rfl (sT hg53) ?_
        refine WL.gskip (u := 53) rfl rfl (sT hg53) ?_
        refine WL.gskip (u := 53) rfl rfl (sT hg53) ?_
        refine WL.gskip (u := 53) rfl rfl (sT hg53) ?_
        exact K53 _ zcR
      case h15_2 => exact Wanted.plain rfl
      refine WL.pur (Pur.move rfl) ?_
      refine' WL.andp (u := 59) (t := 64) rfl ?h18_0 ?h18_1 ?h18_2 rfl ?k18
      case h18_0 =>
        intro hg59 K59
        refine WL.gpur (u := 59) rfl rfl (gT hg59) (Pur.fieldAddr rfl fo_51_0) ?_
        refine' WL.gpur (u := 59) rfl rfl (gT hg59) (Pur.load1 rfl ty_3 ?h19_0) ?k19
        case h19_0 => first | (apply Rd.own1; exact zmE; rfl) | (apply RdV.rd; apply RdV.idx (i := 0); assumption; rfl)
        refine WL.gpur (u := 59) rfl rfl (gT hg59) (Pur.move rfl) ?_
        refine' WL.gpur (u := 59) rfl rfl (gT hg59) (Pur.bin rfl rfl ?h20_0) ?k20
        case h20_0 => first | exact Bin.leN | exact Bin.leI | exact Bin.leS
        exact K59 _ zcR rfl
      case h18_1 =>
        intro hg59 K59
        refine WL.gskip (u := 59) rfl rfl (sT hg59) ?_
        refine WL.gskip (u := 59) rfl rfl (sT hg59) ?_
        refine WL.gskip (u := 59) rfl rfl (sT hg59) ?_
        refine WL.gskip (u := 59) rfl rfl (sT hg59) ?_
        exact K59 _ zcR
      case h18_2 => exact Wanted.plain rfl
      refine WL.nil ?_
      refine WQ.thn ?_
      first | refine WC.cond rfl (fun hc2 => ?_) (fun hc2 => ?_) | refine WC.condB rfl (fun hc2 => ?_) (fun hc2 => ?_)
      · have hreg : isKey key kl kh o = true := by simp only [isKey, decide_eq_true_eq]; exact ⟨hc2.1.1, hc2.1.2, hc2.2⟩
        refine WC.region ?_
        refine WL.pur (Pur.move rfl) ?_
        refine WL.pur (Pur.move rfl) ?_
        refine WL.pur (Pur.move rfl) ?_
        refine' WL.pur (Pur.bin rfl rfl ?h21_0) ?k21
        case h21_0 => first | (refine Bin.addN (b := 1) ?_; omega) | (refine Bin.addI ?_; omega)
        refine WL.pur (Pur.build (l := [.int .i64 (i : Int), .int .i64 ((q + 1 : Nat) : Int)]) pl_164 zc_164 rfl rfl) ?_
        refine WL.new (New.buildSliceN (xs := [.tmp 69]) (vss := [[.int .i64 (i : Int), .int .i64 ((q + 1 : Nat) : Int)]]) sl_160 zc_164 rfl rfl rfl (by rfl) (by rfl)) (fun b70 => ?_)
        refine' WL.any (Any.push (H1 := [(b70, _), (b12, _)]) (H2 := Hr) sl_160 zc_164 rfl by_164 rfl rfl hso2 ?h22_0 ?h22_1 ?h22_2 ?h22_3 rfl (by simp only [List.length_append]; omega) (by simp only [List.length_append]; omega)) ?k22
        case h22_0 => apply Rd.own_sub; exact zmE; exact Sub.refl _
        case h22_1 => first | rfl | assumption
        case h22_2 => first | rfl | assumption
        case h22_3 => exact (show eSpot _ (i, q + 1, o) _ from rfl)
        rintro v71 σ _ ⟨hl3, hso3, rfl, rfl⟩ _
        refine WL.pur (Pur.assign rfl) ?_
        refine WL.nil ?_
        refine WQ.blk ?_
        refine WQ.thn ?_
        refine WC.region ?_
        refine WL.pur (Pur.move rfl) ?_
        refine' WL.pur (Pur.bin rfl rfl ?h23_0) ?k23
        case h23_0 => first | (refine Bin.addN (b := 1) ?_; omega) | (refine Bin.addI ?_; omega)
        refine WL.pur (Pur.assign rfl) ?_
        refine WL.nil ?_
        refine WQ.back _ ⟨q + 1, _, _, rfl, by omega, by rw [tripsAt_step hoq, if_pos hreg, ← List.append_assoc]; exact hso3, rfl, rfl, rfl⟩ (by omega) zcV zsL
      · have hreg : ¬ isKey key kl kh o = true := by simp only [isKey, decide_eq_true_eq]; exact fun h => hc2 ⟨⟨h.1, h.2.1⟩, h.2.2⟩
        refine WC.skip ?_
        refine WQ.blk ?_
        refine WQ.thn ?_
        refine WC.region ?_
        refine WL.pur (Pur.move rfl) ?_
        refine' WL.pur (Pur.bin rfl rfl ?h24_0) ?k24
        case h24_0 => first | (refine Bin.addN (b := 1) ?_; omega) | (refine Bin.addI ?_; omega)
        refine WL.pur (Pur.assign rfl) ?_
        refine WL.nil ?_
        refine WQ.back _ ⟨q + 1, sv2, hl2, rfl, by omega, by rw [tripsAt_step hoq, if_neg hreg, List.append_nil]; exact hso2, rfl, rfl, rfl⟩ (by omega) zcV zsL
    · refine WC.exit ?_
      refine WQ.thn_exit ?_
      refine WQ.back_exit ?_
      refine WQ.blk_here ?_
      refine WQ.blk ?_
      refine WQ.thn ?_
      refine WC.region ?_
      refine WL.pur (Pur.move rfl) ?_
      refine' WL.pur (Pur.bin rfl rfl ?h25_0) ?k25
      case h25_0 => first | (refine Bin.addN (b := 1) ?_; omega) | (refine Bin.addI ?_; omega)
      refine WL.pur (Pur.assign rfl) ?_
      refine WL.nil ?_
      refine WQ.back _ ⟨i + 1, sv2, hl2, rfl, by omega, by rw [tripsN_succ, hop]; rw [List.take_of_length_le (show e.node.ops.length ≤ q by omega)] at hso2; exact hso2, rfl, rfl, rfl⟩ (by omega) zcV zsL
  · have hil : i = L.length := by omega
    subst hil
    refine WC.exit ?_
    refine WQ.thn_exit ?_
    refine WQ.back_exit ?_
    refine WQ.blk_here ?_
    refine WQ.thn ?_
    refine WC.seq ?_
    refine WC.region ?_
    refine WL.pur (Pur.move rfl) ?_
    refine WL.pur (Pur.assign rfl) ?_
    refine WL.nil ?_
    refine WQ.thn ?_
    refine WC.ret ?_
    refine WQ.ret1 Tryz.results104 rfl hl (List.Sublist.refl _) (View.le_refl _) ?_
    exact ⟨⟨_, hso, rfl⟩, rfl⟩

end Go.Proofs.YtgoooilgmabkmaaGreat
namespace Go.Proofs.YtgoooilgmabkmaaGreat
open Go Go.Sl
set_option linter.unusedVariables false
set_option linter.unusedSimpArgs false
set_option maxRecDepth 100000

theorem r11_KnowsG (σ : View) (pv : Value) (L : List EntD) (a c : Trip) (h : R11V σ pv L) (ho : OrdOk L) (ha : a.1 < L.length) (hc : c.1 < L.length) :
    TriP Tryz.prog 106 #[pv, .agg #[.int .i64 (a.1 : Int), .int .i64 (a.2.1 : Int)], .agg #[.int .i64 (c.1 : Int), .int .i64 (c.2.1 : Int)]] σ (.bool (decide ((a.1 = c.1 ∧ a.2.1 < c.2.1) ∨ seesN L a.1 c.1 = true))) := by
  refine Tri.of_body [(0, pv), (1, .agg #[.int .i64 (a.1 : Int), .int .i64 (a.2.1 : Int)]), (2, .agg #[.int .i64 (c.1 : Int), .int .i64 (c.2.1 : Int)])] Tryz.func106 rfl Tryz.ntmps106 (by simp) rfl (fun Hr => ?_)
  rw [List.nil_append]
  refine WC.seq ?_
  refine WC.region ?_
  refine WL.new (New.boxN rfl) (fun b4 => ?_)
  refine WL.new (New.boxN rfl) (fun b5 => ?_)
  refine WL.pur (Pur.assign rfl) ?_
  refine WL.nil ?_
  refine WQ.thn ?_
  refine WC.seq ?_
  refine WC.seq ?_
  refine WC.region ?_
  refine WL.pur (Pur.fieldAddr rfl fo_164_0) ?_
  refine' WL.pur (Pur.load1 rfl ty_3 ?h1_0) ?k1
  case h1_0 => first | (apply Rd.own1; exact zmE; rfl) | (apply RdV.rd; apply RdV.idx (i := 0); assumption; rfl)
  refine WL.pur (Pur.fieldAddr rfl fo_164_0) ?_
  refine' WL.pur (Pur.load1 rfl ty_3 ?h2_0) ?k2
  case h2_0 => first | (apply Rd.own1; exact zmE; rfl) | (apply RdV.rd; apply RdV.idx (i := 0); assumption; rfl)
  refine' WL.pur (Pur.bin rfl rfl ?h3_0) ?k3
  case h3_0 => first | exact Bin.eqN | exact Bin.eqI
  refine WL.nil ?_
  refine WQ.thn ?_
  first | refine WC.cond rfl (fun hc0 => ?_) (fun hc0 => ?_) | refine WC.condB rfl (fun hc0 => ?_) (fun hc0 => ?_)
  · refine WC.seq ?_
    refine WC.region ?_
    refine WL.pur (Pur.fieldAddr rfl fo_164_1) ?_
    refine' WL.pur (Pur.load1 rfl ty_3 ?h4_0) ?k4
    case h4_0 => first | (apply Rd.own1; exact zmE; rfl) | (apply RdV.rd; apply RdV.idx (i := 1); assumption; rfl) | (apply RdV.rd; apply RdV.idx (off := 0) (i := 1); assumption; rfl)
    refine WL.pur (Pur.fieldAddr rfl fo_164_1) ?_
    refine' WL.pur (Pur.load1 rfl ty_3 ?h5_0) ?k5
    case h5_0 => first | (apply Rd.own1; exact zmE; rfl) | (apply RdV.rd; apply RdV.idx (i := 1); assumption; rfl) | (apply RdV.rd; apply RdV.idx (off := 0) (i := 1); assumption; rfl)
    refine' WL.pur (Pur.bin rfl rfl ?h6_0) ?k6
    case h6_0 => first | exact Bin.gtN | exact Bin.gtI
    refine WL.pur (Pur.assign rfl) ?_
    refine WL.nil ?_
    refine WQ.thn ?_
    refine WC.ret ?_
    refine WQ.thn_ret ?_
    refine WQ.ret1 Tryz.results106 rfl [] zsL (View.le_refl _) ?_
    refine ⟨?_, rfl, rfl⟩
    exact decB ⟨fun h => .inl ⟨hc0, h⟩, fun h => h.elim (fun h => h.2) (fun hs => absurd (sees_lt ho hs).1 (by omega))⟩
  · refine WC.skip ?_
    refine WQ.thn ?_
    refine WC.seq ?_
    refine WC.region ?_
    refine WL.pur (Pur.move rfl) ?_
    refine WL.pur (Pur.fieldAddr rfl fo_164_0) ?_
    refine' WL.pur (Pur.load1 rfl ty_3 ?h7_0) ?k7
    case h7_0 => first | (apply Rd.own1; exact zmE; rfl) | (apply RdV.rd; apply RdV.idx (i := 0); assumption; rfl)
    refine WL.pur (Pur.fieldAddr rfl fo_164_0) ?_
    refine' WL.pur (Pur.load1 rfl ty_3 ?h8_0) ?k8
    case h8_0 => first | (apply Rd.own1; exact zmE; rfl) | (apply RdV.rd; apply RdV.idx (i := 0); assumption; rfl)
    refine WL.callP rfl Tryz.call115 ((r11_Sees _ _ L a.1 c.1 h ho hc ha)) ?_
    refine WL.pur (Pur.assign rfl) ?_
    refine WL.nil ?_
    refine WQ.thn ?_
    refine WC.ret ?_
    refine WQ.ret1 Tryz.results106 rfl [] zsL (View.le_refl _) ?_
    refine ⟨?_, rfl, rfl⟩
    exact decB ⟨fun h => .inr h, fun h => h.resolve_left (fun h => hc0 h.1)⟩

end Go.Proofs.YtgoooilgmabkmaaGreat
namespace Go.Proofs.YtgoooilgmabkmaaGreat
open Go Go.Sl
set_option linter.unusedVariables false
set_option linter.unusedSimpArgs false
set_option maxRecDepth 100000

theorem r11_opsOk {σ : View} {pv : Value} {L : List EntD} (h : R11V σ pv L) : ∀ i, ∀ o ∈ opsAt L i, o.ok := by
  intro i o ho
  obtain ⟨b, plv, psv, pqv, rfl, hr, hE, hS, hQ⟩ := h
  obtain ⟨ea, ec, rfl, _, _⟩ := hE.shape
  obtain ⟨b, off, _, hat⟩ := hE.rds
  unfold opsAt at ho
  split at ho
  · rename_i e he
    obtain ⟨vs, _, _, ⟨qv, ov, rfl, _, hNR⟩, _⟩ := hat i e he
    have hops := hNR.2.1
    obtain ⟨oa, oc, rfl, _, _⟩ := hops.shape
    obtain ⟨b2, off2, _, hat2⟩ := hops.rds
    obtain ⟨j, hj⟩ := List.getElem?_of_mem ho
    obtain ⟨_, _, _, ⟨_, h3⟩, _⟩ := hat2 j o hj
    exact h3
  · simp at ho

theorem r11_texts (n : Nat) :
    ∀ (l : List ByteArray) (σ : View) (lv : Value), l.length = n → Strs σ lv l → Tri Tryz.prog 119 #[lv] σ [] (fun v σ' H' => Strs σ' v (textsL l) ∧ H' = []) := by
  induction n using Nat.strongRecOn with
  | _ n ih =>
    intro l σ0 lv hn h
    have h' := h
    obtain ⟨la, lc, rfl, hlc, hlb⟩ := h.shape
    refine Tri.of_body [(0, .slice la l.length lc)] Tryz.func119 rfl Tryz.ntmps119 (by simp) rfl (fun Hr => ?_)
    rw [List.nil_append]
    refine WC.seq ?_
    refine WC.region ?_
    refine WL.pur (Pur.assign rfl) ?_
    refine WL.nil ?_
    refine WQ.thn ?_
    refine WC.seq ?_
    refine WC.seq ?_
    refine WC.region ?_
    refine WL.pur (Pur.move rfl) ?_
    refine WL.pur (Pur.len rfl isSlice_23) ?_
    refine' WL.pur (Pur.bin rfl rfl ?h1_0) ?k1
    case h1_0 => first | exact Bin.ltN (b := 2) | exact Bin.ltI | exact Bin.ltS
    refine WL.nil ?_
    refine WQ.thn ?_
    first | refine WC.cond rfl (fun hc0 => ?_) (fun hc0 => ?_) | refine WC.condB rfl (fun hc0 => ?_) (fun hc0 => ?_)
    · refine WC.seq ?_
      refine WC.region ?_
      refine WL.pur (Pur.move rfl) ?_
      refine WL.pur (Pur.assign rfl) ?_
      refine WL.nil ?_
      refine WQ.thn ?_
      refine WC.ret ?_
      refine WQ.thn_ret ?_
      refine WQ.ret1 Tryz.results119 rfl [] zsL (View.le_refl _) ?_
      exact ⟨by rw [textsL_one hc0]; exact h', rfl⟩
    · refine WC.skip ?_
      refine WQ.thn ?_
      refine WC.seq ?_
      refine WC.drawH 14 14 mixed (by kernel_rfl) rfl ?_
      refine SA.take 0 (by kernel_rfl) rfl rfl rfl (Wanted.plain rfl) zsL (by first | exact View.le_refl _ | assumption | exact View.le_trans hle1 hle2) (Pur.move rfl) ?_
      refine SA.take 1 (by kernel_rfl) rfl rfl rfl (Wanted.plain rfl) zsL (by first | exact View.le_refl _ | assumption | exact View.le_trans hle1 hle2) (Pur.move rfl) ?_
      refine SA.take 2 (by kernel_rfl) rfl rfl rfl (Wanted.plain rfl) zsL (by first | exact View.le_refl _ | assumption | exact View.le_trans hle1 hle2) (Pur.len rfl isSlice_23) ?_
      refine' SA.take 3 (by kernel_rfl) rfl rfl rfl (Wanted.plain rfl) zsL (by first | exact View.le_refl _ | assumption | exact View.le_trans hle1 hle2) (Pur.bin rfl rfl ?h2_0) ?k2
      case h2_0 => first | (refine Bin.quoN (b := 2) ?_ ?_ <;> omega)
      refine SA.take 4 (by kernel_rfl) rfl rfl rfl (Wanted.plain rfl) zsL (by first | exact View.le_refl _ | assumption | exact View.le_trans hle1 hle2) (Pur.sliceT rfl rfl sl_23 (by omega)) ?_
      refine SA.take 6 (by kernel_rfl) rfl rfl rfl (Wanted.plain rfl) zsL (by first | exact View.le_refl _ | assumption | exact View.le_trans hle1 hle2) (Pur.move rfl) ?_
      refine SA.take 7 (by kernel_rfl) rfl rfl rfl (Wanted.plain rfl) zsL (by first | exact View.le_refl _ | assumption | exact View.le_trans hle1 hle2) (Pur.move rfl) ?_
      refine SA.take 8 (by kernel_rfl) rfl rfl rfl (Wanted.plain rfl) zsL (by first | exact View.le_refl _ | assumption | exact View.le_trans hle1 hle2) (Pur.len rfl isSlice_23) ?_
      refine' SA.take 9 (by kernel_rfl) rfl rfl rfl (Wanted.plain rfl) zsL (by first | exact View.le_refl _ | assumption | exact View.le_trans hle1 hle2) (Pur.bin rfl rfl ?h3_0) ?k3
      case h3_0 => first | (refine Bin.quoN (b := 2) ?_ ?_ <;> omega)
      refine SA.take 10 (by kernel_rfl) rfl rfl rfl (Wanted.plain rfl) zsL (by first | exact View.le_refl _ | assumption | exact View.le_trans hle1 hle2) ((Pur.sliceX rfl rfl sl_23 (by omega) (by omega))) ?_
      refine SA.callR 5 (H1 := []) rfl rfl (Wanted.plain rfl) (by kernel_rfl) rfl Tryz.call119 (List.Perm.refl _) (.inr ⟨zsL, View.le_refl _⟩) (ih (l.length / 2) (by omega) (l.take (l.length / 2)) _ _ (by rw [List.length_take]; omega) (h'.take (l.length / 2) (by omega))) ?_
      rintro v17 σ1 _ ⟨hA, rfl⟩ hle1
      rw [List.nil_append]
      refine SA.callR 11 (H1 := []) rfl rfl (Wanted.plain rfl) (by kernel_rfl) rfl Tryz.call119 (List.Perm.refl _) (.inr ⟨zsL, hle1⟩) (ih (l.length - l.length / 2) (by omega) (l.drop (l.length / 2)) _ _ (by rw [List.length_drop]) ((h'.mono eStr_mono hle1).drop (l.length / 2) (by omega))) ?_
      rintro v23 σ2 _ ⟨hB, rfl⟩ hle2
      rw [List.nil_append]
      have hA2 := hA.mono eStr_mono hle2
      refine SA.take 12 (by kernel_rfl) rfl rfl rfl (Wanted.plain rfl) zsL (by first | exact View.le_refl _ | assumption | exact View.le_trans hle1 hle2) (Pur.assign rfl) ?_
      refine SA.take 13 (by kernel_rfl) rfl rfl rfl (Wanted.plain rfl) zsL (by first | exact View.le_refl _ | assumption | exact View.le_trans hle1 hle2) (Pur.assign rfl) ?_
      refine SA.done (by kernel_rfl) ?_
      refine WQ.thn ?_
      refine WC.seq ?_
      refine WC.region ?_
      refine WL.new (New.buildSlice0 sl_23) (fun b24 => ?_)
      refine WL.pur (Pur.assign rfl) ?_
      refine WL.nil ?_
      refine WQ.thn ?_
      refine WC.seq ?_
      refine WC.region ?_
      refine WL.pur (Pur.assign rfl) ?_
      refine WL.pur (Pur.assign rfl) ?_
      refine WL.nil ?_
      refine WQ.thn ?_
      refine WC.seq ?_
      refine WC.block ?_
      obtain ⟨aa, ac, rfl, hac, hab⟩ := hA2.shape
      obtain ⟨ba, bc, rfl, hbc, hbb⟩ := hB.shape
      obtain ⟨ab, aoff, hea⟩ := addr_of hA2
      obtain ⟨bb, boff, heb⟩ := addr_of hB
      have hAl : (textsL (l.take (l.length / 2))).length = l.length / 2 := by rw [textsL_len, List.length_take]; omega
      have hBl : (textsL (l.drop (l.length / 2))).length = l.length - l.length / 2 := by rw [textsL_len, List.length_drop]
      refine WC.loop (fun j m σ' H' => ∃ (i k : Nat) (out : List ByteArray) (sv : Value) (h : HList), j = (textsL (l.take (l.length / 2))).length + (textsL (l.drop (l.length / 2))).length - (i + k) ∧ i ≤ (textsL (l.take (l.length / 2))).length ∧ k ≤ (textsL (l.drop (l.length / 2))).length ∧ out.length = i + k ∧ SlO σ2 eStr 9 1 sv out h ∧ out ++ List.merge ((textsL (l.take (l.length / 2))).drop i) ((textsL (l.drop (l.length / 2))).drop k) leB = List.merge (textsL (l.take (l.length / 2))) (textsL (l.drop (l.length / 2))) leB ∧ m = [(3, .slice aa (textsL (l.take (l.length / 2))).length ac), (4, .slice ba (textsL (l.drop (l.length / 2))).length bc), (5, sv), (6, .int .i64 (i : Int)), (7, .int .i64 (k : Int))] ∧ σ' = σ2 ∧ H' = h ++ Hr) ⟨0, 0, [], _, [(b24, rowO 9 [])], rfl, by omega, by omega, rfl, row_nilS _ b24, by simp, rfl, rfl, rfl⟩ zcV zsL ?_
      rintro _ _ σ Hr ⟨i, k, out, sv, ho, rfl, hi, hk, hlen, hso, hout, rfl, rfl, rfl⟩
      refine WC.seq ?_
      refine WC.seq ?_
      refine WC.region ?_
      refine WL.pur (Pur.move rfl) ?_
      refine WL.pur (Pur.move rfl) ?_
      refine WL.pur (Pur.len rfl isSlice_23) ?_
      refine' WL.pur (Pur.bin rfl rfl ?h4_0) ?k4
      case h4_0 => first | exact Bin.ltN | exact Bin.ltI | exact Bin.ltS
      refine WL.pur (Pur.move rfl) ?_
      refine' WL.orp (u := 29) (t := 34) rfl ?h5_0 ?h5_1 ?h5_2 rfl ?k5
      case h5_0 =>
        intro hg29 K29
        refine WL.gpur (u := 29) rfl rfl (gF hg29) (Pur.move rfl) ?_
        refine WL.gpur (u := 29) rfl rfl (gF hg29) (Pur.move rfl) ?_
        refine WL.gpur (u := 29) rfl rfl (gF hg29) (Pur.len rfl isSlice_23) ?_
        refine' WL.gpur (u := 29) rfl rfl (gF hg29) (Pur.bin rfl rfl ?h6_0) ?k6
        case h6_0 => first | exact Bin.ltN | exact Bin.ltI | exact Bin.ltS
        exact K29 _ zcR rfl
      case h5_1 =>
        intro hg29 K29
        refine WL.gskip (u := 29) rfl rfl (sF hg29) ?_
        refine WL.gskip (u := 29) rfl rfl (sF hg29) ?_
        refine WL.gskip (u := 29) rfl rfl (sF hg29) ?_
        refine WL.gskip (u := 29) rfl rfl (sF hg29) ?_
        exact K29 _ zcR
      case h5_2 => exact Wanted.plain rfl
      refine WL.nil ?_
      refine WQ.thn ?_
      first | refine WC.cond rfl (fun hc1 => ?_) (fun hc1 => ?_) | refine WC.condB rfl (fun hc1 => ?_) (fun hc1 => ?_)
      · refine WC.skip ?_
        refine WQ.thn ?_
        refine WC.block ?_
        refine WC.seq ?_
        refine WC.drawH 21 21 mixed (by kernel_rfl) rfl ?_
        refine SA.take 0 (by kernel_rfl) rfl rfl rfl (Wanted.plain rfl) zsL (by first | exact View.le_refl _ | assumption | exact View.le_trans hle1 hle2) (Pur.move rfl) ?_
        refine SA.take 1 (by kernel_rfl) rfl rfl rfl (Wanted.plain rfl) zsL (by first | exact View.le_refl _ | assumption | exact View.le_trans hle1 hle2) (Pur.move rfl) ?_
        refine SA.take 2 (by kernel_rfl) rfl rfl rfl (Wanted.plain rfl) zsL (by first | exact View.le_refl _ | assumption | exact View.le_trans hle1 hle2) (Pur.len rfl isSlice_23) ?_
        refine' SA.take 3 (by kernel_rfl) rfl rfl rfl (Wanted.plain rfl) zsL (by first | exact View.le_refl _ | assumption | exact View.le_trans hle1 hle2) (Pur.bin rfl rfl ?h7_0) ?k7
        case h7_0 => first | exact Bin.eqN | exact Bin.eqI
        refine SA.take 4 (by kernel_rfl) rfl rfl rfl (Wanted.plain rfl) zsL (by first | exact View.le_refl _ | assumption | exact View.le_trans hle1 hle2) (Pur.move rfl) ?_
        refine' SA.orp 20 (u := 39) rfl ?h8_0 ?h8_1 ?h8_2 rfl zsL (View.le_refl _) ?h8_3 rfl ?k8
        case h8_0 =>
          intro hg39 K39
          refine SA.take 5 (by kernel_rfl) rfl rfl rfl (Wanted.guard (u := 39) rfl rfl rfl (gF hg39)) zsL (by first | exact View.le_refl _ | assumption | exact View.le_trans hle1 hle2) (Pur.move rfl) ?_
          refine SA.take 6 (by kernel_rfl) rfl rfl rfl (Wanted.guard (u := 39) rfl rfl rfl (gF hg39)) zsL (by first | exact View.le_refl _ | assumption | exact View.le_trans hle1 hle2) (Pur.move rfl) ?_
          refine SA.take 7 (by kernel_rfl) rfl rfl rfl (Wanted.guard (u := 39) rfl rfl rfl (gF hg39)) zsL (by first | exact View.le_refl _ | assumption | exact View.le_trans hle1 hle2) (Pur.len rfl isSlice_23) ?_
          refine' SA.take 8 (by kernel_rfl) rfl rfl rfl (Wanted.guard (u := 39) rfl rfl rfl (gF hg39)) zsL (by first | exact View.le_refl _ | assumption | exact View.le_trans hle1 hle2) (Pur.bin rfl rfl ?h9_0) ?k9
          case h9_0 => first | exact Bin.ltN | exact Bin.ltI | exact Bin.ltS
          refine SA.take 9 (by kernel_rfl) rfl rfl rfl (Wanted.guard (u := 39) rfl rfl rfl (gF hg39)) zsL (by first | exact View.le_refl _ | assumption | exact View.le_trans hle1 hle2) (Pur.move rfl) ?_
          refine' SA.andp 19 (u := 44) rfl ?h10_0 ?h10_1 ?h10_2 rfl zsL (View.le_refl _) ?h10_3 rfl ?k10
          case h10_0 =>
            intro hg44 K44
            have hra := str_rd hA2 hea hg44
            have hrb := str_rd hB heb (show k < (textsL (l.drop (l.length / 2))).length by omega)
            refine SA.take 10 (by kernel_rfl) rfl rfl rfl (Wanted.guard (u := 44) rfl rfl rfl (gT hg44)) zsL (by first | exact View.le_refl _ | assumption | exact View.le_trans hle1 hle2) (Pur.move rfl) ?_
            refine SA.take 11 (by kernel_rfl) rfl rfl rfl (Wanted.guard (u := 44) rfl rfl rfl (gT hg44)) zsL (by first | exact View.le_refl _ | assumption | exact View.le_trans hle1 hle2) (Pur.move rfl) ?_
            refine' SA.take 12 (by kernel_rfl) rfl rfl rfl (Wanted.guard (u := 44) rfl rfl rfl (gT hg44)) zsL (by first | exact View.le_refl _ | assumption | exact View.le_trans hle1 hle2) (Pur.indexAddr (eqA (hea (by omega))) rfl sl_23 ?h11_0) ?k11
            case h11_0 => omega
            refine' SA.take 13 (by kernel_rfl) rfl rfl rfl (Wanted.guard (u := 44) rfl rfl rfl (gT hg44)) zsL (by first | exact View.le_refl _ | assumption | exact View.le_trans hle1 hle2) (Pur.load1 rfl ty_9 ?h12_0) ?k12
            case h12_0 => exact RdV.rd hra.1
            refine SA.take 14 (by kernel_rfl) rfl rfl rfl (Wanted.guard (u := 44) rfl rfl rfl (gT hg44)) zsL (by first | exact View.le_refl _ | assumption | exact View.le_trans hle1 hle2) (Pur.move rfl) ?_
            refine SA.take 15 (by kernel_rfl) rfl rfl rfl (Wanted.guard (u := 44) rfl rfl rfl (gT hg44)) zsL (by first | exact View.le_refl _ | assumption | exact View.le_trans hle1 hle2) (Pur.move rfl) ?_
            refine' SA.take 16 (by kernel_rfl) rfl rfl rfl (Wanted.guard (u := 44) rfl rfl rfl (gT hg44)) zsL (by first | exact View.le_refl _ | assumption | exact View.le_trans hle1 hle2) (Pur.indexAddr (eqA (heb (by omega))) rfl sl_23 ?h13_0) ?k13
            case h13_0 => omega
            refine' SA.take 17 (by kernel_rfl) rfl rfl rfl (Wanted.guard (u := 44) rfl rfl rfl (gT hg44)) zsL (by first | exact View.le_refl _ | assumption | exact View.le_trans hle1 hle2) (Pur.load1 rfl ty_9 ?h14_0) ?k14
            case h14_0 => exact RdV.rd hrb.1
            refine' SA.take 18 (by kernel_rfl) rfl rfl rfl (Wanted.guard (u := 44) rfl rfl rfl (gT hg44)) zsL (by first | exact View.le_refl _ | assumption | exact View.le_trans hle1 hle2) (Pur.bin rfl rfl ?h15_0) ?k15
            case h15_0 => first | exact Bin.leN | exact Bin.leI | exact Bin.leS
            exact K44 _ zcR rfl
          case h10_1 =>
            intro hg44 K44
            refine SA.gskip 10 (u := 44) (by kernel_rfl) rfl rfl rfl rfl rfl rfl (sT hg44) zsL (by first | exact View.le_refl _ | assumption | exact View.le_trans hle1 hle2) ?_
            refine SA.gskip 11 (u := 44) (by kernel_rfl) rfl rfl rfl rfl rfl rfl (sT hg44) zsL (by first | exact View.le_refl _ | assumption | exact View.le_trans hle1 hle2) ?_
            refine SA.gskip 12 (u := 44) (by kernel_rfl) rfl rfl rfl rfl rfl rfl (sT hg44) zsL (by first | exact View.le_refl _ | assumption | exact View.le_trans hle1 hle2) ?_
            refine SA.gskip 13 (u := 44) (by kernel_rfl) rfl rfl rfl rfl rfl rfl (sT hg44) zsL (by first | exact View.le_refl _ | assumption | exact View.le_trans hle1 hle2) ?_
            refine SA.gskip 14 (u := 44) (by kernel_rfl) rfl rfl rfl rfl rfl rfl (sT hg44) zsL (by first | exact View.le_refl _ | assumption | exact View.le_trans hle1 hle2) ?_
            refine SA.gskip 15 (u := 44) (by kernel_rfl) rfl rfl rfl rfl rfl rfl (sT hg44) zsL (by first | exact View.le_refl _ | assumption | exact View.le_trans hle1 hle2) ?_
            refine SA.gskip 16 (u := 44) (by kernel_rfl) rfl rfl rfl rfl rfl rfl (sT hg44) zsL (by first | exact View.le_refl _ | assumption | exact View.le_trans hle1 hle2) ?_
            refine SA.gskip 17 (u := 44) (by kernel_rfl) rfl rfl rfl rfl rfl rfl (sT hg44) zsL (by first | exact View.le_refl _ | assumption | exact View.le_trans hle1 hle2) ?_
            refine SA.gskip 18 (u := 44) (by kernel_rfl) rfl rfl rfl rfl rfl rfl (sT hg44) zsL (by first | exact View.le_refl _ | assumption | exact View.le_trans hle1 hle2) ?_
            exact K44 _ zcR
          case h10_2 => kernel_rfl
          case h10_3 => exact Wanted.guard (u := 39) rfl rfl rfl (gF hg39)
          exact K39 _ zcR rfl
        case h8_1 =>
          intro hg39 K39
          refine SA.gskip 5 (u := 39) (by kernel_rfl) rfl rfl rfl rfl rfl rfl (sF hg39) zsL (by first | exact View.le_refl _ | assumption | exact View.le_trans hle1 hle2) ?_
          refine SA.gskip 6 (u := 39) (by kernel_rfl) rfl rfl rfl rfl rfl rfl (sF hg39) zsL (by first | exact View.le_refl _ | assumption | exact View.le_trans hle1 hle2) ?_
          refine SA.gskip 7 (u := 39) (by kernel_rfl) rfl rfl rfl rfl rfl rfl (sF hg39) zsL (by first | exact View.le_refl _ | assumption | exact View.le_trans hle1 hle2) ?_
          refine SA.gskip 8 (u := 39) (by kernel_rfl) rfl rfl rfl rfl rfl rfl (sF hg39) zsL (by first | exact View.le_refl _ | assumption | exact View.le_trans hle1 hle2) ?_
          refine SA.gskip 9 (u := 39) (by kernel_rfl) rfl rfl rfl rfl rfl rfl (sF hg39) zsL (by first | exact View.le_refl _ | assumption | exact View.le_trans hle1 hle2) ?_
          refine SA.gskipU 10 (u := 44) (by kernel_rfl) rfl rfl rfl rfl rfl rfl zsL (by first | exact View.le_refl _ | assumption | exact View.le_trans hle1 hle2) ?_
          refine SA.gskipU 11 (u := 44) (by kernel_rfl) rfl rfl rfl rfl rfl rfl zsL (by first | exact View.le_refl _ | assumption | exact View.le_trans hle1 hle2) ?_
          refine SA.gskipU 12 (u := 44) (by kernel_rfl) rfl rfl rfl rfl rfl rfl zsL (by first | exact View.le_refl _ | assumption | exact View.le_trans hle1 hle2) ?_
          refine SA.gskipU 13 (u := 44) (by kernel_rfl) rfl rfl rfl rfl rfl rfl zsL (by first | exact View.le_refl _ | assumption | exact View.le_trans hle1 hle2) ?_
          refine SA.gskipU 14 (u := 44) (by kernel_rfl) rfl rfl rfl rfl rfl rfl zsL (by first | exact View.le_refl _ | assumption | exact View.le_trans hle1 hle2) ?_
          refine SA.gskipU 15 (u := 44) (by kernel_rfl) rfl rfl rfl rfl rfl rfl zsL (by first | exact View.le_refl _ | assumption | exact View.le_trans hle1 hle2) ?_
          refine SA.gskipU 16 (u := 44) (by kernel_rfl) rfl rfl rfl rfl rfl rfl zsL (by first | exact View.le_refl _ | assumption | exact View.le_trans hle1 hle2) ?_
          refine SA.gskipU 17 (u := 44) (by kernel_rfl) rfl rfl rfl rfl rfl rfl zsL (by first | exact View.le_refl _ | assumption | exact View.le_trans hle1 hle2) ?_
          refine SA.gskipU 18 (u := 44) (by kernel_rfl) rfl rfl rfl rfl rfl rfl zsL (by first | exact View.le_refl _ | assumption | exact View.le_trans hle1 hle2) ?_
          refine SA.gskip 19 (u := 39) (by kernel_rfl) rfl rfl rfl rfl rfl rfl (sF hg39) zsL (by first | exact View.le_refl _ | assumption | exact View.le_trans hle1 hle2) ?_
          exact K39 _ zcR
        case h8_2 => kernel_rfl
        case h8_3 => exact Wanted.plain rfl
        refine SA.done (by kernel_rfl) ?_
        refine WQ.thn ?_
        first | refine WC.cond rfl (fun hc2 => ?_) (fun hc2 => ?_) | refine WC.condB rfl (fun hc2 => ?_) (fun hc2 => ?_)
        · have hx' : i < (textsL (l.take (l.length / 2))).length := by omega
          have hra2 := str_rd hA2 hea hx'
          have hok2 := hra2.2
          have hmerge : List.merge ((textsL (l.take (l.length / 2))).drop i) ((textsL (l.drop (l.length / 2))).drop k) leB = sD (textsL (l.take (l.length / 2))) i :: List.merge ((textsL (l.take (l.length / 2))).drop (i + 1)) ((textsL (l.drop (l.length / 2))).drop k) leB := by
            by_cases hkb : k < (textsL (l.drop (l.length / 2))).length
            · rw [mergeS_drop hx' hkb, if_pos]
              have := hc2.resolve_left (by omega)
              simp only [leB, decide_eq_true_eq]
              exact this.2
            · exact mergeS_left hx' (by omega)
          refine WC.seq ?_
          refine WC.region ?_
          refine WL.pur (Pur.move rfl) ?_
          refine WL.pur (Pur.move rfl) ?_
          refine WL.pur (Pur.move rfl) ?_
          refine' WL.pur (Pur.indexAddr (eqA (hea (by omega))) rfl sl_23 ?h16_0) ?k16
          case h16_0 => omega
          refine' WL.pur (Pur.load1 rfl ty_9 ?h17_0) ?k17
          case h17_0 => exact RdV.rd hra2.1
          refine WL.new (New.buildSliceS (xs := [.tmp 60]) sl_23 zc_9 rfl rfl rfl (by rfl) (by rfl)) (fun b61 => ?_)
          refine' WL.any (Any.push (H1 := [(b61, _)]) (H2 := Hr) sl_23 zc_9 rfl by_9 rfl rfl hso ?h18_0 ?h18_1 ?h18_2 ?h18_3 rfl (by omega) (by omega)) ?k18
          case h18_0 => apply Rd.own_sub; exact zmE; exact Sub.refl _
          case h18_1 => first | rfl | assumption
          case h18_2 => first | rfl | assumption
          case h18_3 => exact ⟨rfl, hok2⟩
          rintro v62 σ _ ⟨ho', hso', rfl, rfl⟩ _
          refine WL.pur (Pur.assign rfl) ?_
          refine WL.nil ?_
          refine WQ.thn ?_
          refine WC.region ?_
          refine WL.pur (Pur.move rfl) ?_
          refine' WL.pur (Pur.bin rfl rfl ?h19_0) ?k19
          case h19_0 => first | (refine Bin.addN (b := 1) ?_; omega) | (refine Bin.addI ?_; omega)
          refine WL.pur (Pur.assign rfl) ?_
          refine WL.nil ?_
          refine WQ.blk ?_
          refine WQ.back _ ⟨i + 1, k, out ++ [sD (textsL (l.take (l.length / 2))) i], _, ho', rfl, by omega, by omega, by simp; omega, hso', by rw [List.append_assoc, List.singleton_append, ← hout, hmerge], rfl, rfl, rfl⟩ (by omega) zcV zsL
        · have hy' : k < (textsL (l.drop (l.length / 2))).length := by omega
          have hrb2 := str_rd hB heb hy'
          have hok2 := hrb2.2
          have hmerge : List.merge ((textsL (l.take (l.length / 2))).drop i) ((textsL (l.drop (l.length / 2))).drop k) leB = sD (textsL (l.drop (l.length / 2))) k :: List.merge ((textsL (l.take (l.length / 2))).drop i) ((textsL (l.drop (l.length / 2))).drop (k + 1)) leB := by
            by_cases hia : i < (textsL (l.take (l.length / 2))).length
            · rw [mergeS_drop hia hy', if_neg]
              intro hle
              simp only [leB, decide_eq_true_eq] at hle
              exact hc2 (.inr ⟨hia, hle⟩)
            · exact mergeS_right hy' (by omega)
          refine WC.seq ?_
          refine WC.region ?_
          refine WL.pur (Pur.move rfl) ?_
          refine WL.pur (Pur.move rfl) ?_
          refine WL.pur (Pur.move rfl) ?_
          refine' WL.pur (Pur.indexAddr (eqA (heb (by omega))) rfl sl_23 ?h20_0) ?k20
          case h20_0 => omega
          refine' WL.pur (Pur.load1 rfl ty_9 ?h21_0) ?k21
          case h21_0 => exact RdV.rd hrb2.1
          refine WL.new (New.buildSliceS (xs := [.tmp 69]) sl_23 zc_9 rfl rfl rfl (by rfl) (by rfl)) (fun b70 => ?_)
          refine' WL.any (Any.push (H1 := [(b70, _)]) (H2 := Hr) sl_23 zc_9 rfl by_9 rfl rfl hso ?h22_0 ?h22_1 ?h22_2 ?h22_3 rfl (by omega) (by omega)) ?k22
          case h22_0 => apply Rd.own_sub; exact zmE; exact Sub.refl _
          case h22_1 => first | rfl | assumption
          case h22_2 => first | rfl | assumption
          case h22_3 => exact ⟨rfl, hok2⟩
          rintro v71 σ _ ⟨ho', hso', rfl, rfl⟩ _
          refine WL.pur (Pur.assign rfl) ?_
          refine WL.nil ?_
          refine WQ.thn ?_
          refine WC.region ?_
          refine WL.pur (Pur.move rfl) ?_
          refine' WL.pur (Pur.bin rfl rfl ?h23_0) ?k23
          case h23_0 => first | (refine Bin.addN (b := 1) ?_; omega) | (refine Bin.addI ?_; omega)
          refine WL.pur (Pur.assign rfl) ?_
          refine WL.nil ?_
          refine WQ.blk ?_
          refine WQ.back _ ⟨i, k + 1, out ++ [sD (textsL (l.drop (l.length / 2))) k], _, ho', rfl, by omega, by omega, by simp; omega, hso', by rw [List.append_assoc, List.singleton_append, ← hout, hmerge], rfl, rfl, rfl⟩ (by omega) zcV zsL
      · refine WC.exit ?_
        refine WQ.thn_exit ?_
        refine WQ.back_exit ?_
        refine WQ.blk_here ?_
        refine WQ.thn ?_
        refine WC.seq ?_
        refine WC.region ?_
        refine WL.pur (Pur.move rfl) ?_
        refine WL.pur (Pur.assign rfl) ?_
        refine WL.nil ?_
        refine WQ.thn ?_
        refine WC.ret ?_
        have h0 : List.merge ((textsL (l.take (l.length / 2))).drop i) ((textsL (l.drop (l.length / 2))).drop k) leB = [] := by rw [List.drop_eq_nil_of_le (by omega), List.drop_eq_nil_of_le (by omega)]; simp
        rw [h0, List.append_nil] at hout
        refine WQ.giveS (byt := 16) (H1 := []) (H2 := Hr) eStr_mono hso (by omega) rfl (fun σ3 hle3 hsl3 => ?_)
        rw [List.nil_append]
        refine WQ.ret1 Tryz.results119 rfl [] zsL (View.le_trans hle1 (View.le_trans hle2 hle3)) ?_
        exact ⟨by rw [textsL_more hc0, ← hout]; exact hsl3, rfl⟩

theorem r11_Keys (σ : View) (pv : Value) (L : List EntD) (kl kh : Int) (h : R11V σ pv L) (ho : OrdOk L) :
    Tri Tryz.prog 47 #[pv, .int .i64 kl, .int .i64 kh] σ [] (fun v σ' H' => ∃ h, SlO σ' eStr 9 1 v (keysR L (isKind kl kh)) h ∧ H' = h) := by
  obtain ⟨b, plv, psv, pqv, rfl, hr, hE, hS, hQ⟩ := h
  obtain ⟨pla, plc, rfl, hplc, hplb⟩ := hE.shape
  obtain ⟨plb, ploff, hel⟩ := addr_of hE
  have hmost := ho.most
  refine Tri.of_body [(0, .pointer (some ⟨b, 0, none⟩)), (1, .int .i64 kl), (2, .int .i64 kh)] Tryz.func47 rfl Tryz.ntmps47 (by simp) rfl (fun Hr => ?_)
  rw [List.nil_append]
  refine WC.seq ?_
  refine WC.region ?_
  refine WL.pur (Pur.assign rfl) ?_
  refine WL.nil ?_
  refine WQ.thn ?_
  refine WC.seq ?_
  refine WC.region ?_
  refine WL.new (New.buildSlice0 sl_23) (fun b13 => ?_)
  refine WL.pur (Pur.assign rfl) ?_
  refine WL.nil ?_
  refine WQ.thn ?_
  refine WC.seq ?_
  refine WC.seq ?_
  refine WC.region ?_
  refine WL.pur (Pur.assign rfl) ?_
  refine WL.nil ?_
  refine WQ.thn ?_
  refine WC.block ?_
  refine WC.loop (fun j m σ' H' => ∃ (i : Nat) (sv : Value) (hl : HList), j = L.length - i ∧ i ≤ L.length ∧ SlO σ eStr 9 1 sv (keysOf (opsN L (isKind kl kh) i)) hl ∧ m = [(0, .pointer (some ⟨b, 0, none⟩)), (1, .int .i64 kl), (2, .int .i64 kh), (7, sv), (8, .int .i64 (i : Int))] ∧ σ' = σ ∧ H' = hl ++ Hr) ⟨0, _, [(b13, rowO 9 [])], rfl, by omega, row_nilS _ b13, rfl, rfl, rfl⟩ zcV zsL ?_
  rintro _ _ σ Hr ⟨i, sv, hl, rfl, hi, hso, rfl, rfl, rfl⟩
  refine WC.seq ?_
  refine WC.seq ?_
  refine WC.region ?_
  refine WL.pur (Pur.move rfl) ?_
  refine WL.pur (Pur.move rfl) ?_
  refine WL.pur (Pur.nilCheck rfl) ?_
  refine WL.pur (Pur.fieldAddr rfl fo_74_0) ?_
  refine' WL.pur (Pur.load1 rfl ty_22 ?h1_0) ?k1
  case h1_0 => first | (apply Rd.own1; exact zmE; rfl) | (apply RdV.rd; apply RdV.idx (i := 0); assumption; rfl)
  refine WL.pur (Pur.len rfl isSlice_22) ?_
  refine' WL.pur (Pur.bin rfl rfl ?h2_0) ?k2
  case h2_0 => first | exact Bin.ltN | exact Bin.ltI | exact Bin.ltS
  refine WL.nil ?_
  refine WQ.thn ?_
  first | refine WC.cond rfl (fun hc0 => ?_) (fun hc0 => ?_) | refine WC.condB rfl (fun hc0 => ?_) (fun hc0 => ?_)
  · obtain ⟨e, he⟩ : ∃ e, L[i]? = some e := ⟨_, List.getElem?_eq_getElem (by omega)⟩
    obtain ⟨qv, ov, hrd, heH, hNR⟩ := ent_rd hE hel he
    have hops := hNR.2.1
    obtain ⟨pa, pc, rfl, hpc, hpb⟩ := hNR.1.shape
    obtain ⟨oa, oc, rfl, hoc, hob⟩ := hops.shape
    obtain ⟨ob, ooff, heo, hoat⟩ := hops.rds
    have hop := opsAt_of he
    have hol : e.node.ops.length ≤ 1024 := by rw [← hop]; exact opsAt_len ho i
    refine WC.skip ?_
    refine WQ.thn ?_
    refine WC.seq ?_
    refine WC.block ?_
    refine WC.seq ?_
    refine WC.region ?_
    refine WL.pur (Pur.assign rfl) ?_
    refine WL.nil ?_
    refine WQ.thn ?_
    refine WC.block ?_
    refine WC.loop (fun j m σ' H' => ∃ (q : Nat) (sv2 : Value) (hl2 : HList), j = e.node.ops.length - q ∧ q ≤ e.node.ops.length ∧ SlO σ eStr 9 1 sv2 (keysOf (opsN L (isKind kl kh) i ++ pickOps i (isKind kl kh) (e.node.ops.take q))) hl2 ∧ m = [(0, .pointer (some ⟨b, 0, none⟩)), (1, .int .i64 kl), (2, .int .i64 kh), (7, sv2), (8, .int .i64 (i : Int)), (9, .int .i64 (q : Int))] ∧ σ' = σ ∧ H' = hl2 ++ Hr) ⟨0, sv, hl, rfl, by omega, by simpa [pickOps] using hso, rfl, rfl, rfl⟩ zcV zsL ?_
    rintro _ _ σ Hr ⟨q, sv2, hl2, rfl, hq, hso2, rfl, rfl, rfl⟩
    refine WC.seq ?_
    refine WC.seq ?_
    refine WC.region ?_
    refine WL.pur (Pur.move rfl) ?_
    refine WL.pur (Pur.move rfl) ?_
    refine WL.pur (Pur.nilCheck rfl) ?_
    refine WL.pur (Pur.fieldAddr rfl fo_74_0) ?_
    refine' WL.pur (Pur.load1 rfl ty_22 ?h3_0) ?k3
    case h3_0 => first | (apply Rd.own1; exact zmE; rfl) | (apply RdV.rd; apply RdV.idx (i := 0); assumption; rfl)
    refine WL.pur (Pur.move rfl) ?_
    refine' WL.pur (Pur.indexAddr (eqA (hel (by omega))) rfl sl_22 ?h4_0) ?k4
    case h4_0 => omega
    refine WL.pur (Pur.fieldAddr rfl fo_45_1) ?_
    refine WL.pur (Pur.fieldAddr rfl fo_43_3) ?_
    refine' WL.pur (Pur.load1 rfl ty_40 ?h5_0) ?k5
    case h5_0 => first | (apply Rd.own1; exact zmE; rfl) | (apply RdV.rd; apply RdV.idx (i := 35); assumption; rfl) | (apply RdV.rd; apply RdV.idx (off := 0) (i := 35); assumption; rfl)
    refine WL.pur (Pur.len rfl isSlice_40) ?_
    refine' WL.pur (Pur.bin rfl rfl ?h6_0) ?k6
    case h6_0 => first | exact Bin.ltN | exact Bin.ltI | exact Bin.ltS
    refine WL.nil ?_
    refine WQ.thn ?_
    first | refine WC.cond rfl (fun hc1 => ?_) (fun hc1 => ?_) | refine WC.condB rfl (fun hc1 => ?_) (fun hc1 => ?_)
    · obtain ⟨o, hoq⟩ : ∃ o, e.node.ops[q]? = some o := ⟨_, List.getElem?_eq_getElem (by omega)⟩
      obtain ⟨vs, _, _, ⟨rfl, hook⟩, hord⟩ := hoat q o hoq
      have hkok : StrOk o.key := hook.2.1
      have htl : (keysOf (opsN L (isKind kl kh) i ++ pickOps i (isKind kl kh) (e.node.ops.take q))).length ≤ i * 1024 + 1024 := by
        have h1 := opsN_len ho (isKind kl kh) i
        have h2 : (pickOps i (isKind kl kh) (e.node.ops.take q)).length ≤ 1024 := by
          unfold pickOps; rw [List.length_map]
          exact Nat.le_trans (List.length_filter_le _ _) (by rw [List.length_take]; omega)
        unfold keysOf; rw [List.length_map, List.length_append]; omega
      refine WC.skip ?_
      refine WQ.thn ?_
      refine WC.seq ?_
      refine WC.block ?_
      refine WC.seq ?_
      refine WC.region ?_
      refine WL.pur (Pur.move rfl) ?_
      refine WL.pur (Pur.nilCheck rfl) ?_
      refine WL.pur (Pur.fieldAddr rfl fo_74_0) ?_
      refine' WL.pur (Pur.load1 rfl ty_22 ?h7_0) ?k7
      case h7_0 => first | (apply Rd.own1; exact zmE; rfl) | (apply RdV.rd; apply RdV.idx (i := 0); assumption; rfl)
      refine WL.pur (Pur.move rfl) ?_
      refine' WL.pur (Pur.indexAddr (eqA (hel (by omega))) rfl sl_22 ?h8_0) ?k8
      case h8_0 => omega
      refine WL.pur (Pur.fieldAddr rfl fo_45_1) ?_
      refine WL.pur (Pur.fieldAddr rfl fo_43_3) ?_
      refine' WL.pur (Pur.load1 rfl ty_40 ?h9_0) ?k9
      case h9_0 => first | (apply Rd.own1; exact zmE; rfl) | (apply RdV.rd; apply RdV.idx (i := 35); assumption; rfl) | (apply RdV.rd; apply RdV.idx (off := 0) (i := 35); assumption; rfl)
      refine WL.pur (Pur.move rfl) ?_
      refine' WL.pur (Pur.indexAddr (eqA (heo (by omega))) rfl sl_40 ?h10_0) ?k10
      case h10_0 => omega
      refine' WL.pur (Pur.loadN rfl ty_51 ?h11_0 ?h11_1) ?k11
      case h11_0 => exact RdV.rd hord
      case h11_1 => first | rfl | assumption
      refine WL.new (New.alloc zc_51) (fun b10 => ?_)
      refine' WL.run0 (Run.storeAll rfl rfl ty_51 ?h12_0 (by first | rfl | assumption) ?h12_1 (by first | rfl | assumption)) ?k12
      case h12_0 => repeat (first | exact Part.one | exact Part.here | apply Part.cons | apply Part.app)
      case h12_1 => first | rfl | assumption
      refine WL.nil ?_
      refine WQ.thn ?_
      refine WC.seq ?_
      refine WC.region ?_
      refine WL.pur (Pur.fieldAddr rfl fo_51_0) ?_
      refine' WL.pur (Pur.load1 rfl ty_3 ?h13_0) ?k13
      case h13_0 => first | (apply Rd.own1; exact zmE; rfl) | (apply RdV.rd; apply RdV.idx (i := 0); assumption; rfl)
      refine WL.pur (Pur.move rfl) ?_
      refine' WL.pur (Pur.bin rfl rfl ?h14_0) ?k14
      case h14_0 => first | exact Bin.geN | exact Bin.geI
      refine WL.pur (Pur.move rfl) ?_
      refine' WL.andp (u := 53) (t := 58) rfl ?h15_0 ?h15_1 ?h15_2 rfl ?k15
      case h15_0 =>
        intro hg53 K53
        refine WL.gpur (u := 53) rfl rfl (gT hg53) (Pur.fieldAddr rfl fo_51_0) ?_
        refine' WL.gpur (u := 53) rfl rfl (gT hg53) (Pur.load1 rfl ty_3 ?h16_0) ?k16
        case h16_0 => first | (apply Rd.own1; exact zmE; rfl) | (apply RdV.rd; apply RdV.idx (i := 0); assumption; rfl)
        refine WL.gpur (u := 53) rfl rfl (gT hg53) (Pur.move rfl) ?_
        refine' WL.gpur (u := 53) rfl rfl (gT hg53) (Pur.bin rfl rfl ?h17_0) ?k17
        case h17_0 => first | exact Bin.leN | exact Bin.leI | exact Bin.leS
        exact K53 _ zcR rfl
      case h15_1 =>
        intro hg53 K53
        refine WL.gskip (u := 53) rfl rfl (sT hg53) ?_
        refine WL.gskip (u := 53) rfl rfl (sT hg53) ?_
        refine WL.gskip (u := 53) rfl rfl (sT hg53) ?_
        refine WL.gskip (u := 53) rfl rfl (sT hg53) ?_
        exact K53 _ zcR
      case h15_2 => exact Wanted.plain rfl
      refine WL.nil ?_
      refine WQ.thn ?_
      first | refine WC.cond rfl (fun hc2 => ?_) (fun hc2 => ?_) | refine WC.condB rfl (fun hc2 => ?_) (fun hc2 => ?_)
      · have hreg : isKind kl kh o = true := by simp only [isKind, decide_eq_true_eq]; exact hc2
        refine WC.region ?_
        refine WL.pur (Pur.move rfl) ?_
        refine WL.pur (Pur.fieldAddr rfl fo_51_1) ?_
        refine' WL.pur (Pur.load1 rfl ty_9 ?h18_0) ?k18
        case h18_0 => first | (apply Rd.own1; exact zmE; rfl) | (apply RdV.rd; apply RdV.idx (i := 1); assumption; rfl) | (apply RdV.rd; apply RdV.idx (off := 0) (i := 1); assumption; rfl)
        refine WL.new (New.buildSliceS (xs := [.tmp 61]) sl_23 zc_9 rfl rfl rfl (by rfl) (by rfl)) (fun b62 => ?_)
        refine' WL.any (Any.push (H1 := [(b62, _), (b10, _)]) (H2 := Hr) sl_23 zc_9 rfl by_9 rfl rfl hso2 ?h19_0 ?h19_1 ?h19_2 ?h19_3 rfl (by omega) (by omega)) ?k19
        case h19_0 => apply Rd.own_sub; exact zmE; exact Sub.refl _
        case h19_1 => first | rfl | assumption
        case h19_2 => first | rfl | assumption
        case h19_3 => exact ⟨rfl, hkok⟩
        rintro v63 σ _ ⟨hl3, hso3, rfl, rfl⟩ _
        refine WL.pur (Pur.assign rfl) ?_
        refine WL.nil ?_
        refine WQ.blk ?_
        refine WQ.thn ?_
        refine WC.region ?_
        refine WL.pur (Pur.move rfl) ?_
        refine' WL.pur (Pur.bin rfl rfl ?h20_0) ?k20
        case h20_0 => first | (refine Bin.addN (b := 1) ?_; omega) | (refine Bin.addI ?_; omega)
        refine WL.pur (Pur.assign rfl) ?_
        refine WL.nil ?_
        refine WQ.back _ ⟨q + 1, _, _, rfl, by omega, by rw [pickOps_step hoq, if_pos hreg, ← List.append_assoc, keysOf_app]; exact hso3, rfl, rfl, rfl⟩ (by omega) zcV zsL
      · have hreg : ¬ isKind kl kh o = true := by simp only [isKind, decide_eq_true_eq]; exact hc2
        refine WC.skip ?_
        refine WQ.blk ?_
        refine WQ.thn ?_
        refine WC.region ?_
        refine WL.pur (Pur.move rfl) ?_
        refine' WL.pur (Pur.bin rfl rfl ?h21_0) ?k21
        case h21_0 => first | (refine Bin.addN (b := 1) ?_; omega) | (refine Bin.addI ?_; omega)
        refine WL.pur (Pur.assign rfl) ?_
        refine WL.nil ?_
        refine WQ.back _ ⟨q + 1, sv2, hl2, rfl, by omega, by rw [pickOps_step hoq, if_neg hreg, List.append_nil]; exact hso2, rfl, rfl, rfl⟩ (by omega) zcV zsL
    · refine WC.exit ?_
      refine WQ.thn_exit ?_
      refine WQ.back_exit ?_
      refine WQ.blk_here ?_
      refine WQ.blk ?_
      refine WQ.thn ?_
      refine WC.region ?_
      refine WL.pur (Pur.move rfl) ?_
      refine' WL.pur (Pur.bin rfl rfl ?h22_0) ?k22
      case h22_0 => first | (refine Bin.addN (b := 1) ?_; omega) | (refine Bin.addI ?_; omega)
      refine WL.pur (Pur.assign rfl) ?_
      refine WL.nil ?_
      refine WQ.back _ ⟨i + 1, sv2, hl2, rfl, by omega, by rw [opsN_succ, hop]; rw [List.take_of_length_le (show e.node.ops.length ≤ q by omega)] at hso2; exact hso2, rfl, rfl, rfl⟩ (by omega) zcV zsL
  · have hil : i = L.length := by omega
    subst hil
    have hkl := opsN_len ho (isKind kl kh) L.length
    have hkl2 : (keysOf (opsN L (isKind kl kh) L.length)).length ≤ L.length * 1024 := by unfold keysOf; rw [List.length_map]; exact hkl
    refine WC.giveS (byt := 16) (H1 := []) (H2 := Hr) eStr_mono hso (by omega) rfl (fun σ1 hle1 hsl1 => ?_)
    rw [List.nil_append]
    refine WC.exit ?_
    refine WQ.thn_exit ?_
    refine WQ.back_exit ?_
    refine WQ.blk_here ?_
    refine WQ.thn ?_
    refine WC.seq ?_
    refine WC.region ?_
    refine WL.pur (Pur.move rfl) ?_
    refine WL.call (H0 := []) (Hr := Hr) rfl Tryz.call119 (List.Perm.refl _) (r11_texts _ (keysOf (opsN L (isKind kl kh) L.length)) _ _ rfl hsl1) ?_
    rintro v65 σ2 _ ⟨hT, rfl⟩ hle2
    rw [List.nil_append]
    obtain ⟨ta, tc, rfl, htc, htb⟩ := hT.shape
    obtain ⟨tb, toff, het⟩ := addr_of hT
    refine WL.pur (Pur.assign rfl) ?_
    refine WL.nil ?_
    refine WQ.thn ?_
    refine WC.seq ?_
    refine WC.region ?_
    refine WL.new (New.buildSlice0 sl_23) (fun b66 => ?_)
    refine WL.pur (Pur.assign rfl) ?_
    refine WL.nil ?_
    refine WQ.thn ?_
    refine WC.seq ?_
    refine WC.seq ?_
    refine WC.region ?_
    refine WL.pur (Pur.assign rfl) ?_
    refine WL.nil ?_
    refine WQ.thn ?_
    refine WC.block ?_
    refine WC.loop (fun j m σ' H' => ∃ (i : Nat) (sv : Value) (hl : HList), j = (textsL (keysOf (opsN L (isKind kl kh) L.length))).length - i ∧ i ≤ (textsL (keysOf (opsN L (isKind kl kh) L.length))).length ∧ SlO σ2 eStr 9 1 sv (dedup ((textsL (keysOf (opsN L (isKind kl kh) L.length))).take i)) hl ∧ m = [(7, .slice ta (textsL (keysOf (opsN L (isKind kl kh) L.length))).length tc), (11, sv), (12, .int .i64 (i : Int))] ∧ σ' = σ2 ∧ H' = hl ++ Hr) ⟨0, _, [(b66, rowO 9 [])], rfl, by omega, by rw [List.take_zero]; exact row_nilS _ b66, rfl, rfl, rfl⟩ zcV zsL ?_
    rintro _ _ σ Hr ⟨i, sv, hl, rfl, hi, hso, rfl, rfl, rfl⟩
    refine WC.seq ?_
    refine WC.seq ?_
    refine WC.region ?_
    refine WL.pur (Pur.move rfl) ?_
    refine WL.pur (Pur.move rfl) ?_
    refine WL.pur (Pur.len rfl isSlice_23) ?_
    refine' WL.pur (Pur.bin rfl rfl ?h23_0) ?k23
    case h23_0 => first | exact Bin.ltN | exact Bin.ltI | exact Bin.ltS
    refine WL.nil ?_
    refine WQ.thn ?_
    first | refine WC.cond rfl (fun hc3 => ?_) (fun hc3 => ?_) | refine WC.condB rfl (fun hc3 => ?_) (fun hc3 => ?_)
    · have hrs := str_rd hT het hc3
      have hok3 := hrs.2
      have hdl := dedup_len ((textsL (keysOf (opsN L (isKind kl kh) L.length))).take i)
      rw [List.length_take] at hdl
      have htxl := textsL_len (keysOf (opsN L (isKind kl kh) L.length))
      refine WC.skip ?_
      refine WQ.thn ?_
      refine WC.seq ?_
      refine WC.block ?_
      refine WC.seq ?_
      refine WC.drawH 14 14 mixed (by kernel_rfl) rfl ?_
      refine SA.take 0 (by kernel_rfl) rfl rfl rfl (Wanted.plain rfl) zsL (View.le_refl _) (Pur.move rfl) ?_
      refine' SA.take 1 (by kernel_rfl) rfl rfl rfl (Wanted.plain rfl) zsL (View.le_refl _) (Pur.bin rfl rfl ?h24_0) ?k24
      case h24_0 => first | exact Bin.eqN (b := 0) | exact Bin.eqI
      refine SA.take 2 (by kernel_rfl) rfl rfl rfl (Wanted.plain rfl) zsL (View.le_refl _) (Pur.move rfl) ?_
      refine' SA.orp 13 (u := 75) rfl ?h25_0 ?h25_1 ?h25_2 rfl zsL (View.le_refl _) ?h25_3 rfl ?k25
      case h25_0 =>
        intro hg75 K75
        have hrs1 := str_rd hT het (show i - 1 < (textsL (keysOf (opsN L (isKind kl kh) L.length))).length by omega)
        refine SA.take 3 (by kernel_rfl) rfl rfl rfl (Wanted.guard (u := 75) rfl rfl rfl (gF hg75)) zsL (View.le_refl _) (Pur.move rfl) ?_
        refine SA.take 4 (by kernel_rfl) rfl rfl rfl (Wanted.guard (u := 75) rfl rfl rfl (gF hg75)) zsL (View.le_refl _) (Pur.move rfl) ?_
        refine' SA.take 5 (by kernel_rfl) rfl rfl rfl (Wanted.guard (u := 75) rfl rfl rfl (gF hg75)) zsL (View.le_refl _) (Pur.indexAddr (eqA (het (by omega))) rfl sl_23 ?h26_0) ?k26
        case h26_0 => omega
        refine' SA.take 6 (by kernel_rfl) rfl rfl rfl (Wanted.guard (u := 75) rfl rfl rfl (gF hg75)) zsL (View.le_refl _) (Pur.load1 rfl ty_9 ?h27_0) ?k27
        case h27_0 => exact RdV.rd hrs.1
        refine SA.take 7 (by kernel_rfl) rfl rfl rfl (Wanted.guard (u := 75) rfl rfl rfl (gF hg75)) zsL (View.le_refl _) (Pur.move rfl) ?_
        refine SA.take 8 (by kernel_rfl) rfl rfl rfl (Wanted.guard (u := 75) rfl rfl rfl (gF hg75)) zsL (View.le_refl _) (Pur.move rfl) ?_
        refine' SA.take 9 (by kernel_rfl) rfl rfl rfl (Wanted.guard (u := 75) rfl rfl rfl (gF hg75)) zsL (View.le_refl _) (Pur.bin rfl rfl ?h28_0) ?k28
        case h28_0 => exact Bin.subN (a := i) (b := 1) (by omega) (by omega)
        refine' SA.take 10 (by kernel_rfl) rfl rfl rfl (Wanted.guard (u := 75) rfl rfl rfl (gF hg75)) zsL (View.le_refl _) (Pur.indexAddr (eqA (het (by omega))) rfl sl_23 ?h29_0) ?k29
        case h29_0 => omega
        refine' SA.take 11 (by kernel_rfl) rfl rfl rfl (Wanted.guard (u := 75) rfl rfl rfl (gF hg75)) zsL (View.le_refl _) (Pur.load1 rfl ty_9 ?h30_0) ?k30
        case h30_0 => exact RdV.rd hrs1.1
        refine' SA.take 12 (by kernel_rfl) rfl rfl rfl (Wanted.guard (u := 75) rfl rfl rfl (gF hg75)) zsL (View.le_refl _) (Pur.bin rfl rfl ?h31_0) ?k31
        case h31_0 => exact Bin.neS
        exact K75 _ zcR rfl
      case h25_1 =>
        intro hg75 K75
        refine SA.gskip 3 (u := 75) (by kernel_rfl) rfl rfl rfl rfl rfl rfl (sF hg75) zsL (View.le_refl _) ?_
        refine SA.gskip 4 (u := 75) (by kernel_rfl) rfl rfl rfl rfl rfl rfl (sF hg75) zsL (View.le_refl _) ?_
        refine SA.gskip 5 (u := 75) (by kernel_rfl) rfl rfl rfl rfl rfl rfl (sF hg75) zsL (View.le_refl _) ?_
        refine SA.gskip 6 (u := 75) (by kernel_rfl) rfl rfl rfl rfl rfl rfl (sF hg75) zsL (View.le_refl _) ?_
        refine SA.gskip 7 (u := 75) (by kernel_rfl) rfl rfl rfl rfl rfl rfl (sF hg75) zsL (View.le_refl _) ?_
        refine SA.gskip 8 (u := 75) (by kernel_rfl) rfl rfl rfl rfl rfl rfl (sF hg75) zsL (View.le_refl _) ?_
        refine SA.gskip 9 (u := 75) (by kernel_rfl) rfl rfl rfl rfl rfl rfl (sF hg75) zsL (View.le_refl _) ?_
        refine SA.gskip 10 (u := 75) (by kernel_rfl) rfl rfl rfl rfl rfl rfl (sF hg75) zsL (View.le_refl _) ?_
        refine SA.gskip 11 (u := 75) (by kernel_rfl) rfl rfl rfl rfl rfl rfl (sF hg75) zsL (View.le_refl _) ?_
        refine SA.gskip 12 (u := 75) (by kernel_rfl) rfl rfl rfl rfl rfl rfl (sF hg75) zsL (View.le_refl _) ?_
        exact K75 _ zcR
      case h25_2 => kernel_rfl
      case h25_3 => exact Wanted.plain rfl
      refine SA.done (by kernel_rfl) ?_
      refine WQ.thn ?_
      first | refine WC.cond rfl (fun hc4 => ?_) (fun hc4 => ?_) | refine WC.condB rfl (fun hc4 => ?_) (fun hc4 => ?_)
      · refine WC.region ?_
        refine WL.pur (Pur.move rfl) ?_
        refine WL.pur (Pur.move rfl) ?_
        refine WL.pur (Pur.move rfl) ?_
        refine' WL.pur (Pur.indexAddr (eqA (het (by omega))) rfl sl_23 ?h32_0) ?k32
        case h32_0 => omega
        refine' WL.pur (Pur.load1 rfl ty_9 ?h33_0) ?k33
        case h33_0 => exact RdV.rd hrs.1
        refine WL.new (New.buildSliceS (xs := [.tmp 91]) sl_23 zc_9 rfl rfl rfl (by rfl) (by rfl)) (fun b92 => ?_)
        refine' WL.any (Any.push (H1 := [(b92, _)]) (H2 := Hr) sl_23 zc_9 rfl by_9 rfl rfl hso ?h34_0 ?h34_1 ?h34_2 ?h34_3 rfl (by omega) (by omega)) ?k34
        case h34_0 => apply Rd.own_sub; exact zmE; exact Sub.refl _
        case h34_1 => first | rfl | assumption
        case h34_2 => first | rfl | assumption
        case h34_3 => exact ⟨rfl, hok3⟩
        rintro v93 σ _ ⟨hl4, hso4, rfl, rfl⟩ _
        refine WL.pur (Pur.assign rfl) ?_
        refine WL.nil ?_
        refine WQ.blk ?_
        refine WQ.thn ?_
        refine WC.region ?_
        refine WL.pur (Pur.move rfl) ?_
        refine' WL.pur (Pur.bin rfl rfl ?h35_0) ?k35
        case h35_0 => first | (refine Bin.addN (b := 1) ?_; omega) | (refine Bin.addI ?_; omega)
        refine WL.pur (Pur.assign rfl) ?_
        refine WL.nil ?_
        refine WQ.back _ ⟨i + 1, _, _, rfl, by omega, by rw [dedup_take hc3, if_pos hc4]; exact hso4, rfl, rfl, rfl⟩ (by omega) zcV zsL
      · refine WC.skip ?_
        refine WQ.blk ?_
        refine WQ.thn ?_
        refine WC.region ?_
        refine WL.pur (Pur.move rfl) ?_
        refine' WL.pur (Pur.bin rfl rfl ?h36_0) ?k36
        case h36_0 => first | (refine Bin.addN (b := 1) ?_; omega) | (refine Bin.addI ?_; omega)
        refine WL.pur (Pur.assign rfl) ?_
        refine WL.nil ?_
        refine WQ.back _ ⟨i + 1, sv, hl, rfl, by omega, by rw [dedup_take hc3, if_neg hc4]; exact hso, rfl, rfl, rfl⟩ (by omega) zcV zsL
    · refine WC.exit ?_
      refine WQ.thn_exit ?_
      refine WQ.back_exit ?_
      refine WQ.blk_here ?_
      refine WQ.thn ?_
      refine WC.seq ?_
      refine WC.region ?_
      refine WL.pur (Pur.move rfl) ?_
      refine WL.pur (Pur.assign rfl) ?_
      refine WL.nil ?_
      refine WQ.thn ?_
      refine WC.ret ?_
      refine WQ.ret1 Tryz.results47 rfl hl (List.Sublist.refl _) (View.le_trans hle1 hle2) ?_
      exact ⟨_, by rw [keysR_eq]; rw [List.take_of_length_le (by omega)] at hso; exact hso, rfl⟩

theorem r14_Read (σ0 : View) (pv : Value) (L : List EntD) (key : ByteArray) (h : R11V σ0 pv L) (ho : OrdOk L) :
    Tri Tryz.prog 29 #[pv, .string key] σ0 [] (fun v σ' H' => ∃ h, SlO σ' eStr 9 1 v (regHeld L key) h ∧ H' = h) := by
  have hmost := ho.most
  have hopsok : ∀ i, ∀ o ∈ opsAt L i, o.ok := r11_opsOk h
  refine Tri.of_body [(0, pv), (1, .string key)] Tryz.func29 rfl Tryz.ntmps29 (by simp) rfl (fun Hr => ?_)
  rw [List.nil_append]
  refine WC.seq ?_
  refine WC.region ?_
  refine WL.pur (Pur.assign rfl) ?_
  refine WL.nil ?_
  refine WQ.thn ?_
  refine WC.seq ?_
  refine WC.region ?_
  refine WL.pur (Pur.move rfl) ?_
  refine WL.pur (Pur.move rfl) ?_
  refine WL.call (H0 := []) (Hr := Hr) rfl Tryz.call104 (List.Perm.refl _) (r11_Spots _ _ L key 1 2 h ho) ?_
  rintro v13 σ _ ⟨⟨hh, hso0, rfl⟩, rfl⟩ _
  have htn := tripsN_len ho (isKey key 1 2) L.length
  refine WL.giveS (byt := 16) (H1 := []) (H2 := Hr) eSpot_mono hso0 (by omega) rfl (fun σ1 hle1 hsl1 => ?_)
  rw [List.nil_append]
  have h1 := h.mono hle1
  obtain ⟨sa, sc, rfl, hsc, hsb⟩ := hsl1.shape
  obtain ⟨sb, soff, hes, hsat⟩ := hsl1.rds
  refine WL.pur (Pur.assign rfl) ?_
  refine WL.nil ?_
  refine WQ.thn ?_
  refine WC.seq ?_
  refine WC.region ?_
  refine WL.new (New.buildSlice0 sl_23) (fun b14 => ?_)
  refine WL.pur (Pur.assign rfl) ?_
  refine WL.nil ?_
  refine WQ.thn ?_
  refine WC.seq ?_
  refine WC.seq ?_
  refine WC.region ?_
  refine WL.pur (Pur.assign rfl) ?_
  refine WL.nil ?_
  refine WQ.thn ?_
  refine WC.block ?_
  refine WC.loop (fun j m σ' H' => ∃ (i : Nat) (sv : Value) (acc : List ByteArray) (hl : HList), j = (tripsN L (isKey key 1 2) L.length).length - i ∧ i ≤ (tripsN L (isKey key 1 2) L.length).length ∧ acc.length ≤ i ∧ SlO σ1 eStr 9 1 sv acc hl ∧ acc ++ heldS L (((tripsN L (isKey key 1 2) L.length).map tOp).drop i) = regHeld L key ∧ m = [(0, pv), (5, .slice sa (tripsN L (isKey key 1 2) L.length).length sc), (6, sv), (7, .int .i64 (i : Int))] ∧ σ' = σ1 ∧ H' = hl ++ Hr) ⟨0, _, [], [(b14, rowO 9 [])], rfl, by omega, by simp, row_nilS _ b14, by rw [List.drop_zero, regHeld_trips]; rfl, rfl, rfl, rfl⟩ zcV zsL ?_
  rintro _ _ σ Hr ⟨i, sv, acc, hl, rfl, hi, hal, hso, hacc, rfl, rfl, rfl⟩
  refine WC.seq ?_
  refine WC.seq ?_
  refine WC.region ?_
  refine WL.pur (Pur.move rfl) ?_
  refine WL.pur (Pur.move rfl) ?_
  refine WL.pur (Pur.len rfl isSlice_160) ?_
  refine' WL.pur (Pur.bin rfl rfl ?h1_0) ?k1
  case h1_0 => first | exact Bin.ltN | exact Bin.ltI | exact Bin.ltS
  refine WL.nil ?_
  refine WQ.thn ?_
  first | refine WC.cond rfl (fun hc0 => ?_) (fun hc0 => ?_) | refine WC.condB rfl (fun hc0 => ?_) (fun hc0 => ?_)
  · obtain ⟨t, ht⟩ : ∃ t, (tripsN L (isKey key 1 2) L.length)[i]? = some t := ⟨_, List.getElem?_eq_getElem (by omega)⟩
    obtain ⟨hti, ht1, ht2, ht3⟩ := tripsN_mem (List.mem_of_getElem? ht)
    obtain ⟨vs, _, _, rfl, htr⟩ := hsat i t ht
    have hok := hopsok t.1 t.2.2 (List.mem_of_getElem? ht2)
    refine WC.skip ?_
    refine WQ.thn ?_
    refine WC.seq ?_
    refine WC.block ?_
    refine WC.seq ?_
    refine WC.region ?_
    refine WL.pur (Pur.move rfl) ?_
    refine WL.pur (Pur.move rfl) ?_
    refine WL.pur (Pur.move rfl) ?_
    refine' WL.pur (Pur.indexAddr (eqA (hes (by omega))) rfl sl_160 ?h2_0) ?k2
    case h2_0 => omega
    refine' WL.pur (Pur.loadN rfl ty_164 ?h3_0 ?h3_1) ?k3
    case h3_0 => exact RdV.rd htr
    case h3_1 => first | rfl | assumption
    refine WL.callP rfl Tryz.call105 ((r11_Operation _ _ L t h1 ho hti ht1 ht2)) ?_
    refine WL.new (New.alloc zc_51) (fun b8 => ?_)
    refine' WL.run0 (Run.storeAll rfl rfl ty_51 ?h4_0 (by first | rfl | assumption) ?h4_1 (by first | rfl | assumption)) ?k4
    case h4_0 => repeat (first | exact Part.one | exact Part.here | apply Part.cons | apply Part.app)
    case h4_1 => first | rfl | assumption
    refine WL.nil ?_
    refine WQ.thn ?_
    refine WC.seq ?_
    refine WC.region ?_
    refine WL.pur (Pur.assign rfl) ?_
    refine WL.nil ?_
    refine WQ.thn ?_
    refine WC.seq ?_
    refine WC.seq ?_
    refine WC.region ?_
    refine WL.pur (Pur.move rfl) ?_
    refine' WL.pur (Pur.bin rfl rfl ?h5_0) ?k5
    case h5_0 => first | (refine Bin.addN (b := 1) ?_; omega) | (refine Bin.addI ?_; omega)
    refine WL.pur (Pur.assign rfl) ?_
    refine WL.nil ?_
    refine WQ.thn ?_
    refine WC.block ?_
    refine WC.loop (fun j m σ' H' => ∃ (q : Nat) (ovp : Prop) (_ : Decidable ovp), j = (tripsN L (isKey key 1 2) L.length).length - (i + 1 + q) ∧ i + 1 + q ≤ (tripsN L (isKey key 1 2) L.length).length ∧ (ovp ↔ overB L t.1 ((((tripsN L (isKey key 1 2) L.length).map tOp).drop (i + 1)).take q) = true) ∧ m = [(0, pv), (5, .slice sa (tripsN L (isKey key 1 2) L.length).length sc), (6, sv), (7, .int .i64 (i : Int)), (8, .pointer (some ⟨b8, 0, none⟩)), (9, .bool (decide ovp)), (10, .int .i64 ((i + 1 + q : Nat) : Int))] ∧ σ' = σ ∧ H' = (b8, rowO 51 t.2.2.cells) :: (hl ++ Hr)) ⟨0, False, inferInstance, rfl, by omega, by simp [overB], rfl, rfl, rfl⟩ zcV zsL ?_
    rintro _ _ σ Hr ⟨q, ovp, hdec, rfl, hq, hovq, rfl, rfl, rfl⟩
    refine WC.seq ?_
    refine WC.seq ?_
    refine WC.region ?_
    refine WL.pur (Pur.move rfl) ?_
    refine WL.pur (Pur.move rfl) ?_
    refine WL.pur (Pur.len rfl isSlice_160) ?_
    refine' WL.pur (Pur.bin rfl rfl ?h6_0) ?k6
    case h6_0 => first | exact Bin.ltN | exact Bin.ltI | exact Bin.ltS
    refine WL.pur (Pur.move rfl) ?_
    refine' WL.andp (u := 33) (t := 36) rfl ?h7_0 ?h7_1 ?h7_2 rfl ?k7
    case h7_0 =>
      intro hg33 K33
      refine WL.gpur (u := 33) rfl rfl (gT hg33) (Pur.move rfl) ?_
      first | refine WL.gpur (u := 33) rfl rfl (gT hg33) (Pur.not rfl) ?_ | refine WL.gpur (u := 33) rfl rfl (gT hg33) (Pur.notB rfl) ?_
      exact K33 _ zcR rfl
    case h7_1 =>
      intro hg33 K33
      refine WL.gskip (u := 33) rfl rfl (sT hg33) ?_
      refine WL.gskip (u := 33) rfl rfl (sT hg33) ?_
      exact K33 _ zcR
    case h7_2 => exact Wanted.plain rfl
    refine WL.nil ?_
    refine WQ.thn ?_
    first | refine WC.cond rfl (fun hc1 => ?_) (fun hc1 => ?_) | refine WC.condB rfl (fun hc1 => ?_) (fun hc1 => ?_)
    · obtain ⟨c, hc⟩ : ∃ c, (tripsN L (isKey key 1 2) L.length)[i + 1 + q]? = some c := ⟨_, List.getElem?_eq_getElem hc1.1⟩
      obtain ⟨hci, hc1_, hc2_, hc3_⟩ := tripsN_mem (List.mem_of_getElem? hc)
      obtain ⟨vs2, _, _, rfl, hcr⟩ := hsat _ c hc
      have hkn := knows_iff (L := L) (tripsN_up L (isKey key 1 2) L.length) (show i < i + 1 + q by omega) ht hc
      have hrx : (((tripsN L (isKey key 1 2) L.length).map tOp).drop (i + 1))[q]? = some (tOp c) := by rw [List.getElem?_drop]; simp [hc]
      have hnew : (t.1 = c.1 ∨ seesN L t.1 c.1 = true) ↔ overB L t.1 ((((tripsN L (isKey key 1 2) L.length).map tOp).drop (i + 1)).take (q + 1)) = true := by
        rw [overB_step hrx]
        have h0 : overB L t.1 ((((tripsN L (isKey key 1 2) L.length).map tOp).drop (i + 1)).take q) = false := by
          cases hx : overB L t.1 ((((tripsN L (isKey key 1 2) L.length).map tOp).drop (i + 1)).take q) with
          | false => rfl
          | true => exact absurd (hovq.2 hx) hc1.2
        rw [h0]
        simp only [Bool.false_or, Bool.or_eq_true, decide_eq_true_eq]
        exact ⟨fun h => h.imp Eq.symm id, fun h => h.imp Eq.symm id⟩
      refine WC.skip ?_
      refine WQ.thn ?_
      refine WC.seq ?_
      refine WC.block ?_
      refine WC.drawH 11 11 mixed (by kernel_rfl) rfl ?_
      refine SA.take 0 (by kernel_rfl) rfl rfl rfl (Wanted.plain rfl) zsL (View.le_refl _) (Pur.move rfl) ?_
      refine SA.take 1 (by kernel_rfl) rfl rfl rfl (Wanted.plain rfl) zsL (View.le_refl _) (Pur.move rfl) ?_
      refine SA.take 2 (by kernel_rfl) rfl rfl rfl (Wanted.plain rfl) zsL (View.le_refl _) (Pur.move rfl) ?_
      refine' SA.take 3 (by kernel_rfl) rfl rfl rfl (Wanted.plain rfl) zsL (View.le_refl _) (Pur.indexAddr (eqA (hes (by omega))) rfl sl_160 ?h8_0) ?k8
      case h8_0 => omega
      refine' SA.take 4 (by kernel_rfl) rfl rfl rfl (Wanted.plain rfl) zsL (View.le_refl _) (Pur.loadN rfl ty_164 ?h9_0 ?h9_1) ?k9
      case h9_0 => exact RdV.rd htr
      case h9_1 => first | rfl | assumption
      refine SA.take 5 (by kernel_rfl) rfl rfl rfl (Wanted.plain rfl) zsL (View.le_refl _) (Pur.move rfl) ?_
      refine SA.take 6 (by kernel_rfl) rfl rfl rfl (Wanted.plain rfl) zsL (View.le_refl _) (Pur.move rfl) ?_
      refine' SA.take 7 (by kernel_rfl) rfl rfl rfl (Wanted.plain rfl) zsL (View.le_refl _) (Pur.indexAddr (eqA (hes (by omega))) rfl sl_160 ?h10_0) ?k10
      case h10_0 => omega
      refine' SA.take 8 (by kernel_rfl) rfl rfl rfl (Wanted.plain rfl) zsL (View.le_refl _) (Pur.loadN rfl ty_164 ?h11_0 ?h11_1) ?k11
      case h11_0 => exact RdV.rd hcr
      case h11_1 => first | rfl | assumption
      refine SA.callP 9 rfl rfl (Wanted.plain rfl) (by kernel_rfl) rfl Tryz.call106 zsL (View.le_refl _) ((r11_Knows _ _ L t c h1 ho hti hci hkn)) ?_
      refine SA.take 10 (by kernel_rfl) rfl rfl rfl (Wanted.plain rfl) zsL (View.le_refl _) (Pur.assign rfl) ?_
      refine SA.done (by kernel_rfl) ?_
      refine WQ.blk ?_
      refine WQ.thn ?_
      refine WC.region ?_
      refine WL.pur (Pur.move rfl) ?_
      refine' WL.pur (Pur.bin rfl rfl ?h12_0) ?k12
      case h12_0 => first | (refine Bin.addN (b := 1) ?_; omega) | (refine Bin.addI ?_; omega)
      refine WL.pur (Pur.assign rfl) ?_
      refine WL.nil ?_
      refine WQ.back _ ⟨q + 1, _, inferInstance, rfl, by omega, hnew, rfl, rfl, rfl⟩ (by omega) zcV zsL
    · have hov : ¬ ovp ↔ overB L t.1 (((tripsN L (isKey key 1 2) L.length).map tOp).drop (i + 1)) = false := by
        rw [hovq]
        constructor
        · intro hx
          by_cases hlt : i + 1 + q < (tripsN L (isKey key 1 2) L.length).length
          · exact absurd ⟨hlt, fun hp => hx (hovq.1 hp)⟩ hc1
          · rw [List.take_of_length_le (by rw [List.length_drop, List.length_map]; omega)] at hx
            simpa using hx
        · intro hx hy
          rw [overB_mono hy] at hx; cases hx
      refine WC.exit ?_
      refine WQ.thn_exit ?_
      refine WQ.back_exit ?_
      refine WQ.blk_here ?_
      refine WQ.thn ?_
      refine WC.seq ?_
      refine WC.region ?_
      refine WL.pur (Pur.fieldAddr rfl fo_51_0) ?_
      refine' WL.pur (Pur.load1 rfl ty_3 ?h13_0) ?k13
      case h13_0 => first | (apply Rd.own1; exact zmE; rfl) | (apply RdV.rd; apply RdV.idx (i := 0); assumption; rfl)
      refine' WL.pur (Pur.bin rfl rfl ?h14_0) ?k14
      case h14_0 => first | exact Bin.eqN (b := 1) | exact Bin.eqI
      refine WL.pur (Pur.move rfl) ?_
      refine' WL.andp (u := 52) (t := 55) rfl ?h15_0 ?h15_1 ?h15_2 rfl ?k15
      case h15_0 =>
        intro hg52 K52
        refine WL.gpur (u := 52) rfl rfl (gT hg52) (Pur.move rfl) ?_
        first | refine WL.gpur (u := 52) rfl rfl (gT hg52) (Pur.not rfl) ?_ | refine WL.gpur (u := 52) rfl rfl (gT hg52) (Pur.notB rfl) ?_
        exact K52 _ zcR rfl
      case h15_1 =>
        intro hg52 K52
        refine WL.gskip (u := 52) rfl rfl (sT hg52) ?_
        refine WL.gskip (u := 52) rfl rfl (sT hg52) ?_
        exact K52 _ zcR
      case h15_2 => exact Wanted.plain rfl
      refine WL.nil ?_
      refine WQ.thn ?_
      first | refine WC.cond rfl (fun hc2 => ?_) (fun hc2 => ?_) | refine WC.condB rfl (fun hc2 => ?_) (fun hc2 => ?_)
      · have htok : StrOk t.2.2.text := hok.2.2.1
        refine WC.region ?_
        refine WL.pur (Pur.move rfl) ?_
        refine WL.pur (Pur.fieldAddr rfl fo_51_2) ?_
        refine' WL.pur (Pur.load1 rfl ty_9 ?h16_0) ?k16
        case h16_0 => first | (apply Rd.own1; exact zmE; rfl) | (apply RdV.rd; apply RdV.idx (i := 2); assumption; rfl) | (apply RdV.rd; apply RdV.idx (off := 0) (i := 2); assumption; rfl)
        refine WL.new (New.buildSliceS (xs := [.tmp 58]) sl_23 zc_9 rfl rfl rfl (by rfl) (by rfl)) (fun b59 => ?_)
        refine' WL.any (Any.push (H1 := [(b59, _), (b8, _)]) (H2 := Hr) sl_23 zc_9 rfl by_9 rfl rfl hso ?h17_0 ?h17_1 ?h17_2 ?h17_3 rfl (by omega) (by omega)) ?k17
        case h17_0 => apply Rd.own_sub; exact zmE; exact Sub.refl _
        case h17_1 => first | rfl | assumption
        case h17_2 => first | rfl | assumption
        case h17_3 => exact ⟨rfl, htok⟩
        rintro v60 σ _ ⟨hl3, hso3, rfl, rfl⟩ _
        refine WL.pur (Pur.assign rfl) ?_
        refine WL.nil ?_
        refine WQ.blk ?_
        refine WQ.thn ?_
        refine WC.region ?_
        refine WL.pur (Pur.move rfl) ?_
        refine' WL.pur (Pur.bin rfl rfl ?h18_0) ?k18
        case h18_0 => first | (refine Bin.addN (b := 1) ?_; omega) | (refine Bin.addI ?_; omega)
        refine WL.pur (Pur.assign rfl) ?_
        refine WL.nil ?_
        refine WQ.back _ ⟨i + 1, _, _, _, rfl, by omega, by simp; omega, hso3, by rw [← hacc, heldS_drop ht, if_pos ⟨hc2.1, hov.1 hc2.2⟩, List.append_assoc], rfl, rfl, rfl⟩ (by omega) zcV zsL
      · refine WC.skip ?_
        refine WQ.blk ?_
        refine WQ.thn ?_
        refine WC.region ?_
        refine WL.pur (Pur.move rfl) ?_
        refine' WL.pur (Pur.bin rfl rfl ?h19_0) ?k19
        case h19_0 => first | (refine Bin.addN (b := 1) ?_; omega) | (refine Bin.addI ?_; omega)
        refine WL.pur (Pur.assign rfl) ?_
        refine WL.nil ?_
        refine WQ.back _ ⟨i + 1, sv, acc, hl, rfl, by omega, by omega, hso, by rw [← hacc, heldS_drop ht, if_neg (fun h => hc2 ⟨h.1, hov.2 h.2⟩), List.nil_append], rfl, rfl, rfl⟩ (by omega) zcV zsL
  · refine WC.exit ?_
    refine WQ.thn_exit ?_
    refine WQ.back_exit ?_
    refine WQ.blk_here ?_
    refine WQ.thn ?_
    refine WC.seq ?_
    refine WC.region ?_
    refine WL.pur (Pur.move rfl) ?_
    refine WL.pur (Pur.assign rfl) ?_
    refine WL.nil ?_
    refine WQ.thn ?_
    refine WC.ret ?_
    refine WQ.ret1 Tryz.results29 rfl hl (List.Sublist.refl _) hle1 ?_
    exact ⟨_, by rw [heldS_done (show (tripsN L (isKey key 1 2) L.length).length ≤ i by omega), List.append_nil] at hacc; rw [← hacc]; exact hso, rfl⟩

theorem r14_Keys (σ0 : View) (pv : Value) (L : List EntD) (h : R11V σ0 pv L) (ho : OrdOk L) :
    Tri Tryz.prog 25 #[pv] σ0 [] (fun v σ' H' => ∃ h, SlO σ' eStr 9 1 v (regKeys L) h ∧ H' = h) := by
  have hmost := ho.most
  refine Tri.of_body [(0, pv)] Tryz.func25 rfl Tryz.ntmps25 (by simp) rfl (fun Hr => ?_)
  rw [List.nil_append]
  refine WC.seq ?_
  refine WC.region ?_
  refine WL.pur (Pur.assign rfl) ?_
  refine WL.nil ?_
  refine WQ.thn ?_
  refine WC.seq ?_
  refine WC.region ?_
  refine WL.pur (Pur.move rfl) ?_
  refine WL.call (H0 := []) (Hr := Hr) rfl Tryz.call47 (List.Perm.refl _) (r11_Keys _ _ L 1 2 h ho) ?_
  rintro v7 σ _ ⟨hh, hso0, rfl⟩ hle0
  have hkn : (keysR L (isKind 1 2)).length ≤ L.length * 1024 := by
    have h1 := dedup_len (textsL (keysOf (opsN L (isKind 1 2) L.length)))
    rw [textsL_len] at h1
    have h2 := opsN_len ho (isKind 1 2) L.length
    unfold keysOf at h1
    rw [List.length_map] at h1
    rw [keysR_eq]; unfold keysOf; omega
  refine WL.giveS (byt := 16) (H1 := []) (H2 := Hr) eStr_mono hso0 (by omega) rfl (fun σ1 hle1 hK => ?_)
  rw [List.nil_append]
  obtain ⟨ka, kc, rfl, hkc, hkb⟩ := hK.shape
  obtain ⟨kb, koff, hek⟩ := addr_of hK
  refine WL.pur (Pur.assign rfl) ?_
  refine WL.nil ?_
  refine WQ.thn ?_
  refine WC.seq ?_
  refine WC.region ?_
  refine WL.new (New.buildSlice0 sl_23) (fun b8 => ?_)
  refine WL.pur (Pur.assign rfl) ?_
  refine WL.nil ?_
  refine WQ.thn ?_
  refine WC.seq ?_
  refine WC.seq ?_
  refine WC.region ?_
  refine WL.pur (Pur.assign rfl) ?_
  refine WL.nil ?_
  refine WQ.thn ?_
  refine WC.block ?_
  refine WC.loop (fun j m σ' H' => ∃ (i : Nat) (sv : Value) (hl : HList), j = (keysR L (isKind 1 2)).length - i ∧ i ≤ (keysR L (isKind 1 2)).length ∧ SlO σ' eStr 9 1 sv (((keysR L (isKind 1 2)).take i).filter (fun k => decide (0 < (regHeld L k).length))) hl ∧ σ1.le σ' ∧ m = [(0, pv), (3, .slice ka (keysR L (isKind 1 2)).length kc), (4, sv), (5, .int .i64 (i : Int))] ∧ H' = hl ++ Hr) ⟨0, _, [(b8, rowO 9 [])], rfl, by omega, by rw [List.take_zero]; exact row_nilS _ b8, View.le_refl _, rfl, rfl⟩ zcV zsL ?_
  rintro _ _ σ Hr ⟨i, sv, hl, rfl, hi, hso, hle9, rfl, rfl⟩
  have hK9 := hK.mono eStr_mono hle9
  refine WC.seq ?_
  refine WC.seq ?_
  refine WC.region ?_
  refine WL.pur (Pur.move rfl) ?_
  refine WL.pur (Pur.move rfl) ?_
  refine WL.pur (Pur.len rfl isSlice_23) ?_
  refine' WL.pur (Pur.bin rfl rfl ?h1_0) ?k1
  case h1_0 => first | exact Bin.ltN | exact Bin.ltI | exact Bin.ltS
  refine WL.nil ?_
  refine WQ.thn ?_
  first | refine WC.cond rfl (fun hc0 => ?_) (fun hc0 => ?_) | refine WC.condB rfl (fun hc0 => ?_) (fun hc0 => ?_)
  · have hks := str_rd hK9 hek hc0
    have hok3 := hks.2
    refine WC.skip ?_
    refine WQ.thn ?_
    refine WC.seq ?_
    refine WC.block ?_
    refine WC.seq ?_
    refine WC.region ?_
    refine WL.pur (Pur.move rfl) ?_
    refine WL.pur (Pur.move rfl) ?_
    refine WL.pur (Pur.move rfl) ?_
    refine' WL.pur (Pur.indexAddr (eqA (hek (by omega))) rfl sl_23 ?h2_0) ?k2
    case h2_0 => omega
    refine' WL.pur (Pur.load1 rfl ty_9 ?h3_0) ?k3
    case h3_0 => exact RdV.rd hks.1
    refine WL.call (H0 := []) (Hr := hl ++ Hr) rfl Tryz.call29 (List.Perm.refl _) (r14_Read _ _ L (sD (keysR L (isKind 1 2)) i) (h.mono (View.le_trans hle0 (View.le_trans hle1 hle9))) ho) ?_
    rintro v20 σ2 hR ⟨_, hsoR, rfl⟩ hle2
    obtain ⟨ra, rc, rfl, hrc⟩ := hsoR.shape
    refine WL.pur (Pur.len rfl isSlice_23) ?_
    refine' WL.pur (Pur.bin rfl rfl ?h4_0) ?k4
    case h4_0 => first | exact Bin.gtN (b := 0) | exact Bin.gtI
    refine WL.nil ?_
    refine WQ.thn ?_
    first | refine WC.cond rfl (fun hc1 => ?_) (fun hc1 => ?_) | refine WC.condB rfl (fun hc1 => ?_) (fun hc1 => ?_)
    · have hks2 := str_rd (hK9.mono eStr_mono hle2) hek hc0
      have hfl : (((keysR L (isKind 1 2)).take i).filter (fun k => decide (0 < (regHeld L k).length))).length ≤ i := Nat.le_trans (List.length_filter_le _ _) (by rw [List.length_take]; omega)
      refine WC.region ?_
      refine WL.pur (Pur.move rfl) ?_
      refine WL.pur (Pur.move rfl) ?_
      refine WL.pur (Pur.move rfl) ?_
      refine' WL.pur (Pur.indexAddr (eqA (hek (by omega))) rfl sl_23 ?h5_0) ?k5
      case h5_0 => omega
      refine' WL.pur (Pur.load1 rfl ty_9 ?h6_0) ?k6
      case h6_0 => exact RdV.rd hks2.1
      refine WL.new (New.buildSliceS (xs := [.tmp 27]) sl_23 zc_9 rfl rfl rfl (by rfl) (by rfl)) (fun b28 => ?_)
      refine' WL.any (Any.push (H1 := (b28, _) :: hR) (H2 := Hr) sl_23 zc_9 rfl by_9 rfl rfl (hso.mono eStr_mono hle2) ?h7_0 ?h7_1 ?h7_2 ?h7_3 rfl (by omega) (by omega)) ?k7
      case h7_0 => apply Rd.own_sub; exact zmE; exact Sub.refl _
      case h7_1 => first | rfl | assumption
      case h7_2 => first | rfl | assumption
      case h7_3 => exact ⟨rfl, hok3⟩
      rintro v29 σ _ ⟨hl3, hso3, rfl, rfl⟩ _
      refine WL.pur (Pur.assign rfl) ?_
      refine WL.nil ?_
      refine WQ.blk ?_
      refine WQ.thn ?_
      refine WC.region ?_
      refine WL.pur (Pur.move rfl) ?_
      refine' WL.pur (Pur.bin rfl rfl ?h8_0) ?k8
      case h8_0 => first | (refine Bin.addN (b := 1) ?_; omega) | (refine Bin.addI ?_; omega)
      refine WL.pur (Pur.assign rfl) ?_
      refine WL.nil ?_
      refine WQ.back _ ⟨i + 1, _, _, rfl, by omega, by rw [filter_take_step hc0, if_pos (by simpa using hc1)]; exact hso3, View.le_trans hle9 hle2, rfl, rfl⟩ (by omega) zcV zsL
    · refine WC.skip ?_
      refine WQ.blk ?_
      refine WQ.thn ?_
      refine WC.region ?_
      refine WL.pur (Pur.move rfl) ?_
      refine' WL.pur (Pur.bin rfl rfl ?h9_0) ?k9
      case h9_0 => first | (refine Bin.addN (b := 1) ?_; omega) | (refine Bin.addI ?_; omega)
      refine WL.pur (Pur.assign rfl) ?_
      refine WL.nil ?_
      refine WQ.back _ ⟨i + 1, sv, hl, rfl, by omega, by rw [filter_take_step hc0, if_neg (by simpa using hc1), List.append_nil]; exact hso.mono eStr_mono hle2, View.le_trans hle9 hle2, rfl, rfl⟩ (by omega) zcV zsL
  · refine WC.exit ?_
    refine WQ.thn_exit ?_
    refine WQ.back_exit ?_
    refine WQ.blk_here ?_
    refine WQ.thn ?_
    refine WC.seq ?_
    refine WC.region ?_
    refine WL.pur (Pur.move rfl) ?_
    refine WL.pur (Pur.assign rfl) ?_
    refine WL.nil ?_
    refine WQ.thn ?_
    refine WC.ret ?_
    refine WQ.ret1 Tryz.results25 rfl hl (List.Sublist.refl _) (View.le_trans hle0 (View.le_trans hle1 hle9)) ?_
    exact ⟨_, by rw [List.take_of_length_le (by omega), keysR_reg] at hso; exact hso, rfl⟩

end Go.Proofs.YtgoooilgmabkmaaGreat
namespace Go.Proofs.YtgoooilgmabkmaaGreat
open Go Go.Sl
set_option linter.unusedVariables false
set_option linter.unusedSimpArgs false
set_option maxRecDepth 100000

theorem cnt_step {L : List EntD} {S : List Trip} {i : Nat} {t : Trip} (h : S[i]? = some t) : (S.take (i + 1)).foldl (cntA L S) 0 = cntA L S ((S.take i).foldl (cntA L S) 0) t := by
  rw [List.take_add_one, h, Option.toList_some, List.foldl_append]; rfl

theorem r16_Value (σ0 : View) (pv : Value) (L : List EntD) (key : ByteArray) (h : R11V σ0 pv L) (ho : OrdOk L) :
    Tri Tryz.prog 42 #[pv, .string key] σ0 [] (fun v σ' H' => v = .int .i64 (cntV L key) ∧ H' = []) := by
  have hmost := ho.most
  have hopsok : ∀ i, ∀ o ∈ opsAt L i, o.ok := r11_opsOk h
  refine Tri.of_body [(0, pv), (1, .string key)] Tryz.func42 rfl Tryz.ntmps42 (by simp) rfl (fun Hr => ?_)
  rw [List.nil_append]
  refine WC.seq ?_
  refine WC.region ?_
  refine WL.pur (Pur.assign rfl) ?_
  refine WL.nil ?_
  refine WQ.thn ?_
  refine WC.seq ?_
  refine WC.region ?_
  refine WL.pur (Pur.move rfl) ?_
  refine WL.pur (Pur.move rfl) ?_
  refine WL.call (H0 := []) (Hr := Hr) rfl Tryz.call104 (List.Perm.refl _) (r11_Spots _ _ L key 6 7 h ho) ?_
  rintro v15 σ _ ⟨⟨hh, hso0, rfl⟩, rfl⟩ _
  have htn := tripsN_len ho (isKey key 6 7) L.length
  refine WL.giveS (byt := 16) (H1 := []) (H2 := Hr) eSpot_mono hso0 (by omega) rfl (fun σ1 hle1 hsl1 => ?_)
  rw [List.nil_append]
  have h1 := h.mono hle1
  obtain ⟨sa, sc, rfl, hsc, hsb⟩ := hsl1.shape
  obtain ⟨sb, soff, hes, hsat⟩ := hsl1.rds
  refine WL.pur (Pur.assign rfl) ?_
  refine WL.nil ?_
  refine WQ.thn ?_
  refine WC.seq ?_
  refine WC.region ?_
  refine WL.pur (Pur.assign rfl) ?_
  refine WL.nil ?_
  refine WQ.thn ?_
  refine WC.seq ?_
  refine WC.seq ?_
  refine WC.region ?_
  refine WL.pur (Pur.assign rfl) ?_
  refine WL.nil ?_
  refine WQ.thn ?_
  refine WC.block ?_
  refine WC.loop (fun j m σ' H' => ∃ (i : Nat) (a : Int), j = (tripsN L (isKey key 6 7) L.length).length - i ∧ i ≤ (tripsN L (isKey key 6 7) L.length).length ∧ a = ((tripsN L (isKey key 6 7) L.length).take i).foldl (cntA L (tripsN L (isKey key 6 7) L.length)) 0 ∧ m = [(0, pv), (5, .slice sa (tripsN L (isKey key 6 7) L.length).length sc), (6, .int .u64 a), (7, .int .i64 (i : Int))] ∧ σ' = σ1 ∧ H' = Hr) ⟨0, 0, rfl, by omega, rfl, rfl, rfl, rfl⟩ zcV zsL ?_
  rintro _ _ σ Hr ⟨i, a, rfl, hi, ha, rfl, rfl, rfl⟩
  refine WC.seq ?_
  refine WC.seq ?_
  refine WC.region ?_
  refine WL.pur (Pur.move rfl) ?_
  refine WL.pur (Pur.move rfl) ?_
  refine WL.pur (Pur.len rfl isSlice_160) ?_
  refine' WL.pur (Pur.bin rfl rfl ?h1_0) ?k1
  case h1_0 => first | exact Bin.ltN | exact Bin.ltI | exact Bin.ltS
  refine WL.nil ?_
  refine WQ.thn ?_
  first | refine WC.cond rfl (fun hc0 => ?_) (fun hc0 => ?_) | refine WC.condB rfl (fun hc0 => ?_) (fun hc0 => ?_)
  · obtain ⟨t, ht⟩ : ∃ t, (tripsN L (isKey key 6 7) L.length)[i]? = some t := ⟨_, List.getElem?_eq_getElem (by omega)⟩
    obtain ⟨hti, ht1, ht2, ht3⟩ := tripsN_mem (List.mem_of_getElem? ht)
    obtain ⟨vs, _, _, rfl, htr⟩ := hsat i t ht
    refine WC.skip ?_
    refine WQ.thn ?_
    refine WC.seq ?_
    refine WC.block ?_
    refine WC.seq ?_
    refine WC.region ?_
    refine WL.pur (Pur.move rfl) ?_
    refine WL.pur (Pur.move rfl) ?_
    refine WL.pur (Pur.move rfl) ?_
    refine' WL.pur (Pur.indexAddr (eqA (hes (by omega))) rfl sl_160 ?h2_0) ?k2
    case h2_0 => omega
    refine' WL.pur (Pur.loadN rfl ty_164 ?h3_0 ?h3_1) ?k3
    case h3_0 => exact RdV.rd htr
    case h3_1 => first | rfl | assumption
    refine WL.callP rfl Tryz.call105 ((r11_Operation _ _ L t h1 ho hti ht1 ht2)) ?_
    refine WL.new (New.alloc zc_51) (fun b8 => ?_)
    refine' WL.run0 (Run.storeAll rfl rfl ty_51 ?h4_0 (by first | rfl | assumption) ?h4_1 (by first | rfl | assumption)) ?k4
    case h4_0 => repeat (first | exact Part.one | exact Part.here | apply Part.cons | apply Part.app)
    case h4_1 => first | rfl | assumption
    refine WL.nil ?_
    refine WQ.thn ?_
    refine WC.seq ?_
    refine WC.seq ?_
    refine WC.region ?_
    refine WL.pur (Pur.fieldAddr rfl fo_51_0) ?_
    refine' WL.pur (Pur.load1 rfl ty_3 ?h5_0) ?k5
    case h5_0 => first | (apply Rd.own1; exact zmE; rfl) | (apply RdV.rd; apply RdV.idx (i := 0); assumption; rfl)
    refine' WL.pur (Pur.bin rfl rfl ?h6_0) ?k6
    case h6_0 => first | exact Bin.neN (b := 6) | exact Bin.neI
    refine WL.nil ?_
    refine WQ.thn ?_
    first | refine WC.cond rfl (fun hc1 => ?_) (fun hc1 => ?_) | refine WC.condB rfl (fun hc1 => ?_) (fun hc1 => ?_)
    · refine WC.exit ?_
      refine WQ.thn_exit ?_
      refine WQ.blk_here ?_
      refine WQ.thn ?_
      refine WC.region ?_
      refine WL.pur (Pur.move rfl) ?_
      refine' WL.pur (Pur.bin rfl rfl ?h7_0) ?k7
      case h7_0 => first | (refine Bin.addN (b := 1) ?_; omega) | (refine Bin.addI ?_; omega)
      refine WL.pur (Pur.assign rfl) ?_
      refine WL.nil ?_
      refine WQ.back _ ⟨i + 1, a, rfl, by omega, by rw [cnt_step ht, ← ha]; unfold cntA; rw [if_neg (fun h => hc1 h.1)], rfl, rfl, rfl⟩ (by omega) zcV zsL
    · have hk6 : t.2.2.kind = 6 := Decidable.not_not.1 hc1
      refine WC.skip ?_
      refine WQ.thn ?_
      refine WC.seq ?_
      refine WC.region ?_
      refine WL.pur (Pur.assign rfl) ?_
      refine WL.nil ?_
      refine WQ.thn ?_
      refine WC.seq ?_
      refine WC.seq ?_
      refine WC.region ?_
      refine WL.pur (Pur.assign rfl) ?_
      refine WL.nil ?_
      refine WQ.thn ?_
      refine WC.block ?_
      refine WC.loop (fun j m σ' H' => ∃ (q : Nat) (gp : Prop) (_ : Decidable gp), j = (tripsN L (isKey key 6 7) L.length).length - q ∧ q ≤ (tripsN L (isKey key 6 7) L.length).length ∧ (gp ↔ ∃ z ∈ (tripsN L (isKey key 6 7) L.length).take q, z.2.2.kind = 7 ∧ knowsT L t z) ∧ m = [(0, pv), (5, .slice sa (tripsN L (isKey key 6 7) L.length).length sc), (6, .int .u64 a), (7, .int .i64 (i : Int)), (8, .pointer (some ⟨b8, 0, none⟩)), (9, .bool (decide gp)), (10, .int .i64 (q : Int))] ∧ σ' = σ ∧ H' = (b8, rowO 51 t.2.2.cells) :: Hr) ⟨0, False, inferInstance, rfl, by omega, by simp, rfl, rfl, rfl⟩ zcV zsL ?_
      rintro _ _ σ Hr ⟨q, gp, hdec, rfl, hq, hg, rfl, rfl, rfl⟩
      refine WC.seq ?_
      refine WC.seq ?_
      refine WC.region ?_
      refine WL.pur (Pur.move rfl) ?_
      refine WL.pur (Pur.move rfl) ?_
      refine WL.pur (Pur.len rfl isSlice_160) ?_
      refine' WL.pur (Pur.bin rfl rfl ?h8_0) ?k8
      case h8_0 => first | exact Bin.ltN | exact Bin.ltI | exact Bin.ltS
      refine WL.nil ?_
      refine WQ.thn ?_
      first | refine WC.cond rfl (fun hc2 => ?_) (fun hc2 => ?_) | refine WC.condB rfl (fun hc2 => ?_) (fun hc2 => ?_)
      · obtain ⟨c, hc⟩ : ∃ c, (tripsN L (isKey key 6 7) L.length)[q]? = some c := ⟨_, List.getElem?_eq_getElem (by omega)⟩
        obtain ⟨hci, hc1_, hc2_, hc3_⟩ := tripsN_mem (List.mem_of_getElem? hc)
        obtain ⟨vs2, _, _, rfl, hcr⟩ := hsat _ c hc
        refine WC.skip ?_
        refine WQ.thn ?_
        refine WC.seq ?_
        refine WC.block ?_
        refine WC.seq ?_
        refine WC.region ?_
        refine WL.pur (Pur.move rfl) ?_
        refine WL.pur (Pur.move rfl) ?_
        refine WL.pur (Pur.move rfl) ?_
        refine' WL.pur (Pur.indexAddr (eqA (hes (by omega))) rfl sl_160 ?h9_0) ?k9
        case h9_0 => omega
        refine' WL.pur (Pur.loadN rfl ty_164 ?h10_0 ?h10_1) ?k10
        case h10_0 => exact RdV.rd hcr
        case h10_1 => first | rfl | assumption
        refine WL.callP rfl Tryz.call105 ((r11_Operation _ _ L c h1 ho hci hc1_ hc2_)) ?_
        refine WL.new (New.alloc zc_51) (fun b11 => ?_)
        refine' WL.run0 (Run.storeAll rfl rfl ty_51 ?h11_0 (by first | rfl | assumption) ?h11_1 (by first | rfl | assumption)) ?k11
        case h11_0 => repeat (first | exact Part.one | exact Part.here | apply Part.cons | apply Part.app)
        case h11_1 => first | rfl | assumption
        refine WL.nil ?_
        refine WQ.thn ?_
        refine WC.seq ?_
        refine WC.drawH 11 11 mixed (by kernel_rfl) rfl ?_
        refine SA.take 0 (by kernel_rfl) rfl rfl rfl (Wanted.plain rfl) zsL (View.le_refl _) (Pur.move rfl) ?_
        refine SA.take 1 (by kernel_rfl) rfl rfl rfl (Wanted.plain rfl) zsL (View.le_refl _) (Pur.move rfl) ?_
        refine SA.take 2 (by kernel_rfl) rfl rfl rfl (Wanted.plain rfl) zsL (View.le_refl _) (Pur.move rfl) ?_
        refine' SA.take 3 (by kernel_rfl) rfl rfl rfl (Wanted.plain rfl) zsL (View.le_refl _) (Pur.indexAddr (eqA (hes (by omega))) rfl sl_160 ?h12_0) ?k12
        case h12_0 => omega
        refine' SA.take 4 (by kernel_rfl) rfl rfl rfl (Wanted.plain rfl) zsL (View.le_refl _) (Pur.loadN rfl ty_164 ?h13_0 ?h13_1) ?k13
        case h13_0 => exact RdV.rd htr
        case h13_1 => first | rfl | assumption
        refine SA.take 5 (by kernel_rfl) rfl rfl rfl (Wanted.plain rfl) zsL (View.le_refl _) (Pur.move rfl) ?_
        refine SA.take 6 (by kernel_rfl) rfl rfl rfl (Wanted.plain rfl) zsL (View.le_refl _) (Pur.move rfl) ?_
        refine' SA.take 7 (by kernel_rfl) rfl rfl rfl (Wanted.plain rfl) zsL (View.le_refl _) (Pur.indexAddr (eqA (hes (by omega))) rfl sl_160 ?h14_0) ?k14
        case h14_0 => omega
        refine' SA.take 8 (by kernel_rfl) rfl rfl rfl (Wanted.plain rfl) zsL (View.le_refl _) (Pur.loadN rfl ty_164 ?h15_0 ?h15_1) ?k15
        case h15_0 => exact RdV.rd hcr
        case h15_1 => first | rfl | assumption
        refine SA.callP 9 rfl rfl (Wanted.plain rfl) (by kernel_rfl) rfl Tryz.call106 zsL (View.le_refl _) ((r11_KnowsG _ _ L t c h1 ho hti hci)) ?_
        refine SA.take 10 (by kernel_rfl) rfl rfl rfl (Wanted.plain rfl) zsL (View.le_refl _) (Pur.assign rfl) ?_
        refine SA.done (by kernel_rfl) ?_
        refine WQ.thn ?_
        refine WC.region ?_
        refine WL.pur (Pur.move rfl) ?_
        refine WL.pur (Pur.move rfl) ?_
        refine' WL.orp (u := 54) (t := 61) rfl ?h16_0 ?h16_1 ?h16_2 rfl ?k16
        case h16_0 =>
          intro hg54 K54
          refine WL.gpur (u := 54) rfl rfl (gF hg54) (Pur.fieldAddr rfl fo_51_0) ?_
          refine' WL.gpur (u := 54) rfl rfl (gF hg54) (Pur.load1 rfl ty_3 ?h17_0) ?k17
          case h17_0 => first | (apply Rd.own1; exact zmE; rfl) | (apply RdV.rd; apply RdV.idx (i := 0); assumption; rfl)
          refine' WL.gpur (u := 54) rfl rfl (gF hg54) (Pur.bin rfl rfl ?h18_0) ?k18
          case h18_0 => first | exact Bin.eqN (b := 7) | exact Bin.eqI
          refine WL.gpur (u := 54) rfl rfl (gF hg54) (Pur.move rfl) ?_
          refine' WL.andp (u := 58) (t := 60) rfl ?h19_0 ?h19_1 ?h19_2 rfl ?k19
          case h19_0 =>
            intro hg58 K58
            refine WL.gpur (u := 58) rfl rfl (gT hg58) (Pur.move rfl) ?_
            exact K58 _ zcR rfl
          case h19_1 =>
            intro hg58 K58
            refine WL.gskip (u := 58) rfl rfl (sT hg58) ?_
            exact K58 _ zcR
          case h19_2 => exact Wanted.guard (u := 54) rfl rfl rfl (gF hg54)
          exact K54 _ zcR rfl
        case h16_1 =>
          intro hg54 K54
          refine WL.gskip (u := 54) rfl rfl (sF hg54) ?_
          refine WL.gskip (u := 54) rfl rfl (sF hg54) ?_
          refine WL.gskip (u := 54) rfl rfl (sF hg54) ?_
          refine WL.gskip (u := 54) rfl rfl (sF hg54) ?_
          refine WL.gskipU (u := 58) rfl rfl ?_
          refine WL.gskip (u := 54) rfl rfl (sF hg54) ?_
          exact K54 _ zcR
        case h16_2 => exact Wanted.plain rfl
        refine WL.pur (Pur.assign rfl) ?_
        refine WL.nil ?_
        refine WQ.blk ?_
        refine WQ.thn ?_
        refine WC.region ?_
        refine WL.pur (Pur.move rfl) ?_
        refine' WL.pur (Pur.bin rfl rfl ?h20_0) ?k20
        case h20_0 => first | (refine Bin.addN (b := 1) ?_; omega) | (refine Bin.addI ?_; omega)
        refine WL.pur (Pur.assign rfl) ?_
        refine WL.nil ?_
        refine WQ.back _ ⟨q + 1, (gp ∨ (c.2.2.kind = 7 ∧ knowsT L t c)), inferInstance, rfl, by omega, by rw [List.take_add_one, hc, Option.toList_some]; exact any_snoc (Z := fun z => z.2.2.kind = 7 ∧ knowsT L t z) hg, rfl, rfl, rfl⟩ (by omega) zcV zsL
      · have hqq : q = (tripsN L (isKey key 6 7) L.length).length := by omega
        subst hqq
        rw [List.take_length] at hg
        refine WC.exit ?_
        refine WQ.thn_exit ?_
        refine WQ.back_exit ?_
        refine WQ.blk_here ?_
        refine WQ.thn ?_
        refine WC.seq ?_
        refine WC.region ?_
        refine WL.pur (Pur.move rfl) ?_
        first | refine WL.pur (Pur.not rfl) ?_ | refine WL.pur (Pur.notB rfl) ?_
        refine WL.nil ?_
        refine WQ.thn ?_
        first | refine WC.cond rfl (fun hc3 => ?_) (fun hc3 => ?_) | refine WC.condB rfl (fun hc3 => ?_) (fun hc3 => ?_)
        · refine WC.region ?_
          refine WL.pur (Pur.move rfl) ?_
          refine WL.pur (Pur.fieldAddr rfl fo_51_3) ?_
          refine' WL.pur (Pur.load1 rfl ty_2 ?h21_0) ?k21
          case h21_0 => first | (apply Rd.own1; exact zmE; rfl) | (apply RdV.rd; apply RdV.idx (i := 3); assumption; rfl) | (apply RdV.rd; apply RdV.idx (off := 0) (i := 3); assumption; rfl)
          refine WL.pur ((Pur.conv (ks := .i64) (kt := .u64) rfl (by kernel_rfl) (by kernel_rfl))) ?_
          refine' WL.pur (Pur.bin rfl rfl ?h22_0) ?k22
          case h22_0 => exact Bin.addWU
          refine WL.pur (Pur.assign rfl) ?_
          refine WL.nil ?_
          refine WQ.blk ?_
          refine WQ.thn ?_
          refine WC.region ?_
          refine WL.pur (Pur.move rfl) ?_
          refine' WL.pur (Pur.bin rfl rfl ?h23_0) ?k23
          case h23_0 => first | (refine Bin.addN (b := 1) ?_; omega) | (refine Bin.addI ?_; omega)
          refine WL.pur (Pur.assign rfl) ?_
          refine WL.nil ?_
          refine WQ.back _ ⟨i + 1, (IntKind.u64.wrap (a + IntKind.u64.wrap t.2.2.n)), rfl, by omega, by rw [cnt_step ht, ← ha]; unfold cntA; rw [if_pos ⟨hk6, fun h => hc3 (hg.2 h)⟩], rfl, rfl, rfl⟩ (by omega) zcV zsL
        · refine WC.skip ?_
          refine WQ.blk ?_
          refine WQ.thn ?_
          refine WC.region ?_
          refine WL.pur (Pur.move rfl) ?_
          refine' WL.pur (Pur.bin rfl rfl ?h24_0) ?k24
          case h24_0 => first | (refine Bin.addN (b := 1) ?_; omega) | (refine Bin.addI ?_; omega)
          refine WL.pur (Pur.assign rfl) ?_
          refine WL.nil ?_
          refine WQ.back _ ⟨i + 1, a, rfl, by omega, by rw [cnt_step ht, ← ha]; unfold cntA; rw [if_neg (fun h => hc3 (fun hp => h.2 (hg.1 hp)))], rfl, rfl, rfl⟩ (by omega) zcV zsL
  · have hil : i = (tripsN L (isKey key 6 7) L.length).length := by omega
    subst hil
    rw [List.take_length] at ha
    refine WC.exit ?_
    refine WQ.thn_exit ?_
    refine WQ.back_exit ?_
    refine WQ.blk_here ?_
    refine WQ.thn ?_
    refine WC.seq ?_
    refine WC.region ?_
    refine WL.pur (Pur.move rfl) ?_
    refine WL.pur ((Pur.conv (ks := .u64) (kt := .i64) rfl (by kernel_rfl) (by kernel_rfl))) ?_
    refine WL.pur (Pur.assign rfl) ?_
    refine WL.nil ?_
    refine WQ.thn ?_
    refine WC.ret ?_
    refine WQ.ret1 Tryz.results42 rfl [] zsL hle1 ?_
    exact ⟨by rw [ha]; rfl, rfl⟩

end Go.Proofs.YtgoooilgmabkmaaGreat
namespace Go.Proofs.YtgoooilgmabkmaaGreat
open Go Go.Sl
set_option linter.unusedVariables false
set_option linter.unusedSimpArgs false
set_option maxRecDepth 100000

theorem r16_Keys (σ0 : View) (pv : Value) (L : List EntD) (h : R11V σ0 pv L) (ho : OrdOk L) :
    Tri Tryz.prog 40 #[pv] σ0 [] (fun v σ' H' => ∃ h, SlO σ' eStr 9 1 v (cntKeys L) h ∧ H' = h) := by
  have hmost := ho.most
  refine Tri.of_body [(0, pv)] Tryz.func40 rfl Tryz.ntmps40 (by simp) rfl (fun Hr => ?_)
  rw [List.nil_append]
  refine WC.seq ?_
  refine WC.region ?_
  refine WL.pur (Pur.assign rfl) ?_
  refine WL.nil ?_
  refine WQ.thn ?_
  refine WC.seq ?_
  refine WC.region ?_
  refine WL.pur (Pur.move rfl) ?_
  refine WL.call (H0 := []) (Hr := Hr) rfl Tryz.call47 (List.Perm.refl _) (r11_Keys _ _ L 6 7 h ho) ?_
  rintro v8 σ _ ⟨hh, hso0, rfl⟩ hle0
  have hkn : (keysR L (isKind 6 7)).length ≤ L.length * 1024 := by
    have h1 := dedup_len (textsL (keysOf (opsN L (isKind 6 7) L.length)))
    rw [textsL_len] at h1
    have h2 := opsN_len ho (isKind 6 7) L.length
    unfold keysOf at h1
    rw [List.length_map] at h1
    rw [keysR_eq]; unfold keysOf; omega
  refine WL.giveS (byt := 16) (H1 := []) (H2 := Hr) eStr_mono hso0 (by omega) rfl (fun σ1 hle1 hK => ?_)
  rw [List.nil_append]
  obtain ⟨ka, kc, rfl, hkc, hkb⟩ := hK.shape
  obtain ⟨kb, koff, hek⟩ := addr_of hK
  refine WL.pur (Pur.assign rfl) ?_
  refine WL.nil ?_
  refine WQ.thn ?_
  refine WC.seq ?_
  refine WC.region ?_
  refine WL.new (New.buildSlice0 sl_23) (fun b9 => ?_)
  refine WL.pur (Pur.assign rfl) ?_
  refine WL.nil ?_
  refine WQ.thn ?_
  refine WC.seq ?_
  refine WC.seq ?_
  refine WC.region ?_
  refine WL.pur (Pur.assign rfl) ?_
  refine WL.nil ?_
  refine WQ.thn ?_
  refine WC.block ?_
  refine WC.loop (fun j m σ' H' => ∃ (i : Nat) (sv : Value) (hl : HList), j = (keysR L (isKind 6 7)).length - i ∧ i ≤ (keysR L (isKind 6 7)).length ∧ SlO σ' eStr 9 1 sv (((keysR L (isKind 6 7)).take i).filter (fun k => decide (cntV L k ≠ 0))) hl ∧ σ1.le σ' ∧ m = [(0, pv), (3, .slice ka (keysR L (isKind 6 7)).length kc), (4, sv), (5, .int .i64 (i : Int))] ∧ H' = hl ++ Hr) ⟨0, _, [(b9, rowO 9 [])], rfl, by omega, by rw [List.take_zero]; exact row_nilS _ b9, View.le_refl _, rfl, rfl⟩ zcV zsL ?_
  rintro _ _ σ Hr ⟨i, sv, hl, rfl, hi, hso, hle9, rfl, rfl⟩
  have hK9 := hK.mono eStr_mono hle9
  refine WC.seq ?_
  refine WC.seq ?_
  refine WC.region ?_
  refine WL.pur (Pur.move rfl) ?_
  refine WL.pur (Pur.move rfl) ?_
  refine WL.pur (Pur.len rfl isSlice_23) ?_
  refine' WL.pur (Pur.bin rfl rfl ?h1_0) ?k1
  case h1_0 => first | exact Bin.ltN | exact Bin.ltI | exact Bin.ltS
  refine WL.nil ?_
  refine WQ.thn ?_
  first | refine WC.cond rfl (fun hc0 => ?_) (fun hc0 => ?_) | refine WC.condB rfl (fun hc0 => ?_) (fun hc0 => ?_)
  · have hks := str_rd hK9 hek hc0
    have hok3 := hks.2
    refine WC.skip ?_
    refine WQ.thn ?_
    refine WC.seq ?_
    refine WC.block ?_
    refine WC.seq ?_
    refine WC.region ?_
    refine WL.pur (Pur.move rfl) ?_
    refine WL.pur (Pur.move rfl) ?_
    refine WL.pur (Pur.move rfl) ?_
    refine' WL.pur (Pur.indexAddr (eqA (hek (by omega))) rfl sl_23 ?h2_0) ?k2
    case h2_0 => omega
    refine' WL.pur (Pur.load1 rfl ty_9 ?h3_0) ?k3
    case h3_0 => exact RdV.rd hks.1
    refine WL.call (H0 := []) (Hr := hl ++ Hr) rfl Tryz.call42 (List.Perm.refl _) (r16_Value _ _ L (sD (keysR L (isKind 6 7)) i) (h.mono (View.le_trans hle0 (View.le_trans hle1 hle9))) ho) ?_
    rintro _ σ2 _ ⟨rfl, rfl⟩ hle2
    rw [List.nil_append]
    refine WL.pur (Pur.assign rfl) ?_
    refine WL.nil ?_
    refine WQ.thn ?_
    refine WC.seq ?_
    refine WC.region ?_
    refine WL.pur (Pur.move rfl) ?_
    refine' WL.pur (Pur.bin rfl rfl ?h4_0) ?k4
    case h4_0 => first | exact Bin.neN (b := 0) | exact Bin.neI
    refine WL.nil ?_
    refine WQ.thn ?_
    first | refine WC.cond rfl (fun hc1 => ?_) (fun hc1 => ?_) | refine WC.condB rfl (fun hc1 => ?_) (fun hc1 => ?_)
    · have hks2 := str_rd (hK9.mono eStr_mono hle2) hek hc0
      have hfl : (((keysR L (isKind 6 7)).take i).filter (fun k => decide (cntV L k ≠ 0))).length ≤ i := Nat.le_trans (List.length_filter_le _ _) (by rw [List.length_take]; omega)
      refine WC.region ?_
      refine WL.pur (Pur.move rfl) ?_
      refine WL.pur (Pur.move rfl) ?_
      refine WL.pur (Pur.move rfl) ?_
      refine' WL.pur (Pur.indexAddr (eqA (hek (by omega))) rfl sl_23 ?h5_0) ?k5
      case h5_0 => omega
      refine' WL.pur (Pur.load1 rfl ty_9 ?h6_0) ?k6
      case h6_0 => exact RdV.rd hks2.1
      refine WL.new (New.buildSliceS (xs := [.tmp 28]) sl_23 zc_9 rfl rfl rfl (by rfl) (by rfl)) (fun b29 => ?_)
      refine' WL.any (Any.push (H1 := [(b29, _)]) (H2 := Hr) sl_23 zc_9 rfl by_9 rfl rfl (hso.mono eStr_mono hle2) ?h7_0 ?h7_1 ?h7_2 ?h7_3 rfl (by omega) (by omega)) ?k7
      case h7_0 => apply Rd.own_sub; exact zmE; exact Sub.refl _
      case h7_1 => first | rfl | assumption
      case h7_2 => first | rfl | assumption
      case h7_3 => exact ⟨rfl, hok3⟩
      rintro v30 σ _ ⟨hl3, hso3, rfl, rfl⟩ _
      refine WL.pur (Pur.assign rfl) ?_
      refine WL.nil ?_
      refine WQ.blk ?_
      refine WQ.thn ?_
      refine WC.region ?_
      refine WL.pur (Pur.move rfl) ?_
      refine' WL.pur (Pur.bin rfl rfl ?h8_0) ?k8
      case h8_0 => first | (refine Bin.addN (b := 1) ?_; omega) | (refine Bin.addI ?_; omega)
      refine WL.pur (Pur.assign rfl) ?_
      refine WL.nil ?_
      refine WQ.back _ ⟨i + 1, _, _, rfl, by omega, by rw [filter_take_step hc0, if_pos (by simpa using hc1)]; exact hso3, View.le_trans hle9 hle2, rfl, rfl⟩ (by omega) zcV zsL
    · refine WC.skip ?_
      refine WQ.blk ?_
      refine WQ.thn ?_
      refine WC.region ?_
      refine WL.pur (Pur.move rfl) ?_
      refine' WL.pur (Pur.bin rfl rfl ?h9_0) ?k9
      case h9_0 => first | (refine Bin.addN (b := 1) ?_; omega) | (refine Bin.addI ?_; omega)
      refine WL.pur (Pur.assign rfl) ?_
      refine WL.nil ?_
      refine WQ.back _ ⟨i + 1, sv, hl, rfl, by omega, by rw [filter_take_step hc0, if_neg (by simpa using hc1), List.append_nil]; exact hso.mono eStr_mono hle2, View.le_trans hle9 hle2, rfl, rfl⟩ (by omega) zcV zsL
  · refine WC.exit ?_
    refine WQ.thn_exit ?_
    refine WQ.back_exit ?_
    refine WQ.blk_here ?_
    refine WQ.thn ?_
    refine WC.seq ?_
    refine WC.region ?_
    refine WL.pur (Pur.move rfl) ?_
    refine WL.pur (Pur.assign rfl) ?_
    refine WL.nil ?_
    refine WQ.thn ?_
    refine WC.ret ?_
    refine WQ.ret1 Tryz.results40 rfl hl (List.Sublist.refl _) (View.le_trans hle0 (View.le_trans hle1 hle9)) ?_
    exact ⟨_, by rw [List.take_of_length_le (by omega)] at hso; exact hso, rfl⟩

end Go.Proofs.YtgoooilgmabkmaaGreat
