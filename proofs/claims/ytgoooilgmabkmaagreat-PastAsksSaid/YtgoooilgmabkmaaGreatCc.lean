/-
  Contracts of the functions of the program and of its references: what each call hands back, from what is known and owned.
-/
import Derived.Test.YtgoooilgmabkmaaGreatCb
import Derived.Test.YtgoooilgmabkmaaGreatRows
import Derived.WalkKit
import Derived.ProofKit
import Derived.OpenShut
import Derived.ShutString
import Derived.ChangeOld
import Derived.Below
set_option linter.unusedVariables false
set_option linter.unusedSimpArgs false
set_option linter.unusedSectionVars false
namespace Go.Proofs.YtgoooilgmabkmaaGreat
open Go Go.Sl
set_option linter.unusedVariables false
set_option linter.unusedSimpArgs false
set_option maxRecDepth 100000

theorem past_Sees (σ : View) (pv : Value) (L : List EntD) (i j : Nat) (h : PastV σ pv L) (ho : OrdOk L) (hj : j < L.length) (hi : i ≤ 1000000) :
    TriP Tryz.prog 113 #[pv, .int .i64 (i : Int), .int .i64 (j : Int)] σ (.bool (decide (seesN L i j = true))) := by
  obtain ⟨b, mb, lv, sv, rfl, hr, hl, hm, hs⟩ := h
  obtain ⟨la, lc, rfl, hlc, hlb⟩ := hl.shape
  obtain ⟨sb, soff, sc, rfl, hsc, hsb, hat⟩ := hs.at (by simp; omega)
  have hlen : (List.range L.length).length = L.length := by simp
  obtain ⟨vs, _, _, ⟨wv, rfl, _, hw⟩, hwr⟩ := hat j j (by simp [hj])
  obtain ⟨wa, wc, rfl, hwc, hwb⟩ := hw.shape
  obtain ⟨wb, woff, hwe⟩ := addr_of hw
  have hwl := wordsOf_len L j
  have hask := wordN_ask ((rowsN L L.length).getD j 0) i
  rw [Nat.shiftRight_eq_div_pow] at hask
  have hdl := Nat.div_le_self (wordN ((rowsN L L.length).getD j 0) (i / 64)) (2 ^ (i % 64))
  refine Tri.of_body [(0, .pointer (some ⟨b, 0, none⟩)), (1, .int .i64 (i : Int)), (2, .int .i64 (j : Int))] Tryz.func113 rfl Tryz.ntmps113 (by simp) rfl (fun Hr => ?_)
  rw [List.nil_append]
  refine WC.seq ?_
  refine WC.region ?_
  refine WL.pur (Pur.assign rfl) ?_
  refine WL.nil ?_
  refine WQ.thn ?_
  refine WC.seq ?_
  refine WC.seq ?_
  refine WC.region ?_
  refine WL.pur (Pur.move rfl) ?_
  refine' WL.pur (Pur.bin rfl rfl ?h1_0) ?k1
  case h1_0 => first | exact Bin.ltN (b := 0) | exact Bin.ltI | exact Bin.ltS
  refine WL.pur (Pur.move rfl) ?_
  refine' WL.orp (u := 9) (t := 12) rfl ?h2_0 ?h2_1 ?h2_2 rfl ?k2
  case h2_0 =>
    intro hg9 K9
    refine WL.gpur (u := 9) rfl rfl (gF hg9) (Pur.move rfl) ?_
    refine' WL.gpur (u := 9) rfl rfl (gF hg9) (Pur.bin rfl rfl ?h3_0) ?k3
    case h3_0 => first | exact Bin.ltN (b := 0) | exact Bin.ltI | exact Bin.ltS
    exact K9 _ zcR rfl
  case h2_1 =>
    intro hg9 K9
    refine WL.gskip (u := 9) rfl rfl (sF hg9) ?_
    refine WL.gskip (u := 9) rfl rfl (sF hg9) ?_
    exact K9 _ zcR
  case h2_2 => exact Wanted.plain rfl
  refine WL.pur (Pur.move rfl) ?_
  refine' WL.orp (u := 13) (t := 21) rfl ?h4_0 ?h4_1 ?h4_2 rfl ?k4
  case h4_0 =>
    intro hg13 K13
    refine WL.gpur (u := 13) rfl rfl (gF hg13) (Pur.move rfl) ?_
    refine WL.gpur (u := 13) rfl rfl (gF hg13) (Pur.move rfl) ?_
    refine WL.gpur (u := 13) rfl rfl (gF hg13) (Pur.nilCheck rfl) ?_
    refine WL.gpur (u := 13) rfl rfl (gF hg13) (Pur.fieldAddr rfl fo_173_0) ?_
    refine' WL.gpur (u := 13) rfl rfl (gF hg13) (Pur.load1 rfl ty_22 ?h5_0) ?k5
    case h5_0 => first | (apply Rd.own1; exact zmE; rfl) | (apply RdV.rd; apply RdV.idx (i := 0); assumption; rfl)
    refine WL.gpur (u := 13) rfl rfl (gF hg13) (Pur.len rfl isSlice_22) ?_
    refine' WL.gpur (u := 13) rfl rfl (gF hg13) (Pur.bin rfl rfl ?h6_0) ?k6
    case h6_0 => first | exact Bin.geN | exact Bin.geI
    exact K13 _ zcR rfl
  case h4_1 =>
    intro hg13 K13
    refine WL.gskip (u := 13) rfl rfl (sF hg13) ?_
    refine WL.gskip (u := 13) rfl rfl (sF hg13) ?_
    refine WL.gskip (u := 13) rfl rfl (sF hg13) ?_
    refine WL.gskip (u := 13) rfl rfl (sF hg13) ?_
    refine WL.gskip (u := 13) rfl rfl (sF hg13) ?_
    refine WL.gskip (u := 13) rfl rfl (sF hg13) ?_
    refine WL.gskip (u := 13) rfl rfl (sF hg13) ?_
    exact K13 _ zcR
  case h4_2 => exact Wanted.plain rfl
  refine WL.pur (Pur.move rfl) ?_
  refine' WL.orp (u := 22) (t := 34) rfl ?h7_0 ?h7_1 ?h7_2 rfl ?k7
  case h7_0 =>
    intro hg22 K22
    refine WL.gpur (u := 22) rfl rfl (gF hg22) (Pur.move rfl) ?_
    refine' WL.gpur (u := 22) rfl rfl (gF hg22) (Pur.bin rfl rfl ?h8_0) ?k8
    case h8_0 => first | (refine Bin.quoN (b := 64) ?_ ?_ <;> omega)
    refine WL.gpur (u := 22) rfl rfl (gF hg22) (Pur.move rfl) ?_
    refine WL.gpur (u := 22) rfl rfl (gF hg22) (Pur.nilCheck rfl) ?_
    refine WL.gpur (u := 22) rfl rfl (gF hg22) (Pur.fieldAddr rfl fo_173_2) ?_
    refine' WL.gpur (u := 22) rfl rfl (gF hg22) (Pur.load1 rfl ty_71 ?h9_0) ?k9
    case h9_0 => first | (apply Rd.own1; exact zmE; rfl) | (apply RdV.rd; apply RdV.idx (i := 2); assumption; rfl) | (apply RdV.rd; apply RdV.idx (off := 0) (i := 2); assumption; rfl)
    refine WL.gpur (u := 22) rfl rfl (gF hg22) (Pur.move rfl) ?_
    refine' WL.gpur (u := 22) rfl rfl (gF hg22) (Pur.indexAddr rfl rfl sl_71 ?h10_0) ?k10
    case h10_0 => omega
    refine' WL.gpur (u := 22) rfl rfl (gF hg22) (Pur.load1 rfl ty_151 ?h11_0) ?k11
    case h11_0 => first | (apply Rd.own1; exact zmE; rfl) | (apply Rd.own1; exact zmE; assumption) | (apply Rd.own_map; exact zmE; assumption) | exact RdV.rd (by assumption) | (apply Rd.own1; exact zmE; exact get_row (by assumption) (by first | assumption | omega)) | (apply RdV.rd; apply RdV.idx (i := 0); assumption; rfl)
    refine WL.gpur (u := 22) rfl rfl (gF hg22) (Pur.len rfl isSlice_151) ?_
    refine' WL.gpur (u := 22) rfl rfl (gF hg22) (Pur.bin rfl rfl ?h12_0) ?k12
    case h12_0 => first | exact Bin.geN | exact Bin.geI
    exact K22 _ zcR rfl
  case h7_1 =>
    intro hg22 K22
    refine WL.gskip (u := 22) rfl rfl (sF hg22) ?_
    refine WL.gskip (u := 22) rfl rfl (sF hg22) ?_
    refine WL.gskip (u := 22) rfl rfl (sF hg22) ?_
    refine WL.gskip (u := 22) rfl rfl (sF hg22) ?_
    refine WL.gskip (u := 22) rfl rfl (sF hg22) ?_
    refine WL.gskip (u := 22) rfl rfl (sF hg22) ?_
    refine WL.gskip (u := 22) rfl rfl (sF hg22) ?_
    refine WL.gskip (u := 22) rfl rfl (sF hg22) ?_
    refine WL.gskip (u := 22) rfl rfl (sF hg22) ?_
    refine WL.gskip (u := 22) rfl rfl (sF hg22) ?_
    refine WL.gskip (u := 22) rfl rfl (sF hg22) ?_
    exact K22 _ zcR
  case h7_2 => exact Wanted.plain rfl
  refine WL.nil ?_
  refine WQ.thn ?_
  first | refine WC.cond rfl (fun hc0 => ?_) (fun hc0 => ?_) | refine WC.condB rfl (fun hc0 => ?_) (fun hc0 => ?_)
  · refine WC.seq ?_
    refine WC.region ?_
    refine WL.pur (Pur.assign rfl) ?_
    refine WL.nil ?_
    refine WQ.thn ?_
    refine WC.ret ?_
    refine WQ.thn_ret ?_
    refine WQ.ret1 Tryz.results113 rfl [] zsL (View.le_refl _) ?_
    refine ⟨?_, rfl, rfl⟩
    exact boolF (by rw [sees_hi ho hj (by omega)]; simp)
  · have hiw : i / 64 < (j + 63) / 64 := by omega
    have hww := wordsOf_get (L := L) hiw
    have hwlt := wordN_lt ((rowsN L L.length).getD j 0) (i / 64)
    obtain ⟨wb2, woff2, wc2, e2, _, _, hwat⟩ := hw.at (by omega)
    cases e2
    obtain ⟨ws, _, _, rfl, hwd⟩ := hwat _ _ hww
    refine WC.skip ?_
    refine WQ.thn ?_
    refine WC.seq ?_
    refine WC.region ?_
    refine WL.pur (Pur.move rfl) ?_
    refine WL.pur (Pur.nilCheck rfl) ?_
    refine WL.pur (Pur.fieldAddr rfl fo_173_2) ?_
    refine' WL.pur (Pur.load1 rfl ty_71 ?h13_0) ?k13
    case h13_0 => first | (apply Rd.own1; exact zmE; rfl) | (apply RdV.rd; apply RdV.idx (i := 2); assumption; rfl) | (apply RdV.rd; apply RdV.idx (off := 0) (i := 2); assumption; rfl)
    refine WL.pur (Pur.move rfl) ?_
    refine' WL.pur (Pur.indexAddr rfl rfl sl_71 ?h14_0) ?k14
    case h14_0 => omega
    refine' WL.pur (Pur.load1 rfl ty_151 ?h15_0) ?k15
    case h15_0 => first | (apply Rd.own1; exact zmE; rfl) | (apply Rd.own1; exact zmE; assumption) | (apply Rd.own_map; exact zmE; assumption) | exact RdV.rd (by assumption) | (apply Rd.own1; exact zmE; exact get_row (by assumption) (by first | assumption | omega)) | (apply RdV.rd; apply RdV.idx (i := 0); assumption; rfl)
    refine WL.pur (Pur.move rfl) ?_
    refine' WL.pur (Pur.bin rfl rfl ?h16_0) ?k16
    case h16_0 => first | (refine Bin.quoN (b := 64) ?_ ?_ <;> omega)
    refine' WL.pur (Pur.indexAddr rfl rfl sl_151 ?h17_0) ?k17
    case h17_0 => omega
    refine' WL.pur (Pur.load1 rfl ty_60 ?h18_0) ?k18
    case h18_0 => first | (apply Rd.own1; exact zmE; rfl) | (apply Rd.own1; exact zmE; assumption) | (apply Rd.own_map; exact zmE; assumption) | exact RdV.rd (by assumption) | (apply Rd.own1; exact zmE; exact get_row (by assumption) (by first | assumption | omega)) | (apply RdV.rd; apply RdV.idx (i := 0); assumption; rfl)
    refine WL.pur (Pur.move rfl) ?_
    refine' WL.pur (Pur.bin rfl rfl ?h19_0) ?k19
    case h19_0 => first | (refine Bin.remN (b := 64) ?_; omega)
    refine' WL.pur (Pur.bin rfl rfl ?h20_0) ?k20
    case h20_0 => first | (refine Bin.shrU ?_; omega)
    refine' WL.pur (Pur.bin rfl rfl ?h21_0) ?k21
    case h21_0 => first | (refine Bin.andU (b := 1) ?_ ?_ <;> omega)
    refine' WL.pur (Pur.bin rfl rfl ?h22_0) ?k22
    case h22_0 => first | exact Bin.eqN (b := 1) | exact Bin.eqI
    refine WL.pur (Pur.assign rfl) ?_
    refine WL.nil ?_
    refine WQ.thn ?_
    refine WC.ret ?_
    refine WQ.ret1 Tryz.results113 rfl [] zsL (View.le_refl _) ?_
    refine ⟨?_, rfl, rfl⟩
    exact decB hask

end Go.Proofs.YtgoooilgmabkmaaGreat
namespace Go.Proofs.YtgoooilgmabkmaaGreat
open Go Go.Sl
set_option linter.unusedVariables false
set_option linter.unusedSimpArgs false
set_option maxRecDepth 100000

/-- what a history hands out, one by one -/
def entG (L : List EntD) (i : Nat) (args : List Value) (σ : View) : Prop :=
  ∃ e pv ov, L[i]? = some e ∧ args = [.int .i64 (i : Int), .agg (entCells e.id e.node.au e.node.cl pv ov).toArray] ∧ IsH e.id ∧ NodeR σ e.node pv ov

theorem past_All1 (σ0 : View) (bx : Nat) (pv : Value) (L : List EntD) (h : PastV σ0 pv L) (hb : RdV σ0 bx 0 [pv]) (hmost : L.length ≤ 4096) :
    IterAll Tryz.prog 111 [.pointer (some ⟨bx, 0, none⟩)] L.length (entG L) σ0 := by
  intro ly J Jx σ H hle hround h0
  obtain ⟨b, mb, lv, sv, rfl, hr, hl, hm, hs⟩ := h
  obtain ⟨la, lc, rfl, hlc, hlb⟩ := hl.shape
  obtain ⟨lb, loff, hel⟩ := addr_of hl
  have hb1 := hb.mono hle
  have hr1 := hr.mono hle
  refine Tri.of_body [(0, .func (.yield ly) #[] #[]), (1, .pointer (some ⟨bx, 0, none⟩))] Tryz.func111 rfl Tryz.ntmps111 (by simp) rfl (fun Hr => ?_)
  skip
  refine WC.seq ?_
  refine WC.region ?_
  refine' WL.pur (Pur.load1 rfl ty_25 ?h1_0) ?k1
  case h1_0 => first | (apply Rd.own1; exact zmE; rfl) | exact RdV.rd (by assumption)
  refine WL.pur (Pur.nilCheck rfl) ?_
  refine WL.pur (Pur.fieldAddr rfl fo_173_0) ?_
  refine' WL.pur (Pur.load1 rfl ty_22 ?h2_0) ?k2
  case h2_0 => first | (apply Rd.own1; exact zmE; rfl) | (apply RdV.rd; apply RdV.idx (i := 0); assumption; rfl)
  refine WL.pur (Pur.len rfl isSlice_22) ?_
  refine WL.pur (Pur.move rfl) ?_
  refine WL.nil ?_
  refine WQ.thn ?_
  refine WC.block ?_
  refine WC.loop (fun j m σ' H' => ∃ (i : Nat) (Hi : HList), j = L.length - i ∧ i ≤ L.length ∧ J i σ' Hi ∧ σ.le σ' ∧ m = [(0, .func (.yield ly) #[] #[]), (1, .pointer (some ⟨bx, 0, none⟩)), (7, .slice la L.length lc), (8, .int .i64 (L.length : Int)), (9, .int .i64 (i : Int))] ∧ H' = Hi ++ Hr) ⟨0, H, rfl, by omega, h0, View.le_refl _, rfl, rfl⟩ zcV zsL ?_
  rintro _ _ σ Hr ⟨i, Hi, rfl, hi, hJ, hle1, rfl, rfl⟩
  refine WC.seq ?_
  refine WC.region ?_
  refine' WL.pur (Pur.bin rfl rfl ?h3_0) ?k3
  case h3_0 => first | exact Bin.ltN | exact Bin.ltI | exact Bin.ltS
  refine WL.nil ?_
  refine WQ.thn ?_
  refine WC.seq ?_
  first | refine WC.cond rfl (fun hc0 => ?_) (fun hc0 => ?_) | refine WC.condB rfl (fun hc0 => ?_) (fun hc0 => ?_)
  · have hb2 := hb.mono (View.le_trans hle hle1)
    have hr2 := hr.mono (View.le_trans hle hle1)
    have hl2 := hl.mono eEnt_mono (View.le_trans hle hle1)
    obtain ⟨e, he⟩ : ∃ e, L[i]? = some e := ⟨_, List.getElem?_eq_getElem hc0⟩
    obtain ⟨qv, ov, hrd, heH, hNR⟩ := ent_rd hl2 hel he
    refine WC.skip ?_
    refine WQ.thn ?_
    refine WC.seq ?_
    refine WC.block ?_
    refine WC.seq ?_
    refine WC.region ?_
    refine WL.pur (Pur.move rfl) ?_
    refine WL.pur (Pur.assign rfl) ?_
    refine WL.nil ?_
    refine WQ.thn ?_
    refine WC.seq ?_
    refine WC.region ?_
    refine WL.pur (Pur.move rfl) ?_
    refine WL.pur (Pur.move rfl) ?_
    refine' WL.pur (Pur.load1 rfl ty_25 ?h4_0) ?k4
    case h4_0 => first | (apply Rd.own1; exact zmE; rfl) | exact RdV.rd (by assumption)
    refine WL.pur (Pur.nilCheck rfl) ?_
    refine WL.pur (Pur.fieldAddr rfl fo_173_0) ?_
    refine' WL.pur (Pur.load1 rfl ty_22 ?h5_0) ?k5
    case h5_0 => first | (apply Rd.own1; exact zmE; rfl) | (apply RdV.rd; apply RdV.idx (i := 0); assumption; rfl)
    refine WL.pur (Pur.move rfl) ?_
    refine' WL.pur (Pur.indexAddr (eqA (hel (by omega))) rfl sl_22 ?h6_0) ?k6
    case h6_0 => omega
    refine' WL.pur (Pur.loadN rfl ty_45 ?h7_0 ?h7_1) ?k7
    case h7_0 => first | (apply Rd.own_sub; exact zmE; exact Sub.refl _) | (apply RdV.rd; assumption)
    case h7_1 => first | rfl | assumption
    refine WL.call (H0 := []) (Hr := Hi ++ Hr) rfl Tryz.call112 (List.Perm.refl _) (past_own _ e.id e.node qv ov hNR) ?_
    rintro v21 σ2 _ ⟨⟨pv', ov', rfl, hN2⟩, rfl⟩ hle2
    rw [List.nil_append]
    refine WL.callY (H0 := Hi) (Hr := Hr) rfl rfl (List.Perm.refl _) (hround i _ _ Hi σ2 hc0 hJ hle1 hle2 ⟨e, pv', ov', he, rfl, heH, hN2⟩) ?_
    intro v22 σ3 H3 hR3 hle3
    obtain ⟨bv, rfl, hJ3⟩ : ∃ bv : Bool, v22 = .bool bv ∧ (bv = true → J (i + 1) σ3 H3) ∧ (bv = false → Jx (i + 1) σ3 H3) := by
      rcases hR3 with ⟨h1, h2⟩ | ⟨h1, h2⟩
      · exact ⟨true, h1, fun _ => h2, fun h => by cases h⟩
      · exact ⟨false, h1, fun h => (by cases h), fun _ => h2⟩
    first | refine WL.pur (Pur.not rfl) ?_ | refine WL.pur (Pur.notB rfl) ?_
    refine WL.nil ?_
    refine WQ.thn ?_
    first | refine WC.cond rfl (fun hc1 => ?_) (fun hc1 => ?_) | refine WC.condB rfl (fun hc1 => ?_) (fun hc1 => ?_)
    · refine WC.ret ?_
      refine WQ.blk_ret ?_
      refine WQ.thn_ret ?_
      refine WQ.back_ret ?_
      refine WQ.blk_ret ?_
      refine WQ.ret0 Tryz.results111 H3 (.inl rfl) zsL (View.le_trans hle1 (View.le_trans hle2 hle3)) ?_
      exact .inr ⟨i + 1, by omega, hJ3.2 (by cases bv <;> simp_all)⟩
    · refine WC.skip ?_
      refine WQ.blk ?_
      refine WQ.thn ?_
      refine WC.region ?_
      refine' WL.pur (Pur.bin rfl rfl ?h8_0) ?k8
      case h8_0 => first | (refine Bin.addN (b := 1) ?_; omega) | (refine Bin.addI ?_; omega)
      refine WL.pur (Pur.move rfl) ?_
      refine WL.nil ?_
      refine WQ.back _ ⟨i + 1, H3, rfl, by omega, hJ3.1 (by cases bv <;> simp_all), View.le_trans hle1 (View.le_trans hle2 hle3), rfl, rfl⟩ (by omega) zcV zsL
  · refine WC.exit ?_
    refine WQ.thn_exit ?_
    refine WQ.back_exit ?_
    refine WQ.blk_here ?_
    refine WQ.ret0 Tryz.results111 Hi (.inr rfl) zsL hle1 ?_
    have : i = L.length := by omega
    subst this
    exact .inl hJ

end Go.Proofs.YtgoooilgmabkmaaGreat
namespace Go.Proofs.YtgoooilgmabkmaaGreat
open Go Go.Sl
set_option linter.unusedVariables false
set_option linter.unusedSimpArgs false
set_option maxRecDepth 100000

theorem past_All (σ : View) (pv : Value) (h1 : pv.oneCell' = true) :
    Tri Tryz.prog 34 #[pv] σ [] (fun v σ' H' => (∃ bx, v = .func (.func 111) #[] #[.pointer (some ⟨bx, 0, none⟩)] ∧ RdV σ' bx 0 [pv]) ∧ H' = []) := by
  refine Tri.of_body [(0, pv)] Tryz.func34 rfl Tryz.ntmps34 (by simp) rfl (fun Hr => ?_)
  rw [List.nil_append]
  refine WC.seq ?_
  refine WC.region ?_
  refine WL.new (New.box1 rfl (by first | rfl | assumption)) (fun b1 => ?_)
  refine WL.pur (Pur.assign rfl) ?_
  refine WL.nil ?_
  refine WQ.thn ?_
  refine WC.seq ?_
  refine WC.region ?_
  refine WL.pur (Pur.makeFunc rfl rfl) ?_
  refine WL.pur (Pur.assign rfl) ?_
  refine WL.nil ?_
  refine WQ.thn ?_
  refine WC.ret ?_
  refine WQ.give (H1 := []) (fun hb => ?_)
  refine WQ.ret1 Tryz.results34 rfl [] zsL (View.le_add _ hb) ?_
  exact ⟨⟨b1, rfl, RdV.row (View.add_same _ _ _)⟩, rfl⟩

end Go.Proofs.YtgoooilgmabkmaaGreat
namespace Go.Proofs.YtgoooilgmabkmaaGreat
open Go Go.Sl
set_option linter.unusedVariables false
set_option linter.unusedSimpArgs false
set_option maxRecDepth 100000

theorem past_made (σ0 : View) (lv : Value) (L : List EntD) (h : Ents σ0 lv L) (ho : OrdOk L) :
    Tri Tryz.prog 92 #[lv] σ0 [] (fun v σ' H' => PastV σ' v L ∧ H' = []) := by
  have h0' := h
  obtain ⟨la, lc, rfl, hlc, hlby⟩ := h.shape
  obtain ⟨lb, loff, hel⟩ := addr_of h
  have hmost := ho.most
  have hids : ∀ e ∈ L, IsH e.id := fun e he => by
    obtain ⟨i, hi⟩ := List.getElem?_of_mem he
    obtain ⟨_, _, _, hH, _⟩ := ent_rd h0' hel hi
    exact hH
  refine Tri.of_body [(0, .slice la L.length lc)] Tryz.func92 rfl Tryz.ntmps92 (by simp) rfl (fun Hr => ?_)
  rw [List.nil_append]
  refine WC.seq ?_
  refine WC.region ?_
  refine WL.pur (Pur.assign rfl) ?_
  refine WL.nil ?_
  refine WQ.thn ?_
  refine WC.seq ?_
  refine WC.region ?_
  refine WL.new (New.makeMap) (fun b12 => ?_)
  refine WL.pur (Pur.build (l := [_, _, _]) pl_173 zc_173 rfl rfl) ?_
  refine WL.new (New.boxN rfl) (fun b14 => ?_)
  refine WL.pur (Pur.assign rfl) ?_
  refine WL.nil ?_
  refine WQ.thn ?_
  refine WC.seq ?_
  refine WC.seq ?_
  refine WC.region ?_
  refine WL.pur (Pur.move rfl) ?_
  refine WL.pur (Pur.len rfl isSlice_22) ?_
  refine WL.pur (Pur.move rfl) ?_
  refine WL.nil ?_
  refine WQ.thn ?_
  refine WC.block ?_
  refine WC.loop (fun j m σ' H' => ∃ (i : Nat) (lsv : Value) (hl : HList) (sa : Option Addr) (sc : Nat) (hsn : HList), j = L.length - i ∧ i ≤ L.length ∧ SlO σ' eEnt 45 36 lsv (L.take i) hl ∧ SlO σ' (eRowJ L) 151 1 (.slice sa i sc) (List.range i) hsn ∧ σ0.le σ' ∧ lsv.oneCell' = true ∧ m = [(0, .slice la L.length lc), (3, .pointer (some ⟨b14, 0, none⟩)), (15, .slice la L.length lc), (16, .int .i64 (L.length : Int)), (17, .int .i64 (i : Int))] ∧ H' = (b14, rowO 173 [lsv, .map (some b12), .slice sa i sc]) :: (b12, mapO hashV (idsFrom (L.take i) 0)) :: (hl ++ (hsn ++ Hr))) ⟨0, .slice none 0 0, [], none, 0, [], rfl, by omega, SlO.nil, SlO.nil, View.le_refl _, rfl, rfl, rfl⟩ zcV zsL ?_
  rintro _ _ σ Hr ⟨i, lsv, hl, sa, sc, hsn, rfl, hi, hso, hss, hle, h1c, rfl, rfl⟩
  have htl : (L.take i).length = i := by rw [List.length_take]; omega
  obtain ⟨bs, hsa, hsat⟩ := hss.rds
  rw [List.length_range] at hsa
  refine WC.seq ?_
  refine WC.region ?_
  refine' WL.pur (Pur.bin rfl rfl ?h1_0) ?k1
  case h1_0 => first | exact Bin.ltN | exact Bin.ltI | exact Bin.ltS
  refine WL.nil ?_
  refine WQ.thn ?_
  refine WC.seq ?_
  first | refine WC.cond rfl (fun hc0 => ?_) (fun hc0 => ?_) | refine WC.condB rfl (fun hc0 => ?_) (fun hc0 => ?_)
  · have h' := h0'.mono eEnt_mono hle
    obtain ⟨e, he⟩ : ∃ e, L[i]? = some e := ⟨_, List.getElem?_eq_getElem hc0⟩
    obtain ⟨qv, ov, hrd, heH, hNR⟩ := ent_rd h' hel he
    have hps' := hNR.1
    have hops' := hNR.2.1
    obtain ⟨pa, pc, rfl, hpc, hpb⟩ := hps'.shape
    obtain ⟨oa, oc, rfl, hoc, hob⟩ := hops'.shape
    obtain ⟨pb, poff, hep⟩ := addr_of hps'
    have hok : ∀ p ∈ idsFrom (L.take i) 0, IsH p.1 := ids_ok (fun e he => hids e (List.mem_of_mem_take he)) 0
    have hok1 : ∀ p ∈ idsFrom (L.take (i + 1)) 0, IsH p.1 := ids_ok (fun e he => hids e (List.mem_of_mem_take he)) 0
    have hstep := ids_step he (idx_fresh ho.nodup he)
    refine WC.skip ?_
    refine WQ.thn ?_
    refine WC.seq ?_
    refine WC.block ?_
    refine WC.seq ?_
    refine WC.region ?_
    refine WL.pur (Pur.move rfl) ?_
    refine' WL.pur (Pur.indexAddr (eqA (hel (by omega))) rfl sl_22 ?h2_0) ?k2
    case h2_0 => omega
    refine' WL.pur (Pur.loadN rfl ty_45 ?h3_0 ?h3_1) ?k3
    case h3_0 => first | (apply Rd.own_sub; exact zmE; exact Sub.refl _) | (apply RdV.rd; assumption)
    case h3_1 => first | rfl | assumption
    refine WL.new (New.alloc zc_45) (fun b5 => ?_)
    refine WL.pur (Pur.assign rfl) ?_
    refine' WL.run0 (Run.storeAll rfl rfl ty_45 ?h4_0 (by first | rfl | assumption) ?h4_1 (by first | rfl | assumption)) ?k4
    case h4_0 => repeat (first | exact Part.one | exact Part.here | apply Part.cons | apply Part.app)
    case h4_1 => first | rfl | assumption
    refine WL.nil ?_
    refine WQ.thn ?_
    refine WC.seq ?_
    refine WC.draw 9 12 ((b5, rowO 45 (entCells e.id e.node.au e.node.cl (.slice pa e.node.ps.length pc) (.slice oa e.node.ops.length oc))) :: (b14, rowO 173 [lsv, .map (some b12), .slice sa i sc]) :: (b12, mapO hashV (idsFrom (L.take i) 0)) :: []) mixed (by kernel_rfl) rfl ?_
    refine SA.takeW 0 (by kernel_rfl) rfl rfl rfl (Wanted.plain rfl) (tells_move rfl) ?_
    refine SA.takeW 1 (by kernel_rfl) rfl rfl rfl (Wanted.plain rfl) (tells_move rfl) ?_
    refine SA.takeP 2 (by kernel_rfl) rfl rfl rfl (Wanted.plain rfl) (fun _ _ => Pur.nilCheck rfl) ?_
    refine SA.takeP 3 (by kernel_rfl) rfl rfl rfl (Wanted.plain rfl) (fun _ _ => Pur.fieldAddr rfl fo_173_0) ?_
    refine' SA.take 4 (by kernel_rfl) rfl rfl rfl (Wanted.plain rfl) zsL (by first | exact View.le_refl _ | assumption) (Pur.load1 rfl ty_22 ?h5_0) ?k5
    case h5_0 => first | (apply Rd.own1; exact zmE; rfl) | (apply RdV.rd; apply RdV.idx (i := 0); assumption; rfl)
    refine' SA.take 5 (by kernel_rfl) rfl rfl rfl (Wanted.plain rfl) zsL (by first | exact View.le_refl _ | assumption) (Pur.loadN rfl ty_45 ?h6_0 ?h6_1) ?k6
    case h6_0 => first | (apply Rd.own_sub; exact zmE; exact Sub.refl _) | (apply RdV.rd; assumption)
    case h6_1 => first | rfl | assumption
    refine SA.callR 6 (H1 := []) rfl rfl (Wanted.plain rfl) (by kernel_rfl) rfl Tryz.call112 (List.Perm.refl _) (.inr ⟨zsL, View.le_refl _⟩) (past_own _ e.id e.node _ _ hNR) ?_
    rintro v28 σ3 _ ⟨⟨pv', ov', rfl, hNR3⟩, rfl⟩ hle3
    rw [List.nil_append]
    obtain ⟨pa3, pc3, rfl, _, _⟩ := hNR3.1.shape
    obtain ⟨oa3, oc3, rfl, _, _⟩ := hNR3.2.1.shape
    refine SA.new 7 rfl rfl rfl (Wanted.plain rfl) (by kernel_rfl) (New.buildSliceN (xs := [.tmp 28]) (vss := [entCells e.id e.node.au e.node.cl (.slice pa3 e.node.ps.length pc3) (.slice oa3 e.node.ops.length oc3)]) sl_22 zc_45 rfl rfl rfl (by rfl) (by rfl)) (.inr ⟨zsL, (by first | exact View.le_refl _ | assumption)⟩) (fun b29 => ?_)
    refine' SA.any 8 rfl rfl rfl (Wanted.plain rfl) (by kernel_rfl) (Any.push (H1 := [(b29, _), (b5, _), (b14, _), (b12, _)]) (H2 := hsn ++ Hr) sl_22 zc_45 rfl by_45 rfl rfl (hso.mono eEnt_mono hle3) ?h7_0 ?h7_1 ?h7_2 ?h7_3 rfl (by rw [htl]; omega) (by rw [htl]; omega)) (fun _ _ _ hJ => .inr ⟨by (obtain ⟨_, _, hσ, hH⟩ := hJ; subst hH; (try simp only [List.append_assoc, List.cons_append, List.nil_append]); exact zsL), (by first | exact View.le_refl _ | assumption)⟩) ?k7
    case h7_0 => apply Rd.own_sub; exact zmE; exact Sub.refl _
    case h7_1 => first | rfl | assumption
    case h7_2 => first | rfl | assumption
    case h7_3 => exact ⟨_, _, rfl, heH, hNR3⟩
    rintro v30 σ _ ⟨ho', hso', rfl, rfl⟩ _
    have h1c8 := SlO.one_cell hso'
    have hss3 := hss.mono (eRowJ_mono L) hle3
    obtain ⟨bs8, hsa8, hsat8⟩ := hss3.rds
    rw [List.length_range] at hsa8
    have hps8 := hps'.mono eHash_mono hle3
    rw [show L.take i ++ [e] = L.take (i + 1) by rw [List.take_add_one, he]; rfl] at hso'
    refine SA.run 9 rfl (fun _ e => by cases e; rfl) (Wanted.plain rfl) (by kernel_rfl) (Pur.run (Pur.nilCheck rfl)) (.inl (by decide)) ?_
    refine SA.run 10 rfl (fun _ e => by cases e; rfl) (Wanted.plain rfl) (by kernel_rfl) (Pur.run (Pur.fieldAddr rfl fo_173_0)) (.inl (by decide)) ?_
    refine' SA.run 11 rfl (fun _ e => by cases e) (Wanted.plain rfl) (by kernel_rfl) (Run.store1 rfl rfl ty_22 (by first | rfl | assumption) ?h8_0 ?h8_1 sz_22) (.inl (by decide)) ?k8
    case h8_0 => repeat (first | exact Part.one | exact Part.here | apply Part.cons | apply Part.app)
    case h8_1 => first | exact Nat.le_of_ble_eq_true rfl | decide | (simp; done) | (simp; omega) | omega
    refine SA.done (by kernel_rfl) ?_
    refine WQ.thn ?_
    refine WC.seq ?_
    refine WC.drawH 7 8 mixed (by kernel_rfl) rfl ?_
    refine SA.takeW 0 (by kernel_rfl) rfl rfl rfl (Wanted.plain rfl) (tells_move rfl) ?_
    refine SA.takeP 1 (by kernel_rfl) rfl rfl rfl (Wanted.plain rfl) (fun _ _ => Pur.nilCheck rfl) ?_
    refine SA.takeP 2 (by kernel_rfl) rfl rfl rfl (Wanted.plain rfl) (fun _ _ => Pur.fieldAddr rfl fo_173_1) ?_
    refine' SA.take 3 (by kernel_rfl) rfl rfl rfl (Wanted.plain rfl) zsL (by first | exact View.le_refl _ | assumption) (Pur.load1 rfl ty_142 ?h9_0) ?k9
    case h9_0 => first | (apply Rd.own1; exact zmE; rfl) | (apply RdV.rd; apply RdV.idx (i := 1); assumption; rfl) | (apply RdV.rd; apply RdV.idx (off := 0) (i := 1); assumption; rfl)
    refine SA.takeP 4 (by kernel_rfl) rfl rfl rfl (Wanted.plain rfl) (fun _ _ => Pur.fieldAddr rfl fo_45_0) ?_
    refine' SA.take 5 (by kernel_rfl) rfl rfl rfl (Wanted.plain rfl) zsL (by first | exact View.le_refl _ | assumption) (Pur.loadN rfl ty_39 ?h10_0 ?h10_1) ?k10
    case h10_0 => first | (apply Rd.own_sub; exact zmE; exact Sub.ent_hash _ _ _ _ _) | (apply RdV.rd; apply RdV.sub0; assumption; exact Sub.ent_hash _ _ _ _ _)
    case h10_1 => first | rfl | assumption
    refine SA.takeW 6 (by kernel_rfl) rfl rfl rfl (Wanted.plain rfl) (tells_move rfl) ?_
    refine' SA.run 7 rfl (fun _ e => by cases e) (Wanted.plain rfl) (by kernel_rfl) (Run.mapUpdate rfl rfl rfl mt_142 (K := hashV) (keyC_hash isHKey_39) ?h11_0 ?h11_1 ?h11_2) (.inl (by decide)) ?k11
    case h11_0 => repeat (first | exact Part.one | exact Part.here | apply Part.cons | apply Part.app)
    case h11_1 => first | assumption | exact fun _ _ => trivial
    case h11_2 => first | assumption | trivial
    refine SA.done (by kernel_rfl) ?_
    refine WQ.thn ?_
    refine WC.seq ?_
    refine WC.region ?_
    rw [hstep]
    refine WL.pur (Pur.move rfl) ?_
    refine' WL.pur (Pur.bin rfl rfl ?h12_0) ?k12
    case h12_0 => first | (refine Bin.addN (b := 63) ?_; omega) | (refine Bin.addI ?_; omega)
    refine' WL.pur (Pur.bin rfl rfl ?h13_0) ?k13
    case h13_0 => first | (refine Bin.quoN (b := 64) ?_ ?_ <;> omega)
    refine WL.any (Any.make1 sl_151 zc_60 by_60 rfl rfl (by omega) (by omega)) ?_
    rintro _ σ _ ⟨b43, rfl, rfl, rfl⟩ _
    refine WL.pur (Pur.assign rfl) ?_
    refine WL.nil ?_
    refine WQ.thn ?_
    refine WC.seq ?_
    refine WC.seq ?_
    refine WC.region ?_
    refine WL.pur (Pur.fieldAddr rfl fo_45_1) ?_
    refine WL.pur (Pur.fieldAddr rfl fo_43_2) ?_
    refine' WL.pur (Pur.load1 rfl ty_41 ?h14_0) ?k14
    case h14_0 => first | (apply Rd.own1; exact zmE; rfl) | (apply RdV.rd; apply RdV.idx (i := 34); assumption; rfl) | (apply RdV.rd; apply RdV.idx (off := 0) (i := 34); assumption; rfl)
    refine WL.pur (Pur.len rfl isSlice_41) ?_
    refine WL.pur (Pur.move rfl) ?_
    refine WL.nil ?_
    refine WQ.thn ?_
    refine WC.block ?_
    rw [words_zero]
    refine WC.loop (fun j m σ' H' => ∃ q : Nat, j = e.node.ps.length - q ∧ q ≤ e.node.ps.length ∧ m = [(0, .slice la L.length lc), (3, .pointer (some ⟨b14, 0, none⟩)), (15, .slice la L.length lc), (16, .int .i64 (L.length : Int)), (17, .int .i64 (i : Int)), (4, .int .i64 (i : Int)), (6, .slice (some ⟨b43, 0, none⟩) ((i + 63) / 64) ((i + 63) / 64)), (46, .slice pa e.node.ps.length pc), (47, .int .i64 (e.node.ps.length : Int)), (48, .int .i64 (q : Int))] ∧ σ' = σ ∧ H' = (b43, rowO 60 ((List.range ((i + 63) / 64)).map (wordV (rowAcc (rowsN L i) (pk L e.node.ps q))))) :: (b14, rowO 173 [v30, .map (some b12), .slice sa i sc]) :: (b12, mapO hashV (idsFrom (L.take (i + 1)) 0)) :: (ho' ++ (hsn ++ Hr))) ⟨0, rfl, by omega, rfl, rfl, by rw [pk_zero, rowAcc_nil]⟩ zcV zsL ?_
    rintro _ _ σ Hr ⟨q, rfl, hq, rfl, rfl, rfl⟩
    refine WC.seq ?_
    refine WC.region ?_
    refine' WL.pur (Pur.bin rfl rfl ?h15_0) ?k15
    case h15_0 => first | exact Bin.ltN | exact Bin.ltI | exact Bin.ltS
    refine WL.nil ?_
    refine WQ.thn ?_
    refine WC.seq ?_
    first | refine WC.cond rfl (fun hc1 => ?_) (fun hc1 => ?_) | refine WC.condB rfl (fun hc1 => ?_) (fun hc1 => ?_)
    · obtain ⟨p, hp⟩ : ∃ p, e.node.ps[q]? = some p := ⟨_, List.getElem?_eq_getElem (by omega)⟩
      obtain ⟨hpr, hpH⟩ := hash_rd hps8 hep hp
      obtain ⟨k, hki, hkx⟩ := ho.par i e he p (List.mem_of_getElem? hp)
      have hmg : (mget (idsFrom (L.take (i + 1)) 0) p).getD (.int .i64 0) = .int .i64 (k : Int) := by rw [mget_ids0, idxOf_take hkx (by omega)]; rfl
      obtain ⟨vs, hv1, hv2, ⟨wv, rfl, hv3, hwv⟩, hvr⟩ := hsat8 k k (List.getElem?_range hki)
      obtain ⟨wa, wc, rfl, hwc, hwb⟩ := hwv.shape
      obtain ⟨wb, woff, hew⟩ := addr_of hwv
      have hwl : (wordsOf L k).length = (k + 63) / 64 := wordsOf_len L k
      have hrk := rows_at hki (show i ≤ L.length by omega)
      have hrk2 : (rowsN L i).getD k 0 < 2 ^ k := by rw [← hrk]; exact rowsN_lt ho L.length k (by omega)
      refine WC.skip ?_
      refine WQ.thn ?_
      refine WC.seq ?_
      refine WC.block ?_
      refine WC.seq ?_
      refine WC.region ?_
      refine' WL.pur (Pur.indexAddr (eqA (hep (by omega))) rfl sl_41 ?h16_0) ?k16
      case h16_0 => omega
      refine' WL.pur (Pur.loadN rfl ty_39 ?h17_0 ?h17_1) ?k17
      case h17_0 => exact RdV.rd hpr
      case h17_1 => first | rfl | assumption
      refine WL.new (New.alloc zc_39) (fun b8 => ?_)
      refine' WL.run0 (Run.storeAll rfl rfl ty_39 ?h18_0 (by first | rfl | assumption) ?h18_1 (by first | rfl | assumption)) ?k18
      case h18_0 => repeat (first | exact Part.one | exact Part.here | apply Part.cons | apply Part.app)
      case h18_1 => first | rfl | assumption
      refine WL.nil ?_
      refine WQ.thn ?_
      refine WC.seq ?_
      refine WC.drawH 7 7 mixed (by kernel_rfl) rfl ?_
      refine SA.take 0 (by kernel_rfl) rfl rfl rfl (Wanted.plain rfl) zsL (by first | exact View.le_refl _ | assumption) (Pur.move rfl) ?_
      refine SA.take 1 (by kernel_rfl) rfl rfl rfl (Wanted.plain rfl) zsL (by first | exact View.le_refl _ | assumption) (Pur.nilCheck rfl) ?_
      refine SA.take 2 (by kernel_rfl) rfl rfl rfl (Wanted.plain rfl) zsL (by first | exact View.le_refl _ | assumption) (Pur.fieldAddr rfl fo_173_1) ?_
      refine' SA.take 3 (by kernel_rfl) rfl rfl rfl (Wanted.plain rfl) zsL (by first | exact View.le_refl _ | assumption) (Pur.load1 rfl ty_142 ?h19_0) ?k19
      case h19_0 => first | (apply Rd.own1; exact zmE; rfl) | (apply RdV.rd; apply RdV.idx (i := 1); assumption; rfl) | (apply RdV.rd; apply RdV.idx (off := 0) (i := 1); assumption; rfl)
      refine' SA.take 4 (by kernel_rfl) rfl rfl rfl (Wanted.plain rfl) zsL (by first | exact View.le_refl _ | assumption) (Pur.loadN rfl ty_39 ?h20_0 ?h20_1) ?k20
      case h20_0 => first | (apply Rd.own_sub; exact zmE; exact Sub.refl _) | (apply RdV.rd; assumption)
      case h20_1 => first | rfl | assumption
      refine SA.take 5 (by kernel_rfl) rfl rfl rfl (Wanted.plain rfl) zsL (by first | exact View.le_refl _ | assumption) ((pur_look hmg (Pur.lookup (K := hashV) rfl rfl mt_142 (keyC_hash isHKey_39) zv_3 (Or.inl (by repeat (first | exact List.Mem.head _ | apply List.Mem.tail | apply List.mem_append_right))) hok1 hpH))) ?_
      refine SA.take 6 (by kernel_rfl) rfl rfl rfl (Wanted.plain rfl) zsL (by first | exact View.le_refl _ | assumption) (Pur.assign rfl) ?_
      refine SA.done (by kernel_rfl) ?_
      refine WQ.thn ?_
      refine WC.seq ?_
      refine WC.seq ?_
      refine WC.region ?_
      refine WL.pur (Pur.move rfl) ?_
      refine WL.pur (Pur.nilCheck rfl) ?_
      refine WL.pur (Pur.fieldAddr rfl fo_173_2) ?_
      refine' WL.pur (Pur.load1 rfl ty_71 ?h21_0) ?k21
      case h21_0 => first | (apply Rd.own1; exact zmE; rfl) | (apply RdV.rd; apply RdV.idx (i := 2); assumption; rfl) | (apply RdV.rd; apply RdV.idx (off := 0) (i := 2); assumption; rfl)
      refine WL.pur (Pur.move rfl) ?_
      refine' WL.pur (Pur.indexAddr (eqA (hsa8 (by omega))) rfl sl_71 ?h22_0) ?k22
      case h22_0 => omega
      refine' WL.pur (Pur.load1 rfl ty_151 ?h23_0) ?k23
      case h23_0 => exact hvr _ _ (fun p hp => by repeat (first | exact List.mem_append_left _ hp | apply List.Mem.tail | apply List.mem_append_right))
      refine WL.pur (Pur.len rfl isSlice_151) ?_
      refine WL.pur (Pur.move rfl) ?_
      refine WL.nil ?_
      refine WQ.thn ?_
      refine WC.block ?_
      refine WC.loop (fun j m σ' H' => ∃ u : Nat, j = (wordsOf L k).length - u ∧ u ≤ (wordsOf L k).length ∧ m = [(0, .slice la L.length lc), (3, .pointer (some ⟨b14, 0, none⟩)), (15, .slice la L.length lc), (16, .int .i64 (L.length : Int)), (17, .int .i64 (i : Int)), (4, .int .i64 (i : Int)), (6, .slice (some ⟨b43, 0, none⟩) ((i + 63) / 64) ((i + 63) / 64)), (46, .slice pa e.node.ps.length pc), (47, .int .i64 (e.node.ps.length : Int)), (48, .int .i64 (q : Int)), (9, .int .i64 (k : Int)), (64, .slice wa (wordsOf L k).length wc), (65, .int .i64 ((wordsOf L k).length : Int)), (66, .int .i64 (u : Int))] ∧ σ' = σ ∧ H' = (b43, rowO 60 ((List.range ((i + 63) / 64)).map (wordUpTo (rowAcc (rowsN L i) (pk L e.node.ps q)) ((rowsN L i).getD k 0) u))) :: (b14, rowO 173 [v30, .map (some b12), .slice sa i sc]) :: (b12, mapO hashV (idsFrom (L.take (i + 1)) 0)) :: (ho' ++ (hsn ++ Hr))) ⟨0, rfl, by omega, rfl, rfl, by rw [wordUp_zero]⟩ zcV zsL ?_
      rintro _ _ σ Hr ⟨u, rfl, hu, rfl, rfl, rfl⟩
      refine WC.seq ?_
      refine WC.region ?_
      refine' WL.pur (Pur.bin rfl rfl ?h24_0) ?k24
      case h24_0 => first | exact Bin.ltN | exact Bin.ltI | exact Bin.ltS
      refine WL.nil ?_
      refine WQ.thn ?_
      refine WC.seq ?_
      first | refine WC.cond rfl (fun hc2 => ?_) (fun hc2 => ?_) | refine WC.condB rfl (fun hc2 => ?_) (fun hc2 => ?_)
      · obtain ⟨x, hx⟩ : ∃ x, (wordsOf L k)[u]? = some x := ⟨_, List.getElem?_eq_getElem hc2⟩
        have hx2 : x = wordN ((rowsN L i).getD k 0) u := by rw [wordsOf_get (show u < (k + 63) / 64 by omega)] at hx; rw [← hrk]; exact (Option.some.inj hx).symm
        subst hx2
        have hwr := u64_rd hwv hew hx
        have huW : u < (i + 63) / 64 := by omega
        refine WC.skip ?_
        refine WQ.thn ?_
        refine WC.seq ?_
        refine WC.block ?_
        refine WC.seq ?_
        refine WC.region ?_
        refine WL.pur (Pur.move rfl) ?_
        refine' WL.pur (Pur.indexAddr (eqA (hew (by omega))) rfl sl_151 ?h25_0) ?k25
        case h25_0 => omega
        refine' WL.pur (Pur.load1 rfl ty_60 ?h26_0) ?k26
        case h26_0 => exact RdV.rd hwr
        refine WL.pur (Pur.assign rfl) ?_
        refine WL.pur (Pur.assign rfl) ?_
        refine WL.nil ?_
        refine WQ.thn ?_
        refine WC.region ?_
        refine WL.pur (Pur.move rfl) ?_
        refine WL.pur (Pur.move rfl) ?_
        refine' WL.pur (Pur.indexAddr rfl rfl sl_151 ?h27_0) ?k27
        case h27_0 => omega
        refine' WL.pur (Pur.load1 rfl ty_60 ?h28_0) ?k28
        case h28_0 => apply Rd.own1; exact zmE; exact (get_range_map1 huW).trans (congrArg some wordUp_at)
        refine WL.pur (Pur.move rfl) ?_
        refine' WL.pur (Pur.bin rfl rfl ?h29_0) ?k29
        case h29_0 => exact Bin.orU (wordN_lt _ _) (wordN_lt _ _)
        refine' WL.pur (Pur.indexAddr rfl rfl sl_151 ?h30_0) ?k30
        case h30_0 => omega
        refine' WL.run0 (Run.storeF rfl rfl ty_60 (by first | rfl | assumption) ?h31_0 ?h31_1 sz_60) ?k31
        case h31_0 => repeat (first | exact Part.one | exact Part.here | apply Part.cons | apply Part.app)
        case h31_1 => first | assumption | omega
        refine WL.nil ?_
        refine WQ.blk ?_
        refine WQ.thn ?_
        refine WC.region ?_
        refine' WL.pur (Pur.bin rfl rfl ?h32_0) ?k32
        case h32_0 => first | (refine Bin.addN (b := 1) ?_; omega) | (refine Bin.addI ?_; omega)
        refine WL.pur (Pur.move rfl) ?_
        refine WL.nil ?_
        rw [wordUp_step]
        refine WQ.back _ ⟨u + 1, rfl, by omega, rfl, rfl, rfl⟩ (by omega) zcV zsL
      · have huu : u = (wordsOf L k).length := by omega
        rw [wordUp_end hrk2 (show (k + 63) / 64 ≤ u by omega)]
        have hkW : k / 64 < (i + 63) / 64 := by omega
        refine WC.exit ?_
        refine WQ.thn_exit ?_
        refine WQ.back_exit ?_
        refine WQ.blk_here ?_
        refine WQ.thn ?_
        refine WC.drawH 9 11 mixed (by kernel_rfl) rfl ?_
        refine SA.takeW 0 (by kernel_rfl) rfl rfl rfl (Wanted.plain rfl) (tells_move rfl) ?_
        refine SA.takeW 1 (by kernel_rfl) rfl rfl rfl (Wanted.plain rfl) (tells_move rfl) ?_
        refine' SA.takeP 2 (by kernel_rfl) rfl rfl rfl (Wanted.plain rfl) (fun _ _ => Pur.bin rfl rfl ?h33_0) ?k33
        case h33_0 => first | (refine Bin.quoN (b := 64) ?_ ?_ <;> omega)
        refine' SA.takeP 3 (by kernel_rfl) rfl rfl rfl (Wanted.plain rfl) (fun _ _ => Pur.indexAddr rfl rfl sl_151 ?h34_0) ?k34
        case h34_0 => omega
        refine' SA.take 4 (by kernel_rfl) rfl rfl rfl (Wanted.plain rfl) zsL (by first | exact View.le_refl _ | assumption) (Pur.load1 rfl ty_60 ?h35_0) ?k35
        case h35_0 => apply Rd.own1; exact zmE; exact get_range_map1 hkW
        refine SA.takeW 5 (by kernel_rfl) rfl rfl rfl (Wanted.plain rfl) (tells_move rfl) ?_
        refine' SA.takeP 6 (by kernel_rfl) rfl rfl rfl (Wanted.plain rfl) (fun _ _ => Pur.bin rfl rfl ?h36_0) ?k36
        case h36_0 => first | (refine Bin.remN (b := 64) ?_; omega)
        refine' SA.takeP 7 (by kernel_rfl) rfl rfl rfl (Wanted.plain rfl) (fun _ _ => Pur.bin rfl rfl ?h37_0) ?k37
        case h37_0 => exact Bin.shlU (a := 1) (Nat.mod_lt _ (by decide)) (by rw [Nat.one_mul]; exact Nat.pow_lt_pow_right (by decide) (Nat.mod_lt _ (by decide)))
        refine' SA.takeP 8 (by kernel_rfl) rfl rfl rfl (Wanted.plain rfl) (fun _ _ => Pur.bin rfl rfl ?h38_0) ?k38
        case h38_0 => exact Bin.orU (wordN_lt _ _) (by rw [Nat.one_mul]; exact Nat.pow_lt_pow_right (by decide) (Nat.mod_lt _ (by decide)))
        refine' SA.run 9 rfl (fun _ e => by cases e; rfl) (Wanted.plain rfl) (by kernel_rfl) (Pur.run (Pur.indexAddr rfl rfl sl_151 ?h39_0)) (.inl (by decide)) ?k39
        case h39_0 => omega
        refine' SA.run 10 rfl (fun _ e => by cases e) (Wanted.plain rfl) (by kernel_rfl) (Run.storeF rfl rfl ty_60 (by first | rfl | assumption) ?h40_0 ?h40_1 sz_60) (.inl (by decide)) ?k40
        case h40_0 => repeat (first | exact Part.one | exact Part.here | apply Part.cons | apply Part.app)
        case h40_1 => first | assumption | omega
        refine SA.done (by kernel_rfl) ?_
        refine WQ.blk ?_
        refine WQ.thn ?_
        refine WC.region ?_
        refine' WL.pur (Pur.bin rfl rfl ?h41_0) ?k41
        case h41_0 => first | (refine Bin.addN (b := 1) ?_; omega) | (refine Bin.addI ?_; omega)
        refine WL.pur (Pur.move rfl) ?_
        refine WL.nil ?_
        rw [wordBit, Nat.or_assoc, ← Nat.or_assoc, ← rowAcc_snoc, ← pk_step hp hkx]
        refine WQ.back _ ⟨q + 1, rfl, by omega, rfl, rfl, rfl⟩ (by omega) zcV zsL
    · have hqq : q = e.node.ps.length := by omega
      subst hqq
      rw [words_final he]
      have hWl : (wordsOf L i).length = (i + 63) / 64 := wordsOf_len L i
      rw [← hWl]
      refine WC.giveS (E := eU64) (byt := 8) (H1 := []) eU64_mono (SlO.words (wordsOf L i)) (by omega) rfl (fun σ9 hle9 hsl9 => ?_)
      rw [List.nil_append]
      have hso9 := hso'.mono eEnt_mono hle9
      have hss9 := hss3.mono (eRowJ_mono L) hle9
      refine WC.exit ?_
      refine WQ.thn_exit ?_
      refine WQ.back_exit ?_
      refine WQ.blk_here ?_
      refine WQ.thn ?_
      refine WC.region ?_
      refine WL.pur (Pur.move rfl) ?_
      refine WL.pur (Pur.move rfl) ?_
      refine WL.pur (Pur.nilCheck rfl) ?_
      refine WL.pur (Pur.fieldAddr rfl fo_173_2) ?_
      refine' WL.pur (Pur.load1 rfl ty_71 ?h42_0) ?k42
      case h42_0 => first | (apply Rd.own1; exact zmE; rfl) | (apply RdV.rd; apply RdV.idx (i := 2); assumption; rfl) | (apply RdV.rd; apply RdV.idx (off := 0) (i := 2); assumption; rfl)
      refine WL.pur (Pur.move rfl) ?_
      refine WL.new (New.buildSliceS (xs := [.tmp 95]) sl_71 zc_151 rfl rfl rfl (by rfl) (by rfl)) (fun b96 => ?_)
      refine' WL.any (Any.push (H1 := [(b96, _), (b14, _), (b12, _)] ++ ho') (H2 := Hr) sl_71 zc_151 rfl by_151 rfl rfl hss9 ?h43_0 ?h43_1 ?h43_2 ?h43_3 (List.append_assoc [_, _, _] ho' _).symm (by rw [List.length_range]; omega) (by rw [List.length_range]; omega)) ?k43
      case h43_0 => apply Rd.own_sub; exact zmE; exact Sub.refl _
      case h43_1 => first | rfl | assumption
      case h43_2 => first | rfl | assumption
      case h43_3 => exact ⟨_, rfl, rfl, hsl9⟩
      rintro v97 σ _ ⟨hn8, hss8, rfl, rfl⟩ _
      simp only [List.cons_append, List.append_assoc, List.nil_append]
      rw [← List.range_succ] at hss8
      obtain ⟨sa8, sc8, rfl, _⟩ := hss8.shape
      rw [List.length_range] at hss8 ⊢
      have hso8 := hso9
      have hle8 := View.le_trans hle (View.le_trans hle3 hle9)
      refine WL.pur (Pur.nilCheck rfl) ?_
      refine WL.pur (Pur.fieldAddr rfl fo_173_2) ?_
      refine' WL.run0 (Run.store1 rfl rfl ty_71 (by first | rfl | assumption) ?h44_0 ?h44_1 sz_71) ?k44
      case h44_0 => repeat (first | exact Part.one | exact Part.here | apply Part.cons | apply Part.app)
      case h44_1 => first | exact Nat.le_of_ble_eq_true rfl | decide | (simp; done) | (simp; omega) | omega
      refine WL.nil ?_
      refine WQ.blk ?_
      refine WQ.thn ?_
      refine WC.region ?_
      refine' WL.pur (Pur.bin rfl rfl ?h45_0) ?k45
      case h45_0 => first | (refine Bin.addN (b := 1) ?_; omega) | (refine Bin.addI ?_; omega)
      refine WL.pur (Pur.move rfl) ?_
      refine WL.nil ?_
      refine WQ.back _ ⟨i + 1, _, _, _, _, _, rfl, by omega, hso8, hss8, hle8, h1c8, rfl, rfl⟩ (by omega) zcV zsL
  · have hil : i = L.length := by omega
    subst hil
    rw [List.take_length] at hso ⊢
    refine WC.giveS (byt := 96) (H1 := [(b14, _), (b12, _)]) (H2 := hsn ++ Hr) eEnt_mono hso (by omega) rfl (fun σ1 hle1 hsl1 => ?_)
    refine WC.giveS (byt := 24) (H1 := [(b14, _), (b12, _)]) (H2 := Hr) (eRowJ_mono L) (hss.mono (eRowJ_mono L) hle1) (by rw [List.length_range]; omega) rfl (fun σ2 hle2 hsl2 => ?_)
    refine WC.give (H1 := [(b14, _)]) (H2 := Hr) (fun hb12 => ?_)
    refine WC.give (H1 := []) (H2 := Hr) (fun hb14 => ?_)
    rw [List.nil_append]
    have hleF := View.le_trans (View.le_add (mapO hashV (idsFrom L 0)) hb12) (View.le_add (rowO 173 [lsv, .map (some b12), .slice sa L.length sc]) hb14)
    refine WC.exit ?_
    refine WQ.thn_exit ?_
    refine WQ.back_exit ?_
    refine WQ.blk_here ?_
    refine WQ.thn ?_
    refine WC.seq ?_
    refine WC.region ?_
    refine WL.pur (Pur.move rfl) ?_
    refine WL.pur (Pur.assign rfl) ?_
    refine WL.nil ?_
    refine WQ.thn ?_
    refine WC.ret ?_
    refine WQ.ret1 Tryz.results92 rfl [] zsL (View.le_trans hle (View.le_trans hle1 (View.le_trans hle2 hleF))) ?_
    exact ⟨⟨b14, b12, _, _, rfl, RdV.row (View.add_same _ _ _), hsl1.mono eEnt_mono (View.le_trans hle2 hleF), (View.le_add _ hb14).2 _ _ (View.add_same _ _ _), hsl2.mono (eRowJ_mono L) hleF⟩, rfl⟩

end Go.Proofs.YtgoooilgmabkmaaGreat
namespace Go.Proofs.YtgoooilgmabkmaaGreat
open Go Go.Sl
set_option linter.unusedVariables false
set_option linter.unusedSimpArgs false
set_option maxRecDepth 100000

theorem past_Of (σ : View) (lv : Value) (l : List EntD) (h : Ents σ lv l) :
    Tri Tryz.prog 23 #[lv] σ [] (fun v σ' H' => (((rightErr l).1 = 0 ∧ ∃ pv, v = .tuple #[pv, .int .i64 0, .int .i64 0] ∧ PastV σ' pv (ordE l)) ∨ ((rightErr l).1 ≠ 0 ∧ v = .tuple #[.pointer none, .int .i64 (rightErr l).1, .int .i64 ((rightErr l).2 : Int)])) ∧ H' = []) := by
  have h0' := h
  obtain ⟨la, lc, rfl, hlc, hlby⟩ := h.shape
  refine Tri.of_body [(0, .slice la l.length lc)] Tryz.func23 rfl Tryz.ntmps23 (by simp) rfl (fun Hr => ?_)
  rw [List.nil_append]
  refine WC.seq ?_
  refine WC.region ?_
  refine WL.pur (Pur.assign rfl) ?_
  refine WL.pur (Pur.assign rfl) ?_
  refine WL.pur (Pur.assign rfl) ?_
  refine WL.nil ?_
  refine WQ.thn ?_
  refine WC.seq ?_
  refine WC.region ?_
  refine WL.pur (Pur.move rfl) ?_
  refine WL.call (H0 := []) (Hr := Hr) rfl Tryz.call91 (List.Perm.refl _) (past_check _ _ l h0') ?_
  rintro v10 σ1 _ ⟨⟨mv, rfl, hrr⟩, rfl⟩ hle1
  rw [List.nil_append]
  refine WL.pur (Pur.move rfl) ?_
  first | refine WL.pur (Pur.ex2_0 rfl) ?_ | refine WL.pur (Pur.ex3_0 rfl) ?_ | refine WL.pur (Pur.extractNext rfl) ?_ | refine WL.pur (Pur.extract rfl rfl) ?_
  first | refine WL.pur (Pur.ex2_1 rfl) ?_ | refine WL.pur (Pur.ex3_1 rfl) ?_ | refine WL.pur (Pur.extract rfl rfl) ?_
  first | refine WL.pur (Pur.ex3_2 rfl) ?_ | refine WL.pur (Pur.extract rfl rfl) ?_
  refine WL.pur (Pur.assign rfl) ?_
  refine WL.pur (Pur.assign rfl) ?_
  refine WL.pur (Pur.assign rfl) ?_
  refine WL.nil ?_
  refine WQ.thn ?_
  refine WC.seq ?_
  refine WC.seq ?_
  refine WC.region ?_
  refine WL.pur (Pur.move rfl) ?_
  refine' WL.pur (Pur.bin rfl rfl ?h1_0) ?k1
  case h1_0 => first | exact Bin.neN (b := 0) | exact Bin.neI
  refine WL.nil ?_
  refine WQ.thn ?_
  first | refine WC.cond rfl (fun hc0 => ?_) (fun hc0 => ?_) | refine WC.condB rfl (fun hc0 => ?_) (fun hc0 => ?_)
  · refine WC.seq ?_
    refine WC.region ?_
    refine WL.pur (Pur.move rfl) ?_
    refine WL.pur (Pur.move rfl) ?_
    refine WL.pur (Pur.assign rfl) ?_
    refine WL.pur (Pur.assign rfl) ?_
    refine WL.pur (Pur.assign rfl) ?_
    refine WL.nil ?_
    refine WQ.thn ?_
    refine WC.ret ?_
    refine WQ.thn_ret ?_
    refine WQ.ret3 Tryz.results23 rfl rfl rfl [] zsL hle1 ?_
    exact ⟨.inr ⟨hc0, rfl⟩, rfl⟩
  · have h0 : (rightErr l).1 = 0 := Decidable.not_not.1 hc0
    have hg := good_of_right h0
    obtain ⟨hr2, bm, rfl, hbm⟩ := hrr h0
    have h1' := h0'.mono eEnt_mono hle1
    refine WC.skip ?_
    refine WQ.thn ?_
    refine WC.seq ?_
    refine WC.region ?_
    refine WL.pur (Pur.move rfl) ?_
    refine WL.pur (Pur.move rfl) ?_
    refine WL.call (H0 := []) (Hr := Hr) rfl Tryz.call93 (List.Perm.refl _) (past_order _ _ bm l h1' hg hbm) ?_
    rintro v20 σ2 _ ⟨hh, hso, rfl⟩ hle2
    refine WL.giveS (byt := 96) (H1 := []) (H2 := Hr) eEnt_mono hso (by rw [ordE_len hg]; have := hg.most; omega) rfl (fun σ3 hle3 hsl3 => ?_)
    rw [List.nil_append]
    refine WL.call (H0 := []) (Hr := Hr) rfl Tryz.call92 (List.Perm.refl _) (past_made _ _ (ordE l) hsl3 (ordE_ok hg)) ?_
    rintro v21 σ4 _ ⟨hpv, rfl⟩ hle4
    rw [List.nil_append]
    refine WL.pur (Pur.assign rfl) ?_
    refine WL.pur (Pur.assign rfl) ?_
    refine WL.pur (Pur.assign rfl) ?_
    refine WL.nil ?_
    refine WQ.thn ?_
    refine WC.ret ?_
    refine WQ.ret3 Tryz.results23 rfl rfl rfl [] zsL (View.le_trans hle1 (View.le_trans hle2 (View.le_trans hle3 hle4))) ?_
    exact ⟨.inl ⟨h0, _, rfl, hpv⟩, rfl⟩

end Go.Proofs.YtgoooilgmabkmaaGreat
namespace Go.Proofs.YtgoooilgmabkmaaGreat
open Go Go.Sl
set_option linter.unusedVariables false
set_option linter.unusedSimpArgs false
set_option maxRecDepth 100000

theorem r11_Of (σ0 : View) (lv : Value) (l : List EntD) (h : Ents σ0 lv l) :
    Tri Tryz.prog 24 #[lv] σ0 [] (fun v σ' H' => (((rightErr l).1 = 0 ∧ ∃ pv, v = .tuple #[pv, .int .i64 0, .int .i64 0] ∧ R11V σ' pv (ordE l)) ∨ ((rightErr l).1 ≠ 0 ∧ v = .tuple #[.pointer none, .int .i64 (rightErr l).1, .int .i64 ((rightErr l).2 : Int)])) ∧ H' = []) := by
  have h0' := h
  obtain ⟨la, lc, rfl, hlc, hlby⟩ := h.shape
  obtain ⟨lb, loff, hel⟩ := addr_of h
  refine Tri.of_body [(0, .slice la l.length lc)] Tryz.func24 rfl Tryz.ntmps24 (by simp) rfl (fun Hr => ?_)
  rw [List.nil_append]
  refine WC.seq ?_
  refine WC.region ?_
  refine WL.pur (Pur.assign rfl) ?_
  refine WL.pur (Pur.assign rfl) ?_
  refine WL.pur (Pur.assign rfl) ?_
  refine WL.nil ?_
  refine WQ.thn ?_
  refine WC.seq ?_
  refine WC.seq ?_
  refine WC.region ?_
  refine WL.pur (Pur.move rfl) ?_
  refine WL.callP rfl Tryz.call94 ((r11_right _ _ l h0')) ?_
  refine WL.pur (Pur.move rfl) ?_
  first | refine WL.pur (Pur.ex2_0 rfl) ?_ | refine WL.pur (Pur.ex3_0 rfl) ?_ | refine WL.pur (Pur.extractNext rfl) ?_ | refine WL.pur (Pur.extract rfl rfl) ?_
  first | refine WL.pur (Pur.ex2_1 rfl) ?_ | refine WL.pur (Pur.ex3_1 rfl) ?_ | refine WL.pur (Pur.extract rfl rfl) ?_
  refine WL.pur (Pur.assign rfl) ?_
  refine WL.pur (Pur.assign rfl) ?_
  refine WL.nil ?_
  refine WQ.thn ?_
  refine WC.seq ?_
  refine WC.region ?_
  refine WL.pur (Pur.move rfl) ?_
  refine' WL.pur (Pur.bin rfl rfl ?h1_0) ?k1
  case h1_0 => first | exact Bin.neN (b := 0) | exact Bin.neI
  refine WL.nil ?_
  refine WQ.thn ?_
  first | refine WC.cond rfl (fun hc0 => ?_) (fun hc0 => ?_) | refine WC.condB rfl (fun hc0 => ?_) (fun hc0 => ?_)
  · refine WC.seq ?_
    refine WC.region ?_
    refine WL.pur (Pur.move rfl) ?_
    refine WL.pur (Pur.move rfl) ?_
    refine WL.pur (Pur.assign rfl) ?_
    refine WL.pur (Pur.assign rfl) ?_
    refine WL.pur (Pur.assign rfl) ?_
    refine WL.nil ?_
    refine WQ.thn ?_
    refine WC.ret ?_
    refine WQ.thn_ret ?_
    refine WQ.ret3 Tryz.results24 rfl rfl rfl [] zsL (View.le_refl _) ?_
    exact ⟨.inr ⟨hc0, rfl⟩, rfl⟩
  · have h0 : (rightErr l).1 = 0 := Decidable.not_not.1 hc0
    have hg := good_of_right h0
    have ho := ordE_ok hg
    have hN := ordE_len hg
    have hmost := hg.most
    refine WC.skip ?_
    refine WQ.thn ?_
    refine WC.seq ?_
    refine WC.region ?_
    refine WL.pur (Pur.build (l := [.slice none 0 0, .slice none 0 0, .slice none 0 0]) pl_74 zc_74 rfl rfl) ?_
    refine WL.new (New.boxN rfl) (fun b26 => ?_)
    refine WL.pur (Pur.assign rfl) ?_
    refine WL.nil ?_
    refine WQ.thn ?_
    refine WC.seq ?_
    refine WC.region ?_
    refine WL.pur (Pur.move rfl) ?_
    refine WL.call (H0 := []) (Hr := (b26, rowO 74 [.slice none 0 0, .slice none 0 0, .slice none 0 0]) :: Hr) rfl Tryz.call95 (List.Perm.refl _) (r11_order _ _ l h0' hg) ?_
    rintro v28 σ _ ⟨⟨hh, hsr0, rfl⟩, rfl⟩ _
    refine WL.giveS (byt := 8) (H1 := []) (H2 := (b26, rowO 74 [.slice none 0 0, .slice none 0 0, .slice none 0 0]) :: Hr) eNat_mono hsr0 (by rw [ordOf_len hg]; omega) rfl (fun σ1 hle1 hsl1 => ?_)
    rw [List.nil_append]
    have h1' := h0'.mono eEnt_mono hle1
    obtain ⟨oa, oc, rfl, hoc, hob⟩ := hsl1.shape
    obtain ⟨ob, ooff, heo⟩ := addr_of hsl1
    refine WL.pur (Pur.assign rfl) ?_
    refine WL.nil ?_
    refine WQ.thn ?_
    refine WC.seq ?_
    refine WC.seq ?_
    refine WC.region ?_
    refine WL.pur (Pur.assign rfl) ?_
    refine WL.nil ?_
    refine WQ.thn ?_
    refine WC.block ?_
    refine WC.loop (fun j m σ' H' => ∃ (i : Nat) (lsv : Value) (hl : HList), j = (ordOf l).length - i ∧ i ≤ (ordOf l).length ∧ SlO σ' eEnt 45 36 lsv (ordP l i) hl ∧ lsv.oneCell' = true ∧ m = [(0, .slice la l.length lc), (7, .pointer (some ⟨b26, 0, none⟩)), (8, .slice oa (ordOf l).length oc), (9, .int .i64 (i : Int))] ∧ σ' = σ1 ∧ H' = (b26, rowO 74 [lsv, .slice none 0 0, .slice none 0 0]) :: (hl ++ Hr)) ⟨0, .slice none 0 0, [], rfl, by omega, by rw [ordP_zero]; exact SlO.nil, rfl, rfl, rfl, rfl⟩ zcV zsL ?_
    rintro _ _ σ Hr ⟨i, lsv, hl, rfl, hi, hso, h1c, rfl, rfl, rfl⟩
    refine WC.seq ?_
    refine WC.seq ?_
    refine WC.region ?_
    refine WL.pur (Pur.move rfl) ?_
    refine WL.pur (Pur.move rfl) ?_
    refine WL.pur (Pur.len rfl isSlice_72) ?_
    refine' WL.pur (Pur.bin rfl rfl ?h2_0) ?k2
    case h2_0 => first | exact Bin.ltN | exact Bin.ltI | exact Bin.ltS
    refine WL.nil ?_
    refine WQ.thn ?_
    first | refine WC.cond rfl (fun hc1 => ?_) (fun hc1 => ?_) | refine WC.condB rfl (fun hc1 => ?_) (fun hc1 => ?_)
    · obtain ⟨n, hn⟩ : ∃ n, (ordOf l)[i]? = some n := ⟨_, List.getElem?_eq_getElem hc1⟩
      have hnl := ordOf_lt hn
      have hnr := natE_rd hsl1 heo hn
      obtain ⟨e, he⟩ : ∃ e, l[n]? = some e := ⟨_, List.getElem?_eq_getElem hnl⟩
      obtain ⟨qv, ov, hrd, heH, hNR⟩ := ent_rd h1' hel he
      obtain ⟨pa, pc, rfl, hpc, hpb⟩ := hNR.1.shape
      obtain ⟨oa2, oc2, rfl, hoc2, hob⟩ := hNR.2.1.shape
      have hpl := ordP_len hg (show i ≤ l.length by have := ordOf_len hg; omega)
      refine WC.skip ?_
      refine WQ.thn ?_
      refine WC.seq ?_
      refine WC.block ?_
      refine WC.draw 14 17 ((b26, rowO 74 [lsv, .slice none 0 0, .slice none 0 0]) :: []) mixed (by kernel_rfl) rfl ?_
      refine SA.takeW 0 (by kernel_rfl) rfl rfl rfl (Wanted.plain rfl) (tells_move rfl) ?_
      refine SA.takeW 1 (by kernel_rfl) rfl rfl rfl (Wanted.plain rfl) (tells_move rfl) ?_
      refine SA.takeP 2 (by kernel_rfl) rfl rfl rfl (Wanted.plain rfl) (fun _ _ => Pur.nilCheck rfl) ?_
      refine SA.takeP 3 (by kernel_rfl) rfl rfl rfl (Wanted.plain rfl) (fun _ _ => Pur.fieldAddr rfl fo_74_0) ?_
      refine' SA.take 4 (by kernel_rfl) rfl rfl rfl (Wanted.plain rfl) zsL (View.le_refl _) (Pur.load1 rfl ty_22 ?h3_0) ?k3
      case h3_0 => first | (apply Rd.own1; exact zmE; rfl) | (apply RdV.rd; apply RdV.idx (i := 0); assumption; rfl)
      refine SA.takeW 5 (by kernel_rfl) rfl rfl rfl (Wanted.plain rfl) (tells_move rfl) ?_
      refine SA.takeW 6 (by kernel_rfl) rfl rfl rfl (Wanted.plain rfl) (tells_move rfl) ?_
      refine SA.takeW 7 (by kernel_rfl) rfl rfl rfl (Wanted.plain rfl) (tells_move rfl) ?_
      refine' SA.takeP 8 (by kernel_rfl) rfl rfl rfl (Wanted.plain rfl) (fun _ _ => Pur.indexAddr (eqA (heo (by omega))) rfl sl_72 ?h4_0) ?k4
      case h4_0 => omega
      refine' SA.take 9 (by kernel_rfl) rfl rfl rfl (Wanted.plain rfl) zsL (View.le_refl _) (Pur.load1 rfl ty_3 ?h5_0) ?k5
      case h5_0 => exact RdV.rd hnr
      refine' SA.takeP 10 (by kernel_rfl) rfl rfl rfl (Wanted.plain rfl) (fun _ _ => Pur.indexAddr (eqA (hel (by omega))) rfl sl_22 ?h6_0) ?k6
      case h6_0 => omega
      refine' SA.take 11 (by kernel_rfl) rfl rfl rfl (Wanted.plain rfl) zsL (View.le_refl _) (Pur.loadN rfl ty_45 ?h7_0 ?h7_1) ?k7
      case h7_0 => exact RdV.rd hrd
      case h7_1 => first | rfl | assumption
      refine SA.new 12 rfl rfl rfl (Wanted.plain rfl) (by kernel_rfl) (New.buildSliceN (xs := [.tmp 46]) (vss := [entCells e.id e.node.au e.node.cl (.slice pa e.node.ps.length pc) (.slice oa2 e.node.ops.length oc2)]) sl_22 zc_45 rfl rfl rfl (by rfl) (by rfl)) (.inr ⟨zsL, View.le_refl _⟩) (fun b47 => ?_)
      refine' SA.any 13 rfl rfl rfl (Wanted.plain rfl) (by kernel_rfl) (Any.push (H1 := [(b47, _), (b26, _)]) (H2 := Hr) sl_22 zc_45 rfl by_45 rfl rfl hso ?h8_0 ?h8_1 ?h8_2 ?h8_3 rfl (by have := ordOf_len hg; omega) (by have := ordOf_len hg; omega)) (fun _ _ _ hJ => .inr ⟨by (obtain ⟨_, _, hσ, hH⟩ := hJ; subst hH; (try simp only [List.append_assoc, List.cons_append, List.nil_append]); exact zsL), View.le_refl _⟩) ?k8
      case h8_0 => apply Rd.own_sub; exact zmE; exact Sub.refl _
      case h8_1 => first | rfl | assumption
      case h8_2 => first | rfl | assumption
      case h8_3 => exact ⟨_, _, rfl, heH, hNR⟩
      rintro v48 σ _ ⟨hl8, hso8, rfl, rfl⟩ _
      have h1c8 := SlO.one_cell hso8
      rw [ordP_step hn he] at hso8
      refine SA.run 14 rfl (fun _ e => by cases e; rfl) (Wanted.plain rfl) (by kernel_rfl) (Pur.run (Pur.nilCheck rfl)) (.inl (by decide)) ?_
      refine SA.run 15 rfl (fun _ e => by cases e; rfl) (Wanted.plain rfl) (by kernel_rfl) (Pur.run (Pur.fieldAddr rfl fo_74_0)) (.inl (by decide)) ?_
      refine' SA.run 16 rfl (fun _ e => by cases e) (Wanted.plain rfl) (by kernel_rfl) (Run.store1 rfl rfl ty_22 (by first | rfl | assumption) ?h9_0 ?h9_1 sz_22) (.inl (by decide)) ?k9
      case h9_0 => repeat (first | exact Part.one | exact Part.here | apply Part.cons | apply Part.app)
      case h9_1 => first | exact Nat.le_of_ble_eq_true rfl | decide | (simp; done) | (simp; omega) | omega
      refine SA.done (by kernel_rfl) ?_
      refine WQ.blk ?_
      refine WQ.thn ?_
      refine WC.region ?_
      refine WL.pur (Pur.move rfl) ?_
      refine' WL.pur (Pur.bin rfl rfl ?h10_0) ?k10
      case h10_0 => first | (refine Bin.addN (b := 1) ?_; omega) | (refine Bin.addI ?_; omega)
      refine WL.pur (Pur.assign rfl) ?_
      refine WL.nil ?_
      refine WQ.back _ ⟨i + 1, _, _, rfl, by omega, hso8, h1c8, rfl, rfl, rfl⟩ (by omega) zcV zsL
    · rw [ordP_all (by omega)] at hso
      refine WC.giveS (byt := 96) (H1 := [(b26, _)]) (H2 := Hr) eEnt_mono hso (by omega) rfl (fun σ2 hle2 hsl2 => ?_)
      obtain ⟨pla, plc, rfl, hplc, hplb⟩ := hsl2.shape
      obtain ⟨plb, ploff, hepl⟩ := addr_of hsl2
      refine WC.exit ?_
      refine WQ.thn_exit ?_
      refine WQ.back_exit ?_
      refine WQ.blk_here ?_
      refine WQ.thn ?_
      refine WC.seq ?_
      refine WC.drawH 11 14 mixed (by kernel_rfl) rfl ?_
      refine SA.takeW 0 (by kernel_rfl) rfl rfl rfl (Wanted.plain rfl) (tells_move rfl) ?_
      refine SA.takeW 1 (by kernel_rfl) rfl rfl rfl (Wanted.plain rfl) (tells_move rfl) ?_
      refine SA.takeP 2 (by kernel_rfl) rfl rfl rfl (Wanted.plain rfl) (fun _ _ => Pur.nilCheck rfl) ?_
      refine SA.takeP 3 (by kernel_rfl) rfl rfl rfl (Wanted.plain rfl) (fun _ _ => Pur.fieldAddr rfl fo_74_0) ?_
      refine' SA.take 4 (by kernel_rfl) rfl rfl rfl (Wanted.plain rfl) zsL (View.le_refl _) (Pur.load1 rfl ty_22 ?h11_0) ?k11
      case h11_0 => first | (apply Rd.own1; exact zmE; rfl) | (apply RdV.rd; apply RdV.idx (i := 0); assumption; rfl)
      refine SA.takeW 5 (by kernel_rfl) rfl rfl rfl (Wanted.plain rfl) (tells_move rfl) ?_
      refine SA.takeP 6 (by kernel_rfl) rfl rfl rfl (Wanted.plain rfl) (fun _ _ => Pur.nilCheck rfl) ?_
      refine SA.takeP 7 (by kernel_rfl) rfl rfl rfl (Wanted.plain rfl) (fun _ _ => Pur.fieldAddr rfl fo_74_0) ?_
      refine' SA.take 8 (by kernel_rfl) rfl rfl rfl (Wanted.plain rfl) zsL (View.le_refl _) (Pur.load1 rfl ty_22 ?h12_0) ?k12
      case h12_0 => first | (apply Rd.own1; exact zmE; rfl) | (apply RdV.rd; apply RdV.idx (i := 0); assumption; rfl)
      refine SA.takeP 9 (by kernel_rfl) rfl rfl rfl (Wanted.plain rfl) (fun _ _ => Pur.len rfl isSlice_22) ?_
      refine SA.callR 10 (H1 := []) rfl rfl (Wanted.plain rfl) (by kernel_rfl) rfl Tryz.call96 (List.Perm.refl _) (.inr ⟨List.Sublist.refl _, View.le_refl _⟩) (r11_ranked _ (ordE l) _ 0 (ordE l).length _ hsl2 rfl (by omega) (Nat.le_refl _)) ?_
      rintro v61 σ _ ⟨⟨hh, hsr, rfl⟩, rfl⟩ _
      have h1r := SlO.one_cell hsr
      refine SA.run 11 rfl (fun _ e => by cases e; rfl) (Wanted.plain rfl) (by kernel_rfl) (Pur.run (Pur.nilCheck rfl)) (.inl (by decide)) ?_
      refine SA.run 12 rfl (fun _ e => by cases e; rfl) (Wanted.plain rfl) (by kernel_rfl) (Pur.run (Pur.fieldAddr rfl fo_74_2)) (.inl (by decide)) ?_
      refine' SA.run 13 rfl (fun _ e => by cases e) (Wanted.plain rfl) (by kernel_rfl) (Run.store1 rfl rfl ty_72 (by first | rfl | assumption) ?h13_0 ?h13_1 sz_72) (.inl (by decide)) ?k13
      case h13_0 => repeat (first | exact Part.one | exact Part.here | apply Part.cons | apply Part.app)
      case h13_1 => first | exact Nat.le_of_ble_eq_true rfl | decide | (simp; done) | (simp; omega) | omega
      refine SA.done (by kernel_rfl) ?_
      refine WQ.thn ?_
      refine WC.seq ?_
      refine WC.region ?_
      refine WL.giveS (byt := 8) (H1 := []) (H2 := (b26, rowO 74 [.slice pla (ordE l).length plc, .slice none 0 0, v61]) :: Hr) eNat_mono hsr (by rw [rankL_len]; omega) rfl (fun σ3 hle3 hsQ => ?_)
      rw [List.nil_append]
      have hsE := hsl2.mono eEnt_mono hle3
      obtain ⟨qa, qc, rfl, hqc, hqb⟩ := hsQ.shape
      refine WL.pur (Pur.move rfl) ?_
      refine WL.pur (Pur.nilCheck rfl) ?_
      refine WL.pur (Pur.fieldAddr rfl fo_74_0) ?_
      refine' WL.pur (Pur.load1 rfl ty_22 ?h14_0) ?k14
      case h14_0 => first | (apply Rd.own1; exact zmE; rfl) | (apply RdV.rd; apply RdV.idx (i := 0); assumption; rfl)
      refine WL.pur (Pur.len rfl isSlice_22) ?_
      refine' WL.pur (Pur.bin rfl rfl ?h15_0) ?k15
      case h15_0 => first | (refine Bin.addN (b := 63) ?_; omega) | (refine Bin.addI ?_; omega)
      refine' WL.pur (Pur.bin rfl rfl ?h16_0) ?k16
      case h16_0 => first | (refine Bin.quoN (b := 64) ?_ ?_ <;> omega)
      refine WL.pur (Pur.assign rfl) ?_
      refine WL.nil ?_
      refine WQ.thn ?_
      refine WC.seq ?_
      refine WC.seq ?_
      refine WC.region ?_
      refine WL.pur (Pur.assign rfl) ?_
      refine WL.nil ?_
      refine WQ.thn ?_
      refine WC.block ?_
      refine WC.loop (fun j m σ' H' => ∃ (i : Nat) (sa : Option Addr) (sc : Nat) (hsn : HList), j = (ordE l).length - i ∧ i ≤ (ordE l).length ∧ SlO σ' (eRowN (ordE l)) 151 1 (.slice sa i sc) (List.range i) hsn ∧ σ3.le σ' ∧ m = [(7, .pointer (some ⟨b26, 0, none⟩)), (10, .int .i64 ((((ordE l).length + 63) / 64) : Nat)), (11, .int .i64 (i : Int))] ∧ H' = (b26, rowO 74 [.slice pla (ordE l).length plc, .slice sa i sc, .slice qa (rankL (ordE l) 0 (ordE l).length).length qc]) :: (hsn ++ Hr)) ⟨0, none, 0, [], rfl, by omega, SlO.nil, View.le_refl _, rfl, rfl⟩ zcV zsL ?_
      rintro _ _ σ Hr ⟨i, sa, sc, hsn, rfl, hi, hss, hle9, rfl, rfl⟩
      have hE9 := hsE.mono eEnt_mono hle9
      have hQ9 := hsQ.mono eNat_mono hle9
      obtain ⟨bs, hsa, hsat⟩ := hss.rds
      rw [List.length_range] at hsa
      refine WC.seq ?_
      refine WC.seq ?_
      refine WC.region ?_
      refine WL.pur (Pur.move rfl) ?_
      refine WL.pur (Pur.move rfl) ?_
      refine WL.pur (Pur.nilCheck rfl) ?_
      refine WL.pur (Pur.fieldAddr rfl fo_74_0) ?_
      refine' WL.pur (Pur.load1 rfl ty_22 ?h17_0) ?k17
      case h17_0 => first | (apply Rd.own1; exact zmE; rfl) | (apply RdV.rd; apply RdV.idx (i := 0); assumption; rfl)
      refine WL.pur (Pur.len rfl isSlice_22) ?_
      refine' WL.pur (Pur.bin rfl rfl ?h18_0) ?k18
      case h18_0 => first | exact Bin.ltN | exact Bin.ltI | exact Bin.ltS
      refine WL.nil ?_
      refine WQ.thn ?_
      first | refine WC.cond rfl (fun hc2 => ?_) (fun hc2 => ?_) | refine WC.condB rfl (fun hc2 => ?_) (fun hc2 => ?_)
      · obtain ⟨e, he⟩ : ∃ e, (ordE l)[i]? = some e := ⟨_, List.getElem?_eq_getElem (by omega)⟩
        obtain ⟨qv, ov, hrd, heH, hNR⟩ := ent_rd hE9 hepl he
        have hps' := hNR.1
        obtain ⟨pa, pc, rfl, hpc, hpb⟩ := hps'.shape
        obtain ⟨oa2, oc2, rfl, hoc2, hob⟩ := hNR.2.1.shape
        obtain ⟨pb, poff, hep⟩ := addr_of hps'
        refine WC.skip ?_
        refine WQ.thn ?_
        refine WC.seq ?_
        refine WC.block ?_
        refine WC.seq ?_
        refine WC.region ?_
        refine WL.pur (Pur.move rfl) ?_
        refine WL.any (Any.make1 sl_151 zc_60 by_60 rfl rfl (by omega) (by omega)) ?_
        rintro _ σ _ ⟨b81, rfl, rfl, rfl⟩ _
        refine WL.pur (Pur.assign rfl) ?_
        refine WL.nil ?_
        refine WQ.thn ?_
        refine WC.seq ?_
        refine WC.seq ?_
        refine WC.region ?_
        refine WL.pur (Pur.assign rfl) ?_
        refine WL.nil ?_
        refine WQ.thn ?_
        refine WC.block ?_
        rw [words_zero]
        refine WC.loop (fun j m σ' H' => ∃ q : Nat, j = e.node.ps.length - q ∧ q ≤ e.node.ps.length ∧ m = [(7, .pointer (some ⟨b26, 0, none⟩)), (10, .int .i64 ((((ordE l).length + 63) / 64) : Nat)), (11, .int .i64 (i : Int)), (12, .slice (some ⟨b81, 0, none⟩) (((ordE l).length + 63) / 64) (((ordE l).length + 63) / 64)), (13, .int .i64 (q : Int))] ∧ σ' = σ ∧ H' = (b81, rowO 60 ((List.range (((ordE l).length + 63) / 64)).map (wordV (rowAcc (rowsN (ordE l) i) (pk (ordE l) e.node.ps q))))) :: (b26, rowO 74 [.slice pla (ordE l).length plc, .slice sa i sc, .slice qa (rankL (ordE l) 0 (ordE l).length).length qc]) :: (hsn ++ Hr)) ⟨0, rfl, by omega, rfl, rfl, by rw [pk_zero, rowAcc_nil]⟩ zcV zsL ?_
        rintro _ _ σ Hr ⟨q, rfl, hq, rfl, rfl, rfl⟩
        refine WC.seq ?_
        refine WC.seq ?_
        refine WC.region ?_
        refine WL.pur (Pur.move rfl) ?_
        refine WL.pur (Pur.move rfl) ?_
        refine WL.pur (Pur.nilCheck rfl) ?_
        refine WL.pur (Pur.fieldAddr rfl fo_74_0) ?_
        refine' WL.pur (Pur.load1 rfl ty_22 ?h19_0) ?k19
        case h19_0 => first | (apply Rd.own1; exact zmE; rfl) | (apply RdV.rd; apply RdV.idx (i := 0); assumption; rfl)
        refine WL.pur (Pur.move rfl) ?_
        refine' WL.pur (Pur.indexAddr (eqA (hepl (by omega))) rfl sl_22 ?h20_0) ?k20
        case h20_0 => omega
        refine WL.pur (Pur.fieldAddr rfl fo_45_1) ?_
        refine WL.pur (Pur.fieldAddr rfl fo_43_2) ?_
        refine' WL.pur (Pur.load1 rfl ty_41 ?h21_0) ?k21
        case h21_0 => first | (apply Rd.own1; exact zmE; rfl) | (apply RdV.rd; apply RdV.idx (i := 34); assumption; rfl) | (apply RdV.rd; apply RdV.idx (off := 0) (i := 34); assumption; rfl)
        refine WL.pur (Pur.len rfl isSlice_41) ?_
        refine' WL.pur (Pur.bin rfl rfl ?h22_0) ?k22
        case h22_0 => first | exact Bin.ltN | exact Bin.ltI | exact Bin.ltS
        refine WL.nil ?_
        refine WQ.thn ?_
        first | refine WC.cond rfl (fun hc3 => ?_) (fun hc3 => ?_) | refine WC.condB rfl (fun hc3 => ?_) (fun hc3 => ?_)
        · obtain ⟨p, hp⟩ : ∃ p, e.node.ps[q]? = some p := ⟨_, List.getElem?_eq_getElem (by omega)⟩
          obtain ⟨hpr, hpH⟩ := hash_rd hps' hep hp
          obtain ⟨k, hki, hkx⟩ := ho.par i e he p (List.mem_of_getElem? hp)
          obtain ⟨vs, hv1, hv2, ⟨wv, rfl, hv3, hwv⟩, hvr⟩ := hsat k k (List.getElem?_range hki)
          obtain ⟨wa, wc, rfl, hwc, hwb⟩ := hwv.shape
          obtain ⟨wb, woff, hew⟩ := addr_of hwv
          have hwl : (wordsN (ordE l) k).length = ((ordE l).length + 63) / 64 := wordsN_len _ k
          have hrk := rows_at hki (show i ≤ (ordE l).length by omega)
          have hkW : k / 64 < ((ordE l).length + 63) / 64 := by omega
          refine WC.skip ?_
          refine WQ.thn ?_
          refine WC.seq ?_
          refine WC.block ?_
          refine WC.seq ?_
          refine WC.drawH 22 22 mixed (by kernel_rfl) rfl ?_
          refine SA.take 0 (by kernel_rfl) rfl rfl rfl (Wanted.plain rfl) zsL (View.le_refl _) (Pur.move rfl) ?_
          refine SA.take 1 (by kernel_rfl) rfl rfl rfl (Wanted.plain rfl) zsL (View.le_refl _) (Pur.nilCheck rfl) ?_
          refine SA.take 2 (by kernel_rfl) rfl rfl rfl (Wanted.plain rfl) zsL (View.le_refl _) (Pur.fieldAddr rfl fo_74_0) ?_
          refine' SA.take 3 (by kernel_rfl) rfl rfl rfl (Wanted.plain rfl) zsL (View.le_refl _) (Pur.load1 rfl ty_22 ?h23_0) ?k23
          case h23_0 => first | (apply Rd.own1; exact zmE; rfl) | (apply RdV.rd; apply RdV.idx (i := 0); assumption; rfl)
          refine SA.take 4 (by kernel_rfl) rfl rfl rfl (Wanted.plain rfl) zsL (View.le_refl _) (Pur.move rfl) ?_
          refine SA.take 5 (by kernel_rfl) rfl rfl rfl (Wanted.plain rfl) zsL (View.le_refl _) (Pur.nilCheck rfl) ?_
          refine SA.take 6 (by kernel_rfl) rfl rfl rfl (Wanted.plain rfl) zsL (View.le_refl _) (Pur.fieldAddr rfl fo_74_2) ?_
          refine' SA.take 7 (by kernel_rfl) rfl rfl rfl (Wanted.plain rfl) zsL (View.le_refl _) (Pur.load1 rfl ty_72 ?h24_0) ?k24
          case h24_0 => first | (apply Rd.own1; exact zmE; rfl) | (apply RdV.rd; apply RdV.idx (i := 2); assumption; rfl) | (apply RdV.rd; apply RdV.idx (off := 0) (i := 2); assumption; rfl)
          refine SA.take 8 (by kernel_rfl) rfl rfl rfl (Wanted.plain rfl) zsL (View.le_refl _) (Pur.move rfl) ?_
          refine SA.take 9 (by kernel_rfl) rfl rfl rfl (Wanted.plain rfl) zsL (View.le_refl _) (Pur.nilCheck rfl) ?_
          refine SA.take 10 (by kernel_rfl) rfl rfl rfl (Wanted.plain rfl) zsL (View.le_refl _) (Pur.fieldAddr rfl fo_74_0) ?_
          refine' SA.take 11 (by kernel_rfl) rfl rfl rfl (Wanted.plain rfl) zsL (View.le_refl _) (Pur.load1 rfl ty_22 ?h25_0) ?k25
          case h25_0 => first | (apply Rd.own1; exact zmE; rfl) | (apply RdV.rd; apply RdV.idx (i := 0); assumption; rfl)
          refine SA.take 12 (by kernel_rfl) rfl rfl rfl (Wanted.plain rfl) zsL (View.le_refl _) (Pur.move rfl) ?_
          refine' SA.take 13 (by kernel_rfl) rfl rfl rfl (Wanted.plain rfl) zsL (View.le_refl _) (Pur.indexAddr (eqA (hepl (by omega))) rfl sl_22 ?h26_0) ?k26
          case h26_0 => omega
          refine SA.take 14 (by kernel_rfl) rfl rfl rfl (Wanted.plain rfl) zsL (View.le_refl _) (Pur.fieldAddr rfl fo_45_1) ?_
          refine SA.take 15 (by kernel_rfl) rfl rfl rfl (Wanted.plain rfl) zsL (View.le_refl _) (Pur.fieldAddr rfl fo_43_2) ?_
          refine' SA.take 16 (by kernel_rfl) rfl rfl rfl (Wanted.plain rfl) zsL (View.le_refl _) (Pur.load1 rfl ty_41 ?h27_0) ?k27
          case h27_0 => first | (apply Rd.own1; exact zmE; rfl) | (apply RdV.rd; apply RdV.idx (i := 34); assumption; rfl) | (apply RdV.rd; apply RdV.idx (off := 0) (i := 34); assumption; rfl)
          refine SA.take 17 (by kernel_rfl) rfl rfl rfl (Wanted.plain rfl) zsL (View.le_refl _) (Pur.move rfl) ?_
          refine' SA.take 18 (by kernel_rfl) rfl rfl rfl (Wanted.plain rfl) zsL (View.le_refl _) (Pur.indexAddr (eqA (hep (by omega))) rfl sl_41 ?h28_0) ?k28
          case h28_0 => omega
          refine' SA.take 19 (by kernel_rfl) rfl rfl rfl (Wanted.plain rfl) zsL (View.le_refl _) (Pur.loadN rfl ty_39 ?h29_0 ?h29_1) ?k29
          case h29_0 => exact RdV.rd hpr
          case h29_1 => first | rfl | assumption
          refine SA.callP 20 rfl rfl (Wanted.plain rfl) (by kernel_rfl) rfl Tryz.call97 zsL (View.le_refl _) ((show TriP Tryz.prog 97 _ _ (.int .i64 (k : Int)) from by have := r11_find _ _ _ (ordE l) _ p hE9 hQ9 (rankL_ranked _) ho.nodup hpH; rw [hkx] at this; exact this)) ?_
          refine SA.take 21 (by kernel_rfl) rfl rfl rfl (Wanted.plain rfl) zsL (View.le_refl _) (Pur.assign rfl) ?_
          refine SA.done (by kernel_rfl) ?_
          refine WQ.thn ?_
          refine WC.seq ?_
          refine WC.drawH 9 11 mixed (by kernel_rfl) rfl ?_
          refine SA.takeW 0 (by kernel_rfl) rfl rfl rfl (Wanted.plain rfl) (tells_move rfl) ?_
          refine SA.takeW 1 (by kernel_rfl) rfl rfl rfl (Wanted.plain rfl) (tells_move rfl) ?_
          refine' SA.takeP 2 (by kernel_rfl) rfl rfl rfl (Wanted.plain rfl) (fun _ _ => Pur.bin rfl rfl ?h30_0) ?k30
          case h30_0 => first | (refine Bin.quoN (b := 64) ?_ ?_ <;> omega)
          refine' SA.takeP 3 (by kernel_rfl) rfl rfl rfl (Wanted.plain rfl) (fun _ _ => Pur.indexAddr rfl rfl sl_151 ?h31_0) ?k31
          case h31_0 => omega
          refine' SA.take 4 (by kernel_rfl) rfl rfl rfl (Wanted.plain rfl) zsL (View.le_refl _) (Pur.load1 rfl ty_60 ?h32_0) ?k32
          case h32_0 => apply Rd.own1; exact zmE; exact get_range_map1 hkW
          refine SA.takeW 5 (by kernel_rfl) rfl rfl rfl (Wanted.plain rfl) (tells_move rfl) ?_
          refine' SA.takeP 6 (by kernel_rfl) rfl rfl rfl (Wanted.plain rfl) (fun _ _ => Pur.bin rfl rfl ?h33_0) ?k33
          case h33_0 => first | (refine Bin.remN (b := 64) ?_; omega)
          refine' SA.takeP 7 (by kernel_rfl) rfl rfl rfl (Wanted.plain rfl) (fun _ _ => Pur.bin rfl rfl ?h34_0) ?k34
          case h34_0 => exact Bin.shlU (a := 1) (Nat.mod_lt _ (by decide)) (by rw [Nat.one_mul]; exact Nat.pow_lt_pow_right (by decide) (Nat.mod_lt _ (by decide)))
          refine' SA.takeP 8 (by kernel_rfl) rfl rfl rfl (Wanted.plain rfl) (fun _ _ => Pur.bin rfl rfl ?h35_0) ?k35
          case h35_0 => exact Bin.orU (wordN_lt _ _) (by rw [Nat.one_mul]; exact Nat.pow_lt_pow_right (by decide) (Nat.mod_lt _ (by decide)))
          refine' SA.run 9 rfl (fun _ e => by cases e; rfl) (Wanted.plain rfl) (by kernel_rfl) (Pur.run (Pur.indexAddr rfl rfl sl_151 ?h36_0)) (.inl (by decide)) ?k36
          case h36_0 => omega
          refine' SA.run 10 rfl (fun _ e => by cases e) (Wanted.plain rfl) (by kernel_rfl) (Run.storeF rfl rfl ty_60 (by first | rfl | assumption) ?h37_0 ?h37_1 sz_60) (.inl (by decide)) ?k37
          case h37_0 => repeat (first | exact Part.one | exact Part.here | apply Part.cons | apply Part.app)
          case h37_1 => first | assumption | omega
          refine SA.done (by kernel_rfl) ?_
          refine WQ.thn ?_
          refine WC.seq ?_
          refine WC.region ?_
          refine WL.pur (Pur.assign rfl) ?_
          refine WL.nil ?_
          refine WQ.thn ?_
          refine WC.block ?_
          rw [wordBit]
          refine WC.loop (fun j m σ' H' => ∃ u : Nat, j = (((ordE l).length + 63) / 64) - u ∧ u ≤ (((ordE l).length + 63) / 64) ∧ m = [(7, .pointer (some ⟨b26, 0, none⟩)), (10, .int .i64 ((((ordE l).length + 63) / 64) : Nat)), (11, .int .i64 (i : Int)), (12, .slice (some ⟨b81, 0, none⟩) (((ordE l).length + 63) / 64) (((ordE l).length + 63) / 64)), (13, .int .i64 (q : Int)), (14, .int .i64 (k : Int)), (15, .int .i64 (u : Int))] ∧ σ' = σ ∧ H' = (b81, rowO 60 ((List.range (((ordE l).length + 63) / 64)).map (wordUpTo (rowAcc (rowsN (ordE l) i) (pk (ordE l) e.node.ps q) ||| 2 ^ k) ((rowsN (ordE l) i).getD k 0) u))) :: (b26, rowO 74 [.slice pla (ordE l).length plc, .slice sa i sc, .slice qa (rankL (ordE l) 0 (ordE l).length).length qc]) :: (hsn ++ Hr)) ⟨0, rfl, by omega, rfl, rfl, by rw [wordUp_zero]⟩ zcV zsL ?_
          rintro _ _ σ Hr ⟨u, rfl, hu, rfl, rfl, rfl⟩
          refine WC.seq ?_
          refine WC.seq ?_
          refine WC.region ?_
          refine WL.pur (Pur.move rfl) ?_
          refine WL.pur (Pur.move rfl) ?_
          refine' WL.pur (Pur.bin rfl rfl ?h38_0) ?k38
          case h38_0 => first | exact Bin.ltN | exact Bin.ltI | exact Bin.ltS
          refine WL.nil ?_
          refine WQ.thn ?_
          first | refine WC.cond rfl (fun hc4 => ?_) (fun hc4 => ?_) | refine WC.condB rfl (fun hc4 => ?_) (fun hc4 => ?_)
          · have hx := wordsN_get (L := ordE l) (j := k) hc4
            rw [hrk] at hx
            have hwr := u64_rd hwv hew hx
            refine WC.skip ?_
            refine WQ.thn ?_
            refine WC.seq ?_
            refine WC.block ?_
            refine WC.drawH 15 17 mixed (by kernel_rfl) rfl ?_
            refine SA.takeW 0 (by kernel_rfl) rfl rfl rfl (Wanted.plain rfl) (tells_move rfl) ?_
            refine SA.takeW 1 (by kernel_rfl) rfl rfl rfl (Wanted.plain rfl) (tells_move rfl) ?_
            refine' SA.takeP 2 (by kernel_rfl) rfl rfl rfl (Wanted.plain rfl) (fun _ _ => Pur.indexAddr rfl rfl sl_151 ?h39_0) ?k39
            case h39_0 => omega
            refine' SA.take 3 (by kernel_rfl) rfl rfl rfl (Wanted.plain rfl) zsL (View.le_refl _) (Pur.load1 rfl ty_60 ?h40_0) ?k40
            case h40_0 => apply Rd.own1; exact zmE; exact (get_range_map1 hc4).trans (congrArg some wordUp_at)
            refine SA.takeW 4 (by kernel_rfl) rfl rfl rfl (Wanted.plain rfl) (tells_move rfl) ?_
            refine SA.takeP 5 (by kernel_rfl) rfl rfl rfl (Wanted.plain rfl) (fun _ _ => Pur.nilCheck rfl) ?_
            refine SA.takeP 6 (by kernel_rfl) rfl rfl rfl (Wanted.plain rfl) (fun _ _ => Pur.fieldAddr rfl fo_74_1) ?_
            refine' SA.take 7 (by kernel_rfl) rfl rfl rfl (Wanted.plain rfl) zsL (View.le_refl _) (Pur.load1 rfl ty_71 ?h41_0) ?k41
            case h41_0 => first | (apply Rd.own1; exact zmE; rfl) | (apply RdV.rd; apply RdV.idx (i := 1); assumption; rfl) | (apply RdV.rd; apply RdV.idx (off := 0) (i := 1); assumption; rfl)
            refine SA.takeW 8 (by kernel_rfl) rfl rfl rfl (Wanted.plain rfl) (tells_move rfl) ?_
            refine' SA.takeP 9 (by kernel_rfl) rfl rfl rfl (Wanted.plain rfl) (fun _ _ => Pur.indexAddr (eqA (hsa (by omega))) rfl sl_71 ?h42_0) ?k42
            case h42_0 => omega
            refine' SA.take 10 (by kernel_rfl) rfl rfl rfl (Wanted.plain rfl) zsL (View.le_refl _) (Pur.load1 rfl ty_151 ?h43_0) ?k43
            case h43_0 => exact hvr _ _ (fun p hp => by repeat (first | exact List.mem_append_left _ hp | apply List.Mem.tail | apply List.mem_append_right))
            refine SA.takeW 11 (by kernel_rfl) rfl rfl rfl (Wanted.plain rfl) (tells_move rfl) ?_
            refine' SA.takeP 12 (by kernel_rfl) rfl rfl rfl (Wanted.plain rfl) (fun _ _ => Pur.indexAddr (eqA (hew (by omega))) rfl sl_151 ?h44_0) ?k44
            case h44_0 => omega
            refine' SA.take 13 (by kernel_rfl) rfl rfl rfl (Wanted.plain rfl) zsL (View.le_refl _) (Pur.load1 rfl ty_60 ?h45_0) ?k45
            case h45_0 => exact RdV.rd hwr
            refine' SA.takeP 14 (by kernel_rfl) rfl rfl rfl (Wanted.plain rfl) (fun _ _ => Pur.bin rfl rfl ?h46_0) ?k46
            case h46_0 => exact Bin.orU (wordN_lt _ _) (wordN_lt _ _)
            refine' SA.run 15 rfl (fun _ e => by cases e; rfl) (Wanted.plain rfl) (by kernel_rfl) (Pur.run (Pur.indexAddr rfl rfl sl_151 ?h47_0)) (.inl (by decide)) ?k47
            case h47_0 => omega
            refine' SA.run 16 rfl (fun _ e => by cases e) (Wanted.plain rfl) (by kernel_rfl) (Run.storeF rfl rfl ty_60 (by first | rfl | assumption) ?h48_0 ?h48_1 sz_60) (.inl (by decide)) ?k48
            case h48_0 => repeat (first | exact Part.one | exact Part.here | apply Part.cons | apply Part.app)
            case h48_1 => first | assumption | omega
            refine SA.done (by kernel_rfl) ?_
            refine WQ.blk ?_
            refine WQ.thn ?_
            refine WC.region ?_
            refine WL.pur (Pur.move rfl) ?_
            refine' WL.pur (Pur.bin rfl rfl ?h49_0) ?k49
            case h49_0 => first | (refine Bin.addN (b := 1) ?_; omega) | (refine Bin.addI ?_; omega)
            refine WL.pur (Pur.assign rfl) ?_
            refine WL.nil ?_
            rw [wordUp_step]
            refine WQ.back _ ⟨u + 1, rfl, by omega, rfl, rfl, rfl⟩ (by omega) zcV zsL
          · have huu : u = ((ordE l).length + 63) / 64 := by omega
            subst huu
            rw [wordUp_all, row_swap, ← pk_step hp hkx]
            refine WC.exit ?_
            refine WQ.thn_exit ?_
            refine WQ.back_exit ?_
            refine WQ.blk_here ?_
            refine WQ.blk ?_
            refine WQ.thn ?_
            refine WC.region ?_
            refine WL.pur (Pur.move rfl) ?_
            refine' WL.pur (Pur.bin rfl rfl ?h50_0) ?k50
            case h50_0 => first | (refine Bin.addN (b := 1) ?_; omega) | (refine Bin.addI ?_; omega)
            refine WL.pur (Pur.assign rfl) ?_
            refine WL.nil ?_
            refine WQ.back _ ⟨q + 1, rfl, by omega, rfl, rfl, rfl⟩ (by omega) zcV zsL
        · have hqq : q = e.node.ps.length := by omega
          subst hqq
          rw [wordsN_final he]
          have hWl : (wordsN (ordE l) i).length = ((ordE l).length + 63) / 64 := wordsN_len _ i
          rw [← hWl]
          refine WC.giveS (E := eU64) (byt := 8) (H1 := []) eU64_mono (SlO.words (wordsN (ordE l) i)) (by omega) rfl (fun σ8 hle8 hsl8 => ?_)
          rw [List.nil_append]
          have hss9 := hss.mono (eRowN_mono _) hle8
          refine WC.exit ?_
          refine WQ.thn_exit ?_
          refine WQ.back_exit ?_
          refine WQ.blk_here ?_
          refine WQ.thn ?_
          refine WC.region ?_
          refine WL.pur (Pur.move rfl) ?_
          refine WL.pur (Pur.move rfl) ?_
          refine WL.pur (Pur.nilCheck rfl) ?_
          refine WL.pur (Pur.fieldAddr rfl fo_74_1) ?_
          refine' WL.pur (Pur.load1 rfl ty_71 ?h51_0) ?k51
          case h51_0 => first | (apply Rd.own1; exact zmE; rfl) | (apply RdV.rd; apply RdV.idx (i := 1); assumption; rfl) | (apply RdV.rd; apply RdV.idx (off := 0) (i := 1); assumption; rfl)
          refine WL.pur (Pur.move rfl) ?_
          refine WL.new (New.buildSliceS (xs := [.tmp 153]) sl_71 zc_151 rfl rfl rfl (by rfl) (by rfl)) (fun b154 => ?_)
          refine' WL.any (Any.push (H1 := [(b154, _), (b26, _)]) (H2 := Hr) sl_71 zc_151 rfl by_151 rfl rfl hss9 ?h52_0 ?h52_1 ?h52_2 ?h52_3 rfl (by rw [List.length_range]; omega) (by rw [List.length_range]; omega)) ?k52
          case h52_0 => apply Rd.own_sub; exact zmE; exact Sub.refl _
          case h52_1 => first | rfl | assumption
          case h52_2 => first | rfl | assumption
          case h52_3 => exact ⟨_, rfl, rfl, hsl8⟩
          rintro v155 σ _ ⟨hn8, hss8, rfl, rfl⟩ _
          rw [← List.range_succ] at hss8
          obtain ⟨sa8, sc8, rfl, _⟩ := hss8.shape
          rw [List.length_range] at hss8 ⊢
          refine WL.pur (Pur.nilCheck rfl) ?_
          refine WL.pur (Pur.fieldAddr rfl fo_74_1) ?_
          refine' WL.run0 (Run.store1 rfl rfl ty_71 (by first | rfl | assumption) ?h53_0 ?h53_1 sz_71) ?k53
          case h53_0 => repeat (first | exact Part.one | exact Part.here | apply Part.cons | apply Part.app)
          case h53_1 => first | exact Nat.le_of_ble_eq_true rfl | decide | (simp; done) | (simp; omega) | omega
          refine WL.nil ?_
          refine WQ.blk ?_
          refine WQ.thn ?_
          refine WC.region ?_
          refine WL.pur (Pur.move rfl) ?_
          refine' WL.pur (Pur.bin rfl rfl ?h54_0) ?k54
          case h54_0 => first | (refine Bin.addN (b := 1) ?_; omega) | (refine Bin.addI ?_; omega)
          refine WL.pur (Pur.assign rfl) ?_
          refine WL.nil ?_
          refine WQ.back _ ⟨i + 1, _, _, _, rfl, by omega, hss8, View.le_trans hle9 hle8, rfl, rfl⟩ (by omega) zcV zsL
      · have hil : i = (ordE l).length := by omega
        subst hil
        refine WC.giveS (byt := 24) (H1 := [(b26, _)]) (H2 := Hr) (eRowN_mono _) hss (by rw [List.length_range]; omega) rfl (fun σ4 hle4 hsl4 => ?_)
        refine WC.give (H1 := []) (H2 := Hr) (fun hb26 => ?_)
        rw [List.nil_append]
        have hleF := View.le_add (rowO 74 [.slice pla (ordE l).length plc, .slice sa (ordE l).length sc, .slice qa (rankL (ordE l) 0 (ordE l).length).length qc]) hb26
        refine WC.exit ?_
        refine WQ.thn_exit ?_
        refine WQ.back_exit ?_
        refine WQ.blk_here ?_
        refine WQ.thn ?_
        refine WC.seq ?_
        refine WC.region ?_
        refine WL.pur (Pur.move rfl) ?_
        refine WL.pur (Pur.assign rfl) ?_
        refine WL.pur (Pur.assign rfl) ?_
        refine WL.pur (Pur.assign rfl) ?_
        refine WL.nil ?_
        refine WQ.thn ?_
        refine WC.ret ?_
        refine WQ.ret3 Tryz.results24 rfl rfl rfl [] zsL (View.le_trans hle1 (View.le_trans hle2 (View.le_trans hle3 (View.le_trans hle9 (View.le_trans hle4 hleF))))) ?_
        exact ⟨.inl ⟨h0, _, rfl, b26, _, _, _, rfl, RdV.row (View.add_same _ _ _), hE9.mono eEnt_mono (View.le_trans hle4 hleF), hsl4.mono (eRowN_mono _) hleF, hQ9.mono eNat_mono (View.le_trans hle4 hleF)⟩, rfl⟩

end Go.Proofs.YtgoooilgmabkmaaGreat
namespace Go.Proofs.YtgoooilgmabkmaaGreat
open Go Go.Sl
set_option linter.unusedVariables false
set_option linter.unusedSimpArgs false
set_option maxRecDepth 100000

theorem past_Of2 (σ : View) (lv : Value) (l : List EntD) (h : Ents σ lv l) : Tri Tryz.prog 23 #[lv] σ [] (fun v σ' H' => (∃ pa n3, v = .tuple #[.pointer pa, .int .i64 (rightErr l).1, n3] ∧ ((rightErr l).1 = 0 → PastV σ' (.pointer pa) (ordE l)) ∧ ((rightErr l).1 ≠ 0 → pa = none)) ∧ H' = []) := by
  refine (past_Of σ lv l h).mono ?_
  rintro v σ' H' ⟨⟨h0, pv, rfl, hp⟩ | ⟨h0, rfl⟩, rfl⟩
  · have hp2 := hp
    obtain ⟨b, _, _, _, rfl, _⟩ := hp2
    exact ⟨⟨_, _, by rw [h0], fun _ => hp, fun h => absurd h0 h⟩, rfl⟩
  · exact ⟨⟨_, _, rfl, fun h => absurd h h0, fun _ => rfl⟩, rfl⟩

end Go.Proofs.YtgoooilgmabkmaaGreat
namespace Go.Proofs.YtgoooilgmabkmaaGreat
open Go Go.Sl
set_option linter.unusedVariables false
set_option linter.unusedSimpArgs false
set_option maxRecDepth 100000

theorem r11_Of2 (σ : View) (lv : Value) (l : List EntD) (h : Ents σ lv l) : Tri Tryz.prog 24 #[lv] σ [] (fun v σ' H' => (∃ pa n3, v = .tuple #[.pointer pa, .int .i64 (rightErr l).1, n3] ∧ ((rightErr l).1 = 0 → R11V σ' (.pointer pa) (ordE l)) ∧ ((rightErr l).1 ≠ 0 → pa = none)) ∧ H' = []) := by
  refine (r11_Of σ lv l h).mono ?_
  rintro v σ' H' ⟨⟨h0, pv, rfl, hp⟩ | ⟨h0, rfl⟩, rfl⟩
  · have hp2 := hp
    obtain ⟨b, _, _, _, rfl, _⟩ := hp2
    exact ⟨⟨_, _, by rw [h0], fun _ => hp, fun h => absurd h0 h⟩, rfl⟩
  · exact ⟨⟨_, _, rfl, fun h => absurd h h0, fun _ => rfl⟩, rfl⟩

end Go.Proofs.YtgoooilgmabkmaaGreat
namespace Go.Proofs.YtgoooilgmabkmaaGreat
open Go Go.Sl
set_option linter.unusedVariables false
set_option linter.unusedSimpArgs false
set_option maxRecDepth 100000

theorem own : ownKnob Tryz.prog.godebug = none := by kernel_rfl
theorem laidOut : laidOutB Tryz.prog = true := by kernel_rfl
theorem c39 : Tryz.prog.cellsOf 39 = 32 := by kernel_rfl
theorem c51 : Tryz.prog.cellsOf 51 = 37 := by kernel_rfl
theorem c45 : Tryz.prog.cellsOf 45 = 36 := by kernel_rfl
theorem c43 : Tryz.prog.cellsOf 43 = 4 := by kernel_rfl
theorem c49 : Tryz.prog.cellsOf 49 = 33 := by kernel_rfl
theorem c9 : Tryz.prog.cellsOf 9 = 1 := by kernel_rfl
theorem c3 : Tryz.prog.cellsOf 3 = 1 := by kernel_rfl
theorem c2 : Tryz.prog.cellsOf 2 = 1 := by kernel_rfl
theorem c41 : Tryz.prog.cellsOf 41 = 1 := by kernel_rfl
theorem c40 : Tryz.prog.cellsOf 40 = 1 := by kernel_rfl
theorem y39 : Tryz.prog.bytesOf 39 = 32 := by kernel_rfl
theorem y51 : Tryz.prog.bytesOf 51 = 88 := by kernel_rfl
theorem y45 : Tryz.prog.bytesOf 45 = 96 := by kernel_rfl
theorem y9 : Tryz.prog.bytesOf 9 = 16 := by kernel_rfl
theorem cutC {cs rest : List Value} {off sz : Nat} (h : cs.drop (off + sz) = rest) : cs.drop off = (cs.drop off).take sz ++ rest := by
  rw [← h, ← List.drop_drop]
  exact (List.take_append_drop sz (cs.drop off)).symm
section
variable {H : Type} {enc : TypeId × Value → H} {W : World}
theorem rd_hash : Reads enc Tryz.prog W 39 eHash := Reads.hash Tryz.underlying39 Tryz.underlying5 (by kernel_rfl) c39
theorem rd_str : Reads enc Tryz.prog W 9 eStr := Reads.string Tryz.underlying9
theorem rd_i64 : Reads enc Tryz.prog W 3 eInt := Reads.i64 Tryz.underlying3
theorem rd_i64b : Reads enc Tryz.prog W 2 eInt := Reads.i64 Tryz.underlying2
def eIdent : Enc (Nat × Int) := fun _ x vs => vs = identCells x.1 x.2 ∧ IsH x.1 ∧ I64 x.2
theorem rd_ident : Reads enc Tryz.prog W 49 eIdent := by
  intro fuel cs d ps h hl hlen
  rw [c49] at hlen
  obtain ⟨a, _, a2, a3⟩ := Reads.field (off := 0) Tryz.underlying49 h hl 0 rfl rfl c39 (by omega) rd_hash
  obtain ⟨b, _, b2, b3⟩ := Reads.field (off := 32) Tryz.underlying49 h hl 1 rfl rfl c3 (by omega) rd_i64
  have e := cutC (cs := cs) (off := 0) (sz := 32) (cutC (off := 0 + 32) (sz := 1) (List.drop_of_length_le (by omega)))
  rw [List.drop_zero] at e a2
  rw [a2, show 0 + 32 = 32 from rfl, b2] at e
  refine ⟨(a, b), ?_, e, a3, b3⟩
  rw [e]
  rfl
theorem rd_op : Reads enc Tryz.prog W 51 eOp := by
  intro fuel cs d ps h hl hlen
  rw [c51] at hlen
  obtain ⟨a, _, a2, a3⟩ := Reads.field (off := 0) Tryz.underlying51 h hl 0 rfl rfl c3 (by omega) rd_i64
  obtain ⟨b, _, b2, b3⟩ := Reads.field (off := 1) Tryz.underlying51 h hl 1 rfl rfl c9 (by omega) rd_str
  obtain ⟨c, _, c2', c3'⟩ := Reads.field (off := 2) Tryz.underlying51 h hl 2 rfl rfl c9 (by omega) rd_str
  obtain ⟨n, _, n2, n3⟩ := Reads.field (off := 3) Tryz.underlying51 h hl 3 rfl rfl c2 (by omega) rd_i64b
  obtain ⟨t, _, t2, t3, t4⟩ := Reads.field (off := 4) Tryz.underlying51 h hl 4 rfl rfl c49 (by omega) rd_ident
  have e := cutC (cs := cs) (off := 0) (sz := 1) (cutC (off := 1) (sz := 1) (cutC (off := 2) (sz := 1) (cutC (off := 3) (sz := 1) (cutC (off := 4) (sz := 33) (List.drop_of_length_le (by omega))))))
  rw [List.drop_zero] at e a2
  rw [a2, b2, c2', n2, t2] at e
  refine ⟨⟨a, b, c, n, t.1, t.2⟩, ?_, e, a3, b3, c3', n3, t3, t4⟩
  rw [e]
  rfl
theorem rd_hashes : Reads enc Tryz.prog W 41 (fun σ (l : List Nat) vs => ∃ sv, vs = [sv] ∧ SlE σ eHash 32 32 sv l) := by
  have h := Reads.slice (enc := enc) (W := W) (byt := 32) Tryz.underlying41 (by rw [c39]; decide) (by rw [y39]; decide) rd_hash
  rw [c39] at h
  exact h
theorem rd_ops : Reads enc Tryz.prog W 40 (fun σ (l : List OpD) vs => ∃ sv, vs = [sv] ∧ SlE σ eOp 37 88 sv l) := by
  have h := Reads.slice (enc := enc) (W := W) (byt := 88) Tryz.underlying40 (by rw [c51]; decide) (by rw [y51]; decide) rd_op
  rw [c51] at h
  exact h
def eNode : Enc NodeD := fun σ x vs => ∃ pv ov, vs = nodeCells x.au x.cl pv ov ∧ NodeR σ x pv ov
theorem rd_node : Reads enc Tryz.prog W 43 eNode := by
  intro fuel cs d ps h hl hlen
  rw [c43] at hlen
  obtain ⟨a, _, a2, a3⟩ := Reads.field (off := 0) Tryz.underlying43 h hl 0 rfl rfl c3 (by omega) rd_i64
  obtain ⟨b, _, b2, b3⟩ := Reads.field (off := 1) Tryz.underlying43 h hl 1 rfl rfl c3 (by omega) rd_i64
  obtain ⟨p, _, pv, p2, p3⟩ := Reads.field (off := 2) Tryz.underlying43 h hl 2 rfl rfl c41 (by omega) rd_hashes
  obtain ⟨o, _, ov, o2, o3⟩ := Reads.field (off := 3) Tryz.underlying43 h hl 3 rfl rfl c40 (by omega) rd_ops
  have e := cutC (cs := cs) (off := 0) (sz := 1) (cutC (off := 1) (sz := 1) (cutC (off := 2) (sz := 1) (cutC (off := 3) (sz := 1) (List.drop_of_length_le (by omega)))))
  rw [List.drop_zero] at e a2
  rw [a2, b2, p2, o2] at e
  refine ⟨⟨a, b, p, o⟩, ?_, pv, ov, e, p3, o3, a3, b3⟩
  obtain ⟨pa, pc, rfl, _⟩ := p3.shape
  obtain ⟨oa, oc, rfl, _⟩ := o3.shape
  rw [e]
  rfl
theorem rd_ent : Reads enc Tryz.prog W 45 eEnt := by
  intro fuel cs d ps h hl hlen
  rw [c45] at hlen
  obtain ⟨a, _, a2, a3⟩ := Reads.field (off := 0) Tryz.underlying45 h hl 0 rfl rfl c39 (by omega) rd_hash
  obtain ⟨x, _, pv, ov, x2, x3⟩ := Reads.field (off := 32) Tryz.underlying45 h hl 1 rfl rfl c43 (by omega) rd_node
  have e := cutC (cs := cs) (off := 0) (sz := 32) (cutC (off := 32) (sz := 4) (List.drop_of_length_le (by omega)))
  rw [List.drop_zero] at e a2
  rw [a2, x2] at e
  refine ⟨⟨a, x⟩, ?_, pv, ov, e, a3, x3⟩
  obtain ⟨pa, pc, rfl, _⟩ := x3.1.shape
  obtain ⟨oa, oc, rfl, _⟩ := x3.2.1.shape
  rw [e]
  rfl
theorem rd_ents : Reads enc Tryz.prog W 22 (fun σ (l : List EntD) vs => ∃ sv, vs = [sv] ∧ Ents σ sv l) := by
  have h := Reads.slice (enc := enc) (W := W) (byt := 96) Tryz.underlying22 (by rw [c45]; decide) (by rw [y45]; decide) rd_ent
  rw [c45] at h
  exact h
theorem rd_strs : Reads enc Tryz.prog W 23 (fun σ (l : List ByteArray) vs => ∃ sv, vs = [sv] ∧ Strs σ sv l) := by
  have h := Reads.slice (enc := enc) (W := W) (byt := 16) Tryz.underlying23 (by rw [c9]; decide) (by rw [y9]; decide) rd_str
  rw [c9] at h
  exact h
theorem ents_of {v : Value} {d : DataW H} {p : List MemPlace} (h : DataW.Trod enc Tryz.prog W 0 (fun _ => true) true 22 v d p) (hl : Lite Tryz.prog 22 d) (hv : v.cells = #[v]) : ∃ l, Ents (full W) v l := by
  obtain ⟨fuel, hf⟩ := h
  obtain ⟨l, _, sv, h1, h2⟩ := rd_ents fuel _ d p hf hl (by rw [hv]; kernel_rfl)
  rw [hv] at h1
  cases h1
  exact ⟨l, h2⟩
theorem strs_of {v : Value} {d : DataW H} {p : List MemPlace} (h : DataW.Trod enc Tryz.prog W 0 (fun _ => true) true 23 v d p) (hl : Lite Tryz.prog 23 d) (hv : v.cells = #[v]) : ∃ l, Strs (full W) v l := by
  obtain ⟨fuel, hf⟩ := h
  obtain ⟨l, _, sv, h1, h2⟩ := rd_strs fuel _ d p hf hl (by rw [hv]; kernel_rfl)
  rw [hv] at h1
  cases h1
  exact ⟨l, h2⟩
theorem lite2 {t0 t1 : TypeId} {d0 d1 : DataW H} {gt : List TypeId} {gs : List (DataW H)} (h : (DataW.weightsEach Tryz.prog (t0 :: t1 :: gt) (d0 :: d1 :: gs)).all (· ≤ reachBytes) = true) : Lite Tryz.prog t0 d0 ∧ Lite Tryz.prog t1 d1 := by
  rw [List.all_eq_true] at h
  simp only [DataW.weightsEach, List.mem_append] at h
  exact ⟨fun x hx => by simpa using h x (.inl hx), fun x hx => by simpa using h x (.inr (.inl hx))⟩
end
end Go.Proofs.YtgoooilgmabkmaaGreat
