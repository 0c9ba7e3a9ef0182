/-
  Contracts of the functions of the program and of its references: what each call hands back, from what is known and owned.
-/
import Derived.Test.YtgoooilgmabkmaaGreatCe
set_option linter.unusedVariables false
set_option linter.unusedSimpArgs false
set_option linter.unusedSectionVars false
namespace Go.Proofs.YtgoooilgmabkmaaGreat
open Go Go.Sl
set_option linter.unusedVariables false
set_option linter.unusedSimpArgs false
set_option maxRecDepth 100000

theorem WL_orK {P : Program} {r : Option Nat} {ops : Array Oper} {Q : Exit → Act → World → Prop} {n : Nat} {d : List Deferred} {m : Slots} {σ : View} {H : HList} {rest : List Oper} {u t : Tmp} {x : Operand} {ty : TypeId} {pos : String} {af : Array Edge} {g : Option (Nat × Bool)} {p : Prop} {_ip : Decidable p}
    (hu : get m u = some (.bool (decide p))) (hp : p)
    (hw : Wanted ops ⟨some t, .pick (.tmp u) (.const (.bool true)) x, ty, pos, af, g⟩ n d m) (htn : Nat.blt t n = true)
    (h : WL P r ops Q rest n d ((t, .bool (decide (p ∨ False))) :: m) σ H) : WL P r ops Q (⟨some t, .pick (.tmp u) (.const (.bool true)) x, ty, pos, af, g⟩ :: rest) n d m σ H := by
  refine WL.pickv (m1 := m) (Covers.refl m) hw (b := true) (by rw [hu]; simp [hp]) rfl htn ?_
  simpa [hp] using h
/-- who has seen whom, of any two numbers -/
def seesI (L : List EntD) (i j : Int) : Prop := 0 ≤ i ∧ 0 ≤ j ∧ seesN L i.toNat j.toNat = true
instance (L : List EntD) (i j : Int) : Decidable (seesI L i j) := by unfold seesI; infer_instance
/-- the names of some entries -/
def selN (L : List EntD) (q : Nat → Prop) [DecidablePred q] (n : Nat) : List Nat := ((List.range n).filter fun i => decide (q i)).map (idAt L)
theorem selN_zero (L : List EntD) (q : Nat → Prop) [DecidablePred q] : selN L q 0 = [] := by simp [selN]
theorem selN_yes {L : List EntD} {q : Nat → Prop} [DecidablePred q] {i : Nat} (h : q i) : selN L q (i + 1) = selN L q i ++ [idAt L i] := by
  unfold selN
  rw [List.range_succ, List.filter_append, List.map_append]
  simp [h]
theorem selN_no {L : List EntD} {q : Nat → Prop} [DecidablePred q] {i : Nat} (h : ¬ q i) : selN L q (i + 1) = selN L q i := by
  unfold selN
  rw [List.range_succ, List.filter_append, List.map_append]
  simp [h]
theorem selN_len (L : List EntD) (q : Nat → Prop) [DecidablePred q] (n : Nat) : (selN L q n).length ≤ n := by
  unfold selN
  rw [List.length_map]
  refine Nat.le_trans (List.length_filter_le _ _) ?_
  simp
/-- there now, not there then -/
def sinceP (L : List EntD) (os ns : List Nat) (i : Nat) : Prop := inH L ns i ∧ ¬ inH L os i
instance (L : List EntD) (os ns : List Nat) (i : Nat) : Decidable (sinceP L os ns i) := by unfold sinceP; infer_instance

theorem past_SeesO (σ : View) (pv : Value) (L : List EntD) (i j : Int) (h : PastV σ pv L) (ho : OrdOk L) (hij : i < 0 ∨ j < 0 ∨ (L.length : Int) ≤ j) :
    TriP Tryz.prog 113 #[pv, .int .i64 i, .int .i64 j] σ (.bool false) := by
  have hmost := ho.most
  obtain ⟨b, mb, lv, sv, rfl, hr, hl, hm, hs⟩ := h
  obtain ⟨la, lc, rfl, hlc, hlb⟩ := hl.shape
  refine Tri.of_body [(0, .pointer (some ⟨b, 0, none⟩)), (1, .int .i64 i), (2, .int .i64 j)] Tryz.func113 rfl Tryz.ntmps113 (by simp) rfl (fun Hr => ?_)
  rw [List.nil_append]
  refine WC.seq ?_
  refine WC.region ?_
  refine WL.pur (Pur.assign rfl) ?_
  refine WL.nil ?_
  refine WQ.thn ?_
  refine WC.seq ?_
  refine WC.seq ?_
  refine WC.region ?_
  refine WL.pur (Pur.move rfl) ?_
  refine' WL.pur (Pur.bin rfl rfl ?h1_0) ?k1
  case h1_0 => first | exact Bin.ltN (b := 0) | exact Bin.ltI | exact Bin.ltS
  refine WL.pur (Pur.move rfl) ?_
  refine' WL.orp (u := 9) (t := 12) rfl ?h2_0 ?h2_1 ?h2_2 rfl ?k2
  case h2_0 =>
    intro hg9 K9
    refine WL.gpur (u := 9) rfl rfl (gF hg9) (Pur.move rfl) ?_
    refine' WL.gpur (u := 9) rfl rfl (gF hg9) (Pur.bin rfl rfl ?h3_0) ?k3
    case h3_0 => first | exact Bin.ltN (b := 0) | exact Bin.ltI | exact Bin.ltS
    exact K9 _ zcR rfl
  case h2_1 =>
    intro hg9 K9
    refine WL.gskip (u := 9) rfl rfl (sF hg9) ?_
    refine WL.gskip (u := 9) rfl rfl (sF hg9) ?_
    exact K9 _ zcR
  case h2_2 => exact Wanted.plain rfl
  refine WL.pur (Pur.move rfl) ?_
  refine' WL.orp (u := 13) (t := 21) rfl ?h4_0 ?h4_1 ?h4_2 rfl ?k4
  case h4_0 =>
    intro hg13 K13
    refine WL.gpur (u := 13) rfl rfl (gF hg13) (Pur.move rfl) ?_
    refine WL.gpur (u := 13) rfl rfl (gF hg13) (Pur.move rfl) ?_
    refine WL.gpur (u := 13) rfl rfl (gF hg13) (Pur.nilCheck rfl) ?_
    refine WL.gpur (u := 13) rfl rfl (gF hg13) (Pur.fieldAddr rfl fo_173_0) ?_
    refine' WL.gpur (u := 13) rfl rfl (gF hg13) (Pur.load1 rfl ty_22 ?h5_0) ?k5
    case h5_0 => first | (apply Rd.own1; exact zmE; rfl) | (apply RdV.rd; apply RdV.idx (i := 0); assumption; rfl)
    refine WL.gpur (u := 13) rfl rfl (gF hg13) (Pur.len rfl isSlice_22) ?_
    refine' WL.gpur (u := 13) rfl rfl (gF hg13) (Pur.bin rfl rfl ?h6_0) ?k6
    case h6_0 => first | exact Bin.geN | exact Bin.geI
    exact K13 _ zcR rfl
  case h4_1 =>
    intro hg13 K13
    refine WL.gskip (u := 13) rfl rfl (sF hg13) ?_
    refine WL.gskip (u := 13) rfl rfl (sF hg13) ?_
    refine WL.gskip (u := 13) rfl rfl (sF hg13) ?_
    refine WL.gskip (u := 13) rfl rfl (sF hg13) ?_
    refine WL.gskip (u := 13) rfl rfl (sF hg13) ?_
    refine WL.gskip (u := 13) rfl rfl (sF hg13) ?_
    refine WL.gskip (u := 13) rfl rfl (sF hg13) ?_
    exact K13 _ zcR
  case h4_2 => exact Wanted.plain rfl
  refine WL.pur (Pur.move rfl) ?_
  refine WL.gskip (u := 22) rfl rfl (sF (by omega)) ?_
  refine WL.gskip (u := 22) rfl rfl (sF (by omega)) ?_
  refine WL.gskip (u := 22) rfl rfl (sF (by omega)) ?_
  refine WL.gskip (u := 22) rfl rfl (sF (by omega)) ?_
  refine WL.gskip (u := 22) rfl rfl (sF (by omega)) ?_
  refine WL.gskip (u := 22) rfl rfl (sF (by omega)) ?_
  refine WL.gskip (u := 22) rfl rfl (sF (by omega)) ?_
  refine WL.gskip (u := 22) rfl rfl (sF (by omega)) ?_
  refine WL.gskip (u := 22) rfl rfl (sF (by omega)) ?_
  refine WL.gskip (u := 22) rfl rfl (sF (by omega)) ?_
  refine WL.gskip (u := 22) rfl rfl (sF (by omega)) ?_
  refine WL_orK (u := 22) (t := 34) rfl (by omega) (Wanted.plain rfl) rfl ?_
  refine WL.nil ?_
  refine WQ.thn ?_
  first | refine WC.cond rfl (fun hc0 => ?_) (fun hc0 => ?_) | refine WC.condB rfl (fun hc0 => ?_) (fun hc0 => ?_)
  · refine WC.seq ?_
    refine WC.region ?_
    refine WL.pur (Pur.assign rfl) ?_
    refine WL.nil ?_
    refine WQ.thn ?_
    refine WC.ret ?_
    refine WQ.thn_ret ?_
    refine WQ.ret1 Tryz.results113 rfl [] zsL (View.le_refl _) ?_
    refine ⟨?_, rfl, rfl⟩
    rfl
  · exfalso; omega

theorem past_SeesB (σ : View) (pv : Value) (L : List EntD) (i j : Nat) (h : PastV σ pv L) (ho : OrdOk L) (hj : j < L.length) (hi : i ≤ 9223372036854775807) :
    TriP Tryz.prog 113 #[pv, .int .i64 (i : Int), .int .i64 (j : Int)] σ (.bool (decide (seesN L i j = true))) := by
  have hmost := ho.most
  obtain ⟨b, mb, lv, sv, rfl, hr, hl, hm, hs⟩ := h
  obtain ⟨la, lc, rfl, hlc, hlb⟩ := hl.shape
  obtain ⟨sb, soff, sc, rfl, hsc, hsb, hat⟩ := hs.at (by simp; omega)
  have hlen : (List.range L.length).length = L.length := by simp
  obtain ⟨vs, _, _, ⟨wv, rfl, _, hw⟩, hwr⟩ := hat j j (by simp [hj])
  obtain ⟨wa, wc, rfl, hwc, hwb⟩ := hw.shape
  obtain ⟨wb, woff, hwe⟩ := addr_of hw
  have hwl := wordsOf_len L j
  have hask := wordN_ask ((rowsN L L.length).getD j 0) i
  rw [Nat.shiftRight_eq_div_pow] at hask
  have hdl := Nat.div_le_self (wordN ((rowsN L L.length).getD j 0) (i / 64)) (2 ^ (i % 64))
  refine Tri.of_body [(0, .pointer (some ⟨b, 0, none⟩)), (1, .int .i64 (i : Int)), (2, .int .i64 (j : Int))] Tryz.func113 rfl Tryz.ntmps113 (by simp) rfl (fun Hr => ?_)
  rw [List.nil_append]
  refine WC.seq ?_
  refine WC.region ?_
  refine WL.pur (Pur.assign rfl) ?_
  refine WL.nil ?_
  refine WQ.thn ?_
  refine WC.seq ?_
  refine WC.seq ?_
  refine WC.region ?_
  refine WL.pur (Pur.move rfl) ?_
  refine' WL.pur (Pur.bin rfl rfl ?h1_0) ?k1
  case h1_0 => first | exact Bin.ltN (b := 0) | exact Bin.ltI | exact Bin.ltS
  refine WL.pur (Pur.move rfl) ?_
  refine' WL.orp (u := 9) (t := 12) rfl ?h2_0 ?h2_1 ?h2_2 rfl ?k2
  case h2_0 =>
    intro hg9 K9
    refine WL.gpur (u := 9) rfl rfl (gF hg9) (Pur.move rfl) ?_
    refine' WL.gpur (u := 9) rfl rfl (gF hg9) (Pur.bin rfl rfl ?h3_0) ?k3
    case h3_0 => first | exact Bin.ltN (b := 0) | exact Bin.ltI | exact Bin.ltS
    exact K9 _ zcR rfl
  case h2_1 =>
    intro hg9 K9
    refine WL.gskip (u := 9) rfl rfl (sF hg9) ?_
    refine WL.gskip (u := 9) rfl rfl (sF hg9) ?_
    exact K9 _ zcR
  case h2_2 => exact Wanted.plain rfl
  refine WL.pur (Pur.move rfl) ?_
  refine' WL.orp (u := 13) (t := 21) rfl ?h4_0 ?h4_1 ?h4_2 rfl ?k4
  case h4_0 =>
    intro hg13 K13
    refine WL.gpur (u := 13) rfl rfl (gF hg13) (Pur.move rfl) ?_
    refine WL.gpur (u := 13) rfl rfl (gF hg13) (Pur.move rfl) ?_
    refine WL.gpur (u := 13) rfl rfl (gF hg13) (Pur.nilCheck rfl) ?_
    refine WL.gpur (u := 13) rfl rfl (gF hg13) (Pur.fieldAddr rfl fo_173_0) ?_
    refine' WL.gpur (u := 13) rfl rfl (gF hg13) (Pur.load1 rfl ty_22 ?h5_0) ?k5
    case h5_0 => first | (apply Rd.own1; exact zmE; rfl) | (apply RdV.rd; apply RdV.idx (i := 0); assumption; rfl)
    refine WL.gpur (u := 13) rfl rfl (gF hg13) (Pur.len rfl isSlice_22) ?_
    refine' WL.gpur (u := 13) rfl rfl (gF hg13) (Pur.bin rfl rfl ?h6_0) ?k6
    case h6_0 => first | exact Bin.geN | exact Bin.geI
    exact K13 _ zcR rfl
  case h4_1 =>
    intro hg13 K13
    refine WL.gskip (u := 13) rfl rfl (sF hg13) ?_
    refine WL.gskip (u := 13) rfl rfl (sF hg13) ?_
    refine WL.gskip (u := 13) rfl rfl (sF hg13) ?_
    refine WL.gskip (u := 13) rfl rfl (sF hg13) ?_
    refine WL.gskip (u := 13) rfl rfl (sF hg13) ?_
    refine WL.gskip (u := 13) rfl rfl (sF hg13) ?_
    refine WL.gskip (u := 13) rfl rfl (sF hg13) ?_
    exact K13 _ zcR
  case h4_2 => exact Wanted.plain rfl
  refine WL.pur (Pur.move rfl) ?_
  refine' WL.orp (u := 22) (t := 34) rfl ?h7_0 ?h7_1 ?h7_2 rfl ?k7
  case h7_0 =>
    intro hg22 K22
    refine WL.gpur (u := 22) rfl rfl (gF hg22) (Pur.move rfl) ?_
    refine' WL.gpur (u := 22) rfl rfl (gF hg22) (Pur.bin rfl rfl ?h8_0) ?k8
    case h8_0 => first | (refine Bin.quoN (b := 64) ?_ ?_ <;> omega)
    refine WL.gpur (u := 22) rfl rfl (gF hg22) (Pur.move rfl) ?_
    refine WL.gpur (u := 22) rfl rfl (gF hg22) (Pur.nilCheck rfl) ?_
    refine WL.gpur (u := 22) rfl rfl (gF hg22) (Pur.fieldAddr rfl fo_173_2) ?_
    refine' WL.gpur (u := 22) rfl rfl (gF hg22) (Pur.load1 rfl ty_71 ?h9_0) ?k9
    case h9_0 => first | (apply Rd.own1; exact zmE; rfl) | (apply RdV.rd; apply RdV.idx (i := 2); assumption; rfl) | (apply RdV.rd; apply RdV.idx (off := 0) (i := 2); assumption; rfl)
    refine WL.gpur (u := 22) rfl rfl (gF hg22) (Pur.move rfl) ?_
    refine' WL.gpur (u := 22) rfl rfl (gF hg22) (Pur.indexAddr rfl rfl sl_71 ?h10_0) ?k10
    case h10_0 => omega
    refine' WL.gpur (u := 22) rfl rfl (gF hg22) (Pur.load1 rfl ty_151 ?h11_0) ?k11
    case h11_0 => first | (apply Rd.own1; exact zmE; rfl) | (apply Rd.own1; exact zmE; assumption) | (apply Rd.own_map; exact zmE; assumption) | exact RdV.rd (by assumption) | (apply Rd.own1; exact zmE; exact get_row (by assumption) (by first | assumption | omega)) | (apply RdV.rd; apply RdV.idx (i := 0); assumption; rfl)
    refine WL.gpur (u := 22) rfl rfl (gF hg22) (Pur.len rfl isSlice_151) ?_
    refine' WL.gpur (u := 22) rfl rfl (gF hg22) (Pur.bin rfl rfl ?h12_0) ?k12
    case h12_0 => first | exact Bin.geN | exact Bin.geI
    exact K22 _ zcR rfl
  case h7_1 =>
    intro hg22 K22
    refine WL.gskip (u := 22) rfl rfl (sF hg22) ?_
    refine WL.gskip (u := 22) rfl rfl (sF hg22) ?_
    refine WL.gskip (u := 22) rfl rfl (sF hg22) ?_
    refine WL.gskip (u := 22) rfl rfl (sF hg22) ?_
    refine WL.gskip (u := 22) rfl rfl (sF hg22) ?_
    refine WL.gskip (u := 22) rfl rfl (sF hg22) ?_
    refine WL.gskip (u := 22) rfl rfl (sF hg22) ?_
    refine WL.gskip (u := 22) rfl rfl (sF hg22) ?_
    refine WL.gskip (u := 22) rfl rfl (sF hg22) ?_
    refine WL.gskip (u := 22) rfl rfl (sF hg22) ?_
    refine WL.gskip (u := 22) rfl rfl (sF hg22) ?_
    exact K22 _ zcR
  case h7_2 => exact Wanted.plain rfl
  refine WL.nil ?_
  refine WQ.thn ?_
  first | refine WC.cond rfl (fun hc0 => ?_) (fun hc0 => ?_) | refine WC.condB rfl (fun hc0 => ?_) (fun hc0 => ?_)
  · refine WC.seq ?_
    refine WC.region ?_
    refine WL.pur (Pur.assign rfl) ?_
    refine WL.nil ?_
    refine WQ.thn ?_
    refine WC.ret ?_
    refine WQ.thn_ret ?_
    refine WQ.ret1 Tryz.results113 rfl [] zsL (View.le_refl _) ?_
    refine ⟨?_, rfl, rfl⟩
    exact boolF (by rw [sees_hi ho hj (by omega)]; simp)
  · have hiw : i / 64 < (j + 63) / 64 := by omega
    have hww := wordsOf_get (L := L) hiw
    have hwlt := wordN_lt ((rowsN L L.length).getD j 0) (i / 64)
    obtain ⟨wb2, woff2, wc2, e2, _, _, hwat⟩ := hw.at (by omega)
    cases e2
    obtain ⟨ws, _, _, rfl, hwd⟩ := hwat _ _ hww
    refine WC.skip ?_
    refine WQ.thn ?_
    refine WC.seq ?_
    refine WC.region ?_
    refine WL.pur (Pur.move rfl) ?_
    refine WL.pur (Pur.nilCheck rfl) ?_
    refine WL.pur (Pur.fieldAddr rfl fo_173_2) ?_
    refine' WL.pur (Pur.load1 rfl ty_71 ?h13_0) ?k13
    case h13_0 => first | (apply Rd.own1; exact zmE; rfl) | (apply RdV.rd; apply RdV.idx (i := 2); assumption; rfl) | (apply RdV.rd; apply RdV.idx (off := 0) (i := 2); assumption; rfl)
    refine WL.pur (Pur.move rfl) ?_
    refine' WL.pur (Pur.indexAddr rfl rfl sl_71 ?h14_0) ?k14
    case h14_0 => omega
    refine' WL.pur (Pur.load1 rfl ty_151 ?h15_0) ?k15
    case h15_0 => first | (apply Rd.own1; exact zmE; rfl) | (apply Rd.own1; exact zmE; assumption) | (apply Rd.own_map; exact zmE; assumption) | exact RdV.rd (by assumption) | (apply Rd.own1; exact zmE; exact get_row (by assumption) (by first | assumption | omega)) | (apply RdV.rd; apply RdV.idx (i := 0); assumption; rfl)
    refine WL.pur (Pur.move rfl) ?_
    refine' WL.pur (Pur.bin rfl rfl ?h16_0) ?k16
    case h16_0 => first | (refine Bin.quoN (b := 64) ?_ ?_ <;> omega)
    refine' WL.pur (Pur.indexAddr rfl rfl sl_151 ?h17_0) ?k17
    case h17_0 => omega
    refine' WL.pur (Pur.load1 rfl ty_60 ?h18_0) ?k18
    case h18_0 => first | (apply Rd.own1; exact zmE; rfl) | (apply Rd.own1; exact zmE; assumption) | (apply Rd.own_map; exact zmE; assumption) | exact RdV.rd (by assumption) | (apply Rd.own1; exact zmE; exact get_row (by assumption) (by first | assumption | omega)) | (apply RdV.rd; apply RdV.idx (i := 0); assumption; rfl)
    refine WL.pur (Pur.move rfl) ?_
    refine' WL.pur (Pur.bin rfl rfl ?h19_0) ?k19
    case h19_0 => first | (refine Bin.remN (b := 64) ?_; omega)
    refine' WL.pur (Pur.bin rfl rfl ?h20_0) ?k20
    case h20_0 => first | (refine Bin.shrU ?_; omega)
    refine' WL.pur (Pur.bin rfl rfl ?h21_0) ?k21
    case h21_0 => first | (refine Bin.andU (b := 1) ?_ ?_ <;> omega)
    refine' WL.pur (Pur.bin rfl rfl ?h22_0) ?k22
    case h22_0 => first | exact Bin.eqN (b := 1) | exact Bin.eqI
    refine WL.pur (Pur.assign rfl) ?_
    refine WL.nil ?_
    refine WQ.thn ?_
    refine WC.ret ?_
    refine WQ.ret1 Tryz.results113 rfl [] zsL (View.le_refl _) ?_
    refine ⟨?_, rfl, rfl⟩
    exact decB hask

theorem seesI_nat (L : List EntD) (i j : Nat) : seesI L i j ↔ seesN L i j = true := by
  unfold seesI
  rw [Int.toNat_natCast, Int.toNat_natCast]
  exact ⟨fun h => h.2.2, fun h => ⟨by omega, by omega, h⟩⟩
theorem seesI_not {L : List EntD} (ho : OrdOk L) {i j : Int} (h : i < 0 ∨ (L.length : Int) ≤ i ∨ j < 0 ∨ (L.length : Int) ≤ j) : decide (seesI L i j) = false := by
  refine decide_eq_false fun hs => ?_
  have h1 := sees_lt ho hs.2.2
  have := hs.1
  have := hs.2.1
  omega
theorem past_SeesI (σ : View) (pv : Value) (L : List EntD) (i j : Int) (h : PastV σ pv L) (ho : OrdOk L) (hi : i ≤ 9223372036854775807) : TriP Tryz.prog 113 #[pv, .int .i64 i, .int .i64 j] σ (.bool (decide (seesI L i j))) := by
  by_cases hx : i < 0 ∨ j < 0 ∨ (L.length : Int) ≤ j
  · rw [seesI_not ho (hx.elim .inl (fun h => .inr (.inr h)))]
    exact past_SeesO σ pv L i j h ho hx
  · obtain ⟨i, rfl⟩ := Int.eq_ofNat_of_zero_le (show 0 ≤ i by omega)
    obtain ⟨j, rfl⟩ := Int.eq_ofNat_of_zero_le (show 0 ≤ j by omega)
    have := past_SeesB σ pv L i j h ho (by omega) (by omega)
    rw [show decide (seesI L (i : Int) (j : Int)) = decide (seesN L i j = true) from decide_eq_decide.2 (seesI_nat L i j)]
    exact this

theorem r11_SeesO (σ : View) (pv : Value) (L : List EntD) (i j : Int) (h : R11V σ pv L) (ho : OrdOk L) (hij : i < 0 ∨ (L.length : Int) ≤ i ∨ j < 0 ∨ (L.length : Int) ≤ j) :
    TriP Tryz.prog 115 #[pv, .int .i64 i, .int .i64 j] σ (.bool false) := by
  have hmost := ho.most
  obtain ⟨b, plv, psv, pqv, rfl, hr, hE, hS, hQ⟩ := h
  obtain ⟨la, lc, rfl, hlc, hlb⟩ := hE.shape
  refine Tri.of_body [(0, .pointer (some ⟨b, 0, none⟩)), (1, .int .i64 i), (2, .int .i64 j)] Tryz.func115 rfl Tryz.ntmps115 (by simp) rfl (fun Hr => ?_)
  rw [List.nil_append]
  refine WC.seq ?_
  refine WC.region ?_
  refine WL.pur (Pur.assign rfl) ?_
  refine WL.nil ?_
  refine WQ.thn ?_
  refine WC.seq ?_
  refine WC.seq ?_
  refine WC.region ?_
  refine WL.pur (Pur.move rfl) ?_
  refine' WL.pur (Pur.bin rfl rfl ?h1_0) ?k1
  case h1_0 => first | exact Bin.ltN (b := 0) | exact Bin.ltI | exact Bin.ltS
  refine WL.pur (Pur.move rfl) ?_
  refine' WL.orp (u := 9) (t := 17) rfl ?h2_0 ?h2_1 ?h2_2 rfl ?k2
  case h2_0 =>
    intro hg9 K9
    refine WL.gpur (u := 9) rfl rfl (gF hg9) (Pur.move rfl) ?_
    refine WL.gpur (u := 9) rfl rfl (gF hg9) (Pur.move rfl) ?_
    refine WL.gpur (u := 9) rfl rfl (gF hg9) (Pur.nilCheck rfl) ?_
    refine WL.gpur (u := 9) rfl rfl (gF hg9) (Pur.fieldAddr rfl fo_74_0) ?_
    refine' WL.gpur (u := 9) rfl rfl (gF hg9) (Pur.load1 rfl ty_22 ?h3_0) ?k3
    case h3_0 => first | (apply Rd.own1; exact zmE; rfl) | (apply RdV.rd; apply RdV.idx (i := 0); assumption; rfl)
    refine WL.gpur (u := 9) rfl rfl (gF hg9) (Pur.len rfl isSlice_22) ?_
    refine' WL.gpur (u := 9) rfl rfl (gF hg9) (Pur.bin rfl rfl ?h4_0) ?k4
    case h4_0 => first | exact Bin.geN | exact Bin.geI
    exact K9 _ zcR rfl
  case h2_1 =>
    intro hg9 K9
    refine WL.gskip (u := 9) rfl rfl (sF hg9) ?_
    refine WL.gskip (u := 9) rfl rfl (sF hg9) ?_
    refine WL.gskip (u := 9) rfl rfl (sF hg9) ?_
    refine WL.gskip (u := 9) rfl rfl (sF hg9) ?_
    refine WL.gskip (u := 9) rfl rfl (sF hg9) ?_
    refine WL.gskip (u := 9) rfl rfl (sF hg9) ?_
    refine WL.gskip (u := 9) rfl rfl (sF hg9) ?_
    exact K9 _ zcR
  case h2_2 => exact Wanted.plain rfl
  refine WL.pur (Pur.move rfl) ?_
  refine' WL.orp (u := 18) (t := 21) rfl ?h5_0 ?h5_1 ?h5_2 rfl ?k5
  case h5_0 =>
    intro hg18 K18
    refine WL.gpur (u := 18) rfl rfl (gF hg18) (Pur.move rfl) ?_
    refine' WL.gpur (u := 18) rfl rfl (gF hg18) (Pur.bin rfl rfl ?h6_0) ?k6
    case h6_0 => first | exact Bin.ltN (b := 0) | exact Bin.ltI | exact Bin.ltS
    exact K18 _ zcR rfl
  case h5_1 =>
    intro hg18 K18
    refine WL.gskip (u := 18) rfl rfl (sF hg18) ?_
    refine WL.gskip (u := 18) rfl rfl (sF hg18) ?_
    exact K18 _ zcR
  case h5_2 => exact Wanted.plain rfl
  refine WL.pur (Pur.move rfl) ?_
  refine' WL.orp (u := 22) (t := 30) rfl ?h7_0 ?h7_1 ?h7_2 rfl ?k7
  case h7_0 =>
    intro hg22 K22
    refine WL.gpur (u := 22) rfl rfl (gF hg22) (Pur.move rfl) ?_
    refine WL.gpur (u := 22) rfl rfl (gF hg22) (Pur.move rfl) ?_
    refine WL.gpur (u := 22) rfl rfl (gF hg22) (Pur.nilCheck rfl) ?_
    refine WL.gpur (u := 22) rfl rfl (gF hg22) (Pur.fieldAddr rfl fo_74_0) ?_
    refine' WL.gpur (u := 22) rfl rfl (gF hg22) (Pur.load1 rfl ty_22 ?h8_0) ?k8
    case h8_0 => first | (apply Rd.own1; exact zmE; rfl) | (apply RdV.rd; apply RdV.idx (i := 0); assumption; rfl)
    refine WL.gpur (u := 22) rfl rfl (gF hg22) (Pur.len rfl isSlice_22) ?_
    refine' WL.gpur (u := 22) rfl rfl (gF hg22) (Pur.bin rfl rfl ?h9_0) ?k9
    case h9_0 => first | exact Bin.geN | exact Bin.geI
    exact K22 _ zcR rfl
  case h7_1 =>
    intro hg22 K22
    refine WL.gskip (u := 22) rfl rfl (sF hg22) ?_
    refine WL.gskip (u := 22) rfl rfl (sF hg22) ?_
    refine WL.gskip (u := 22) rfl rfl (sF hg22) ?_
    refine WL.gskip (u := 22) rfl rfl (sF hg22) ?_
    refine WL.gskip (u := 22) rfl rfl (sF hg22) ?_
    refine WL.gskip (u := 22) rfl rfl (sF hg22) ?_
    refine WL.gskip (u := 22) rfl rfl (sF hg22) ?_
    exact K22 _ zcR
  case h7_2 => exact Wanted.plain rfl
  refine WL.nil ?_
  refine WQ.thn ?_
  first | refine WC.cond rfl (fun hc0 => ?_) (fun hc0 => ?_) | refine WC.condB rfl (fun hc0 => ?_) (fun hc0 => ?_)
  · refine WC.seq ?_
    refine WC.region ?_
    refine WL.pur (Pur.assign rfl) ?_
    refine WL.nil ?_
    refine WQ.thn ?_
    refine WC.ret ?_
    refine WQ.thn_ret ?_
    refine WQ.ret1 Tryz.results115 rfl [] zsL (View.le_refl _) ?_
    refine ⟨?_, rfl, rfl⟩
    rfl
  · exfalso; omega

theorem r11_SeesI (σ : View) (pv : Value) (L : List EntD) (i j : Int) (h : R11V σ pv L) (ho : OrdOk L) : TriP Tryz.prog 115 #[pv, .int .i64 i, .int .i64 j] σ (.bool (decide (seesI L i j))) := by
  by_cases hx : i < 0 ∨ (L.length : Int) ≤ i ∨ j < 0 ∨ (L.length : Int) ≤ j
  · rw [seesI_not ho hx]
    exact r11_SeesO σ pv L i j h ho hx
  · obtain ⟨i, rfl⟩ := Int.eq_ofNat_of_zero_le (show 0 ≤ i by omega)
    obtain ⟨j, rfl⟩ := Int.eq_ofNat_of_zero_le (show 0 ≤ j by omega)
    have := r11_Sees σ pv L i j h ho (by omega) (by omega)
    rw [show decide (seesI L (i : Int) (j : Int)) = decide (seesN L i j = true) from decide_eq_decide.2 (seesI_nat L i j)]
    exact this

set_option maxHeartbeats 2000000 in
theorem past_Since (σ : View) (pv ov nv : Value) (L : List EntD) (os ns : List Nat) (h : PastV σ pv L) (ho : OrdOk L) (hO : Hashes σ ov os) (hN : Hashes σ nv ns) :
    Tri Tryz.prog 68 #[pv, ov, nv] σ [] (fun v σ' H' => (∃ sv ev, v = .tuple #[sv, .int .i64 ev] ∧ ((ev = 0 ∧ allH L os ∧ allH L ns ∧ ∃ h, SlO σ' eHash 39 32 sv (selN L (sinceP L os ns) L.length) h ∧ H' = h) ∨ (ev = 6 ∧ ¬ (allH L os ∧ allH L ns) ∧ sv = .slice none 0 0 ∧ H' = [])))) := by
  have h' := h
  have hmost := ho.most
  obtain ⟨b, mb, lv, sv, rfl, hr, hl, hm, hsn⟩ := h
  obtain ⟨la, lc, rfl, hlc, hlb⟩ := hl.shape
  obtain ⟨lb, loff, hel⟩ := addr_of hl
  refine Tri.of_body [(0, .pointer (some ⟨b, 0, none⟩)), (1, ov), (2, nv)] Tryz.func68 rfl Tryz.ntmps68 (by simp) rfl (fun Hr => ?_)
  rw [List.nil_append]
  refine WC.seq ?_
  refine WC.region ?_
  refine WL.pur (Pur.assign rfl) ?_
  refine WL.pur (Pur.assign rfl) ?_
  refine WL.nil ?_
  refine WQ.thn ?_
  refine WC.seq ?_
  refine WC.region ?_
  refine WL.pur (Pur.move rfl) ?_
  refine WL.pur (Pur.move rfl) ?_
  refine WL.call (H0 := []) (Hr := Hr) rfl Tryz.call124 (List.Perm.refl _) (past_under2 _ _ _ L os h' ho hO) ?_
  rintro _ σ HU ⟨rfl, svo, ev, rfl, hor⟩ _
  refine WL.pur (Pur.move rfl) ?_
  first | refine WL.pur (Pur.ex2_0 rfl) ?_ | refine WL.pur (Pur.ex3_0 rfl) ?_ | refine WL.pur (Pur.extractNext rfl) ?_ | refine WL.pur (Pur.extract rfl rfl) ?_
  first | refine WL.pur (Pur.ex2_1 rfl) ?_ | refine WL.pur (Pur.ex3_1 rfl) ?_ | refine WL.pur (Pur.extract rfl rfl) ?_
  refine WL.pur (Pur.assign rfl) ?_
  refine WL.pur (Pur.assign rfl) ?_
  refine WL.nil ?_
  refine WQ.thn ?_
  refine WC.seq ?_
  refine WC.seq ?_
  refine WC.region ?_
  refine WL.pur (Pur.move rfl) ?_
  refine' WL.pur (Pur.bin rfl rfl ?h1_0) ?k1
  case h1_0 => first | exact Bin.neN (b := 0) | exact Bin.neI
  refine WL.nil ?_
  refine WQ.thn ?_
  first | refine WC.cond rfl (fun hc0 => ?_) (fun hc0 => ?_) | refine WC.condB rfl (fun hc0 => ?_) (fun hc0 => ?_)
  · obtain ⟨rfl, hno, rfl⟩ := hor.resolve_left (fun h => hc0 h.1)
    refine WC.seq ?_
    refine WC.region ?_
    refine WL.pur (Pur.move rfl) ?_
    refine WL.pur (Pur.assign rfl) ?_
    refine WL.pur (Pur.assign rfl) ?_
    refine WL.nil ?_
    refine WQ.thn ?_
    refine WC.ret ?_
    refine WQ.thn_ret ?_
    refine WQ.ret2 Tryz.results68 rfl rfl [] (by repeat (first | exact List.Sublist.refl _ | apply List.Sublist.cons)) (View.le_refl _) ?_
    exact ⟨_, _, rfl, .inr ⟨rfl, fun h => hno h.1, rfl, rfl⟩⟩
  · obtain ⟨rfl, hal, bo, rfl, rfl⟩ := hor.resolve_right (fun h => hc0 (by rw [h.1]; decide))
    rw [List.singleton_append]
    refine WC.skip ?_
    refine WQ.thn ?_
    refine WC.seq ?_
    refine WC.region ?_
    refine WL.pur (Pur.move rfl) ?_
    refine WL.pur (Pur.move rfl) ?_
    refine WL.call (H0 := []) (Hr := (bo, rowO 4 ((List.range L.length).map (fun j => Value.bool (decide (inH L os j))))) :: Hr) rfl Tryz.call124 (List.Perm.refl _) (past_under2 _ _ _ L ns h' ho hN) ?_
    rintro _ σ HU2 ⟨rfl, svn, ev2, rfl, hor2⟩ _
    refine WL.pur (Pur.move rfl) ?_
    first | refine WL.pur (Pur.ex2_0 rfl) ?_ | refine WL.pur (Pur.ex3_0 rfl) ?_ | refine WL.pur (Pur.extractNext rfl) ?_ | refine WL.pur (Pur.extract rfl rfl) ?_
    first | refine WL.pur (Pur.ex2_1 rfl) ?_ | refine WL.pur (Pur.ex3_1 rfl) ?_ | refine WL.pur (Pur.extract rfl rfl) ?_
    refine WL.pur (Pur.assign rfl) ?_
    refine WL.pur (Pur.assign rfl) ?_
    refine WL.nil ?_
    refine WQ.thn ?_
    refine WC.seq ?_
    refine WC.seq ?_
    refine WC.region ?_
    refine WL.pur (Pur.move rfl) ?_
    refine' WL.pur (Pur.bin rfl rfl ?h2_0) ?k2
    case h2_0 => first | exact Bin.neN (b := 0) | exact Bin.neI
    refine WL.nil ?_
    refine WQ.thn ?_
    first | refine WC.cond rfl (fun hc1 => ?_) (fun hc1 => ?_) | refine WC.condB rfl (fun hc1 => ?_) (fun hc1 => ?_)
    · obtain ⟨rfl, hno, rfl⟩ := hor2.resolve_left (fun h => hc1 h.1)
      refine WC.seq ?_
      refine WC.region ?_
      refine WL.pur (Pur.move rfl) ?_
      refine WL.pur (Pur.assign rfl) ?_
      refine WL.pur (Pur.assign rfl) ?_
      refine WL.nil ?_
      refine WQ.thn ?_
      refine WC.ret ?_
      refine WQ.thn_ret ?_
      refine WQ.ret2 Tryz.results68 rfl rfl [] (by repeat (first | exact List.Sublist.refl _ | apply List.Sublist.cons)) (View.le_refl _) ?_
      exact ⟨_, _, rfl, .inr ⟨rfl, fun h => hno h.2, rfl, rfl⟩⟩
    · obtain ⟨rfl, hal2, bn, rfl, rfl⟩ := hor2.resolve_right (fun h => hc1 (by rw [h.1]; decide))
      rw [List.singleton_append]
      refine WC.skip ?_
      refine WQ.thn ?_
      refine WC.seq ?_
      refine WC.region ?_
      refine WL.pur (Pur.assign rfl) ?_
      refine WL.nil ?_
      refine WQ.thn ?_
      refine WC.seq ?_
      refine WC.seq ?_
      refine WC.region ?_
      refine WL.pur (Pur.move rfl) ?_
      refine WL.pur (Pur.nilCheck rfl) ?_
      refine WL.pur (Pur.fieldAddr rfl fo_173_0) ?_
      refine' WL.pur (Pur.load1 rfl ty_22 ?h3_0) ?k3
      case h3_0 => exact RdV.rd (RdV.idx (off := 0) (i := 0) hr rfl)
      refine WL.pur (Pur.len rfl isSlice_22) ?_
      refine WL.pur (Pur.move rfl) ?_
      refine WL.nil ?_
      refine WQ.thn ?_
      refine WC.block ?_
      refine WC.loop (fun j m σ' H' => ∃ (i : Nat) (lv2 : Value) (hl2 : HList), j = L.length - i ∧ i ≤ L.length ∧ SlO σ' eHash 39 32 lv2 (selN L (sinceP L os ns) i) hl2 ∧ m = [(8, .slice (some ⟨bo, 0, none⟩) L.length L.length), (10, .slice (some ⟨bn, 0, none⟩) L.length L.length), (11, lv2), (35, .slice la L.length lc), (36, .int .i64 (L.length : Int)), (37, .int .i64 (i : Int))] ∧ σ' = σ ∧ H' = (bn, rowO 4 ((List.range L.length).map (fun j => Value.bool (decide (inH L ns j))))) :: (bo, rowO 4 ((List.range L.length).map (fun j => Value.bool (decide (inH L os j))))) :: (hl2 ++ Hr)) ⟨0, _, [], rfl, by omega, by rw [selN_zero]; exact SlO.nil, rfl, rfl, rfl⟩ zcV zsL ?_
      rintro _ _ σ Hr ⟨i, lv2, hl2, rfl, hi, hso, rfl, rfl, rfl⟩
      refine WC.seq ?_
      refine WC.region ?_
      refine' WL.pur (Pur.bin rfl rfl ?h4_0) ?k4
      case h4_0 => first | exact Bin.ltN | exact Bin.ltI | exact Bin.ltS
      refine WL.nil ?_
      refine WQ.thn ?_
      refine WC.seq ?_
      first | refine WC.cond rfl (fun hc2 => ?_) (fun hc2 => ?_) | refine WC.condB rfl (fun hc2 => ?_) (fun hc2 => ?_)
      · obtain ⟨e, he⟩ : ∃ e, L[i]? = some e := ⟨_, List.getElem?_eq_getElem (by omega)⟩
        obtain ⟨qv, ov, hrd, heH, hNR⟩ := ent_rd hl hel he
        obtain ⟨pa2, pc2, rfl, _, _⟩ := hNR.1.shape
        obtain ⟨oa2, oc2, rfl, _, _⟩ := hNR.2.1.shape
        have hlen2 := selN_len L (sinceP L os ns) i
        refine WC.skip ?_
        refine WQ.thn ?_
        refine WC.seq ?_
        refine WC.block ?_
        refine WC.seq ?_
        refine WC.region ?_
        refine WL.pur (Pur.move rfl) ?_
        refine' WL.pur (Pur.indexAddr (eqA (hel (by omega))) rfl sl_22 ?h5_0) ?k5
        case h5_0 => omega
        refine' WL.pur (Pur.loadN rfl ty_45 ?h6_0 ?h6_1) ?k6
        case h6_0 => exact RdV.rd hrd
        case h6_1 => first | rfl | assumption
        refine WL.new (New.alloc zc_45) (fun b13 => ?_)
        refine WL.pur (Pur.assign rfl) ?_
        refine' WL.run0 (Run.storeAll rfl rfl ty_45 ?h7_0 (by first | rfl | assumption) ?h7_1 (by first | rfl | assumption)) ?k7
        case h7_0 => repeat (first | exact Part.one | exact Part.here | apply Part.cons | apply Part.app)
        case h7_1 => first | rfl | assumption
        refine WL.nil ?_
        refine WQ.thn ?_
        refine WC.seq ?_
        refine WC.region ?_
        refine WL.pur (Pur.move rfl) ?_
        refine WL.pur (Pur.move rfl) ?_
        refine' WL.pur (Pur.indexAddr rfl rfl sl_181 ?h8_0) ?k8
        case h8_0 => omega
        refine' WL.pur (Pur.load1 rfl ty_4 ?h9_0) ?k9
        case h9_0 => apply Rd.own1; exact zmE; exact get_range_map1 (show i < L.length by omega)
        refine WL.pur (Pur.move rfl) ?_
        refine' WL.andp (u := 46) (t := 52) rfl ?h10_0 ?h10_1 ?h10_2 rfl ?k10
        case h10_0 =>
          intro hg46 K46
          refine WL.gpur (u := 46) rfl rfl (gT hg46) (Pur.move rfl) ?_
          refine WL.gpur (u := 46) rfl rfl (gT hg46) (Pur.move rfl) ?_
          refine' WL.gpur (u := 46) rfl rfl (gT hg46) (Pur.indexAddr rfl rfl sl_181 ?h11_0) ?k11
          case h11_0 => omega
          refine' WL.gpur (u := 46) rfl rfl (gT hg46) (Pur.load1 rfl ty_4 ?h12_0) ?k12
          case h12_0 => apply Rd.own1; exact zmE; exact get_range_map1 (show i < L.length by omega)
          first | refine WL.gpur (u := 46) rfl rfl (gT hg46) (Pur.not rfl) ?_ | refine WL.gpur (u := 46) rfl rfl (gT hg46) (Pur.notB rfl) ?_
          exact K46 _ zcR rfl
        case h10_1 =>
          intro hg46 K46
          refine WL.gskip (u := 46) rfl rfl (sT hg46) ?_
          refine WL.gskip (u := 46) rfl rfl (sT hg46) ?_
          refine WL.gskip (u := 46) rfl rfl (sT hg46) ?_
          refine WL.gskip (u := 46) rfl rfl (sT hg46) ?_
          refine WL.gskip (u := 46) rfl rfl (sT hg46) ?_
          exact K46 _ zcR
        case h10_2 => exact Wanted.plain rfl
        refine WL.nil ?_
        refine WQ.thn ?_
        first | refine WC.cond rfl (fun hc3 => ?_) (fun hc3 => ?_) | refine WC.condB rfl (fun hc3 => ?_) (fun hc3 => ?_)
        · have hc3 : sinceP L os ns i := hc3
          refine WC.region ?_
          refine WL.pur (Pur.move rfl) ?_
          refine WL.pur (Pur.fieldAddr rfl fo_45_0) ?_
          refine' WL.pur (Pur.loadN rfl ty_39 ?h13_0 ?h13_1) ?k13
          case h13_0 => apply Rd.own_sub; exact zmE; exact Sub.ent_hash _ _ _ _ _
          case h13_1 => first | rfl | assumption
          refine WL.new (New.buildSliceN (xs := [.tmp 55]) (vss := [hashCells e.id]) sl_41 zc_39 rfl rfl rfl (by rfl) (by rfl)) (fun b56 => ?_)
          refine' WL.any (Any.push (H1 := [(b56, _), (b13, _), (bn, rowO 4 ((List.range L.length).map (fun j => Value.bool (decide (inH L ns j))))), (bo, rowO 4 ((List.range L.length).map (fun j => Value.bool (decide (inH L os j)))))]) (H2 := Hr) sl_41 zc_39 rfl by_39 rfl rfl hso ?h14_0 ?h14_1 ?h14_2 ?h14_3 rfl (by omega) (by omega)) ?k14
          case h14_0 => apply Rd.own_sub; exact zmE; exact Sub.refl _
          case h14_1 => first | rfl | assumption
          case h14_2 => first | rfl | assumption
          case h14_3 => exact ⟨rfl, heH⟩
          rintro v57 σ _ ⟨hl3, hso3, rfl, rfl⟩ _
          refine WL.pur (Pur.assign rfl) ?_
          refine WL.nil ?_
          refine WQ.blk ?_
          refine WQ.thn ?_
          refine WC.region ?_
          refine' WL.pur (Pur.bin rfl rfl ?h15_0) ?k15
          case h15_0 => first | (refine Bin.addN (b := 1) ?_; omega) | (refine Bin.addI ?_; omega)
          refine WL.pur (Pur.move rfl) ?_
          refine WL.nil ?_
          refine WQ.back _ ⟨i + 1, _, _, rfl, by omega, by rw [selN_yes hc3, idAt_of he]; exact hso3, rfl, rfl, rfl⟩ (by omega) zcV zsL
        · have hc3 : ¬ sinceP L os ns i := hc3
          refine WC.skip ?_
          refine WQ.blk ?_
          refine WQ.thn ?_
          refine WC.region ?_
          refine' WL.pur (Pur.bin rfl rfl ?h16_0) ?k16
          case h16_0 => first | (refine Bin.addN (b := 1) ?_; omega) | (refine Bin.addI ?_; omega)
          refine WL.pur (Pur.move rfl) ?_
          refine WL.nil ?_
          refine WQ.back _ ⟨i + 1, _, _, rfl, by omega, by rw [selN_no hc3]; exact hso, rfl, rfl, rfl⟩ (by omega) zcV zsL
      · have hii : i = L.length := by omega
        subst hii
        refine WC.exit ?_
        refine WQ.thn_exit ?_
        refine WQ.back_exit ?_
        refine WQ.blk_here ?_
        refine WQ.thn ?_
        refine WC.seq ?_
        refine WC.region ?_
        refine WL.pur (Pur.move rfl) ?_
        refine WL.pur (Pur.assign rfl) ?_
        refine WL.pur (Pur.assign rfl) ?_
        refine WL.nil ?_
        refine WQ.thn ?_
        refine WC.ret ?_
        refine WQ.ret2 Tryz.results68 rfl rfl hl2 (by repeat (first | exact List.Sublist.refl _ | apply List.Sublist.cons)) (View.le_refl _) ?_
        exact ⟨_, _, rfl, .inl ⟨rfl, hal, hal2, _, hso, rfl⟩⟩

set_option maxHeartbeats 2000000 in
theorem r11_Since (σ : View) (pv ov nv : Value) (L : List EntD) (os ns : List Nat) (h : R11V σ pv L) (ho : OrdOk L) (hO : Hashes σ ov os) (hN : Hashes σ nv ns) :
    Tri Tryz.prog 132 #[pv, ov, nv] σ [] (fun v σ' H' => (∃ sv ev, v = .tuple #[sv, .int .i64 ev] ∧ ((ev = 0 ∧ allH L os ∧ allH L ns ∧ ∃ h, SlO σ' eHash 39 32 sv (selN L (sinceP L os ns) L.length) h ∧ H' = h) ∨ (ev = 6 ∧ ¬ (allH L os ∧ allH L ns) ∧ sv = .slice none 0 0 ∧ H' = [])))) := by
  have h' := h
  have hmost := ho.most
  obtain ⟨b, plv, psv, pqv, rfl, hr, hE, hS, hQ⟩ := h
  obtain ⟨la, lc, rfl, hlc, hlb⟩ := hE.shape
  obtain ⟨lb, loff, hel⟩ := addr_of hE
  refine Tri.of_body [(0, .pointer (some ⟨b, 0, none⟩)), (1, ov), (2, nv)] Tryz.func132 rfl Tryz.ntmps132 (by simp) rfl (fun Hr => ?_)
  rw [List.nil_append]
  refine WC.seq ?_
  refine WC.region ?_
  refine WL.pur (Pur.assign rfl) ?_
  refine WL.pur (Pur.assign rfl) ?_
  refine WL.nil ?_
  refine WQ.thn ?_
  refine WC.seq ?_
  refine WC.region ?_
  refine WL.pur (Pur.move rfl) ?_
  refine WL.pur (Pur.move rfl) ?_
  refine WL.call (H0 := []) (Hr := Hr) rfl Tryz.call125 (List.Perm.refl _) (r11_closed2 _ _ _ L os h' ho hO) ?_
  rintro _ σ HU ⟨rfl, svo, rfl, hor⟩ _
  refine WL.pur (Pur.move rfl) ?_
  first | refine WL.pur (Pur.ex2_0 rfl) ?_ | refine WL.pur (Pur.ex3_0 rfl) ?_ | refine WL.pur (Pur.extractNext rfl) ?_ | refine WL.pur (Pur.extract rfl rfl) ?_
  first | refine WL.pur (Pur.ex2_1 rfl) ?_ | refine WL.pur (Pur.ex3_1 rfl) ?_ | refine WL.pur (Pur.extract rfl rfl) ?_
  refine WL.pur (Pur.assign rfl) ?_
  refine WL.pur (Pur.assign rfl) ?_
  refine WL.nil ?_
  refine WQ.thn ?_
  refine WC.seq ?_
  refine WC.region ?_
  refine WL.pur (Pur.move rfl) ?_
  refine WL.pur (Pur.move rfl) ?_
  refine WL.call (H0 := []) (Hr := HU ++ Hr) rfl Tryz.call125 (List.Perm.refl _) (r11_closed2 _ _ _ L ns h' ho hN) ?_
  rintro _ σ HU2 ⟨rfl, svn, rfl, hor2⟩ _
  refine WL.pur (Pur.move rfl) ?_
  first | refine WL.pur (Pur.ex2_0 rfl) ?_ | refine WL.pur (Pur.ex3_0 rfl) ?_ | refine WL.pur (Pur.extractNext rfl) ?_ | refine WL.pur (Pur.extract rfl rfl) ?_
  first | refine WL.pur (Pur.ex2_1 rfl) ?_ | refine WL.pur (Pur.ex3_1 rfl) ?_ | refine WL.pur (Pur.extract rfl rfl) ?_
  refine WL.pur (Pur.assign rfl) ?_
  refine WL.pur (Pur.assign rfl) ?_
  refine WL.nil ?_
  refine WQ.thn ?_
  refine WC.seq ?_
  refine WC.seq ?_
  refine WC.region ?_
  refine WL.pur (Pur.move rfl) ?_
  first | refine WL.pur (Pur.not rfl) ?_ | refine WL.pur (Pur.notB rfl) ?_
  refine WL.pur (Pur.move rfl) ?_
  refine' WL.orp (u := 28) (t := 31) rfl ?h1_0 ?h1_1 ?h1_2 rfl ?k1
  case h1_0 =>
    intro hg28 K28
    refine WL.gpur (u := 28) rfl rfl (gF hg28) (Pur.move rfl) ?_
    first | refine WL.gpur (u := 28) rfl rfl (gF hg28) (Pur.not rfl) ?_ | refine WL.gpur (u := 28) rfl rfl (gF hg28) (Pur.notB rfl) ?_
    exact K28 _ zcR rfl
  case h1_1 =>
    intro hg28 K28
    refine WL.gskip (u := 28) rfl rfl (sF hg28) ?_
    refine WL.gskip (u := 28) rfl rfl (sF hg28) ?_
    exact K28 _ zcR
  case h1_2 => exact Wanted.plain rfl
  refine WL.nil ?_
  refine WQ.thn ?_
  first | refine WC.cond rfl (fun hc0 => ?_) (fun hc0 => ?_) | refine WC.condB rfl (fun hc0 => ?_) (fun hc0 => ?_)
  · have hno : ¬ (allH L os ∧ allH L ns) := fun h => hc0.elim (fun h1 => h1 h.1) (fun h1 => h1 h.2)
    refine WC.seq ?_
    refine WC.region ?_
    refine WL.pur (Pur.assign rfl) ?_
    refine WL.pur (Pur.assign rfl) ?_
    refine WL.nil ?_
    refine WQ.thn ?_
    refine WC.ret ?_
    refine WQ.thn_ret ?_
    refine WQ.ret2 Tryz.results132 rfl rfl [] (by first | exact (List.sublist_append_right HU Hr).trans (List.sublist_append_right HU2 _) | exact List.Sublist.append_left (by repeat (first | exact List.Sublist.refl _ | apply List.Sublist.cons)) _) (View.le_refl _) ?_
    exact ⟨_, _, rfl, .inr ⟨rfl, hno, rfl, rfl⟩⟩
  · have hal : allH L os := Decidable.not_not.1 fun h => hc0 (.inl h)
    have hal2 : allH L ns := Decidable.not_not.1 fun h => hc0 (.inr h)
    obtain ⟨_, bo, rfl, rfl⟩ := hor.resolve_right (fun h => h.1 hal)
    obtain ⟨_, bn, rfl, rfl⟩ := hor2.resolve_right (fun h => h.1 hal2)
    rw [List.singleton_append, List.singleton_append]
    refine WC.skip ?_
    refine WQ.thn ?_
    refine WC.seq ?_
    refine WC.region ?_
    refine WL.new (New.buildSlice0 sl_41) (fun b32 => ?_)
    refine WL.pur (Pur.assign rfl) ?_
    refine WL.nil ?_
    refine WQ.thn ?_
    refine WC.seq ?_
    refine WC.seq ?_
    refine WC.region ?_
    refine WL.pur (Pur.assign rfl) ?_
    refine WL.nil ?_
    refine WQ.thn ?_
    refine WC.block ?_
    refine WC.loop (fun j m σ' H' => ∃ (i : Nat) (lv2 : Value) (hl2 : HList), j = L.length - i ∧ i ≤ L.length ∧ SlO σ' eHash 39 32 lv2 (selN L (sinceP L os ns) i) hl2 ∧ m = [(0, .pointer (some ⟨b, 0, none⟩)), (8, .slice (some ⟨bo, 0, none⟩) L.length L.length), (10, .slice (some ⟨bn, 0, none⟩) L.length L.length), (12, lv2), (13, .int .i64 (i : Int))] ∧ σ' = σ ∧ H' = hl2 ++ ((bn, rowO 4 ((List.range L.length).map (fun j => Value.bool (decide (inH L ns j))))) :: (bo, rowO 4 ((List.range L.length).map (fun j => Value.bool (decide (inH L os j))))) :: Hr)) ⟨0, _, [(b32, rowO 39 [])], rfl, by omega, by rw [selN_zero]; exact SlO.row (b := b32) (ElR.nil (σ := σ) (E := eHash) (sz := 32)), rfl, rfl, rfl⟩ zcV zsL ?_
    rintro _ _ σ Hr ⟨i, lv2, hl2, rfl, hi, hso, rfl, rfl, rfl⟩
    refine WC.seq ?_
    refine WC.seq ?_
    refine WC.region ?_
    refine WL.pur (Pur.move rfl) ?_
    refine WL.pur (Pur.move rfl) ?_
    refine WL.pur (Pur.nilCheck rfl) ?_
    refine WL.pur (Pur.fieldAddr rfl fo_74_0) ?_
    refine' WL.pur (Pur.load1 rfl ty_22 ?h2_0) ?k2
    case h2_0 => exact RdV.rd (RdV.idx (off := 0) (i := 0) hr rfl)
    refine WL.pur (Pur.len rfl isSlice_22) ?_
    refine' WL.pur (Pur.bin rfl rfl ?h3_0) ?k3
    case h3_0 => first | exact Bin.ltN | exact Bin.ltI | exact Bin.ltS
    refine WL.nil ?_
    refine WQ.thn ?_
    first | refine WC.cond rfl (fun hc1 => ?_) (fun hc1 => ?_) | refine WC.condB rfl (fun hc1 => ?_) (fun hc1 => ?_)
    · obtain ⟨e, he⟩ : ∃ e, L[i]? = some e := ⟨_, List.getElem?_eq_getElem (by omega)⟩
      obtain ⟨qv, ov, hrd, heH, hNR⟩ := ent_rd hE hel he
      obtain ⟨pa2, pc2, rfl, _, _⟩ := hNR.1.shape
      obtain ⟨oa2, oc2, rfl, _, _⟩ := hNR.2.1.shape
      have hlen2 := selN_len L (sinceP L os ns) i
      refine WC.skip ?_
      refine WQ.thn ?_
      refine WC.seq ?_
      refine WC.block ?_
      refine WC.seq ?_
      refine WC.region ?_
      refine WL.pur (Pur.move rfl) ?_
      refine WL.pur (Pur.move rfl) ?_
      refine' WL.pur (Pur.indexAddr rfl rfl sl_181 ?h4_0) ?k4
      case h4_0 => omega
      refine' WL.pur (Pur.load1 rfl ty_4 ?h5_0) ?k5
      case h5_0 => apply Rd.own1; exact zmE; exact get_range_map1 (show i < L.length by omega)
      refine WL.pur (Pur.move rfl) ?_
      refine' WL.andp (u := 46) (t := 52) rfl ?h6_0 ?h6_1 ?h6_2 rfl ?k6
      case h6_0 =>
        intro hg46 K46
        refine WL.gpur (u := 46) rfl rfl (gT hg46) (Pur.move rfl) ?_
        refine WL.gpur (u := 46) rfl rfl (gT hg46) (Pur.move rfl) ?_
        refine' WL.gpur (u := 46) rfl rfl (gT hg46) (Pur.indexAddr rfl rfl sl_181 ?h7_0) ?k7
        case h7_0 => omega
        refine' WL.gpur (u := 46) rfl rfl (gT hg46) (Pur.load1 rfl ty_4 ?h8_0) ?k8
        case h8_0 => apply Rd.own1; exact zmE; exact get_range_map1 (show i < L.length by omega)
        first | refine WL.gpur (u := 46) rfl rfl (gT hg46) (Pur.not rfl) ?_ | refine WL.gpur (u := 46) rfl rfl (gT hg46) (Pur.notB rfl) ?_
        exact K46 _ zcR rfl
      case h6_1 =>
        intro hg46 K46
        refine WL.gskip (u := 46) rfl rfl (sT hg46) ?_
        refine WL.gskip (u := 46) rfl rfl (sT hg46) ?_
        refine WL.gskip (u := 46) rfl rfl (sT hg46) ?_
        refine WL.gskip (u := 46) rfl rfl (sT hg46) ?_
        refine WL.gskip (u := 46) rfl rfl (sT hg46) ?_
        exact K46 _ zcR
      case h6_2 => exact Wanted.plain rfl
      refine WL.nil ?_
      refine WQ.thn ?_
      first | refine WC.cond rfl (fun hc2 => ?_) (fun hc2 => ?_) | refine WC.condB rfl (fun hc2 => ?_) (fun hc2 => ?_)
      · have hc2 : sinceP L os ns i := hc2
        refine WC.region ?_
        refine WL.pur (Pur.move rfl) ?_
        refine WL.pur (Pur.move rfl) ?_
        refine WL.pur (Pur.nilCheck rfl) ?_
        refine WL.pur (Pur.fieldAddr rfl fo_74_0) ?_
        refine' WL.pur (Pur.load1 rfl ty_22 ?h9_0) ?k9
        case h9_0 => exact RdV.rd (RdV.idx (off := 0) (i := 0) hr rfl)
        refine WL.pur (Pur.move rfl) ?_
        refine' WL.pur (Pur.indexAddr (eqA (hel (by omega))) rfl sl_22 ?h10_0) ?k10
        case h10_0 => omega
        refine WL.pur (Pur.fieldAddr rfl fo_45_0) ?_
        refine' WL.pur (Pur.loadN rfl ty_39 ?h11_0 ?h11_1) ?k11
        case h11_0 => apply RdV.rd; apply RdV.sub0; exact hrd; exact Sub.ent_hash _ _ _ _ _
        case h11_1 => first | rfl | assumption
        refine WL.new (New.buildSliceN (xs := [.tmp 61]) (vss := [hashCells e.id]) sl_41 zc_39 rfl rfl rfl (by rfl) (by rfl)) (fun b62 => ?_)
        refine' WL.any (Any.push (H1 := [(b62, _)]) (H2 := (bn, rowO 4 ((List.range L.length).map (fun j => Value.bool (decide (inH L ns j))))) :: (bo, rowO 4 ((List.range L.length).map (fun j => Value.bool (decide (inH L os j))))) :: Hr) sl_41 zc_39 rfl by_39 rfl rfl hso ?h12_0 ?h12_1 ?h12_2 ?h12_3 rfl (by omega) (by omega)) ?k12
        case h12_0 => apply Rd.own_sub; exact zmE; exact Sub.refl _
        case h12_1 => first | rfl | assumption
        case h12_2 => first | rfl | assumption
        case h12_3 => exact ⟨rfl, heH⟩
        rintro v63 σ _ ⟨hl3, hso3, rfl, rfl⟩ _
        refine WL.pur (Pur.assign rfl) ?_
        refine WL.nil ?_
        refine WQ.blk ?_
        refine WQ.thn ?_
        refine WC.region ?_
        refine WL.pur (Pur.move rfl) ?_
        refine' WL.pur (Pur.bin rfl rfl ?h13_0) ?k13
        case h13_0 => first | (refine Bin.addN (b := 1) ?_; omega) | (refine Bin.addI ?_; omega)
        refine WL.pur (Pur.assign rfl) ?_
        refine WL.nil ?_
        refine WQ.back _ ⟨i + 1, _, _, rfl, by omega, by rw [selN_yes hc2, idAt_of he]; exact hso3, rfl, rfl, rfl⟩ (by omega) zcV zsL
      · have hc2 : ¬ sinceP L os ns i := hc2
        refine WC.skip ?_
        refine WQ.blk ?_
        refine WQ.thn ?_
        refine WC.region ?_
        refine WL.pur (Pur.move rfl) ?_
        refine' WL.pur (Pur.bin rfl rfl ?h14_0) ?k14
        case h14_0 => first | (refine Bin.addN (b := 1) ?_; omega) | (refine Bin.addI ?_; omega)
        refine WL.pur (Pur.assign rfl) ?_
        refine WL.nil ?_
        refine WQ.back _ ⟨i + 1, _, _, rfl, by omega, by rw [selN_no hc2]; exact hso, rfl, rfl, rfl⟩ (by omega) zcV zsL
    · have hii : i = L.length := by omega
      subst hii
      refine WC.exit ?_
      refine WQ.thn_exit ?_
      refine WQ.back_exit ?_
      refine WQ.blk_here ?_
      refine WQ.thn ?_
      refine WC.seq ?_
      refine WC.region ?_
      refine WL.pur (Pur.move rfl) ?_
      refine WL.pur (Pur.assign rfl) ?_
      refine WL.pur (Pur.assign rfl) ?_
      refine WL.nil ?_
      refine WQ.thn ?_
      refine WC.ret ?_
      refine WQ.ret2 Tryz.results132 rfl rfl hl2 (by first | exact (List.sublist_append_right HU Hr).trans (List.sublist_append_right HU2 _) | exact List.Sublist.append_left (by repeat (first | exact List.Sublist.refl _ | apply List.Sublist.cons)) _) (View.le_refl _) ?_
      exact ⟨_, _, rfl, .inl ⟨rfl, hal, hal2, _, hso, rfl⟩⟩

end Go.Proofs.YtgoooilgmabkmaaGreat
namespace Go.Proofs.YtgoooilgmabkmaaGreat
open Go Go.Sl
set_option linter.unusedVariables false
set_option linter.unusedSimpArgs false
set_option maxRecDepth 100000

theorem past_under3 (σ : View) (pv hv : Value) (L : List EntD) (hs : List Nat) (h : PastV σ pv L) (ho : OrdOk L) (hh : Hashes σ hv hs) :
    Tri Tryz.prog 124 #[pv, hv] σ [] (fun v _ H' => ∃ sa sn sc ev, v = .tuple #[.slice sa sn sc, .int .i64 ev] ∧ ((ev = 0 ∧ allH L hs ∧ ∃ b, sa = some ⟨b, 0, none⟩ ∧ sn = L.length ∧ sc = L.length ∧ H' = [(b, rowO 4 ((List.range L.length).map (fun j => Value.bool (decide (inH L hs j)))))]) ∨ (ev = 6 ∧ ¬ allH L hs ∧ H' = []))) := by
  refine (past_under σ pv hv L hs h ho hh).mono ?_
  rintro v σ' H' ⟨rfl, ⟨ha, b, rfl, rfl⟩ | ⟨ha, rfl, rfl⟩⟩
  · exact ⟨_, _, _, _, rfl, .inl ⟨rfl, ha, b, rfl, rfl, rfl, rfl⟩⟩
  · exact ⟨_, _, _, _, rfl, .inr ⟨rfl, ha, rfl⟩⟩
theorem WL_giveR {P : Program} {r : Option Nat} {ops : Array Oper} {Q : Exit → Act → World → Prop} {l : List Oper} {n : Nat} {d : List Deferred} {m : Slots} {σ : View} {H1 H2 : HList} {b : Nat} {o : Obj} (h : ∀ σ', σ.le σ' → σ' b = some o → WL P r ops Q l n d m σ' (H1 ++ H2)) : WL P r ops Q l n d m σ (H1 ++ (b, o) :: H2) :=
  WL.give fun hb => h _ (View.le_add _ hb) (View.add_same _ _ _)
theorem rd_bools {σ : View} {b n i : Nat} {q : Nat → Prop} [DecidablePred q] (h : RdV σ b 0 ((List.range n).map (fun j => Value.bool (decide (q j))))) (hi : i < n) : RdV σ b (0 + i * 1) [Value.bool (decide (q i))] := by
  rw [Nat.mul_one]
  exact RdV.idx (i := i) h (by simp [hi])
/-- under both of two -/
def bothP (L : List EntD) (a b : Nat) (i : Nat) : Prop := inH L [a] i ∧ inH L [b] i
instance (L : List EntD) (a b : Nat) : DecidablePred (bothP L a b) := fun i => by unfold bothP; infer_instance
theorem inH_one {L : List EntD} {a k : Nat} (h : idxOf L a = some k) (i : Nat) : inH L [a] i ↔ (i = k ∨ seesN L i k = true) := by
  have := inH_snoc (hs := []) h i
  rw [List.nil_append] at this
  rw [this]
  exact ⟨fun h => h.resolve_left (inH_nil L i), .inr⟩
theorem bothP_iff {L : List EntD} {a b k1 k2 : Nat} (h1 : idxOf L a = some k1) (h2 : idxOf L b = some k2) (i : Nat) : bothP L a b i ↔ (i = k1 ∨ seesN L i k1 = true) ∧ (i = k2 ∨ seesN L i k2 = true) := by
  unfold bothP
  rw [inH_one h1, inH_one h2]
theorem allH_one {L : List EntD} {a : Nat} : allH L [a] ↔ idxOf L a ≠ none := by
  unfold allH
  exact ⟨fun h => h a (by simp), fun h x hx => by simp at hx; subst hx; exact h⟩
theorem topsN_congr {L : List EntD} {p q : Nat → Prop} [DecidablePred p] [DecidablePred q] (h : ∀ j, p j ↔ q j) (n : Nat) : topsN L p n = topsN L q n := by
  unfold topsN
  refine congrArg _ (List.filter_congr fun i _ => ?_)
  refine decide_eq_decide.2 ?_
  unfold topP
  rw [h i]
  exact and_congr_right fun _ => forall_congr' fun k => imp_congr_right fun _ => by rw [h k]
/-- those that no other has seen, by rising names -/
def rankS (L : List EntD) (p : Nat → Prop) [DecidablePred p] (s : Nat) : List Nat := (((rankL L 0 L.length).take s).filter fun i => decide (topP L p i)).map (idAt L)
theorem rankS_zero (L : List EntD) (p : Nat → Prop) [DecidablePred p] : rankS L p 0 = [] := by simp [rankS]
theorem rankS_yes {L : List EntD} {p : Nat → Prop} [DecidablePred p] {s k : Nat} (h : (rankL L 0 L.length)[s]? = some k) (hp : topP L p k) : rankS L p (s + 1) = rankS L p s ++ [idAt L k] := by
  unfold rankS
  rw [List.take_add_one, h, Option.toList_some, List.filter_append, List.map_append]
  simp [hp]
theorem rankS_no {L : List EntD} {p : Nat → Prop} [DecidablePred p] {s k : Nat} (h : (rankL L 0 L.length)[s]? = some k) (hp : ¬ topP L p k) : rankS L p (s + 1) = rankS L p s := by
  unfold rankS
  rw [List.take_add_one, h, Option.toList_some, List.filter_append, List.map_append]
  simp [hp]
theorem rankS_len (L : List EntD) (p : Nat → Prop) [DecidablePred p] (s : Nat) : (rankS L p s).length ≤ L.length := by
  unfold rankS
  rw [List.length_map]
  refine Nat.le_trans (List.length_filter_le _ _) ?_
  rw [List.length_take, rankL_len]
  omega
theorem rankS_all {L : List EntD} (ho : OrdOk L) {p : Nat → Prop} [DecidablePred p] {s : Nat} (h : (rankL L 0 L.length).length ≤ s) : rankS L p s = sortN (topsN L p L.length) := by
  refine rises_ext _ _ ?_ (sortN_rises (topsN_nodup ho _)) fun x => ?_
  · have hnd : (rankS L p s).Nodup := by
      unfold rankS
      rw [List.take_of_length_le h]
      rw [List.Nodup, List.pairwise_map]
      have h0 : (rankL L 0 L.length).Nodup := (rankL_perm L _ 0 L.length rfl).nodup_iff.2 (List.nodup_range' (step := 1))
      refine List.Pairwise.imp_of_mem ?_ (h0.sublist List.filter_sublist)
      intro a b ha hb hab he
      have ha := (rankL_mem.1 (List.mem_filter.1 ha).1).2
      have hb := (rankL_mem.1 (List.mem_filter.1 hb).1).2
      have e1 := idxOf_of ho.nodup (List.getElem?_eq_getElem ha)
      have e2 := idxOf_of ho.nodup (List.getElem?_eq_getElem hb)
      rw [← idAt_of (List.getElem?_eq_getElem ha)] at e1
      rw [← idAt_of (List.getElem?_eq_getElem hb), ← he, e1] at e2
      exact hab (Option.some.inj e2)
    refine nodup_rises hnd ?_
    unfold rankS
    rw [List.take_of_length_le h]
    rw [List.pairwise_map]
    exact List.Pairwise.imp (fun h => by simpa [leId] using h) ((rankL_sorted L _ 0 L.length rfl).sublist List.filter_sublist)
  · rw [(sortN_perm _).mem_iff, mem_topsN]
    unfold rankS
    rw [List.take_of_length_le h]
    simp only [List.mem_map, List.mem_filter, rankL_mem, Nat.zero_le, true_and, and_assoc, decide_eq_true_eq]

theorem past_Common1 (σ : View) (L : List EntD) (b8 b10 bo bn i : Nat) (qa qb : Nat → Prop) [DecidablePred qa] [DecidablePred qb] (h8 : RdV σ b8 0 [.slice (some ⟨bo, 0, none⟩) L.length L.length]) (h10 : RdV σ b10 0 [.slice (some ⟨bn, 0, none⟩) L.length L.length]) (ho : RdV σ bo 0 ((List.range L.length).map (fun j => Value.bool (decide (qa j))))) (hn : RdV σ bn 0 ((List.range L.length).map (fun j => Value.bool (decide (qb j))))) (hi : i < L.length) (hm : L.length ≤ 4096) :
    TriP Tryz.prog 136 #[.int .i64 (i : Int), .pointer (some ⟨b8, 0, none⟩), .pointer (some ⟨b10, 0, none⟩)] σ (.bool (decide (qa i ∧ qb i))) := by
  refine Tri.of_body [(0, .int .i64 (i : Int)), (1, .pointer (some ⟨b8, 0, none⟩)), (2, .pointer (some ⟨b10, 0, none⟩))] Tryz.func136 rfl Tryz.ntmps136 (by simp) rfl (fun Hr => ?_)
  rw [List.nil_append]
  refine WC.seq ?_
  refine WC.region ?_
  refine WL.pur (Pur.assign rfl) ?_
  refine WL.nil ?_
  refine WQ.thn ?_
  refine WC.seq ?_
  refine WC.region ?_
  refine' WL.pur (Pur.load1 rfl ty_181 ?h1_0) ?k1
  case h1_0 => exact RdV.rd h8
  refine WL.pur (Pur.move rfl) ?_
  refine' WL.pur (Pur.indexAddr rfl rfl sl_181 ?h2_0) ?k2
  case h2_0 => omega
  refine' WL.pur (Pur.load1 rfl ty_4 ?h3_0) ?k3
  case h3_0 => exact RdV.rd (rd_bools ho hi)
  refine WL.pur (Pur.move rfl) ?_
  refine' WL.andp (u := 9) (t := 14) rfl ?h4_0 ?h4_1 ?h4_2 rfl ?k4
  case h4_0 =>
    intro hg9 K9
    refine' WL.gpur (u := 9) rfl rfl (gT hg9) (Pur.load1 rfl ty_181 ?h5_0) ?k5
    case h5_0 => exact RdV.rd h10
    refine WL.gpur (u := 9) rfl rfl (gT hg9) (Pur.move rfl) ?_
    refine' WL.gpur (u := 9) rfl rfl (gT hg9) (Pur.indexAddr rfl rfl sl_181 ?h6_0) ?k6
    case h6_0 => omega
    refine' WL.gpur (u := 9) rfl rfl (gT hg9) (Pur.load1 rfl ty_4 ?h7_0) ?k7
    case h7_0 => exact RdV.rd (rd_bools hn hi)
    exact K9 _ zcR rfl
  case h4_1 =>
    intro hg9 K9
    refine WL.gskip (u := 9) rfl rfl (sT hg9) ?_
    refine WL.gskip (u := 9) rfl rfl (sT hg9) ?_
    refine WL.gskip (u := 9) rfl rfl (sT hg9) ?_
    refine WL.gskip (u := 9) rfl rfl (sT hg9) ?_
    exact K9 _ zcR
  case h4_2 => exact Wanted.plain rfl
  refine WL.pur (Pur.assign rfl) ?_
  refine WL.nil ?_
  refine WQ.thn ?_
  refine WC.ret ?_
  refine WQ.ret1 Tryz.results136 rfl [] zsL (View.le_refl _) ?_
  refine ⟨?_, rfl, rfl⟩
  rfl

set_option maxHeartbeats 2000000 in
theorem past_Common (σ : View) (pv : Value) (L : List EntD) (a b : Nat) (h : PastV σ pv L) (ho : OrdOk L) (ha : IsH a) (hb : IsH b) :
    Tri Tryz.prog 69 #[pv, hashV a, hashV b] σ [] (fun v σ' H' => (∃ sv ev, v = .tuple #[sv, .int .i64 ev] ∧ ((ev = 0 ∧ allH L [a] ∧ allH L [b] ∧ Hashes σ' sv (sortN (topsN L (bothP L a b) L.length))) ∨ (ev = 6 ∧ ¬ (allH L [a] ∧ allH L [b]) ∧ sv = .slice none 0 0))) ∧ H' = []) := by
  have h' := h
  have hmost := ho.most
  obtain ⟨pb, mb, lv, sv, rfl, hr, hl, hm, hs⟩ := h
  have hca := hashCells_length a
  have hcb := hashCells_length b
  refine Tri.of_body [(0, .pointer (some ⟨pb, 0, none⟩)), (1, hashV a), (2, hashV b)] Tryz.func69 rfl Tryz.ntmps69 (by simp) rfl (fun Hr => ?_)
  rw [List.nil_append]
  refine WC.seq ?_
  refine WC.region ?_
  refine WL.new (New.boxN rfl) (fun b4 => ?_)
  refine WL.new (New.boxN rfl) (fun b5 => ?_)
  refine WL.pur (Pur.assign rfl) ?_
  refine WL.pur (Pur.assign rfl) ?_
  refine WL.nil ?_
  refine WQ.thn ?_
  refine WC.seq ?_
  refine WC.region ?_
  refine WL.pur (Pur.move rfl) ?_
  refine' WL.pur (Pur.loadN rfl ty_39 ?h1_0 ?h1_1) ?k1
  case h1_0 => first | (apply Rd.own_sub; exact zmE; exact Sub.refl _) | (apply RdV.rd; assumption)
  case h1_1 => first | rfl | assumption
  refine WL.new (New.buildSliceN (xs := [.tmp 13]) (vss := [_]) sl_41 zc_39 rfl rfl rfl (by rfl) (by rfl)) (fun b14 => ?_)
  refine WL.call (H0 := [(b14, _)]) (Hr := (b5, _) :: (b4, _) :: Hr) rfl Tryz.call124 (List.Perm.refl _) ((SlO.row (T := 39) (b := b14) (ElR.single (E := eHash) (sz := 32) (x := a) rfl rfl ⟨rfl, ha⟩)).hand (byt := 32) eHash_mono (by simp) (fun σ' hl' hs' => past_under3 σ' _ _ L [a] (h'.mono hl') ho hs')) ?_
  rintro _ σ1 HU ⟨svo, so2, so3, ev, rfl, hor⟩ hle1
  refine WL.pur (Pur.move rfl) ?_
  first | refine WL.pur (Pur.ex2_0 rfl) ?_ | refine WL.pur (Pur.ex3_0 rfl) ?_ | refine WL.pur (Pur.extractNext rfl) ?_ | refine WL.pur (Pur.extract rfl rfl) ?_
  first | refine WL.pur (Pur.ex2_1 rfl) ?_ | refine WL.pur (Pur.ex3_1 rfl) ?_ | refine WL.pur (Pur.extract rfl rfl) ?_
  refine WL.new (New.alloc zc_181) (fun b8 => ?_)
  refine' WL.run0 (Run.store1 rfl rfl ty_181 (by first | rfl | assumption) ?h2_0 ?h2_1 sz_181) ?k2
  case h2_0 => repeat (first | exact Part.one | exact Part.here | apply Part.cons | apply Part.app)
  case h2_1 => first | exact Nat.le_of_ble_eq_true rfl | decide | (simp; done) | (simp; omega) | omega
  refine WL.pur (Pur.assign rfl) ?_
  refine WL.nil ?_
  refine WQ.thn ?_
  refine WC.seq ?_
  refine WC.seq ?_
  refine WC.region ?_
  refine WL.pur (Pur.move rfl) ?_
  refine' WL.pur (Pur.bin rfl rfl ?h3_0) ?k3
  case h3_0 => first | exact Bin.neN (b := 0) | exact Bin.neI
  refine WL.nil ?_
  refine WQ.thn ?_
  first | refine WC.cond rfl (fun hc0 => ?_) (fun hc0 => ?_) | refine WC.condB rfl (fun hc0 => ?_) (fun hc0 => ?_)
  · obtain ⟨rfl, hno, rfl⟩ := hor.resolve_left (fun h => hc0 h.1)
    refine WC.seq ?_
    refine WC.region ?_
    refine WL.pur (Pur.move rfl) ?_
    refine WL.pur (Pur.assign rfl) ?_
    refine WL.pur (Pur.assign rfl) ?_
    refine WL.nil ?_
    refine WQ.thn ?_
    refine WC.ret ?_
    refine WQ.thn_ret ?_
    refine WQ.ret2 Tryz.results69 rfl rfl [] (by repeat (first | exact List.Sublist.refl _ | apply List.Sublist.cons)) hle1 ?_
    exact ⟨⟨_, _, rfl, .inr ⟨rfl, fun h => hno h.1, rfl⟩⟩, rfl⟩
  · obtain ⟨rfl, hal, bo, rfl, rfl, rfl, rfl⟩ := hor.resolve_right (fun h => hc0 (by rw [h.1]; decide))
    try rw [List.singleton_append]
    refine WC.skip ?_
    refine WQ.thn ?_
    refine WC.seq ?_
    refine WC.region ?_
    refine WL.pur (Pur.move rfl) ?_
    refine' WL.pur (Pur.loadN rfl ty_39 ?h4_0 ?h4_1) ?k4
    case h4_0 => first | (apply Rd.own_sub; exact zmE; exact Sub.refl _) | (apply RdV.rd; assumption)
    case h4_1 => first | rfl | assumption
    refine WL.new (New.buildSliceN (xs := [.tmp 23]) (vss := [_]) sl_41 zc_39 rfl rfl rfl (by rfl) (by rfl)) (fun b24 => ?_)
    refine WL.call (H0 := [(b24, _)]) (Hr := (b8, _) :: (bo, rowO 4 ((List.range L.length).map (fun j => Value.bool (decide (inH L [a] j))))) :: (b5, _) :: (b4, _) :: Hr) rfl Tryz.call124 (List.Perm.refl _) ((SlO.row (T := 39) (b := b24) (ElR.single (E := eHash) (sz := 32) (x := b) rfl rfl ⟨rfl, hb⟩)).hand (byt := 32) eHash_mono (by simp) (fun σ' hl' hs' => past_under3 σ' _ _ L [b] (h'.mono (View.le_trans hle1 hl')) ho hs')) ?_
    rintro _ σ2 HU2 ⟨svn, sn2, sn3, ev2, rfl, hor2⟩ hle2
    refine WL.pur (Pur.move rfl) ?_
    first | refine WL.pur (Pur.ex2_0 rfl) ?_ | refine WL.pur (Pur.ex3_0 rfl) ?_ | refine WL.pur (Pur.extractNext rfl) ?_ | refine WL.pur (Pur.extract rfl rfl) ?_
    first | refine WL.pur (Pur.ex2_1 rfl) ?_ | refine WL.pur (Pur.ex3_1 rfl) ?_ | refine WL.pur (Pur.extract rfl rfl) ?_
    refine WL.new (New.alloc zc_181) (fun b10 => ?_)
    refine' WL.run0 (Run.store1 rfl rfl ty_181 (by first | rfl | assumption) ?h5_0 ?h5_1 sz_181) ?k5
    case h5_0 => repeat (first | exact Part.one | exact Part.here | apply Part.cons | apply Part.app)
    case h5_1 => first | exact Nat.le_of_ble_eq_true rfl | decide | (simp; done) | (simp; omega) | omega
    refine WL.pur (Pur.assign rfl) ?_
    refine WL.nil ?_
    refine WQ.thn ?_
    refine WC.seq ?_
    refine WC.seq ?_
    refine WC.region ?_
    refine WL.pur (Pur.move rfl) ?_
    refine' WL.pur (Pur.bin rfl rfl ?h6_0) ?k6
    case h6_0 => first | exact Bin.neN (b := 0) | exact Bin.neI
    refine WL.nil ?_
    refine WQ.thn ?_
    first | refine WC.cond rfl (fun hc1 => ?_) (fun hc1 => ?_) | refine WC.condB rfl (fun hc1 => ?_) (fun hc1 => ?_)
    · obtain ⟨rfl, hno, rfl⟩ := hor2.resolve_left (fun h => hc1 h.1)
      refine WC.seq ?_
      refine WC.region ?_
      refine WL.pur (Pur.move rfl) ?_
      refine WL.pur (Pur.assign rfl) ?_
      refine WL.pur (Pur.assign rfl) ?_
      refine WL.nil ?_
      refine WQ.thn ?_
      refine WC.ret ?_
      refine WQ.thn_ret ?_
      refine WQ.ret2 Tryz.results69 rfl rfl [] (by repeat (first | exact List.Sublist.refl _ | apply List.Sublist.cons)) (View.le_trans hle1 hle2) ?_
      exact ⟨⟨_, _, rfl, .inr ⟨rfl, fun h => hno h.2, rfl⟩⟩, rfl⟩
    · obtain ⟨rfl, hal2, bn, rfl, rfl, rfl, rfl⟩ := hor2.resolve_right (fun h => hc1 (by rw [h.1]; decide))
      try rw [List.singleton_append]
      refine WC.skip ?_
      refine WQ.thn ?_
      refine WC.seq ?_
      refine WC.region ?_
      refine WL_giveR (H1 := []) (H2 := _) (fun σ3 r10_l hb_ => ?_)
      rw [List.nil_append]
      have r10 : RdV σ3 b10 0 [.slice (some ⟨bn, 0, none⟩) L.length L.length] := RdV.row hb_
      refine WL_giveR (H1 := []) (H2 := _) (fun σ4 rn_l hb_ => ?_)
      rw [List.nil_append]
      have rn : RdV σ4 bn 0 ((List.range L.length).map (fun j => Value.bool (decide (inH L [b] j)))) := RdV.row hb_
      refine WL_giveR (H1 := []) (H2 := _) (fun σ5 r8_l hb_ => ?_)
      rw [List.nil_append]
      have r8 : RdV σ5 b8 0 [.slice (some ⟨bo, 0, none⟩) L.length L.length] := RdV.row hb_
      refine WL_giveR (H1 := []) (H2 := _) (fun σ6 ro_l hb_ => ?_)
      rw [List.nil_append]
      have ro : RdV σ6 bo 0 ((List.range L.length).map (fun j => Value.bool (decide (inH L [a] j)))) := RdV.row hb_
      have r8 := r8.mono ro_l
      have rn := rn.mono (View.le_trans r8_l ro_l)
      have r10 := r10.mono (View.le_trans rn_l (View.le_trans r8_l ro_l))
      have hle7 := View.le_trans hle1 (View.le_trans hle2 (View.le_trans r10_l (View.le_trans rn_l (View.le_trans r8_l ro_l))))
      refine WL.pur (Pur.move rfl) ?_
      refine WL.pur (Pur.makeFunc rfl rfl) ?_
      refine WL.call (H0 := []) (Hr := (b5, _) :: (b4, _) :: Hr) rfl Tryz.call134 (List.Perm.refl _) (past_tops _ _ L (h'.mono hle7) ho 136 [.pointer (some ⟨b8, 0, none⟩), .pointer (some ⟨b10, 0, none⟩)] (bothP L a b) Tryz.call136 (fun σ1 hls i hi => past_Common1 σ1 L b8 b10 bo bn i (inH L [a]) (inH L [b]) (r8.mono hls) (r10.mono hls) (ro.mono hls) (rn.mono hls) hi hmost)) ?_
      rintro v33 σ8 _ ⟨hK, rfl⟩ hle8
      rw [List.nil_append]
      obtain ⟨ka, kc, rfl, hkc, hkb⟩ := hK.shape
      refine WL.pur (Pur.assign rfl) ?_
      refine WL.pur (Pur.assign rfl) ?_
      refine WL.nil ?_
      refine WQ.thn ?_
      refine WC.ret ?_
      refine WQ.ret2 Tryz.results69 rfl rfl [] (by repeat (first | exact List.Sublist.refl _ | apply List.Sublist.cons)) (View.le_trans hle7 hle8) ?_
      exact ⟨⟨_, _, rfl, .inl ⟨rfl, hal, hal2, hK⟩⟩, rfl⟩

set_option maxHeartbeats 2000000 in
theorem r11_Common (σ : View) (pv : Value) (L : List EntD) (a b : Nat) (h : R11V σ pv L) (ho : OrdOk L) (ha : IsH a) (hb : IsH b) :
    Tri Tryz.prog 133 #[pv, hashV a, hashV b] σ [] (fun v σ' H' => (∃ sv ev, v = .tuple #[sv, .int .i64 ev] ∧ ((ev = 0 ∧ allH L [a] ∧ allH L [b] ∧ ∃ h, SlO σ' eHash 39 32 sv (sortN (topsN L (bothP L a b) L.length)) h ∧ H' = h) ∨ (ev = 6 ∧ ¬ (allH L [a] ∧ allH L [b]) ∧ sv = .slice none 0 0 ∧ H' = [])))) := by
  have h' := h
  have hmost := ho.most
  obtain ⟨pb, plv, psv, pqv, rfl, hr, hE, hS, hQ⟩ := h
  obtain ⟨la, lc, rfl, hlc, hlb⟩ := hE.shape
  obtain ⟨lb, loff, hel⟩ := addr_of hE
  obtain ⟨qa, qc, rfl, hqc, hqb⟩ := hQ.shape
  obtain ⟨qb, qoff, heq⟩ := addr_of hQ
  have hrl := rankL_len L 0 L.length
  have hca := hashCells_length a
  have hcb := hashCells_length b
  refine Tri.of_body [(0, .pointer (some ⟨pb, 0, none⟩)), (1, hashV a), (2, hashV b)] Tryz.func133 rfl Tryz.ntmps133 (by simp) rfl (fun Hr => ?_)
  rw [List.nil_append]
  refine WC.seq ?_
  refine WC.region ?_
  refine WL.new (New.boxN rfl) (fun b4 => ?_)
  refine WL.new (New.boxN rfl) (fun b5 => ?_)
  refine WL.pur (Pur.assign rfl) ?_
  refine WL.pur (Pur.assign rfl) ?_
  refine WL.nil ?_
  refine WQ.thn ?_
  refine WC.seq ?_
  refine WC.drawH 8 8 mixed (by kernel_rfl) rfl ?_
  refine SA.take 0 (by kernel_rfl) rfl rfl rfl (Wanted.plain rfl) zsL (View.le_refl _) (Pur.move rfl) ?_
  refine' SA.take 1 (by kernel_rfl) rfl rfl rfl (Wanted.plain rfl) zsL (View.le_refl _) (Pur.loadN rfl ty_39 ?h1_0 ?h1_1) ?k1
  case h1_0 => first | (apply Rd.own_sub; exact zmE; exact Sub.refl _) | (apply RdV.rd; assumption)
  case h1_1 => first | rfl | assumption
  refine SA.take 3 (by kernel_rfl) rfl rfl rfl (Wanted.plain rfl) zsL (View.le_refl _) (Pur.move rfl) ?_
  refine' SA.take 4 (by kernel_rfl) rfl rfl rfl (Wanted.plain rfl) zsL (View.le_refl _) (Pur.loadN rfl ty_39 ?h2_0 ?h2_1) ?k2
  case h2_0 => first | (apply Rd.own_sub; exact zmE; exact Sub.refl _) | (apply RdV.rd; assumption)
  case h2_1 => first | rfl | assumption
  refine SA.callP 2 rfl rfl (Wanted.plain rfl) (by kernel_rfl) rfl Tryz.call37 zsL (View.le_refl _) ((r11_Number _ _ L a h' ho ha)) ?_
  refine SA.callP 5 rfl rfl (Wanted.plain rfl) (by kernel_rfl) rfl Tryz.call37 zsL (View.le_refl _) ((r11_Number _ _ L b h' ho hb)) ?_
  refine SA.take 6 (by kernel_rfl) rfl rfl rfl (Wanted.plain rfl) zsL (View.le_refl _) (Pur.assign rfl) ?_
  refine SA.take 7 (by kernel_rfl) rfl rfl rfl (Wanted.plain rfl) zsL (View.le_refl _) (Pur.assign rfl) ?_
  refine SA.done (by kernel_rfl) ?_
  refine WQ.thn ?_
  refine WC.seq ?_
  refine WC.seq ?_
  refine WC.region ?_
  refine WL.pur (Pur.move rfl) ?_
  refine' WL.pur (Pur.bin rfl rfl ?h3_0) ?k3
  case h3_0 => first | exact Bin.ltN (b := 0) | exact Bin.ltI | exact Bin.ltS
  refine WL.pur (Pur.move rfl) ?_
  refine' WL.orp (u := 25) (t := 28) rfl ?h4_0 ?h4_1 ?h4_2 rfl ?k4
  case h4_0 =>
    intro hg25 K25
    refine WL.gpur (u := 25) rfl rfl (gF hg25) (Pur.move rfl) ?_
    refine' WL.gpur (u := 25) rfl rfl (gF hg25) (Pur.bin rfl rfl ?h5_0) ?k5
    case h5_0 => first | exact Bin.ltN (b := 0) | exact Bin.ltI | exact Bin.ltS
    exact K25 _ zcR rfl
  case h4_1 =>
    intro hg25 K25
    refine WL.gskip (u := 25) rfl rfl (sF hg25) ?_
    refine WL.gskip (u := 25) rfl rfl (sF hg25) ?_
    exact K25 _ zcR
  case h4_2 => exact Wanted.plain rfl
  refine WL.nil ?_
  refine WQ.thn ?_
  first | refine WC.cond rfl (fun hc0 => ?_) (fun hc0 => ?_) | refine WC.condB rfl (fun hc0 => ?_) (fun hc0 => ?_)
  · have hno : ¬ (allH L [a] ∧ allH L [b]) := fun h => hc0.elim (fun h1 => allH_one.1 h.1 (numV_none.1 h1)) (fun h1 => allH_one.1 h.2 (numV_none.1 h1))
    refine WC.seq ?_
    refine WC.region ?_
    refine WL.pur (Pur.assign rfl) ?_
    refine WL.pur (Pur.assign rfl) ?_
    refine WL.nil ?_
    refine WQ.thn ?_
    refine WC.ret ?_
    refine WQ.thn_ret ?_
    refine WQ.ret2 Tryz.results133 rfl rfl [] (by first | exact List.Sublist.append_left (by repeat (first | exact List.Sublist.refl _ | apply List.Sublist.cons)) _ | (repeat (first | exact List.Sublist.refl _ | apply List.Sublist.cons))) (View.le_refl _) ?_
    exact ⟨_, _, rfl, .inr ⟨rfl, hno, rfl, rfl⟩⟩
  · obtain ⟨k1, hk1, hn1⟩ := numV_some (o := idxOf L a) (fun h => hc0 (.inl h))
    obtain ⟨k2, hk2, hn2⟩ := numV_some (o := idxOf L b) (fun h => hc0 (.inr h))
    rw [hn1, hn2]
    have hk1l := idxOf_lt hk1
    have hk2l := idxOf_lt hk2
    refine WC.skip ?_
    refine WQ.thn ?_
    refine WC.seq ?_
    refine WC.region ?_
    refine WL.pur (Pur.move rfl) ?_
    refine WL.pur (Pur.nilCheck rfl) ?_
    refine WL.pur (Pur.fieldAddr rfl fo_74_0) ?_
    refine' WL.pur (Pur.load1 rfl ty_22 ?h6_0) ?k6
    case h6_0 => first | (apply Rd.own1; exact zmE; rfl) | (apply RdV.rd; apply RdV.idx (i := 0); assumption; rfl)
    refine WL.pur (Pur.len rfl isSlice_22) ?_
    refine WL.any (Any.make1 sl_181 zc_4 by_4 rfl rfl (by omega) (by omega)) ?_
    rintro _ σ _ ⟨b34, rfl, rfl, rfl⟩ _
    refine WL.pur (Pur.assign rfl) ?_
    refine WL.nil ?_
    refine WQ.thn ?_
    refine WC.seq ?_
    refine WC.seq ?_
    refine WC.region ?_
    refine WL.pur (Pur.assign rfl) ?_
    refine WL.nil ?_
    refine WQ.thn ?_
    refine WC.block ?_
    rw [rowB_new (N := L.length) (Q := fun j => j < 0 ∧ ((j = k1 ∨ seesN L j k1 = true) ∧ (j = k2 ∨ seesN L j k2 = true))) (fun j h => absurd h.1 (Nat.not_lt_zero _))]
    refine WC.loop (fun j m σ' H' => ∃ (c : Nat), j = L.length - c ∧ c ≤ L.length ∧ m = [(0, .pointer (some ⟨pb, 0, none⟩)), (8, .int .i64 (k1 : Int)), (9, .int .i64 (k2 : Int)), (10, .slice (some ⟨b34, 0, none⟩) L.length L.length), (11, .int .i64 (c : Int))] ∧ σ' = σ ∧ H' = (b34, rowO 4 ((List.range L.length).map (fun j => Value.bool (decide (j < c ∧ ((j = k1 ∨ seesN L j k1 = true) ∧ (j = k2 ∨ seesN L j k2 = true))))))) :: Hr) ⟨0, rfl, by omega, rfl, rfl, rfl⟩ zcV zsL ?_
    rintro _ _ σ Hr ⟨c, rfl, hc2, rfl, rfl, rfl⟩
    refine WC.seq ?_
    refine WC.seq ?_
    refine WC.region ?_
    refine WL.pur (Pur.move rfl) ?_
    refine WL.pur (Pur.move rfl) ?_
    refine WL.pur (Pur.nilCheck rfl) ?_
    refine WL.pur (Pur.fieldAddr rfl fo_74_0) ?_
    refine' WL.pur (Pur.load1 rfl ty_22 ?h7_0) ?k7
    case h7_0 => first | (apply Rd.own1; exact zmE; rfl) | (apply RdV.rd; apply RdV.idx (i := 0); assumption; rfl)
    refine WL.pur (Pur.len rfl isSlice_22) ?_
    refine' WL.pur (Pur.bin rfl rfl ?h8_0) ?k8
    case h8_0 => first | exact Bin.ltN | exact Bin.ltI | exact Bin.ltS
    refine WL.nil ?_
    refine WQ.thn ?_
    first | refine WC.cond rfl (fun hc1 => ?_) (fun hc1 => ?_) | refine WC.condB rfl (fun hc1 => ?_) (fun hc1 => ?_)
    · refine WC.skip ?_
      refine WQ.thn ?_
      refine WC.seq ?_
      refine WC.block ?_
      refine WC.region ?_
      refine WL.pur (Pur.move rfl) ?_
      refine WL.pur (Pur.move rfl) ?_
      refine WL.pur (Pur.move rfl) ?_
      refine WL.pur (Pur.move rfl) ?_
      refine' WL.pur (Pur.bin rfl rfl ?h9_0) ?k9
      case h9_0 => first | exact Bin.eqN | exact Bin.eqI
      refine WL.pur (Pur.move rfl) ?_
      refine' WL.orp (u := 49) (t := 54) rfl ?h10_0 ?h10_1 ?h10_2 rfl ?k10
      case h10_0 =>
        intro hg49 K49
        refine WL.gpur (u := 49) rfl rfl (gF hg49) (Pur.move rfl) ?_
        refine WL.gpur (u := 49) rfl rfl (gF hg49) (Pur.move rfl) ?_
        refine WL.gpur (u := 49) rfl rfl (gF hg49) (Pur.move rfl) ?_
        refine WL.gcallP (u := 49) rfl rfl (gF hg49) rfl Tryz.call115 ((r11_Sees _ _ L c k1 h' ho hk1l (by omega))) ?_
        exact K49 _ zcR rfl
      case h10_1 =>
        intro hg49 K49
        refine WL.gskip (u := 49) rfl rfl (sF hg49) ?_
        refine WL.gskip (u := 49) rfl rfl (sF hg49) ?_
        refine WL.gskip (u := 49) rfl rfl (sF hg49) ?_
        refine WL.gskip (u := 49) rfl rfl (sF hg49) ?_
        exact K49 _ zcR
      case h10_2 => exact Wanted.plain rfl
      refine WL.pur (Pur.move rfl) ?_
      refine' WL.andp (u := 55) (t := 65) rfl ?h11_0 ?h11_1 ?h11_2 rfl ?k11
      case h11_0 =>
        intro hg55 K55
        refine WL.gpur (u := 55) rfl rfl (gT hg55) (Pur.move rfl) ?_
        refine WL.gpur (u := 55) rfl rfl (gT hg55) (Pur.move rfl) ?_
        refine' WL.gpur (u := 55) rfl rfl (gT hg55) (Pur.bin rfl rfl ?h12_0) ?k12
        case h12_0 => first | exact Bin.eqN | exact Bin.eqI
        refine WL.gpur (u := 55) rfl rfl (gT hg55) (Pur.move rfl) ?_
        refine' WL.orp (u := 59) (t := 64) rfl ?h13_0 ?h13_1 ?h13_2 rfl ?k13
        case h13_0 =>
          intro hg59 K59
          refine WL.gpur (u := 59) rfl rfl (gF hg59) (Pur.move rfl) ?_
          refine WL.gpur (u := 59) rfl rfl (gF hg59) (Pur.move rfl) ?_
          refine WL.gpur (u := 59) rfl rfl (gF hg59) (Pur.move rfl) ?_
          refine WL.gcallP (u := 59) rfl rfl (gF hg59) rfl Tryz.call115 ((r11_Sees _ _ L c k2 h' ho hk2l (by omega))) ?_
          exact K59 _ zcR rfl
        case h13_1 =>
          intro hg59 K59
          refine WL.gskip (u := 59) rfl rfl (sF hg59) ?_
          refine WL.gskip (u := 59) rfl rfl (sF hg59) ?_
          refine WL.gskip (u := 59) rfl rfl (sF hg59) ?_
          refine WL.gskip (u := 59) rfl rfl (sF hg59) ?_
          exact K59 _ zcR
        case h13_2 => exact Wanted.guard (u := 55) rfl rfl rfl (gT hg55)
        exact K55 _ zcR rfl
      case h11_1 =>
        intro hg55 K55
        refine WL.gskip (u := 55) rfl rfl (sT hg55) ?_
        refine WL.gskip (u := 55) rfl rfl (sT hg55) ?_
        refine WL.gskip (u := 55) rfl rfl (sT hg55) ?_
        refine WL.gskip (u := 55) rfl rfl (sT hg55) ?_
        refine WL.gskipU (u := 59) rfl rfl ?_
        refine WL.gskipU (u := 59) rfl rfl ?_
        refine WL.gskipU (u := 59) rfl rfl ?_
        refine WL.gskipU (u := 59) rfl rfl ?_
        refine WL.gskip (u := 55) rfl rfl (sT hg55) ?_
        exact K55 _ zcR
      case h11_2 => exact Wanted.plain rfl
      refine' WL.pur (Pur.indexAddr rfl rfl sl_181 ?h14_0) ?k14
      case h14_0 => omega
      refine' WL.run0 (Run.storeF rfl rfl ty_4 (by first | rfl | assumption) ?h15_0 ?h15_1 sz_4) ?k15
      case h15_0 => repeat (first | exact Part.one | exact Part.here | apply Part.cons | apply Part.app)
      case h15_1 => first | assumption | omega
      refine WL.nil ?_
      refine WQ.blk ?_
      refine WQ.thn ?_
      refine WC.region ?_
      refine WL.pur (Pur.move rfl) ?_
      refine' WL.pur (Pur.bin rfl rfl ?h16_0) ?k16
      case h16_0 => first | (refine Bin.addN (b := 1) ?_; omega) | (refine Bin.addI ?_; omega)
      refine WL.pur (Pur.assign rfl) ?_
      refine WL.nil ?_
      rw [rowB_put (N := L.length) (k := c) (Q := fun j => j < c ∧ ((j = k1 ∨ seesN L j k1 = true) ∧ (j = k2 ∨ seesN L j k2 = true))) (Q' := fun j => j < c + 1 ∧ ((j = k1 ∨ seesN L j k1 = true) ∧ (j = k2 ∨ seesN L j k2 = true))) (by constructor; (rintro ⟨_, h1, h2⟩; exact ⟨h1.imp (fun h => by omega) id, h2.imp (fun h => by omega) id⟩); (rintro ⟨h1, h2⟩; exact ⟨by omega, h1.imp (fun h => by omega) id, h2.imp (fun h => by omega) id⟩)) (fun j hj => by constructor; (rintro ⟨h1, h2⟩; exact ⟨by omega, h2⟩); (rintro ⟨h1, h2⟩; exact ⟨by omega, h2⟩))]
      refine WQ.back _ ⟨c + 1, rfl, by omega, rfl, rfl, rfl⟩ (by omega) zcV zsL
    · have hcc : c = L.length := by omega
      subst hcc
      rw [rowB_congr (N := L.length) (Q := fun j => j < L.length ∧ ((j = k1 ∨ seesN L j k1 = true) ∧ (j = k2 ∨ seesN L j k2 = true))) (Q' := fun j => (j = k1 ∨ seesN L j k1 = true) ∧ (j = k2 ∨ seesN L j k2 = true)) (fun j hj => ⟨fun h => h.2, fun h => ⟨hj, h⟩⟩)]
      refine WC.exit ?_
      refine WQ.thn_exit ?_
      refine WQ.back_exit ?_
      refine WQ.blk_here ?_
      refine WQ.thn ?_
      refine WC.seq ?_
      refine WC.region ?_
      refine WL.new (New.buildSlice0 sl_41) (fun b67 => ?_)
      refine WL.pur (Pur.assign rfl) ?_
      refine WL.nil ?_
      refine WQ.thn ?_
      refine WC.seq ?_
      refine WC.seq ?_
      refine WC.region ?_
      refine WL.pur (Pur.assign rfl) ?_
      refine WL.nil ?_
      refine WQ.thn ?_
      refine WC.block ?_
      refine WC.loop (fun j m σ' H' => ∃ (s : Nat) (sv : Value) (hl : HList), j = (rankL L 0 L.length).length - s ∧ s ≤ (rankL L 0 L.length).length ∧ SlO σ' eHash 39 32 sv (rankS L (fun j => (j = k1 ∨ seesN L j k1 = true) ∧ (j = k2 ∨ seesN L j k2 = true)) s) hl ∧ m = [(0, .pointer (some ⟨pb, 0, none⟩)), (10, .slice (some ⟨b34, 0, none⟩) L.length L.length), (12, sv), (13, .int .i64 (s : Int))] ∧ σ' = σ ∧ H' = hl ++ ((b34, rowO 4 ((List.range L.length).map (fun j => Value.bool (decide ((j = k1 ∨ seesN L j k1 = true) ∧ (j = k2 ∨ seesN L j k2 = true)))))) :: Hr)) ⟨0, _, [(b67, rowO 39 [])], rfl, by omega, by rw [rankS_zero]; exact SlO.row (b := b67) (ElR.nil (σ := σ) (E := eHash) (sz := 32)), rfl, rfl, rfl⟩ zcV zsL ?_
      rintro _ _ σ Hr ⟨s, sv, hl, rfl, hs, hso, rfl, rfl, rfl⟩
      refine WC.seq ?_
      refine WC.seq ?_
      refine WC.region ?_
      refine WL.pur (Pur.move rfl) ?_
      refine WL.pur (Pur.move rfl) ?_
      refine WL.pur (Pur.nilCheck rfl) ?_
      refine WL.pur (Pur.fieldAddr rfl fo_74_2) ?_
      refine' WL.pur (Pur.load1 rfl ty_72 ?h17_0) ?k17
      case h17_0 => first | (apply Rd.own1; exact zmE; rfl) | (apply RdV.rd; apply RdV.idx (i := 2); assumption; rfl) | (apply RdV.rd; apply RdV.idx (off := 0) (i := 2); assumption; rfl)
      refine WL.pur (Pur.len rfl isSlice_72) ?_
      refine' WL.pur (Pur.bin rfl rfl ?h18_0) ?k18
      case h18_0 => first | exact Bin.ltN | exact Bin.ltI | exact Bin.ltS
      refine WL.nil ?_
      refine WQ.thn ?_
      first | refine WC.cond rfl (fun hc2 => ?_) (fun hc2 => ?_) | refine WC.condB rfl (fun hc2 => ?_) (fun hc2 => ?_)
      · obtain ⟨k, hk⟩ : ∃ k, (rankL L 0 L.length)[s]? = some k := ⟨_, List.getElem?_eq_getElem hc2⟩
        have hkl : k < L.length := (rankL_mem.1 (List.mem_of_getElem? hk)).2
        have hkr := natE_rd hQ heq hk
        obtain ⟨e, he⟩ : ∃ e, L[k]? = some e := ⟨_, List.getElem?_eq_getElem hkl⟩
        obtain ⟨qv, ov, hrd, heH, hNR⟩ := ent_rd hE hel he
        have hul := rankS_len L (fun j => (j = k1 ∨ seesN L j k1 = true) ∧ (j = k2 ∨ seesN L j k2 = true)) s
        refine WC.skip ?_
        refine WQ.thn ?_
        refine WC.seq ?_
        refine WC.block ?_
        refine WC.seq ?_
        refine WC.region ?_
        refine WL.pur (Pur.move rfl) ?_
        refine WL.pur (Pur.nilCheck rfl) ?_
        refine WL.pur (Pur.fieldAddr rfl fo_74_2) ?_
        refine' WL.pur (Pur.load1 rfl ty_72 ?h19_0) ?k19
        case h19_0 => first | (apply Rd.own1; exact zmE; rfl) | (apply RdV.rd; apply RdV.idx (i := 2); assumption; rfl) | (apply RdV.rd; apply RdV.idx (off := 0) (i := 2); assumption; rfl)
        refine WL.pur (Pur.move rfl) ?_
        refine' WL.pur (Pur.indexAddr (eqA (heq (by omega))) rfl sl_72 ?h20_0) ?k20
        case h20_0 => omega
        refine' WL.pur (Pur.load1 rfl ty_3 ?h21_0) ?k21
        case h21_0 => exact RdV.rd hkr
        refine WL.pur (Pur.assign rfl) ?_
        refine WL.nil ?_
        refine WQ.thn ?_
        refine WC.seq ?_
        refine WC.region ?_
        refine WL.pur (Pur.move rfl) ?_
        refine WL.pur (Pur.move rfl) ?_
        refine' WL.pur (Pur.indexAddr rfl rfl sl_181 ?h22_0) ?k22
        case h22_0 => omega
        refine' WL.pur (Pur.load1 rfl ty_4 ?h23_0) ?k23
        case h23_0 => apply Rd.own1; exact zmE; exact get_range_map1 hkl
        refine WL.pur (Pur.assign rfl) ?_
        refine WL.nil ?_
        refine WQ.thn ?_
        refine WC.seq ?_
        refine WC.seq ?_
        refine WC.region ?_
        refine WL.pur (Pur.move rfl) ?_
        refine' WL.pur (Pur.bin rfl rfl ?h24_0) ?k24
        case h24_0 => first | (refine Bin.addN (b := 1) ?_; omega) | (refine Bin.addI ?_; omega)
        refine WL.pur (Pur.assign rfl) ?_
        refine WL.nil ?_
        refine WQ.thn ?_
        refine WC.block ?_
        refine WC.loop (fun j m σ' H' => ∃ (m0 : Nat) (tp : Prop) (_ : Decidable tp), j = L.length - m0 ∧ k < m0 ∧ m0 ≤ L.length ∧ (tp ↔ ((k = k1 ∨ seesN L k k1 = true) ∧ (k = k2 ∨ seesN L k k2 = true)) ∧ topTo L (fun j => (j = k1 ∨ seesN L j k1 = true) ∧ (j = k2 ∨ seesN L j k2 = true)) k m0) ∧ m = [(0, .pointer (some ⟨pb, 0, none⟩)), (10, .slice (some ⟨b34, 0, none⟩) L.length L.length), (12, sv), (13, .int .i64 (s : Int)), (14, .int .i64 (k : Int)), (15, .bool (decide tp)), (16, .int .i64 (m0 : Int))] ∧ σ' = σ ∧ H' = hl ++ ((b34, rowO 4 ((List.range L.length).map (fun j => Value.bool (decide ((j = k1 ∨ seesN L j k1 = true) ∧ (j = k2 ∨ seesN L j k2 = true)))))) :: Hr)) ⟨k + 1, _, inferInstance, rfl, by omega, by omega, ⟨fun h => ⟨h, fun _ h1 h2 => by omega⟩, fun h => h.1⟩, rfl, rfl, rfl⟩ zcV zsL ?_
        rintro _ _ σ Hr ⟨m0, tp, hdec, rfl, hkm, hm0, htp, rfl, rfl, rfl⟩
        refine WC.seq ?_
        refine WC.seq ?_
        refine WC.region ?_
        refine WL.pur (Pur.move rfl) ?_
        refine WL.pur (Pur.move rfl) ?_
        refine WL.pur (Pur.nilCheck rfl) ?_
        refine WL.pur (Pur.fieldAddr rfl fo_74_0) ?_
        refine' WL.pur (Pur.load1 rfl ty_22 ?h25_0) ?k25
        case h25_0 => first | (apply Rd.own1; exact zmE; rfl) | (apply RdV.rd; apply RdV.idx (i := 0); assumption; rfl)
        refine WL.pur (Pur.len rfl isSlice_22) ?_
        refine' WL.pur (Pur.bin rfl rfl ?h26_0) ?k26
        case h26_0 => first | exact Bin.ltN | exact Bin.ltI | exact Bin.ltS
        refine WL.pur (Pur.move rfl) ?_
        refine' WL.andp (u := 97) (t := 99) rfl ?h27_0 ?h27_1 ?h27_2 rfl ?k27
        case h27_0 =>
          intro hg97 K97
          refine WL.gpur (u := 97) rfl rfl (gT hg97) (Pur.move rfl) ?_
          exact K97 _ zcR rfl
        case h27_1 =>
          intro hg97 K97
          refine WL.gskip (u := 97) rfl rfl (sT hg97) ?_
          exact K97 _ zcR
        case h27_2 => exact Wanted.plain rfl
        refine WL.nil ?_
        refine WQ.thn ?_
        first | refine WC.cond rfl (fun hc3 => ?_) (fun hc3 => ?_) | refine WC.condB rfl (fun hc3 => ?_) (fun hc3 => ?_)
        · have hml : m0 < L.length := hc3.1
          have hstep : (¬ (((m0 = k1 ∨ seesN L m0 k1 = true) ∧ (m0 = k2 ∨ seesN L m0 k2 = true)) ∧ seesN L k m0 = true)) ↔ ((k = k1 ∨ seesN L k k1 = true) ∧ (k = k2 ∨ seesN L k k2 = true)) ∧ topTo L (fun j => (j = k1 ∨ seesN L j k1 = true) ∧ (j = k2 ∨ seesN L j k2 = true)) k (m0 + 1) := by
            have h0 := htp.1 hc3.2
            constructor
            · intro h1
              refine ⟨h0.1, fun x h2 h3 hc => ?_⟩
              by_cases hx : x = m0
              · subst hx; exact h1 hc
              · exact h0.2 x h2 (by omega) hc
            · exact fun h1 h2 => h1.2 m0 hkm (by omega) h2
          refine WC.skip ?_
          refine WQ.thn ?_
          refine WC.seq ?_
          refine WC.block ?_
          refine WC.region ?_
          refine WL.pur (Pur.move rfl) ?_
          refine WL.pur (Pur.move rfl) ?_
          refine' WL.pur (Pur.indexAddr rfl rfl sl_181 ?h28_0) ?k28
          case h28_0 => omega
          refine' WL.pur (Pur.load1 rfl ty_4 ?h29_0) ?k29
          case h29_0 => apply Rd.own1; exact zmE; exact get_range_map1 hml
          refine WL.pur (Pur.move rfl) ?_
          refine' WL.andp (u := 106) (t := 111) rfl ?h30_0 ?h30_1 ?h30_2 rfl ?k30
          case h30_0 =>
            intro hg106 K106
            refine WL.gpur (u := 106) rfl rfl (gT hg106) (Pur.move rfl) ?_
            refine WL.gpur (u := 106) rfl rfl (gT hg106) (Pur.move rfl) ?_
            refine WL.gpur (u := 106) rfl rfl (gT hg106) (Pur.move rfl) ?_
            refine WL.gcallP (u := 106) rfl rfl (gT hg106) rfl Tryz.call115 ((r11_Sees _ _ L k m0 h' ho (by omega) hkl)) ?_
            exact K106 _ zcR rfl
          case h30_1 =>
            intro hg106 K106
            refine WL.gskip (u := 106) rfl rfl (sT hg106) ?_
            refine WL.gskip (u := 106) rfl rfl (sT hg106) ?_
            refine WL.gskip (u := 106) rfl rfl (sT hg106) ?_
            refine WL.gskip (u := 106) rfl rfl (sT hg106) ?_
            exact K106 _ zcR
          case h30_2 => exact Wanted.plain rfl
          first | refine WL.pur (Pur.not rfl) ?_ | refine WL.pur (Pur.notB rfl) ?_
          refine WL.pur (Pur.assign rfl) ?_
          refine WL.nil ?_
          refine WQ.blk ?_
          refine WQ.thn ?_
          refine WC.region ?_
          refine WL.pur (Pur.move rfl) ?_
          refine' WL.pur (Pur.bin rfl rfl ?h31_0) ?k31
          case h31_0 => first | (refine Bin.addN (b := 1) ?_; omega) | (refine Bin.addI ?_; omega)
          refine WL.pur (Pur.assign rfl) ?_
          refine WL.nil ?_
          refine WQ.back _ ⟨m0 + 1, _, inferInstance, rfl, by omega, by omega, hstep, rfl, rfl, rfl⟩ (by omega) zcV zsL
        · refine WC.exit ?_
          refine WQ.thn_exit ?_
          refine WQ.back_exit ?_
          refine WQ.blk_here ?_
          refine WQ.thn ?_
          refine WC.seq ?_
          refine WC.region ?_
          refine WL.pur (Pur.move rfl) ?_
          refine WL.nil ?_
          refine WQ.thn ?_
          first | refine WC.cond rfl (fun hc4 => ?_) (fun hc4 => ?_) | refine WC.condB rfl (fun hc4 => ?_) (fun hc4 => ?_)
          · have hmm : m0 = L.length := Classical.byContradiction fun hc => hc3 ⟨by omega, hc4⟩
            subst hmm
            have htop : topP L (fun j => (j = k1 ∨ seesN L j k1 = true) ∧ (j = k2 ∨ seesN L j k2 = true)) k := (topTo_iff ho (htp.1 hc4).1).1 (htp.1 hc4).2
            refine WC.region ?_
            refine WL.pur (Pur.move rfl) ?_
            refine WL.pur (Pur.move rfl) ?_
            refine WL.pur (Pur.nilCheck rfl) ?_
            refine WL.pur (Pur.fieldAddr rfl fo_74_0) ?_
            refine' WL.pur (Pur.load1 rfl ty_22 ?h32_0) ?k32
            case h32_0 => first | (apply Rd.own1; exact zmE; rfl) | (apply RdV.rd; apply RdV.idx (i := 0); assumption; rfl)
            refine WL.pur (Pur.move rfl) ?_
            refine' WL.pur (Pur.indexAddr (eqA (hel (by omega))) rfl sl_22 ?h33_0) ?k33
            case h33_0 => omega
            refine WL.pur (Pur.fieldAddr rfl fo_45_0) ?_
            refine' WL.pur (Pur.loadN rfl ty_39 ?h34_0 ?h34_1) ?k34
            case h34_0 => apply RdV.rd; apply RdV.sub0; exact hrd; exact Sub.ent_hash _ _ _ _ _
            case h34_1 => first | rfl | assumption
            refine WL.new (New.buildSliceN (xs := [.tmp 122]) (vss := [hashCells e.id]) sl_41 zc_39 rfl rfl rfl (by rfl) (by rfl)) (fun b123 => ?_)
            refine' WL.any (Any.push (H1 := [(b123, _)]) (H2 := (b34, rowO 4 ((List.range L.length).map (fun j => Value.bool (decide ((j = k1 ∨ seesN L j k1 = true) ∧ (j = k2 ∨ seesN L j k2 = true)))))) :: Hr) sl_41 zc_39 rfl by_39 rfl rfl hso ?h35_0 ?h35_1 ?h35_2 ?h35_3 rfl (by omega) (by omega)) ?k35
            case h35_0 => apply Rd.own_sub; exact zmE; exact Sub.refl _
            case h35_1 => first | rfl | assumption
            case h35_2 => first | rfl | assumption
            case h35_3 => exact ⟨rfl, heH⟩
            rintro v124 σ _ ⟨hl3, hso3, rfl, rfl⟩ _
            refine WL.pur (Pur.assign rfl) ?_
            refine WL.nil ?_
            refine WQ.blk ?_
            refine WQ.thn ?_
            refine WC.region ?_
            refine WL.pur (Pur.move rfl) ?_
            refine' WL.pur (Pur.bin rfl rfl ?h36_0) ?k36
            case h36_0 => first | (refine Bin.addN (b := 1) ?_; omega) | (refine Bin.addI ?_; omega)
            refine WL.pur (Pur.assign rfl) ?_
            refine WL.nil ?_
            refine WQ.back _ ⟨s + 1, _, _, rfl, by omega, by rw [rankS_yes hk htop, idAt_of he]; exact hso3, rfl, rfl, rfl⟩ (by omega) zcV zsL
          · have htop : ¬ topP L (fun j => (j = k1 ∨ seesN L j k1 = true) ∧ (j = k2 ∨ seesN L j k2 = true)) k := fun h => hc4 (htp.2 ⟨h.1, fun x h1 h2 => ((topTo_iff ho h.1).2 h) x h1 (by omega)⟩)
            refine WC.skip ?_
            refine WQ.blk ?_
            refine WQ.thn ?_
            refine WC.region ?_
            refine WL.pur (Pur.move rfl) ?_
            refine' WL.pur (Pur.bin rfl rfl ?h37_0) ?k37
            case h37_0 => first | (refine Bin.addN (b := 1) ?_; omega) | (refine Bin.addI ?_; omega)
            refine WL.pur (Pur.assign rfl) ?_
            refine WL.nil ?_
            refine WQ.back _ ⟨s + 1, _, _, rfl, by omega, by rw [rankS_no hk htop]; exact hso, rfl, rfl, rfl⟩ (by omega) zcV zsL
      · have hss : s = (rankL L 0 L.length).length := by omega
        subst hss
        rw [rankS_all ho (Nat.le_refl _), topsN_congr (fun j => (bothP_iff hk1 hk2 j).symm)] at hso
        refine WC.exit ?_
        refine WQ.thn_exit ?_
        refine WQ.back_exit ?_
        refine WQ.blk_here ?_
        refine WQ.thn ?_
        refine WC.seq ?_
        refine WC.region ?_
        refine WL.pur (Pur.move rfl) ?_
        refine WL.pur (Pur.assign rfl) ?_
        refine WL.pur (Pur.assign rfl) ?_
        refine WL.nil ?_
        refine WQ.thn ?_
        refine WC.ret ?_
        refine WQ.ret2 Tryz.results133 rfl rfl hl (by first | exact List.Sublist.append_left (by repeat (first | exact List.Sublist.refl _ | apply List.Sublist.cons)) _ | (repeat (first | exact List.Sublist.refl _ | apply List.Sublist.cons))) (View.le_refl _) ?_
        exact ⟨_, _, rfl, .inl ⟨rfl, allH_one.2 (by rw [hk1]; simp), allH_one.2 (by rw [hk2]; simp), _, hso, rfl⟩⟩

end Go.Proofs.YtgoooilgmabkmaaGreat
namespace Go.Proofs.YtgoooilgmabkmaaGreat
open Go Go.Sl
set_option linter.unusedVariables false
set_option linter.unusedSimpArgs false
set_option maxRecDepth 100000

instance : DecidableEq NodeD := fun a b => decidable_of_iff (a.au = b.au ∧ a.cl = b.cl ∧ a.ps = b.ps ∧ a.ops = b.ops)
  ⟨fun ⟨h1, h2, h3, h4⟩ => by cases a; cases b; simp only at h1 h2 h3 h4; subst h1; subst h2; subst h3; subst h4; rfl, fun h => by subst h; exact ⟨rfl, rfl, rfl, rfl⟩⟩
instance : DecidableEq EntD := fun a b => decidable_of_iff (a.id = b.id ∧ a.node = b.node)
  ⟨fun ⟨h1, h2⟩ => by cases a; cases b; simp only at h1 h2; subst h1; subst h2; rfl, fun h => by subst h; exact ⟨rfl, rfl⟩⟩
theorem opD_eq {a b : OpD} : (((((a.kind = b.kind ∧ a.key = b.key) ∧ a.text = b.text) ∧ a.n = b.n) ∧ a.ato = b.ato) ∧ a.atn = b.atn) ↔ a = b := by
  constructor
  · rintro ⟨⟨⟨⟨⟨h1, h2⟩, h3⟩, h4⟩, h5⟩, h6⟩
    cases a; cases b
    simp only at h1 h2 h3 h4 h5 h6
    subst h1; subst h2; subst h3; subst h4; subst h5; subst h6; rfl
  · rintro rfl; exact ⟨⟨⟨⟨⟨rfl, rfl⟩, rfl⟩, rfl⟩, rfl⟩, rfl⟩
theorem entD_eq {a b : EntD} : (a.id = b.id ∧ a.node = b.node) ↔ a = b := by
  constructor
  · rintro ⟨h1, h2⟩
    cases a; cases b
    simp only at h1 h2
    subst h1; subst h2; rfl
  · rintro rfl; exact ⟨rfl, rfl⟩
theorem nodeD_eq {a b : NodeD} (h1 : a.au = b.au) (h2 : a.cl = b.cl) (h3 : a.ps = b.ps) (h4 : a.ops = b.ops) : a = b := by
  cases a; cases b
  simp only at h1 h2 h3 h4
  subst h1; subst h2; subst h3; subst h4; rfl

theorem r1_Same (σ : View) (av bv : Value) (a b : List Nat) (ha : Hashes σ av a) (hb : Hashes σ bv b) :
    TriP Tryz.prog 114 #[av, bv] σ (.bool (decide (a = b))) := by
  have ha' := ha; have hb' := hb
  obtain ⟨aa, ac, rfl, hac, hab⟩ := ha.shape
  obtain ⟨ba, bc, rfl, hbc, hbb⟩ := hb.shape
  refine Tri.of_body [(0, .slice aa a.length ac), (1, .slice ba b.length bc)] Tryz.func114 rfl Tryz.ntmps114 (by simp) rfl (fun Hr => ?_)
  rw [List.nil_append]
  refine WC.seq ?_
  refine WC.region ?_
  refine WL.pur (Pur.assign rfl) ?_
  refine WL.nil ?_
  refine WQ.thn ?_
  refine WC.seq ?_
  refine WC.seq ?_
  refine WC.region ?_
  refine WL.pur (Pur.move rfl) ?_
  refine WL.pur (Pur.len rfl isSlice_41) ?_
  refine WL.pur (Pur.move rfl) ?_
  refine WL.pur (Pur.len rfl isSlice_41) ?_
  refine' WL.pur (Pur.bin rfl rfl ?h1_0) ?k1
  case h1_0 => first | exact Bin.neN | exact Bin.neI
  refine WL.nil ?_
  refine WQ.thn ?_
  first | refine WC.cond rfl (fun hc0 => ?_) (fun hc0 => ?_) | refine WC.condB rfl (fun hc0 => ?_) (fun hc0 => ?_)
  · refine WC.seq ?_
    refine WC.region ?_
    refine WL.pur (Pur.assign rfl) ?_
    refine WL.nil ?_
    refine WQ.thn ?_
    refine WC.ret ?_
    refine WQ.thn_ret ?_
    refine WQ.ret1 Tryz.results114 rfl [] zsL (View.le_refl _) ?_
    refine ⟨?_, rfl, rfl⟩
    exact boolF (by rintro rfl; omega)
  · refine WC.skip ?_
    refine WQ.thn ?_
    refine WC.seq ?_
    refine WC.seq ?_
    refine WC.region ?_
    refine WL.pur (Pur.assign rfl) ?_
    refine WL.nil ?_
    refine WQ.thn ?_
    refine WC.block ?_
    refine WC.loop (fun j m σ' H' => ∃ i : Nat, j = a.length - i ∧ i ≤ a.length ∧ a.take i = b.take i ∧ m = [(0, .slice aa a.length ac), (1, .slice ba b.length bc), (5, .int .i64 (i : Int))] ∧ σ' = σ ∧ H' = Hr) ⟨0, rfl, by omega, by simp, rfl, rfl, rfl⟩ zcV zsL ?_
    rintro _ _ σ Hr ⟨i, rfl, hi, heq, rfl, rfl, rfl⟩
    refine WC.seq ?_
    refine WC.seq ?_
    refine WC.region ?_
    refine WL.pur (Pur.move rfl) ?_
    refine WL.pur (Pur.move rfl) ?_
    refine WL.pur (Pur.len rfl isSlice_41) ?_
    refine' WL.pur (Pur.bin rfl rfl ?h2_0) ?k2
    case h2_0 => first | exact Bin.ltN | exact Bin.ltI | exact Bin.ltS
    refine WL.nil ?_
    refine WQ.thn ?_
    first | refine WC.cond rfl (fun hc1 => ?_) (fun hc1 => ?_) | refine WC.condB rfl (fun hc1 => ?_) (fun hc1 => ?_)
    · obtain ⟨ab, aoff, ac2, e1, _, _, haat⟩ := ha'.at (by omega)
      cases e1
      obtain ⟨bb, boff, bc2, e2, _, _, hbat⟩ := hb'.at (by omega)
      cases e2
      obtain ⟨x, hx⟩ : ∃ x, a[i]? = some x := ⟨_, List.getElem?_eq_getElem (by omega)⟩
      obtain ⟨y, hy⟩ : ∃ y, b[i]? = some y := ⟨_, List.getElem?_eq_getElem (by omega)⟩
      obtain ⟨vx, _, _, ⟨rfl, hxo⟩, hrx⟩ := haat i x hx
      obtain ⟨vy, _, _, ⟨rfl, hyo⟩, hry⟩ := hbat i y hy
      refine WC.skip ?_
      refine WQ.thn ?_
      refine WC.seq ?_
      refine WC.block ?_
      refine WC.seq ?_
      refine WC.drawH 9 9 mixed (by kernel_rfl) rfl ?_
      refine SA.take 0 (by kernel_rfl) rfl rfl rfl (Wanted.plain rfl) zsL (View.le_refl _) (Pur.move rfl) ?_
      refine SA.take 1 (by kernel_rfl) rfl rfl rfl (Wanted.plain rfl) zsL (View.le_refl _) (Pur.move rfl) ?_
      refine' SA.take 2 (by kernel_rfl) rfl rfl rfl (Wanted.plain rfl) zsL (View.le_refl _) (Pur.indexAddr rfl rfl sl_41 ?h3_0) ?k3
      case h3_0 => omega
      refine' SA.take 3 (by kernel_rfl) rfl rfl rfl (Wanted.plain rfl) zsL (View.le_refl _) (Pur.loadN rfl ty_39 ?h4_0 ?h4_1) ?k4
      case h4_0 => exact RdV.rd hrx
      case h4_1 => first | rfl | assumption
      refine SA.take 4 (by kernel_rfl) rfl rfl rfl (Wanted.plain rfl) zsL (View.le_refl _) (Pur.move rfl) ?_
      refine SA.take 5 (by kernel_rfl) rfl rfl rfl (Wanted.plain rfl) zsL (View.le_refl _) (Pur.move rfl) ?_
      refine' SA.take 6 (by kernel_rfl) rfl rfl rfl (Wanted.plain rfl) zsL (View.le_refl _) (Pur.indexAddr rfl rfl sl_41 ?h5_0) ?k5
      case h5_0 => omega
      refine' SA.take 7 (by kernel_rfl) rfl rfl rfl (Wanted.plain rfl) zsL (View.le_refl _) (Pur.loadN rfl ty_39 ?h6_0 ?h6_1) ?k6
      case h6_0 => exact RdV.rd hry
      case h6_1 => first | rfl | assumption
      refine' SA.take 8 (by kernel_rfl) rfl rfl rfl (Wanted.plain rfl) zsL (View.le_refl _) (Pur.bin rfl rfl ?h7_0) ?k7
      case h7_0 => (refine Bin.neH isHash_39 ?_ ?_ <;> assumption)
      refine SA.done (by kernel_rfl) ?_
      refine WQ.thn ?_
      first | refine WC.cond rfl (fun hc2 => ?_) (fun hc2 => ?_) | refine WC.condB rfl (fun hc2 => ?_) (fun hc2 => ?_)
      · refine WC.seq ?_
        refine WC.region ?_
        refine WL.pur (Pur.assign rfl) ?_
        refine WL.nil ?_
        refine WQ.thn ?_
        refine WC.ret ?_
        refine WQ.blk_ret ?_
        refine WQ.thn_ret ?_
        refine WQ.back_ret ?_
        refine WQ.blk_ret ?_
        refine WQ.thn_ret ?_
        refine WQ.ret1 Tryz.results114 rfl [] zsL (View.le_refl _) ?_
        refine ⟨?_, rfl, rfl⟩
        exact boolF (by rintro rfl; rw [hx] at hy; cases hy; exact hc2 rfl)
      · refine WC.skip ?_
        refine WQ.blk ?_
        refine WQ.thn ?_
        refine WC.region ?_
        refine WL.pur (Pur.move rfl) ?_
        refine' WL.pur (Pur.bin rfl rfl ?h8_0) ?k8
        case h8_0 => first | (refine Bin.addN (b := 1) ?_; omega) | (refine Bin.addI ?_; omega)
        refine WL.pur (Pur.assign rfl) ?_
        refine WL.nil ?_
        refine WQ.back _ ⟨i + 1, rfl, by omega, by rw [List.take_add_one, List.take_add_one, hx, hy, heq, Decidable.not_not.1 hc2], rfl, rfl, rfl⟩ (by omega) zcV zsL
    · refine WC.exit ?_
      refine WQ.thn_exit ?_
      refine WQ.back_exit ?_
      refine WQ.blk_here ?_
      refine WQ.thn ?_
      refine WC.seq ?_
      refine WC.region ?_
      refine WL.pur (Pur.assign rfl) ?_
      refine WL.nil ?_
      refine WQ.thn ?_
      refine WC.ret ?_
      refine WQ.ret1 Tryz.results114 rfl [] zsL (View.le_refl _) ?_
      refine ⟨?_, rfl, rfl⟩
      rw [List.take_of_length_le (by omega), List.take_of_length_le (by omega)] at heq; exact boolT heq

theorem r4_Same (σ : View) (a b : OpD) (ha : a.ok) (hb : b.ok) :
    TriP Tryz.prog 160 #[.agg a.cells.toArray, .agg b.cells.toArray] σ (.bool (decide (a = b))) := by
  have ha5 := ha.2.2.2.2.1
  have hb5 := hb.2.2.2.2.1
  refine Tri.of_body [(0, .agg a.cells.toArray), (1, .agg b.cells.toArray)] Tryz.func160 rfl Tryz.ntmps160 (by simp) rfl (fun Hr => ?_)
  rw [List.nil_append]
  refine WC.seq ?_
  refine WC.region ?_
  refine WL.new (New.boxN rfl) (fun b2 => ?_)
  refine WL.new (New.boxN rfl) (fun b3 => ?_)
  refine WL.pur (Pur.assign rfl) ?_
  refine WL.nil ?_
  refine WQ.thn ?_
  refine WC.seq ?_
  refine WC.region ?_
  refine WL.pur (Pur.fieldAddr rfl fo_51_0) ?_
  refine' WL.pur (Pur.load1 rfl ty_3 ?h1_0) ?k1
  case h1_0 => first | (apply Rd.own1; exact zmE; rfl) | (apply RdV.rd; apply RdV.idx (i := 0); assumption; rfl)
  refine WL.pur (Pur.fieldAddr rfl fo_51_0) ?_
  refine' WL.pur (Pur.load1 rfl ty_3 ?h2_0) ?k2
  case h2_0 => first | (apply Rd.own1; exact zmE; rfl) | (apply RdV.rd; apply RdV.idx (i := 0); assumption; rfl)
  refine' WL.pur (Pur.bin rfl rfl ?h3_0) ?k3
  case h3_0 => first | exact Bin.eqN | exact Bin.eqI
  refine WL.pur (Pur.move rfl) ?_
  refine' WL.andp (u := 10) (t := 16) rfl ?h4_0 ?h4_1 ?h4_2 rfl ?k4
  case h4_0 =>
    intro hg10 K10
    refine WL.gpur (u := 10) rfl rfl (gT hg10) (Pur.fieldAddr rfl fo_51_1) ?_
    refine' WL.gpur (u := 10) rfl rfl (gT hg10) (Pur.load1 rfl ty_9 ?h5_0) ?k5
    case h5_0 => first | (apply Rd.own1; exact zmE; rfl) | (apply RdV.rd; apply RdV.idx (i := 1); assumption; rfl) | (apply RdV.rd; apply RdV.idx (off := 0) (i := 1); assumption; rfl)
    refine WL.gpur (u := 10) rfl rfl (gT hg10) (Pur.fieldAddr rfl fo_51_1) ?_
    refine' WL.gpur (u := 10) rfl rfl (gT hg10) (Pur.load1 rfl ty_9 ?h6_0) ?k6
    case h6_0 => first | (apply Rd.own1; exact zmE; rfl) | (apply RdV.rd; apply RdV.idx (i := 1); assumption; rfl) | (apply RdV.rd; apply RdV.idx (off := 0) (i := 1); assumption; rfl)
    refine' WL.gpur (u := 10) rfl rfl (gT hg10) (Pur.bin rfl rfl ?h7_0) ?k7
    case h7_0 => exact Bin.eqS
    exact K10 _ zcR rfl
  case h4_1 =>
    intro hg10 K10
    refine WL.gskip (u := 10) rfl rfl (sT hg10) ?_
    refine WL.gskip (u := 10) rfl rfl (sT hg10) ?_
    refine WL.gskip (u := 10) rfl rfl (sT hg10) ?_
    refine WL.gskip (u := 10) rfl rfl (sT hg10) ?_
    refine WL.gskip (u := 10) rfl rfl (sT hg10) ?_
    exact K10 _ zcR
  case h4_2 => exact Wanted.plain rfl
  refine WL.pur (Pur.move rfl) ?_
  refine' WL.andp (u := 17) (t := 23) rfl ?h8_0 ?h8_1 ?h8_2 rfl ?k8
  case h8_0 =>
    intro hg17 K17
    refine WL.gpur (u := 17) rfl rfl (gT hg17) (Pur.fieldAddr rfl fo_51_2) ?_
    refine' WL.gpur (u := 17) rfl rfl (gT hg17) (Pur.load1 rfl ty_9 ?h9_0) ?k9
    case h9_0 => first | (apply Rd.own1; exact zmE; rfl) | (apply RdV.rd; apply RdV.idx (i := 2); assumption; rfl) | (apply RdV.rd; apply RdV.idx (off := 0) (i := 2); assumption; rfl)
    refine WL.gpur (u := 17) rfl rfl (gT hg17) (Pur.fieldAddr rfl fo_51_2) ?_
    refine' WL.gpur (u := 17) rfl rfl (gT hg17) (Pur.load1 rfl ty_9 ?h10_0) ?k10
    case h10_0 => first | (apply Rd.own1; exact zmE; rfl) | (apply RdV.rd; apply RdV.idx (i := 2); assumption; rfl) | (apply RdV.rd; apply RdV.idx (off := 0) (i := 2); assumption; rfl)
    refine' WL.gpur (u := 17) rfl rfl (gT hg17) (Pur.bin rfl rfl ?h11_0) ?k11
    case h11_0 => exact Bin.eqS
    exact K17 _ zcR rfl
  case h8_1 =>
    intro hg17 K17
    refine WL.gskip (u := 17) rfl rfl (sT hg17) ?_
    refine WL.gskip (u := 17) rfl rfl (sT hg17) ?_
    refine WL.gskip (u := 17) rfl rfl (sT hg17) ?_
    refine WL.gskip (u := 17) rfl rfl (sT hg17) ?_
    refine WL.gskip (u := 17) rfl rfl (sT hg17) ?_
    exact K17 _ zcR
  case h8_2 => exact Wanted.plain rfl
  refine WL.pur (Pur.move rfl) ?_
  refine' WL.andp (u := 24) (t := 30) rfl ?h12_0 ?h12_1 ?h12_2 rfl ?k12
  case h12_0 =>
    intro hg24 K24
    refine WL.gpur (u := 24) rfl rfl (gT hg24) (Pur.fieldAddr rfl fo_51_3) ?_
    refine' WL.gpur (u := 24) rfl rfl (gT hg24) (Pur.load1 rfl ty_2 ?h13_0) ?k13
    case h13_0 => first | (apply Rd.own1; exact zmE; rfl) | (apply RdV.rd; apply RdV.idx (i := 3); assumption; rfl) | (apply RdV.rd; apply RdV.idx (off := 0) (i := 3); assumption; rfl)
    refine WL.gpur (u := 24) rfl rfl (gT hg24) (Pur.fieldAddr rfl fo_51_3) ?_
    refine' WL.gpur (u := 24) rfl rfl (gT hg24) (Pur.load1 rfl ty_2 ?h14_0) ?k14
    case h14_0 => first | (apply Rd.own1; exact zmE; rfl) | (apply RdV.rd; apply RdV.idx (i := 3); assumption; rfl) | (apply RdV.rd; apply RdV.idx (off := 0) (i := 3); assumption; rfl)
    refine' WL.gpur (u := 24) rfl rfl (gT hg24) (Pur.bin rfl rfl ?h15_0) ?k15
    case h15_0 => first | exact Bin.eqN | exact Bin.eqI
    exact K24 _ zcR rfl
  case h12_1 =>
    intro hg24 K24
    refine WL.gskip (u := 24) rfl rfl (sT hg24) ?_
    refine WL.gskip (u := 24) rfl rfl (sT hg24) ?_
    refine WL.gskip (u := 24) rfl rfl (sT hg24) ?_
    refine WL.gskip (u := 24) rfl rfl (sT hg24) ?_
    refine WL.gskip (u := 24) rfl rfl (sT hg24) ?_
    exact K24 _ zcR
  case h12_2 => exact Wanted.plain rfl
  refine WL.pur (Pur.move rfl) ?_
  refine' WL.andp (u := 31) (t := 39) rfl ?h16_0 ?h16_1 ?h16_2 rfl ?k16
  case h16_0 =>
    intro hg31 K31
    refine WL.gpur (u := 31) rfl rfl (gT hg31) (Pur.fieldAddr rfl fo_51_4) ?_
    refine WL.gpur (u := 31) rfl rfl (gT hg31) (Pur.fieldAddr rfl fo_49_1) ?_
    refine' WL.gpur (u := 31) rfl rfl (gT hg31) (Pur.load1 rfl ty_3 ?h17_0) ?k17
    case h17_0 => first | (apply Rd.own1; exact zmE; rfl) | (apply RdV.rd; apply RdV.idx (i := 36); assumption; rfl) | (apply RdV.rd; apply RdV.idx (off := 0) (i := 36); assumption; rfl)
    refine WL.gpur (u := 31) rfl rfl (gT hg31) (Pur.fieldAddr rfl fo_51_4) ?_
    refine WL.gpur (u := 31) rfl rfl (gT hg31) (Pur.fieldAddr rfl fo_49_1) ?_
    refine' WL.gpur (u := 31) rfl rfl (gT hg31) (Pur.load1 rfl ty_3 ?h18_0) ?k18
    case h18_0 => first | (apply Rd.own1; exact zmE; rfl) | (apply RdV.rd; apply RdV.idx (i := 36); assumption; rfl) | (apply RdV.rd; apply RdV.idx (off := 0) (i := 36); assumption; rfl)
    refine' WL.gpur (u := 31) rfl rfl (gT hg31) (Pur.bin rfl rfl ?h19_0) ?k19
    case h19_0 => first | exact Bin.eqN | exact Bin.eqI
    exact K31 _ zcR rfl
  case h16_1 =>
    intro hg31 K31
    refine WL.gskip (u := 31) rfl rfl (sT hg31) ?_
    refine WL.gskip (u := 31) rfl rfl (sT hg31) ?_
    refine WL.gskip (u := 31) rfl rfl (sT hg31) ?_
    refine WL.gskip (u := 31) rfl rfl (sT hg31) ?_
    refine WL.gskip (u := 31) rfl rfl (sT hg31) ?_
    refine WL.gskip (u := 31) rfl rfl (sT hg31) ?_
    refine WL.gskip (u := 31) rfl rfl (sT hg31) ?_
    exact K31 _ zcR
  case h16_2 => exact Wanted.plain rfl
  refine WL.pur (Pur.move rfl) ?_
  refine' WL.andp (u := 40) (t := 48) rfl ?h20_0 ?h20_1 ?h20_2 rfl ?k20
  case h20_0 =>
    intro hg40 K40
    refine WL.gpur (u := 40) rfl rfl (gT hg40) (Pur.fieldAddr rfl fo_51_4) ?_
    refine WL.gpur (u := 40) rfl rfl (gT hg40) (Pur.fieldAddr rfl fo_49_0) ?_
    refine' WL.gpur (u := 40) rfl rfl (gT hg40) (Pur.loadN rfl ty_39 ?h21_0 ?h21_1) ?k21
    case h21_0 => first | (apply Rd.own_sub; exact zmE; exact Sub.op_hash _ _ _ _ _ _) | (apply RdV.rd; apply RdV.sub (i := 4); assumption; exact Sub.op_hash _ _ _ _ _ _)
    case h21_1 => first | rfl | assumption
    refine WL.gpur (u := 40) rfl rfl (gT hg40) (Pur.fieldAddr rfl fo_51_4) ?_
    refine WL.gpur (u := 40) rfl rfl (gT hg40) (Pur.fieldAddr rfl fo_49_0) ?_
    refine' WL.gpur (u := 40) rfl rfl (gT hg40) (Pur.loadN rfl ty_39 ?h22_0 ?h22_1) ?k22
    case h22_0 => first | (apply Rd.own_sub; exact zmE; exact Sub.op_hash _ _ _ _ _ _) | (apply RdV.rd; apply RdV.sub (i := 4); assumption; exact Sub.op_hash _ _ _ _ _ _)
    case h22_1 => first | rfl | assumption
    refine' WL.gpur (u := 40) rfl rfl (gT hg40) (Pur.bin rfl rfl ?h23_0) ?k23
    case h23_0 => (refine Bin.eqH isHash_39 ?_ ?_ <;> assumption)
    exact K40 _ zcR rfl
  case h20_1 =>
    intro hg40 K40
    refine WL.gskip (u := 40) rfl rfl (sT hg40) ?_
    refine WL.gskip (u := 40) rfl rfl (sT hg40) ?_
    refine WL.gskip (u := 40) rfl rfl (sT hg40) ?_
    refine WL.gskip (u := 40) rfl rfl (sT hg40) ?_
    refine WL.gskip (u := 40) rfl rfl (sT hg40) ?_
    refine WL.gskip (u := 40) rfl rfl (sT hg40) ?_
    refine WL.gskip (u := 40) rfl rfl (sT hg40) ?_
    exact K40 _ zcR
  case h20_2 => exact Wanted.plain rfl
  refine WL.pur (Pur.assign rfl) ?_
  refine WL.nil ?_
  refine WQ.thn ?_
  refine WC.ret ?_
  refine WQ.ret1 Tryz.results160 rfl [] zsL (View.le_refl _) ?_
  refine ⟨?_, rfl, rfl⟩
  exact decB opD_eq

theorem r5_Same (σ : View) (x y : NodeD) (pv ov qv rv : Value) (hx : NodeR σ x pv ov) (hy : NodeR σ y qv rv) :
    TriP Tryz.prog 116 #[.agg (nodeCells x.au x.cl pv ov).toArray, .agg (nodeCells y.au y.cl qv rv).toArray] σ (.bool (decide (x = y))) := by
  obtain ⟨hxp, hxo, _, _⟩ := hx
  obtain ⟨hyp, hyo, _, _⟩ := hy
  obtain ⟨pa, pc, rfl, hpc, hpb⟩ := hxp.shape
  obtain ⟨oa, oc, rfl, hoc, hob⟩ := hxo.shape
  obtain ⟨qa, qc, rfl, hqc, hqb⟩ := hyp.shape
  obtain ⟨ra, rc, rfl, hrc, hrb⟩ := hyo.shape
  obtain ⟨pb, poff, hep, hpat⟩ := hxp.rds
  obtain ⟨ob, ooff, heo, hoat⟩ := hxo.rds
  obtain ⟨qb, qoff, heq, hqat⟩ := hyp.rds
  obtain ⟨rb, roff, her, hrat⟩ := hyo.rds
  refine Tri.of_body [(0, .agg (nodeCells x.au x.cl (.slice pa x.ps.length pc) (.slice oa x.ops.length oc)).toArray), (1, .agg (nodeCells y.au y.cl (.slice qa y.ps.length qc) (.slice ra y.ops.length rc)).toArray)] Tryz.func116 rfl Tryz.ntmps116 (by simp) rfl (fun Hr => ?_)
  rw [List.nil_append]
  refine WC.seq ?_
  refine WC.region ?_
  refine WL.new (New.boxN rfl) (fun b2 => ?_)
  refine WL.new (New.boxN rfl) (fun b3 => ?_)
  refine WL.pur (Pur.assign rfl) ?_
  refine WL.nil ?_
  refine WQ.thn ?_
  refine WC.seq ?_
  refine WC.seq ?_
  refine WC.region ?_
  refine WL.pur (Pur.fieldAddr rfl fo_43_0) ?_
  refine' WL.pur (Pur.load1 rfl ty_3 ?h1_0) ?k1
  case h1_0 => first | (apply Rd.own1; exact zmE; rfl) | (apply RdV.rd; apply RdV.idx (i := 0); assumption; rfl)
  refine WL.pur (Pur.fieldAddr rfl fo_43_0) ?_
  refine' WL.pur (Pur.load1 rfl ty_3 ?h2_0) ?k2
  case h2_0 => first | (apply Rd.own1; exact zmE; rfl) | (apply RdV.rd; apply RdV.idx (i := 0); assumption; rfl)
  refine' WL.pur (Pur.bin rfl rfl ?h3_0) ?k3
  case h3_0 => first | exact Bin.neN | exact Bin.neI
  refine WL.pur (Pur.move rfl) ?_
  refine' WL.orp (u := 12) (t := 18) rfl ?h4_0 ?h4_1 ?h4_2 rfl ?k4
  case h4_0 =>
    intro hg12 K12
    refine WL.gpur (u := 12) rfl rfl (gF hg12) (Pur.fieldAddr rfl fo_43_1) ?_
    refine' WL.gpur (u := 12) rfl rfl (gF hg12) (Pur.load1 rfl ty_3 ?h5_0) ?k5
    case h5_0 => first | (apply Rd.own1; exact zmE; rfl) | (apply RdV.rd; apply RdV.idx (i := 1); assumption; rfl) | (apply RdV.rd; apply RdV.idx (off := 0) (i := 1); assumption; rfl)
    refine WL.gpur (u := 12) rfl rfl (gF hg12) (Pur.fieldAddr rfl fo_43_1) ?_
    refine' WL.gpur (u := 12) rfl rfl (gF hg12) (Pur.load1 rfl ty_3 ?h6_0) ?k6
    case h6_0 => first | (apply Rd.own1; exact zmE; rfl) | (apply RdV.rd; apply RdV.idx (i := 1); assumption; rfl) | (apply RdV.rd; apply RdV.idx (off := 0) (i := 1); assumption; rfl)
    refine' WL.gpur (u := 12) rfl rfl (gF hg12) (Pur.bin rfl rfl ?h7_0) ?k7
    case h7_0 => first | exact Bin.neN | exact Bin.neI
    exact K12 _ zcR rfl
  case h4_1 =>
    intro hg12 K12
    refine WL.gskip (u := 12) rfl rfl (sF hg12) ?_
    refine WL.gskip (u := 12) rfl rfl (sF hg12) ?_
    refine WL.gskip (u := 12) rfl rfl (sF hg12) ?_
    refine WL.gskip (u := 12) rfl rfl (sF hg12) ?_
    refine WL.gskip (u := 12) rfl rfl (sF hg12) ?_
    exact K12 _ zcR
  case h4_2 => exact Wanted.plain rfl
  refine WL.pur (Pur.move rfl) ?_
  refine' WL.orp (u := 19) (t := 27) rfl ?h8_0 ?h8_1 ?h8_2 rfl ?k8
  case h8_0 =>
    intro hg19 K19
    refine WL.gpur (u := 19) rfl rfl (gF hg19) (Pur.fieldAddr rfl fo_43_2) ?_
    refine' WL.gpur (u := 19) rfl rfl (gF hg19) (Pur.load1 rfl ty_41 ?h9_0) ?k9
    case h9_0 => first | (apply Rd.own1; exact zmE; rfl) | (apply RdV.rd; apply RdV.idx (i := 2); assumption; rfl) | (apply RdV.rd; apply RdV.idx (off := 0) (i := 2); assumption; rfl)
    refine WL.gpur (u := 19) rfl rfl (gF hg19) (Pur.len rfl isSlice_41) ?_
    refine WL.gpur (u := 19) rfl rfl (gF hg19) (Pur.fieldAddr rfl fo_43_2) ?_
    refine' WL.gpur (u := 19) rfl rfl (gF hg19) (Pur.load1 rfl ty_41 ?h10_0) ?k10
    case h10_0 => first | (apply Rd.own1; exact zmE; rfl) | (apply RdV.rd; apply RdV.idx (i := 2); assumption; rfl) | (apply RdV.rd; apply RdV.idx (off := 0) (i := 2); assumption; rfl)
    refine WL.gpur (u := 19) rfl rfl (gF hg19) (Pur.len rfl isSlice_41) ?_
    refine' WL.gpur (u := 19) rfl rfl (gF hg19) (Pur.bin rfl rfl ?h11_0) ?k11
    case h11_0 => first | exact Bin.neN | exact Bin.neI
    exact K19 _ zcR rfl
  case h8_1 =>
    intro hg19 K19
    refine WL.gskip (u := 19) rfl rfl (sF hg19) ?_
    refine WL.gskip (u := 19) rfl rfl (sF hg19) ?_
    refine WL.gskip (u := 19) rfl rfl (sF hg19) ?_
    refine WL.gskip (u := 19) rfl rfl (sF hg19) ?_
    refine WL.gskip (u := 19) rfl rfl (sF hg19) ?_
    refine WL.gskip (u := 19) rfl rfl (sF hg19) ?_
    refine WL.gskip (u := 19) rfl rfl (sF hg19) ?_
    exact K19 _ zcR
  case h8_2 => exact Wanted.plain rfl
  refine WL.pur (Pur.move rfl) ?_
  refine' WL.orp (u := 28) (t := 36) rfl ?h12_0 ?h12_1 ?h12_2 rfl ?k12
  case h12_0 =>
    intro hg28 K28
    refine WL.gpur (u := 28) rfl rfl (gF hg28) (Pur.fieldAddr rfl fo_43_3) ?_
    refine' WL.gpur (u := 28) rfl rfl (gF hg28) (Pur.load1 rfl ty_40 ?h13_0) ?k13
    case h13_0 => first | (apply Rd.own1; exact zmE; rfl) | (apply RdV.rd; apply RdV.idx (i := 3); assumption; rfl) | (apply RdV.rd; apply RdV.idx (off := 0) (i := 3); assumption; rfl)
    refine WL.gpur (u := 28) rfl rfl (gF hg28) (Pur.len rfl isSlice_40) ?_
    refine WL.gpur (u := 28) rfl rfl (gF hg28) (Pur.fieldAddr rfl fo_43_3) ?_
    refine' WL.gpur (u := 28) rfl rfl (gF hg28) (Pur.load1 rfl ty_40 ?h14_0) ?k14
    case h14_0 => first | (apply Rd.own1; exact zmE; rfl) | (apply RdV.rd; apply RdV.idx (i := 3); assumption; rfl) | (apply RdV.rd; apply RdV.idx (off := 0) (i := 3); assumption; rfl)
    refine WL.gpur (u := 28) rfl rfl (gF hg28) (Pur.len rfl isSlice_40) ?_
    refine' WL.gpur (u := 28) rfl rfl (gF hg28) (Pur.bin rfl rfl ?h15_0) ?k15
    case h15_0 => first | exact Bin.neN | exact Bin.neI
    exact K28 _ zcR rfl
  case h12_1 =>
    intro hg28 K28
    refine WL.gskip (u := 28) rfl rfl (sF hg28) ?_
    refine WL.gskip (u := 28) rfl rfl (sF hg28) ?_
    refine WL.gskip (u := 28) rfl rfl (sF hg28) ?_
    refine WL.gskip (u := 28) rfl rfl (sF hg28) ?_
    refine WL.gskip (u := 28) rfl rfl (sF hg28) ?_
    refine WL.gskip (u := 28) rfl rfl (sF hg28) ?_
    refine WL.gskip (u := 28) rfl rfl (sF hg28) ?_
    exact K28 _ zcR
  case h12_2 => exact Wanted.plain rfl
  refine WL.nil ?_
  refine WQ.thn ?_
  first | refine WC.cond rfl (fun hc0 => ?_) (fun hc0 => ?_) | refine WC.condB rfl (fun hc0 => ?_) (fun hc0 => ?_)
  · refine WC.seq ?_
    refine WC.region ?_
    refine WL.pur (Pur.assign rfl) ?_
    refine WL.nil ?_
    refine WQ.thn ?_
    refine WC.ret ?_
    refine WQ.thn_ret ?_
    refine WQ.ret1 Tryz.results116 rfl [] zsL (View.le_refl _) ?_
    refine ⟨?_, rfl, rfl⟩
    exact boolF (by rintro rfl; simp at hc0)
  · have hlens : ((x.au = y.au ∧ x.cl = y.cl) ∧ x.ps.length = y.ps.length) ∧ x.ops.length = y.ops.length := by
      refine ⟨⟨⟨?_, ?_⟩, ?_⟩, ?_⟩
      · exact Decidable.not_not.1 fun h => hc0 (.inl (.inl (.inl h)))
      · exact Decidable.not_not.1 fun h => hc0 (.inl (.inl (.inr h)))
      · exact Decidable.not_not.1 fun h => hc0 (.inl (.inr h))
      · exact Decidable.not_not.1 fun h => hc0 (.inr h)
    obtain ⟨⟨⟨eau, ecl⟩, epl⟩, eol⟩ := hlens
    refine WC.skip ?_
    refine WQ.thn ?_
    refine WC.seq ?_
    refine WC.seq ?_
    refine WC.region ?_
    refine WL.pur (Pur.assign rfl) ?_
    refine WL.nil ?_
    refine WQ.thn ?_
    refine WC.block ?_
    refine WC.loop (fun j m σ' H' => ∃ i : Nat, j = x.ps.length - i ∧ i ≤ x.ps.length ∧ x.ps.take i = y.ps.take i ∧ m = [(2, .pointer (some ⟨b2, 0, none⟩)), (3, .pointer (some ⟨b3, 0, none⟩)), (5, .int .i64 (i : Int))] ∧ σ' = σ ∧ H' = (b3, rowO 43 (nodeCells y.au y.cl (.slice qa y.ps.length qc) (.slice ra y.ops.length rc))) :: (b2, rowO 43 (nodeCells x.au x.cl (.slice pa x.ps.length pc) (.slice oa x.ops.length oc))) :: Hr) ⟨0, rfl, by omega, by simp, rfl, rfl, rfl⟩ zcV zsL ?_
    rintro _ _ σ Hr ⟨i, rfl, hi, hps, rfl, rfl, rfl⟩
    refine WC.seq ?_
    refine WC.seq ?_
    refine WC.region ?_
    refine WL.pur (Pur.move rfl) ?_
    refine WL.pur (Pur.fieldAddr rfl fo_43_2) ?_
    refine' WL.pur (Pur.load1 rfl ty_41 ?h16_0) ?k16
    case h16_0 => first | (apply Rd.own1; exact zmE; rfl) | (apply RdV.rd; apply RdV.idx (i := 2); assumption; rfl) | (apply RdV.rd; apply RdV.idx (off := 0) (i := 2); assumption; rfl)
    refine WL.pur (Pur.len rfl isSlice_41) ?_
    refine' WL.pur (Pur.bin rfl rfl ?h17_0) ?k17
    case h17_0 => first | exact Bin.ltN | exact Bin.ltI | exact Bin.ltS
    refine WL.nil ?_
    refine WQ.thn ?_
    first | refine WC.cond rfl (fun hc1 => ?_) (fun hc1 => ?_) | refine WC.condB rfl (fun hc1 => ?_) (fun hc1 => ?_)
    · obtain ⟨u, hu⟩ : ∃ u, x.ps[i]? = some u := ⟨_, List.getElem?_eq_getElem (by omega)⟩
      obtain ⟨v, hv⟩ : ∃ v, y.ps[i]? = some v := ⟨_, List.getElem?_eq_getElem (by omega)⟩
      obtain ⟨_, _, _, ⟨rfl, hxu⟩, hru⟩ := hpat i u hu
      obtain ⟨_, _, _, ⟨rfl, hyv⟩, hrv⟩ := hqat i v hv
      refine WC.skip ?_
      refine WQ.thn ?_
      refine WC.seq ?_
      refine WC.block ?_
      refine WC.seq ?_
      refine WC.drawH 11 11 mixed (by kernel_rfl) rfl ?_
      refine SA.take 0 (by kernel_rfl) rfl rfl rfl (Wanted.plain rfl) zsL (View.le_refl _) (Pur.fieldAddr rfl fo_43_2) ?_
      refine' SA.take 1 (by kernel_rfl) rfl rfl rfl (Wanted.plain rfl) zsL (View.le_refl _) (Pur.load1 rfl ty_41 ?h18_0) ?k18
      case h18_0 => first | (apply Rd.own1; exact zmE; rfl) | (apply RdV.rd; apply RdV.idx (i := 2); assumption; rfl) | (apply RdV.rd; apply RdV.idx (off := 0) (i := 2); assumption; rfl)
      refine SA.take 2 (by kernel_rfl) rfl rfl rfl (Wanted.plain rfl) zsL (View.le_refl _) (Pur.move rfl) ?_
      refine' SA.take 3 (by kernel_rfl) rfl rfl rfl (Wanted.plain rfl) zsL (View.le_refl _) (Pur.indexAddr (eqA (hep (by omega))) rfl sl_41 ?h19_0) ?k19
      case h19_0 => omega
      refine' SA.take 4 (by kernel_rfl) rfl rfl rfl (Wanted.plain rfl) zsL (View.le_refl _) (Pur.loadN rfl ty_39 ?h20_0 ?h20_1) ?k20
      case h20_0 => exact RdV.rd hru
      case h20_1 => first | rfl | assumption
      refine SA.take 5 (by kernel_rfl) rfl rfl rfl (Wanted.plain rfl) zsL (View.le_refl _) (Pur.fieldAddr rfl fo_43_2) ?_
      refine' SA.take 6 (by kernel_rfl) rfl rfl rfl (Wanted.plain rfl) zsL (View.le_refl _) (Pur.load1 rfl ty_41 ?h21_0) ?k21
      case h21_0 => first | (apply Rd.own1; exact zmE; rfl) | (apply RdV.rd; apply RdV.idx (i := 2); assumption; rfl) | (apply RdV.rd; apply RdV.idx (off := 0) (i := 2); assumption; rfl)
      refine SA.take 7 (by kernel_rfl) rfl rfl rfl (Wanted.plain rfl) zsL (View.le_refl _) (Pur.move rfl) ?_
      refine' SA.take 8 (by kernel_rfl) rfl rfl rfl (Wanted.plain rfl) zsL (View.le_refl _) (Pur.indexAddr (eqA (heq (by omega))) rfl sl_41 ?h22_0) ?k22
      case h22_0 => omega
      refine' SA.take 9 (by kernel_rfl) rfl rfl rfl (Wanted.plain rfl) zsL (View.le_refl _) (Pur.loadN rfl ty_39 ?h23_0 ?h23_1) ?k23
      case h23_0 => exact RdV.rd hrv
      case h23_1 => first | rfl | assumption
      refine' SA.take 10 (by kernel_rfl) rfl rfl rfl (Wanted.plain rfl) zsL (View.le_refl _) (Pur.bin rfl rfl ?h24_0) ?k24
      case h24_0 => (refine Bin.neH isHash_39 ?_ ?_ <;> assumption)
      refine SA.done (by kernel_rfl) ?_
      refine WQ.thn ?_
      first | refine WC.cond rfl (fun hc2 => ?_) (fun hc2 => ?_) | refine WC.condB rfl (fun hc2 => ?_) (fun hc2 => ?_)
      · refine WC.seq ?_
        refine WC.region ?_
        refine WL.pur (Pur.assign rfl) ?_
        refine WL.nil ?_
        refine WQ.thn ?_
        refine WC.ret ?_
        refine WQ.blk_ret ?_
        refine WQ.thn_ret ?_
        refine WQ.back_ret ?_
        refine WQ.blk_ret ?_
        refine WQ.thn_ret ?_
        refine WQ.ret1 Tryz.results116 rfl [] zsL (View.le_refl _) ?_
        refine ⟨?_, rfl, rfl⟩
        exact boolF (by rintro rfl; rw [hu] at hv; cases hv; exact hc2 rfl)
      · refine WC.skip ?_
        refine WQ.blk ?_
        refine WQ.thn ?_
        refine WC.region ?_
        refine WL.pur (Pur.move rfl) ?_
        refine' WL.pur (Pur.bin rfl rfl ?h25_0) ?k25
        case h25_0 => first | (refine Bin.addN (b := 1) ?_; omega) | (refine Bin.addI ?_; omega)
        refine WL.pur (Pur.assign rfl) ?_
        refine WL.nil ?_
        refine WQ.back _ ⟨i + 1, rfl, by omega, by rw [List.take_add_one, List.take_add_one, hu, hv, hps, Decidable.not_not.1 hc2], rfl, rfl, rfl⟩ (by omega) zcV zsL
    · rw [List.take_of_length_le (by omega), List.take_of_length_le (by omega)] at hps
      refine WC.exit ?_
      refine WQ.thn_exit ?_
      refine WQ.back_exit ?_
      refine WQ.blk_here ?_
      refine WQ.thn ?_
      refine WC.seq ?_
      refine WC.seq ?_
      refine WC.region ?_
      refine WL.pur (Pur.assign rfl) ?_
      refine WL.nil ?_
      refine WQ.thn ?_
      refine WC.block ?_
      refine WC.loop (fun j m σ' H' => ∃ i : Nat, j = x.ops.length - i ∧ i ≤ x.ops.length ∧ x.ops.take i = y.ops.take i ∧ m = [(2, .pointer (some ⟨b2, 0, none⟩)), (3, .pointer (some ⟨b3, 0, none⟩)), (6, .int .i64 (i : Int))] ∧ σ' = σ ∧ H' = (b3, rowO 43 (nodeCells y.au y.cl (.slice qa y.ps.length qc) (.slice ra y.ops.length rc))) :: (b2, rowO 43 (nodeCells x.au x.cl (.slice pa x.ps.length pc) (.slice oa x.ops.length oc))) :: Hr) ⟨0, rfl, by omega, by simp, rfl, rfl, rfl⟩ zcV zsL ?_
      rintro _ _ σ Hr ⟨i, rfl, hi, hos, rfl, rfl, rfl⟩
      refine WC.seq ?_
      refine WC.seq ?_
      refine WC.region ?_
      refine WL.pur (Pur.move rfl) ?_
      refine WL.pur (Pur.fieldAddr rfl fo_43_3) ?_
      refine' WL.pur (Pur.load1 rfl ty_40 ?h26_0) ?k26
      case h26_0 => first | (apply Rd.own1; exact zmE; rfl) | (apply RdV.rd; apply RdV.idx (i := 3); assumption; rfl) | (apply RdV.rd; apply RdV.idx (off := 0) (i := 3); assumption; rfl)
      refine WL.pur (Pur.len rfl isSlice_40) ?_
      refine' WL.pur (Pur.bin rfl rfl ?h27_0) ?k27
      case h27_0 => first | exact Bin.ltN | exact Bin.ltI | exact Bin.ltS
      refine WL.nil ?_
      refine WQ.thn ?_
      first | refine WC.cond rfl (fun hc3 => ?_) (fun hc3 => ?_) | refine WC.condB rfl (fun hc3 => ?_) (fun hc3 => ?_)
      · obtain ⟨u, hu⟩ : ∃ u, x.ops[i]? = some u := ⟨_, List.getElem?_eq_getElem (by omega)⟩
        obtain ⟨v, hv⟩ : ∃ v, y.ops[i]? = some v := ⟨_, List.getElem?_eq_getElem (by omega)⟩
        obtain ⟨_, _, _, ⟨rfl, hku⟩, hru⟩ := hoat i u hu
        obtain ⟨_, _, _, ⟨rfl, hkv⟩, hrv⟩ := hrat i v hv
        refine WC.skip ?_
        refine WQ.thn ?_
        refine WC.seq ?_
        refine WC.block ?_
        refine WC.seq ?_
        refine WC.drawH 12 12 mixed (by kernel_rfl) rfl ?_
        refine SA.take 0 (by kernel_rfl) rfl rfl rfl (Wanted.plain rfl) zsL (View.le_refl _) (Pur.fieldAddr rfl fo_43_3) ?_
        refine' SA.take 1 (by kernel_rfl) rfl rfl rfl (Wanted.plain rfl) zsL (View.le_refl _) (Pur.load1 rfl ty_40 ?h28_0) ?k28
        case h28_0 => first | (apply Rd.own1; exact zmE; rfl) | (apply RdV.rd; apply RdV.idx (i := 3); assumption; rfl) | (apply RdV.rd; apply RdV.idx (off := 0) (i := 3); assumption; rfl)
        refine SA.take 2 (by kernel_rfl) rfl rfl rfl (Wanted.plain rfl) zsL (View.le_refl _) (Pur.move rfl) ?_
        refine' SA.take 3 (by kernel_rfl) rfl rfl rfl (Wanted.plain rfl) zsL (View.le_refl _) (Pur.indexAddr (eqA (heo (by omega))) rfl sl_40 ?h29_0) ?k29
        case h29_0 => omega
        refine' SA.take 4 (by kernel_rfl) rfl rfl rfl (Wanted.plain rfl) zsL (View.le_refl _) (Pur.loadN rfl ty_51 ?h30_0 ?h30_1) ?k30
        case h30_0 => exact RdV.rd hru
        case h30_1 => first | rfl | assumption
        refine SA.take 5 (by kernel_rfl) rfl rfl rfl (Wanted.plain rfl) zsL (View.le_refl _) (Pur.fieldAddr rfl fo_43_3) ?_
        refine' SA.take 6 (by kernel_rfl) rfl rfl rfl (Wanted.plain rfl) zsL (View.le_refl _) (Pur.load1 rfl ty_40 ?h31_0) ?k31
        case h31_0 => first | (apply Rd.own1; exact zmE; rfl) | (apply RdV.rd; apply RdV.idx (i := 3); assumption; rfl) | (apply RdV.rd; apply RdV.idx (off := 0) (i := 3); assumption; rfl)
        refine SA.take 7 (by kernel_rfl) rfl rfl rfl (Wanted.plain rfl) zsL (View.le_refl _) (Pur.move rfl) ?_
        refine' SA.take 8 (by kernel_rfl) rfl rfl rfl (Wanted.plain rfl) zsL (View.le_refl _) (Pur.indexAddr (eqA (her (by omega))) rfl sl_40 ?h32_0) ?k32
        case h32_0 => omega
        refine' SA.take 9 (by kernel_rfl) rfl rfl rfl (Wanted.plain rfl) zsL (View.le_refl _) (Pur.loadN rfl ty_51 ?h33_0 ?h33_1) ?k33
        case h33_0 => exact RdV.rd hrv
        case h33_1 => first | rfl | assumption
        refine SA.callP 10 rfl rfl (Wanted.plain rfl) (by kernel_rfl) rfl Tryz.call160 zsL (View.le_refl _) ((r4_Same _ u v hku hkv)) ?_
        first | refine SA.take 11 (by kernel_rfl) rfl rfl rfl (Wanted.plain rfl) zsL (View.le_refl _) (Pur.not rfl) ?_ | refine SA.take 11 (by kernel_rfl) rfl rfl rfl (Wanted.plain rfl) zsL (View.le_refl _) (Pur.notB rfl) ?_
        refine SA.done (by kernel_rfl) ?_
        refine WQ.thn ?_
        first | refine WC.cond rfl (fun hc4 => ?_) (fun hc4 => ?_) | refine WC.condB rfl (fun hc4 => ?_) (fun hc4 => ?_)
        · refine WC.seq ?_
          refine WC.region ?_
          refine WL.pur (Pur.assign rfl) ?_
          refine WL.nil ?_
          refine WQ.thn ?_
          refine WC.ret ?_
          refine WQ.blk_ret ?_
          refine WQ.thn_ret ?_
          refine WQ.back_ret ?_
          refine WQ.blk_ret ?_
          refine WQ.thn_ret ?_
          refine WQ.ret1 Tryz.results116 rfl [] zsL (View.le_refl _) ?_
          refine ⟨?_, rfl, rfl⟩
          exact boolF (by rintro rfl; rw [hu] at hv; cases hv; exact hc4 rfl)
        · refine WC.skip ?_
          refine WQ.blk ?_
          refine WQ.thn ?_
          refine WC.region ?_
          refine WL.pur (Pur.move rfl) ?_
          refine' WL.pur (Pur.bin rfl rfl ?h34_0) ?k34
          case h34_0 => first | (refine Bin.addN (b := 1) ?_; omega) | (refine Bin.addI ?_; omega)
          refine WL.pur (Pur.assign rfl) ?_
          refine WL.nil ?_
          refine WQ.back _ ⟨i + 1, rfl, by omega, by rw [List.take_add_one, List.take_add_one, hu, hv, hos, Decidable.not_not.1 hc4], rfl, rfl, rfl⟩ (by omega) zcV zsL
      · refine WC.exit ?_
        refine WQ.thn_exit ?_
        refine WQ.back_exit ?_
        refine WQ.blk_here ?_
        refine WQ.thn ?_
        refine WC.seq ?_
        refine WC.region ?_
        refine WL.pur (Pur.assign rfl) ?_
        refine WL.nil ?_
        refine WQ.thn ?_
        refine WC.ret ?_
        refine WQ.ret1 Tryz.results116 rfl [] zsL (View.le_refl _) ?_
        refine ⟨?_, rfl, rfl⟩
        rw [List.take_of_length_le (by omega), List.take_of_length_le (by omega)] at hos; exact boolT (nodeD_eq eau ecl hps hos)

theorem r5_SameEntry (σ : View) (x y : EntD) (pv ov qv rv : Value) (hx : NodeR σ x.node pv ov) (hy : NodeR σ y.node qv rv) (hxi : IsH x.id) (hyi : IsH y.id) :
    TriP Tryz.prog 45 #[.agg (entCells x.id x.node.au x.node.cl pv ov).toArray, .agg (entCells y.id y.node.au y.node.cl qv rv).toArray] σ (.bool (decide (x = y))) := by
  have hx2 := hx
  have hy2 := hy
  obtain ⟨pa, pc, rfl, _, _⟩ := hx2.1.shape
  obtain ⟨oa, oc, rfl, _, _⟩ := hx2.2.1.shape
  obtain ⟨qa, qc, rfl, _, _⟩ := hy2.1.shape
  obtain ⟨ra, rc, rfl, _, _⟩ := hy2.2.1.shape
  refine Tri.of_body [(0, .agg (entCells x.id x.node.au x.node.cl (.slice pa x.node.ps.length pc) (.slice oa x.node.ops.length oc)).toArray), (1, .agg (entCells y.id y.node.au y.node.cl (.slice qa y.node.ps.length qc) (.slice ra y.node.ops.length rc)).toArray)] Tryz.func45 rfl Tryz.ntmps45 (by simp) rfl (fun Hr => ?_)
  rw [List.nil_append]
  refine WC.seq ?_
  refine WC.region ?_
  refine WL.new (New.boxN rfl) (fun b2 => ?_)
  refine WL.new (New.boxN rfl) (fun b3 => ?_)
  refine WL.pur (Pur.assign rfl) ?_
  refine WL.nil ?_
  refine WQ.thn ?_
  refine WC.seq ?_
  refine WC.region ?_
  refine WL.pur (Pur.fieldAddr rfl fo_45_0) ?_
  refine' WL.pur (Pur.loadN rfl ty_39 ?h1_0 ?h1_1) ?k1
  case h1_0 => first | (apply Rd.own_sub; exact zmE; exact Sub.ent_hash _ _ _ _ _) | (apply RdV.rd; apply RdV.sub0; assumption; exact Sub.ent_hash _ _ _ _ _)
  case h1_1 => first | rfl | assumption
  refine WL.pur (Pur.fieldAddr rfl fo_45_0) ?_
  refine' WL.pur (Pur.loadN rfl ty_39 ?h2_0 ?h2_1) ?k2
  case h2_0 => first | (apply Rd.own_sub; exact zmE; exact Sub.ent_hash _ _ _ _ _) | (apply RdV.rd; apply RdV.sub0; assumption; exact Sub.ent_hash _ _ _ _ _)
  case h2_1 => first | rfl | assumption
  refine' WL.pur (Pur.bin rfl rfl ?h3_0) ?k3
  case h3_0 => (refine Bin.eqH isHash_39 ?_ ?_ <;> assumption)
  refine WL.pur (Pur.move rfl) ?_
  refine' WL.andp (u := 10) (t := 16) rfl ?h4_0 ?h4_1 ?h4_2 rfl ?k4
  case h4_0 =>
    intro hg10 K10
    refine WL.gpur (u := 10) rfl rfl (gT hg10) (Pur.fieldAddr rfl fo_45_1) ?_
    refine' WL.gpur (u := 10) rfl rfl (gT hg10) (Pur.loadN rfl ty_43 ?h5_0 ?h5_1) ?k5
    case h5_0 => first | (apply Rd.own_sub; exact zmE; exact Sub.ent_node _ _ _ _ _) | (apply RdV.rd; apply RdV.sub (i := 32); assumption; exact Sub.ent_node _ _ _ _ _)
    case h5_1 => first | rfl | assumption
    refine WL.gpur (u := 10) rfl rfl (gT hg10) (Pur.fieldAddr rfl fo_45_1) ?_
    refine' WL.gpur (u := 10) rfl rfl (gT hg10) (Pur.loadN rfl ty_43 ?h6_0 ?h6_1) ?k6
    case h6_0 => first | (apply Rd.own_sub; exact zmE; exact Sub.ent_node _ _ _ _ _) | (apply RdV.rd; apply RdV.sub (i := 32); assumption; exact Sub.ent_node _ _ _ _ _)
    case h6_1 => first | rfl | assumption
    refine WL.gcallP (u := 10) rfl rfl (gT hg10) rfl Tryz.call116 ((r5_Same _ x.node y.node _ _ _ _ hx hy)) ?_
    exact K10 _ zcR rfl
  case h4_1 =>
    intro hg10 K10
    refine WL.gskip (u := 10) rfl rfl (sT hg10) ?_
    refine WL.gskip (u := 10) rfl rfl (sT hg10) ?_
    refine WL.gskip (u := 10) rfl rfl (sT hg10) ?_
    refine WL.gskip (u := 10) rfl rfl (sT hg10) ?_
    refine WL.gskip (u := 10) rfl rfl (sT hg10) ?_
    exact K10 _ zcR
  case h4_2 => exact Wanted.plain rfl
  refine WL.pur (Pur.assign rfl) ?_
  refine WL.nil ?_
  refine WQ.thn ?_
  refine WC.ret ?_
  refine WQ.ret1 Tryz.results45 rfl [] zsL (View.le_refl _) ?_
  refine ⟨?_, rfl, rfl⟩
  exact decB entD_eq

end Go.Proofs.YtgoooilgmabkmaaGreat
namespace Go.Proofs.YtgoooilgmabkmaaGreat
open Go Go.Sl
set_option linter.unusedVariables false
set_option linter.unusedSimpArgs false
set_option maxRecDepth 100000

set_option maxHeartbeats 2000000 in
theorem law11_alike (σ : View) (pv qv : Value) (L : List EntD) (hp : PastV σ pv L) (hq : R11V σ qv L) (ho : OrdOk L) :
    Tri Tryz.prog 38 #[pv, qv] σ [] (fun v σ' H' => v = .bool true ∧ H' = []) := by
  have hp' := hp
  have hq' := hq
  have hmost := ho.most
  have hhl := heads_len L
  obtain ⟨pb, _, _, _, rfl, _⟩ := hp'
  obtain ⟨qb, qlv, qsv, qqv, rfl, hr, hE, hS, hQ⟩ := hq'
  obtain ⟨ea, ec, rfl, hec, heb⟩ := hE.shape
  obtain ⟨eb, eoff, hel⟩ := addr_of hE
  refine Tri.of_body [(0, .pointer (some ⟨pb, 0, none⟩)), (1, .pointer (some ⟨qb, 0, none⟩))] Tryz.func38 rfl Tryz.ntmps38 (by simp) rfl (fun Hr => ?_)
  rw [List.nil_append]
  refine WC.seq ?_
  refine WC.region ?_
  refine WL.pur (Pur.assign rfl) ?_
  refine WL.nil ?_
  refine WQ.thn ?_
  refine WC.seq ?_
  refine WC.seq ?_
  refine WC.draw 20 20 ([]) mixed (by kernel_rfl) rfl ?_
  refine SA.take 0 (by kernel_rfl) rfl rfl rfl (Wanted.plain rfl) zsL (by first | exact View.le_refl _ | assumption) (Pur.move rfl) ?_
  refine' SA.take 1 (by kernel_rfl) rfl rfl rfl (Wanted.plain rfl) zsL (by first | exact View.le_refl _ | assumption) (Pur.bin rfl rfl ?h1_0) ?k1
  case h1_0 => exact Bin.eqP isPtr_25
  refine SA.take 2 (by kernel_rfl) rfl rfl rfl (Wanted.plain rfl) zsL (by first | exact View.le_refl _ | assumption) (Pur.move rfl) ?_
  refine' SA.orp 11 (u := 11) rfl ?h2_0 ?h2_1 ?h2_2 rfl zsL (View.le_refl _) ?h2_3 rfl ?k2
  case h2_0 =>
    intro hg11 K11
    refine SA.take 3 (by kernel_rfl) rfl rfl rfl (Wanted.guard (u := 11) rfl rfl rfl (gF hg11)) zsL (by first | exact View.le_refl _ | assumption) (Pur.move rfl) ?_
    refine SA.take 5 (by kernel_rfl) rfl rfl rfl (Wanted.guard (u := 11) rfl rfl rfl (gF hg11)) zsL (by first | exact View.le_refl _ | assumption) (Pur.move rfl) ?_
    refine SA.take 6 (by kernel_rfl) rfl rfl rfl (Wanted.guard (u := 11) rfl rfl rfl (gF hg11)) zsL (by first | exact View.le_refl _ | assumption) (Pur.nilCheck rfl) ?_
    refine SA.take 7 (by kernel_rfl) rfl rfl rfl (Wanted.guard (u := 11) rfl rfl rfl (gF hg11)) zsL (by first | exact View.le_refl _ | assumption) (Pur.fieldAddr rfl fo_74_0) ?_
    refine' SA.take 8 (by kernel_rfl) rfl rfl rfl (Wanted.guard (u := 11) rfl rfl rfl (gF hg11)) zsL (by first | exact View.le_refl _ | assumption) (Pur.load1 rfl ty_22 ?h3_0) ?k3
    case h3_0 => exact RdV.rd (RdV.idx (off := 0) (i := 0) (hr.mono (View.le_refl _)) rfl)
    refine SA.take 9 (by kernel_rfl) rfl rfl rfl (Wanted.guard (u := 11) rfl rfl rfl (gF hg11)) zsL (by first | exact View.le_refl _ | assumption) (Pur.len rfl isSlice_22) ?_
    refine SA.callP 4 rfl rfl (Wanted.guard (u := 11) rfl rfl rfl (gF hg11)) (by kernel_rfl) rfl Tryz.call43 zsL (by first | exact View.le_refl _ | assumption) ((past_Len _ _ L hp)) ?_
    refine' SA.take 10 (by kernel_rfl) rfl rfl rfl (Wanted.guard (u := 11) rfl rfl rfl (gF hg11)) zsL (by first | exact View.le_refl _ | assumption) (Pur.bin rfl rfl ?h4_0) ?k4
    case h4_0 => first | exact Bin.neN | exact Bin.neI
    exact K11 _ zcR rfl
  case h2_1 =>
    intro hg11 K11
    refine SA.gskip 3 (u := 11) (by kernel_rfl) rfl rfl rfl rfl rfl rfl (sF hg11) zsL (by first | exact View.le_refl _ | assumption) ?_
    refine SA.gskip 4 (u := 11) (by kernel_rfl) rfl rfl rfl rfl rfl rfl (sF hg11) zsL (by first | exact View.le_refl _ | assumption) ?_
    refine SA.gskip 5 (u := 11) (by kernel_rfl) rfl rfl rfl rfl rfl rfl (sF hg11) zsL (by first | exact View.le_refl _ | assumption) ?_
    refine SA.gskip 6 (u := 11) (by kernel_rfl) rfl rfl rfl rfl rfl rfl (sF hg11) zsL (by first | exact View.le_refl _ | assumption) ?_
    refine SA.gskip 7 (u := 11) (by kernel_rfl) rfl rfl rfl rfl rfl rfl (sF hg11) zsL (by first | exact View.le_refl _ | assumption) ?_
    refine SA.gskip 8 (u := 11) (by kernel_rfl) rfl rfl rfl rfl rfl rfl (sF hg11) zsL (by first | exact View.le_refl _ | assumption) ?_
    refine SA.gskip 9 (u := 11) (by kernel_rfl) rfl rfl rfl rfl rfl rfl (sF hg11) zsL (by first | exact View.le_refl _ | assumption) ?_
    refine SA.gskip 10 (u := 11) (by kernel_rfl) rfl rfl rfl rfl rfl rfl (sF hg11) zsL (by first | exact View.le_refl _ | assumption) ?_
    exact K11 _ zcR
  case h2_2 => kernel_rfl
  case h2_3 => exact Wanted.plain rfl
  refine SA.take 12 (by kernel_rfl) rfl rfl rfl (Wanted.plain rfl) zsL (by first | exact View.le_refl _ | assumption) (Pur.move rfl) ?_
  refine' SA.orp 19 (u := 21) rfl ?h5_0 ?h5_1 ?h5_2 rfl zsL (View.le_refl _) ?h5_3 rfl ?k5
  case h5_0 =>
    intro hg21 K21
    refine SA.take 13 (by kernel_rfl) rfl rfl rfl (Wanted.guard (u := 21) rfl rfl rfl (gF hg21)) zsL (by first | exact View.le_refl _ | assumption) (Pur.move rfl) ?_
    refine SA.take 15 (by kernel_rfl) rfl rfl rfl (Wanted.guard (u := 21) rfl rfl rfl (gF hg21)) zsL (by first | exact View.le_refl _ | assumption) (Pur.move rfl) ?_
    refine SA.callR 14 (H1 := []) (Hr := Hr) rfl rfl (Wanted.guard (u := 21) rfl rfl rfl (gF hg21)) (by kernel_rfl) rfl Tryz.call67 (List.Perm.refl _) (.inr ⟨List.nil_sublist _, View.le_refl _⟩) (past_Heads _ _ L hp ho) ?_
    rintro _ σ1 _ ⟨hK, rfl⟩ hle1
    rw [List.nil_append]
    obtain ⟨ha, hca, rfl, _, _⟩ := hK.shape
    refine SA.callR 16 (H1 := []) (Hr := Hr) rfl rfl (Wanted.guard (u := 21) rfl rfl rfl (gF hg21)) (by kernel_rfl) rfl Tryz.call107 (List.Perm.refl _) (.inr ⟨List.nil_sublist _, hle1⟩) (r11_Heads _ _ L (hq.mono hle1) ho) ?_
    rintro _ σ1 h25 ⟨⟨_, hs25, rfl⟩, rfl⟩ _
    obtain ⟨hb, hcb, rfl, _⟩ := hs25.shape
    refine SA.callR 17 (H1 := h25) (Hr := Hr) rfl rfl (Wanted.guard (u := 21) rfl rfl rfl (gF hg21)) (by kernel_rfl) rfl Tryz.call114 (List.Perm.refl _) (.inr ⟨List.nil_sublist _, hle1⟩) (hs25.borrow (byt := 32) eHash_mono (by omega) (fun σ' hl' hs' => r1_Same σ' _ _ _ _ (hK.mono eHash_mono hl') hs')) ?_
    rintro _ σ1 h25 ⟨rfl, rfl, rfl⟩ _
    first | refine SA.take 18 (by kernel_rfl) rfl rfl rfl (Wanted.guard (u := 21) rfl rfl rfl (gF hg21)) zsL (by first | exact View.le_refl _ | assumption) (Pur.not rfl) ?_ | refine SA.take 18 (by kernel_rfl) rfl rfl rfl (Wanted.guard (u := 21) rfl rfl rfl (gF hg21)) zsL (by first | exact View.le_refl _ | assumption) (Pur.notB rfl) ?_
    refine SA.leH ?_ hle1 (List.sublist_append_right _ _)
    exact K21 _ zcR rfl
  case h5_1 =>
    intro hg21 K21
    refine SA.gskip 13 (u := 21) (by kernel_rfl) rfl rfl rfl rfl rfl rfl (sF hg21) zsL (by first | exact View.le_refl _ | assumption) ?_
    refine SA.gskip 14 (u := 21) (by kernel_rfl) rfl rfl rfl rfl rfl rfl (sF hg21) zsL (by first | exact View.le_refl _ | assumption) ?_
    refine SA.gskip 15 (u := 21) (by kernel_rfl) rfl rfl rfl rfl rfl rfl (sF hg21) zsL (by first | exact View.le_refl _ | assumption) ?_
    refine SA.gskip 16 (u := 21) (by kernel_rfl) rfl rfl rfl rfl rfl rfl (sF hg21) zsL (by first | exact View.le_refl _ | assumption) ?_
    refine SA.gskip 17 (u := 21) (by kernel_rfl) rfl rfl rfl rfl rfl rfl (sF hg21) zsL (by first | exact View.le_refl _ | assumption) ?_
    refine SA.gskip 18 (u := 21) (by kernel_rfl) rfl rfl rfl rfl rfl rfl (sF hg21) zsL (by first | exact View.le_refl _ | assumption) ?_
    exact K21 _ zcR
  case h5_2 => kernel_rfl
  case h5_3 => exact Wanted.plain rfl
  refine SA.done (by kernel_rfl) ?_
  refine WQ.thn ?_
  first | refine WC.cond rfl (fun hc0 => ?_) (fun hc0 => ?_) | refine WC.condB rfl (fun hc0 => ?_) (fun hc0 => ?_)
  · exact (hc0.elim (fun h => h.elim (fun h => by cases h) (fun h => h rfl)) (fun h => h rfl)).elim
  · refine WC.skip ?_
    refine WQ.thn ?_
    refine WC.seq ?_
    refine WC.seq ?_
    refine WC.region ?_
    refine WL.pur (Pur.move rfl) ?_
    refine WL.pur (Pur.nilCheck rfl) ?_
    refine WL.pur (Pur.fieldAddr rfl fo_74_0) ?_
    refine' WL.pur (Pur.load1 rfl ty_22 ?h6_0) ?k6
    case h6_0 => exact RdV.rd (RdV.idx (off := 0) (i := 0) (hr.mono (View.le_refl _)) rfl)
    refine WL.pur (Pur.len rfl isSlice_22) ?_
    refine WL.pur (Pur.move rfl) ?_
    refine WL.nil ?_
    refine WQ.thn ?_
    refine WC.block ?_
    refine WC.loop (fun j m σ' H' => ∃ i : Nat, j = L.length - i ∧ i ≤ L.length ∧ σ.le σ' ∧ m = [(0, .pointer (some ⟨pb, 0, none⟩)), (1, .pointer (some ⟨qb, 0, none⟩)), (33, .int .i64 (L.length : Int)), (34, .int .i64 (i : Int))] ∧ H' = Hr) ⟨0, rfl, by omega, View.le_refl _, rfl, rfl⟩ zcV zsL ?_
    rintro _ _ σ Hr ⟨i, rfl, hi, hlei, rfl, rfl⟩
    refine WC.seq ?_
    refine WC.region ?_
    refine' WL.pur (Pur.bin rfl rfl ?h7_0) ?k7
    case h7_0 => first | exact Bin.ltN | exact Bin.ltI | exact Bin.ltS
    refine WL.nil ?_
    refine WQ.thn ?_
    refine WC.seq ?_
    first | refine WC.cond rfl (fun hc1 => ?_) (fun hc1 => ?_) | refine WC.condB rfl (fun hc1 => ?_) (fun hc1 => ?_)
    · obtain ⟨e, he⟩ : ∃ e, L[i]? = some e := ⟨_, List.getElem?_eq_getElem (by omega)⟩
      obtain ⟨qv, ov, hrd, heH, hNR⟩ := ent_rd (hE.mono eEnt_mono hlei) hel he
      have hNRz := hNR
      obtain ⟨epa, epc, rfl, _, _⟩ := hNRz.1.shape
      obtain ⟨eoa, eoc, rfl, _, _⟩ := hNRz.2.1.shape
      have hnum : numV (idxOf L e.id) = (i : Int) := by rw [idxOf_of ho.nodup he]; rfl
      refine WC.skip ?_
      refine WQ.thn ?_
      refine WC.seq ?_
      refine WC.block ?_
      refine WC.seq ?_
      refine WC.region ?_
      refine WL.pur (Pur.move rfl) ?_
      refine WL.pur (Pur.assign rfl) ?_
      refine WL.nil ?_
      refine WQ.thn ?_
      refine WC.seq ?_
      refine WC.region ?_
      refine WL.pur (Pur.move rfl) ?_
      refine WL.pur (Pur.move rfl) ?_
      refine WL.call (H0 := []) (Hr := Hr) rfl Tryz.call44 (List.Perm.refl _) (past_Entry _ _ L (i : Int) (hp.mono hlei)) ?_
      rintro _ σ2 _ ⟨hd, rfl⟩ hle2
      rw [List.nil_append]
      obtain ⟨k, e2, xv2, ov2, hik, he2, rfl, hNRx⟩ := hd.resolve_right (fun h => by have := h.1; omega)
      obtain rfl : i = k := by omega
      rw [he] at he2
      cases he2
      have hNRy := hNRx
      obtain ⟨xpa, xpc, rfl, _, _⟩ := hNRy.1.shape
      obtain ⟨xoa, xoc, rfl, _, _⟩ := hNRy.2.1.shape
      have hrd2 := hrd.mono hle2
      have hNR2 := hNR.mono hle2
      have hle3 := View.le_trans hlei hle2
      refine WL.pur (Pur.move rfl) ?_
      first | refine WL.pur (Pur.ex2_0 rfl) ?_ | refine WL.pur (Pur.ex3_0 rfl) ?_ | refine WL.pur (Pur.extractNext rfl) ?_ | refine WL.pur (Pur.extract rfl rfl) ?_
      first | refine WL.pur (Pur.ex2_1 rfl) ?_ | refine WL.pur (Pur.ex3_1 rfl) ?_ | refine WL.pur (Pur.extract rfl rfl) ?_
      refine WL.new (New.alloc zc_45) (fun b6 => ?_)
      refine' WL.run0 (Run.storeAll rfl rfl ty_45 ?h8_0 (by first | rfl | assumption) ?h8_1 (by first | rfl | assumption)) ?k8
      case h8_0 => repeat (first | exact Part.one | exact Part.here | apply Part.cons | apply Part.app)
      case h8_1 => first | rfl | assumption
      refine WL.pur (Pur.assign rfl) ?_
      refine WL.nil ?_
      refine WQ.thn ?_
      refine WC.seq ?_
      refine WC.seq ?_
      refine WC.draw 28 28 ([(b6, rowO 45 (entCells e.id e.node.au e.node.cl (.slice xpa e.node.ps.length xpc) (.slice xoa e.node.ops.length xoc)))]) mixed (by kernel_rfl) rfl ?_
      refine SA.take 0 (by kernel_rfl) rfl rfl rfl (Wanted.plain rfl) zsL (by first | exact View.le_refl _ | assumption) (Pur.move rfl) ?_
      refine' SA.take 1 (by kernel_rfl) rfl rfl rfl (Wanted.plain rfl) zsL (by first | exact View.le_refl _ | assumption) (Pur.bin rfl rfl ?h9_0) ?k9
      case h9_0 => first | exact Bin.neN (b := 0) | exact Bin.neI
      refine SA.take 2 (by kernel_rfl) rfl rfl rfl (Wanted.plain rfl) zsL (by first | exact View.le_refl _ | assumption) (Pur.move rfl) ?_
      refine' SA.orp 13 (u := 45) rfl ?h10_0 ?h10_1 ?h10_2 rfl zsL (View.le_refl _) ?h10_3 rfl ?k10
      case h10_0 =>
        intro hg45 K45
        refine' SA.take 3 (by kernel_rfl) rfl rfl rfl (Wanted.guard (u := 45) rfl rfl rfl (gF hg45)) zsL (by first | exact View.le_refl _ | assumption) (Pur.loadN rfl ty_45 ?h11_0 ?h11_1) ?k11
        case h11_0 => first | (apply Rd.own_sub; exact zmE; exact Sub.refl _) | (apply RdV.rd; assumption)
        case h11_1 => first | rfl | assumption
        refine SA.take 4 (by kernel_rfl) rfl rfl rfl (Wanted.guard (u := 45) rfl rfl rfl (gF hg45)) zsL (by first | exact View.le_refl _ | assumption) (Pur.move rfl) ?_
        refine SA.take 5 (by kernel_rfl) rfl rfl rfl (Wanted.guard (u := 45) rfl rfl rfl (gF hg45)) zsL (by first | exact View.le_refl _ | assumption) (Pur.nilCheck rfl) ?_
        refine SA.take 6 (by kernel_rfl) rfl rfl rfl (Wanted.guard (u := 45) rfl rfl rfl (gF hg45)) zsL (by first | exact View.le_refl _ | assumption) (Pur.fieldAddr rfl fo_74_0) ?_
        refine' SA.take 7 (by kernel_rfl) rfl rfl rfl (Wanted.guard (u := 45) rfl rfl rfl (gF hg45)) zsL (by first | exact View.le_refl _ | assumption) (Pur.load1 rfl ty_22 ?h12_0) ?k12
        case h12_0 => exact RdV.rd (RdV.idx (off := 0) (i := 0) (hr.mono hle3) rfl)
        refine SA.take 8 (by kernel_rfl) rfl rfl rfl (Wanted.guard (u := 45) rfl rfl rfl (gF hg45)) zsL (by first | exact View.le_refl _ | assumption) (Pur.move rfl) ?_
        refine' SA.take 9 (by kernel_rfl) rfl rfl rfl (Wanted.guard (u := 45) rfl rfl rfl (gF hg45)) zsL (by first | exact View.le_refl _ | assumption) (Pur.indexAddr (eqA (hel (by omega))) rfl sl_22 ?h13_0) ?k13
        case h13_0 => omega
        refine' SA.take 10 (by kernel_rfl) rfl rfl rfl (Wanted.guard (u := 45) rfl rfl rfl (gF hg45)) zsL (by first | exact View.le_refl _ | assumption) (Pur.loadN rfl ty_45 ?h14_0 ?h14_1) ?k14
        case h14_0 => exact RdV.rd hrd2
        case h14_1 => first | rfl | assumption
        refine SA.callP 11 rfl rfl (Wanted.guard (u := 45) rfl rfl rfl (gF hg45)) (by kernel_rfl) rfl Tryz.call45 zsL (by first | exact View.le_refl _ | assumption) ((r5_SameEntry _ e e _ _ _ _ hNRx hNR2 heH heH)) ?_
        first | refine SA.take 12 (by kernel_rfl) rfl rfl rfl (Wanted.guard (u := 45) rfl rfl rfl (gF hg45)) zsL (by first | exact View.le_refl _ | assumption) (Pur.not rfl) ?_ | refine SA.take 12 (by kernel_rfl) rfl rfl rfl (Wanted.guard (u := 45) rfl rfl rfl (gF hg45)) zsL (by first | exact View.le_refl _ | assumption) (Pur.notB rfl) ?_
        exact K45 _ zcR rfl
      case h10_1 =>
        intro hg45 K45
        refine SA.gskip 3 (u := 45) (by kernel_rfl) rfl rfl rfl rfl rfl rfl (sF hg45) zsL (by first | exact View.le_refl _ | assumption) ?_
        refine SA.gskip 4 (u := 45) (by kernel_rfl) rfl rfl rfl rfl rfl rfl (sF hg45) zsL (by first | exact View.le_refl _ | assumption) ?_
        refine SA.gskip 5 (u := 45) (by kernel_rfl) rfl rfl rfl rfl rfl rfl (sF hg45) zsL (by first | exact View.le_refl _ | assumption) ?_
        refine SA.gskip 6 (u := 45) (by kernel_rfl) rfl rfl rfl rfl rfl rfl (sF hg45) zsL (by first | exact View.le_refl _ | assumption) ?_
        refine SA.gskip 7 (u := 45) (by kernel_rfl) rfl rfl rfl rfl rfl rfl (sF hg45) zsL (by first | exact View.le_refl _ | assumption) ?_
        refine SA.gskip 8 (u := 45) (by kernel_rfl) rfl rfl rfl rfl rfl rfl (sF hg45) zsL (by first | exact View.le_refl _ | assumption) ?_
        refine SA.gskip 9 (u := 45) (by kernel_rfl) rfl rfl rfl rfl rfl rfl (sF hg45) zsL (by first | exact View.le_refl _ | assumption) ?_
        refine SA.gskip 10 (u := 45) (by kernel_rfl) rfl rfl rfl rfl rfl rfl (sF hg45) zsL (by first | exact View.le_refl _ | assumption) ?_
        refine SA.gskip 11 (u := 45) (by kernel_rfl) rfl rfl rfl rfl rfl rfl (sF hg45) zsL (by first | exact View.le_refl _ | assumption) ?_
        refine SA.gskip 12 (u := 45) (by kernel_rfl) rfl rfl rfl rfl rfl rfl (sF hg45) zsL (by first | exact View.le_refl _ | assumption) ?_
        exact K45 _ zcR
      case h10_2 => kernel_rfl
      case h10_3 => exact Wanted.plain rfl
      refine SA.take 14 (by kernel_rfl) rfl rfl rfl (Wanted.plain rfl) zsL (by first | exact View.le_refl _ | assumption) (Pur.move rfl) ?_
      refine' SA.orp 27 (u := 57) rfl ?h15_0 ?h15_1 ?h15_2 rfl zsL (View.le_refl _) ?h15_3 rfl ?k15
      case h15_0 =>
        intro hg57 K57
        refine SA.take 15 (by kernel_rfl) rfl rfl rfl (Wanted.guard (u := 57) rfl rfl rfl (gF hg57)) zsL (by first | exact View.le_refl _ | assumption) (Pur.move rfl) ?_
        refine SA.take 16 (by kernel_rfl) rfl rfl rfl (Wanted.guard (u := 57) rfl rfl rfl (gF hg57)) zsL (by first | exact View.le_refl _ | assumption) (Pur.move rfl) ?_
        refine SA.take 17 (by kernel_rfl) rfl rfl rfl (Wanted.guard (u := 57) rfl rfl rfl (gF hg57)) zsL (by first | exact View.le_refl _ | assumption) (Pur.nilCheck rfl) ?_
        refine SA.take 18 (by kernel_rfl) rfl rfl rfl (Wanted.guard (u := 57) rfl rfl rfl (gF hg57)) zsL (by first | exact View.le_refl _ | assumption) (Pur.fieldAddr rfl fo_74_0) ?_
        refine' SA.take 19 (by kernel_rfl) rfl rfl rfl (Wanted.guard (u := 57) rfl rfl rfl (gF hg57)) zsL (by first | exact View.le_refl _ | assumption) (Pur.load1 rfl ty_22 ?h16_0) ?k16
        case h16_0 => exact RdV.rd (RdV.idx (off := 0) (i := 0) (hr.mono hle3) rfl)
        refine SA.take 20 (by kernel_rfl) rfl rfl rfl (Wanted.guard (u := 57) rfl rfl rfl (gF hg57)) zsL (by first | exact View.le_refl _ | assumption) (Pur.move rfl) ?_
        refine' SA.take 21 (by kernel_rfl) rfl rfl rfl (Wanted.guard (u := 57) rfl rfl rfl (gF hg57)) zsL (by first | exact View.le_refl _ | assumption) (Pur.indexAddr (eqA (hel (by omega))) rfl sl_22 ?h17_0) ?k17
        case h17_0 => omega
        refine SA.take 22 (by kernel_rfl) rfl rfl rfl (Wanted.guard (u := 57) rfl rfl rfl (gF hg57)) zsL (by first | exact View.le_refl _ | assumption) (Pur.fieldAddr rfl fo_45_0) ?_
        refine' SA.take 23 (by kernel_rfl) rfl rfl rfl (Wanted.guard (u := 57) rfl rfl rfl (gF hg57)) zsL (by first | exact View.le_refl _ | assumption) (Pur.loadN rfl ty_39 ?h18_0 ?h18_1) ?k18
        case h18_0 => apply RdV.rd; apply RdV.sub0; exact hrd2; exact Sub.ent_hash _ _ _ _ _
        case h18_1 => first | rfl | assumption
        refine SA.take 25 (by kernel_rfl) rfl rfl rfl (Wanted.guard (u := 57) rfl rfl rfl (gF hg57)) zsL (by first | exact View.le_refl _ | assumption) (Pur.move rfl) ?_
        refine SA.callP 24 rfl rfl (Wanted.guard (u := 57) rfl rfl rfl (gF hg57)) (by kernel_rfl) rfl Tryz.call36 zsL (by first | exact View.le_refl _ | assumption) ((past_Number _ _ L e.id (hp.mono hle3) heH)) ?_
        refine' SA.take 26 (by kernel_rfl) rfl rfl rfl (Wanted.guard (u := 57) rfl rfl rfl (gF hg57)) zsL (by first | exact View.le_refl _ | assumption) (Pur.bin rfl rfl ?h19_0) ?k19
        case h19_0 => first | exact Bin.neN | exact Bin.neI
        exact K57 _ zcR rfl
      case h15_1 =>
        intro hg57 K57
        refine SA.gskip 15 (u := 57) (by kernel_rfl) rfl rfl rfl rfl rfl rfl (sF hg57) zsL (by first | exact View.le_refl _ | assumption) ?_
        refine SA.gskip 16 (u := 57) (by kernel_rfl) rfl rfl rfl rfl rfl rfl (sF hg57) zsL (by first | exact View.le_refl _ | assumption) ?_
        refine SA.gskip 17 (u := 57) (by kernel_rfl) rfl rfl rfl rfl rfl rfl (sF hg57) zsL (by first | exact View.le_refl _ | assumption) ?_
        refine SA.gskip 18 (u := 57) (by kernel_rfl) rfl rfl rfl rfl rfl rfl (sF hg57) zsL (by first | exact View.le_refl _ | assumption) ?_
        refine SA.gskip 19 (u := 57) (by kernel_rfl) rfl rfl rfl rfl rfl rfl (sF hg57) zsL (by first | exact View.le_refl _ | assumption) ?_
        refine SA.gskip 20 (u := 57) (by kernel_rfl) rfl rfl rfl rfl rfl rfl (sF hg57) zsL (by first | exact View.le_refl _ | assumption) ?_
        refine SA.gskip 21 (u := 57) (by kernel_rfl) rfl rfl rfl rfl rfl rfl (sF hg57) zsL (by first | exact View.le_refl _ | assumption) ?_
        refine SA.gskip 22 (u := 57) (by kernel_rfl) rfl rfl rfl rfl rfl rfl (sF hg57) zsL (by first | exact View.le_refl _ | assumption) ?_
        refine SA.gskip 23 (u := 57) (by kernel_rfl) rfl rfl rfl rfl rfl rfl (sF hg57) zsL (by first | exact View.le_refl _ | assumption) ?_
        refine SA.gskip 24 (u := 57) (by kernel_rfl) rfl rfl rfl rfl rfl rfl (sF hg57) zsL (by first | exact View.le_refl _ | assumption) ?_
        refine SA.gskip 25 (u := 57) (by kernel_rfl) rfl rfl rfl rfl rfl rfl (sF hg57) zsL (by first | exact View.le_refl _ | assumption) ?_
        refine SA.gskip 26 (u := 57) (by kernel_rfl) rfl rfl rfl rfl rfl rfl (sF hg57) zsL (by first | exact View.le_refl _ | assumption) ?_
        exact K57 _ zcR
      case h15_2 => kernel_rfl
      case h15_3 => exact Wanted.plain rfl
      refine SA.done (by kernel_rfl) ?_
      refine WQ.thn ?_
      first | refine WC.cond rfl (fun hc2 => ?_) (fun hc2 => ?_) | refine WC.condB rfl (fun hc2 => ?_) (fun hc2 => ?_)
      · exact (hc2.elim (fun h => h.elim (fun h => h rfl) (fun h => h rfl)) (fun h => h hnum)).elim
      · refine WC.skip ?_
        refine WQ.thn ?_
        refine WC.seq ?_
        refine WC.region ?_
        refine WL.pur (Pur.move rfl) ?_
        refine WL.pur (Pur.nilCheck rfl) ?_
        refine WL.pur (Pur.fieldAddr rfl fo_74_0) ?_
        refine' WL.pur (Pur.load1 rfl ty_22 ?h20_0) ?k20
        case h20_0 => exact RdV.rd (RdV.idx (off := 0) (i := 0) (hr.mono hle3) rfl)
        refine WL.pur (Pur.len rfl isSlice_22) ?_
        refine WL.pur (Pur.move rfl) ?_
        refine WL.nil ?_
        refine WQ.thn ?_
        refine WC.block ?_
        refine WC.loop (fun j m σ' H' => ∃ k : Nat, j = L.length - k ∧ k ≤ L.length ∧ m = [(0, .pointer (some ⟨pb, 0, none⟩)), (1, .pointer (some ⟨qb, 0, none⟩)), (33, .int .i64 (L.length : Int)), (34, .int .i64 (i : Int)), (5, .int .i64 (i : Int)), (75, .int .i64 (L.length : Int)), (76, .int .i64 (k : Int))] ∧ σ' = σ2 ∧ H' = Hr) ⟨0, rfl, by omega, rfl, rfl, rfl⟩ zcV zsL ?_
        rintro _ _ σ Hr ⟨k, rfl, hk, rfl, rfl, rfl⟩
        refine WC.seq ?_
        refine WC.region ?_
        refine' WL.pur (Pur.bin rfl rfl ?h21_0) ?k21
        case h21_0 => first | exact Bin.ltN | exact Bin.ltI | exact Bin.ltS
        refine WL.nil ?_
        refine WQ.thn ?_
        refine WC.seq ?_
        first | refine WC.cond rfl (fun hc3 => ?_) (fun hc3 => ?_) | refine WC.condB rfl (fun hc3 => ?_) (fun hc3 => ?_)
        · refine WC.skip ?_
          refine WQ.thn ?_
          refine WC.seq ?_
          refine WC.block ?_
          refine WC.seq ?_
          refine WC.region ?_
          refine WL.pur (Pur.move rfl) ?_
          refine WL.pur (Pur.assign rfl) ?_
          refine WL.nil ?_
          refine WQ.thn ?_
          refine WC.seq ?_
          refine WC.region ?_
          refine WL.pur (Pur.move rfl) ?_
          refine WL.pur (Pur.move rfl) ?_
          refine WL.pur (Pur.move rfl) ?_
          refine WL.callP rfl Tryz.call113 ((past_Sees _ _ L i k (hp.mono hle3) ho hc3 (by omega))) ?_
          refine WL.pur (Pur.move rfl) ?_
          refine WL.pur (Pur.move rfl) ?_
          refine WL.pur (Pur.move rfl) ?_
          refine WL.callP rfl Tryz.call115 ((r11_Sees _ _ L i k (hq.mono hle3) ho hc3 hc1)) ?_
          refine' WL.pur (Pur.bin rfl rfl ?h22_0) ?k22
          case h22_0 => exact Bin.neB isBool_4
          refine WL.nil ?_
          refine WQ.thn ?_
          first | refine WC.cond rfl (fun hc4 => ?_) (fun hc4 => ?_) | refine WC.condB rfl (fun hc4 => ?_) (fun hc4 => ?_)
          · exact absurd rfl hc4
          · refine WC.skip ?_
            refine WQ.blk ?_
            refine WQ.thn ?_
            refine WC.region ?_
            refine' WL.pur (Pur.bin rfl rfl ?h23_0) ?k23
            case h23_0 => first | (refine Bin.addN (b := 1) ?_; omega) | (refine Bin.addI ?_; omega)
            refine WL.pur (Pur.move rfl) ?_
            refine WL.nil ?_
            refine WQ.back _ ⟨k + 1, rfl, by omega, rfl, rfl, rfl⟩ (by omega) zcV zsL
        · refine WC.exit ?_
          refine WQ.thn_exit ?_
          refine WQ.back_exit ?_
          refine WQ.blk_here ?_
          refine WQ.blk ?_
          refine WQ.thn ?_
          refine WC.region ?_
          refine' WL.pur (Pur.bin rfl rfl ?h24_0) ?k24
          case h24_0 => first | (refine Bin.addN (b := 1) ?_; omega) | (refine Bin.addI ?_; omega)
          refine WL.pur (Pur.move rfl) ?_
          refine WL.nil ?_
          refine WQ.back _ ⟨i + 1, rfl, by omega, hle3, rfl, rfl⟩ (by omega) zcV zsL
    · refine WC.exit ?_
      refine WQ.thn_exit ?_
      refine WQ.back_exit ?_
      refine WQ.blk_here ?_
      refine WQ.thn ?_
      refine WC.seq ?_
      refine WC.region ?_
      refine WL.pur (Pur.assign rfl) ?_
      refine WL.nil ?_
      refine WQ.thn ?_
      refine WC.ret ?_
      refine WQ.ret1 Tryz.results38 rfl [] zsL hlei ?_
      exact ⟨rfl, rfl⟩

end Go.Proofs.YtgoooilgmabkmaaGreat
namespace Go.Proofs.YtgoooilgmabkmaaGreat
open Go Go.Sl
set_option linter.unusedVariables false
set_option linter.unusedSimpArgs false
set_option maxRecDepth 100000

theorem law11_awake (σ : View) :
    Tri Tryz.prog 35 #[] σ [] (fun v σ' H' => v = .bool true ∧ H' = []) := by
  have hIB := idA_isH
  have hIA := idB_isH
  have hIB2 : IsH gB.id := idA_isH
  refine Tri.of_body [] Tryz.func35 rfl Tryz.ntmps35 (by simp) rfl (fun Hr => ?_)
  rw [List.nil_append]
  refine WC.seq ?_
  refine WC.region ?_
  refine WL.pur (Pur.assign rfl) ?_
  refine WL.nil ?_
  refine WQ.thn ?_
  refine WC.seq ?_
  refine WC.region ?_
  refine WL.pur (Pur.buildA (us := (hashCells (2 ^ 249))) zc_39 ar_39 rfl rfl rfl) ?_
  refine WL.pur (Pur.build (l := (nodeCells 1 1 (.slice none 0 0) (.slice none 0 0))) pl_43 zc_43 rfl rfl) ?_
  refine WL.pur (Pur.build (l := entCells _ _ _ _ _) pl_45 zc_45 rfl rfl) ?_
  refine WL.new (New.alloc zc_45) (fun b1 => ?_)
  refine' WL.run0 (Run.storeAll rfl rfl ty_45 ?h1_0 (by first | rfl | assumption) ?h1_1 (by first | rfl | assumption)) ?k1
  case h1_0 => repeat (first | exact Part.one | exact Part.here | apply Part.cons | apply Part.app)
  case h1_1 => first | rfl | assumption
  refine WL.nil ?_
  refine WQ.thn ?_
  refine WC.seq ?_
  refine WC.region ?_
  refine WL.pur (Pur.buildA (us := (hashCells (2 ^ 248))) zc_39 ar_39 rfl rfl rfl) ?_
  refine WL.pur (Pur.buildA (us := (hashCells (2 ^ 249))) zc_39 ar_39 rfl rfl rfl) ?_
  refine WL.new (New.buildSliceN (xs := [.tmp 13]) (vss := [hashCells (2 ^ 249)]) sl_41 zc_39 rfl rfl rfl (by rfl) (by rfl)) (fun b14 => ?_)
  refine WL.pur (Pur.build (l := (nodeCells 2 2 (.slice (some ⟨b14, 0, none⟩) 1 1) (.slice none 0 0))) pl_43 zc_43 rfl rfl) ?_
  refine WL.pur (Pur.build (l := entCells _ _ _ _ _) pl_45 zc_45 rfl rfl) ?_
  refine WL.new (New.alloc zc_45) (fun b2 => ?_)
  refine' WL.run0 (Run.storeAll rfl rfl ty_45 ?h2_0 (by first | rfl | assumption) ?h2_1 (by first | rfl | assumption)) ?k2
  case h2_0 => repeat (first | exact Part.one | exact Part.here | apply Part.cons | apply Part.app)
  case h2_1 => first | rfl | assumption
  refine WL.nil ?_
  refine WQ.thn ?_
  refine WC.seq ?_
  refine WC.region ?_
  refine' WL.pur (Pur.loadN rfl ty_45 ?h3_0 ?h3_1) ?k3
  case h3_0 => first | (apply Rd.own_sub; exact zmE; exact Sub.refl _) | (apply RdV.rd; assumption)
  case h3_1 => first | rfl | assumption
  refine' WL.pur (Pur.loadN rfl ty_45 ?h4_0 ?h4_1) ?k4
  case h4_0 => first | (apply Rd.own_sub; exact zmE; exact Sub.refl _) | (apply RdV.rd; assumption)
  case h4_1 => first | rfl | assumption
  refine WL.new (New.buildSliceN (xs := [.tmp 18, .tmp 19]) (vss := [entCells (2 ^ 248) 2 2 (.slice (some ⟨b14, 0, none⟩) 1 1) (.slice none 0 0), entCells (2 ^ 249) 1 1 (.slice none 0 0) (.slice none 0 0)]) sl_22 zc_45 rfl rfl rfl (by rfl) (by rfl)) (fun b20 => ?_)
  refine WL.giveS (E := eHash) (byt := 32) (H1 := [(b20, _), (b2, _)]) (H2 := (b1, _) :: Hr) eHash_mono (SlO.row (T := 39) (b := b14) (ElR.single (σ := σ) (sz := 32) (x := 2 ^ 249) rfl rfl ⟨rfl, idB_isH⟩)) (by decide) rfl (fun σ1 hle1 hsP => ?_)
  simp only [List.cons_append, List.nil_append]
  refine WL.giveS (E := eEnt) (byt := 96) (H1 := []) (H2 := (b2, rowO 45 (entCells (2 ^ 248) 2 2 (.slice (some ⟨b14, 0, none⟩) 1 1) (.slice none 0 0))) :: (b1, rowO 45 (entCells (2 ^ 249) 1 1 (.slice none 0 0) (.slice none 0 0))) :: Hr) eEnt_mono (SlO.row (T := 45) (b := b20) (l := [gB, gA]) (show ElR σ1 eEnt 36 [gB, gA] [entCells (2 ^ 248) 2 2 (.slice (some ⟨b14, 0, none⟩) 1 1) (.slice none 0 0), entCells (2 ^ 249) 1 1 (.slice none 0 0) (.slice none 0 0)] from (ElR.single (x := gB) rfl rfl ⟨_, _, rfl, idA_isH, hsP, SlE.nilS, i2, i2⟩).push (x := gA) rfl rfl ⟨_, _, rfl, idB_isH, SlE.nilS, SlE.nilS, i1, i1⟩)) (by decide) rfl (fun σ2 hle2 hsl => ?_)
  rw [List.nil_append]
  refine WL.call (H0 := []) (Hr := (b2, rowO 45 (entCells (2 ^ 248) 2 2 (.slice (some ⟨b14, 0, none⟩) 1 1) (.slice none 0 0))) :: (b1, rowO 45 (entCells (2 ^ 249) 1 1 (.slice none 0 0) (.slice none 0 0))) :: Hr) rfl Tryz.call23 (List.Perm.refl _) (past_Of2 _ _ [gB, gA] hsl) ?_
  rintro _ σ3 _ ⟨⟨pa, n3, rfl, hpp, hpn⟩, rfl⟩ hle3
  rw [List.nil_append]
  have hp1 := hpp right_g
  rw [ord_g] at hp1
  refine WL.pur (Pur.move rfl) ?_
  first | refine WL.pur (Pur.ex2_0 rfl) ?_ | refine WL.pur (Pur.ex3_0 rfl) ?_ | refine WL.pur (Pur.extractNext rfl) ?_ | refine WL.pur (Pur.extract rfl rfl) ?_
  first | refine WL.pur (Pur.ex2_1 rfl) ?_ | refine WL.pur (Pur.ex3_1 rfl) ?_ | refine WL.pur (Pur.extract rfl rfl) ?_
  first | refine WL.pur (Pur.ex3_2 rfl) ?_ | refine WL.pur (Pur.extract rfl rfl) ?_
  refine WL.pur (Pur.assign rfl) ?_
  refine WL.pur (Pur.assign rfl) ?_
  refine WL.pur (Pur.assign rfl) ?_
  refine WL.nil ?_
  refine WQ.thn ?_
  refine WC.seq ?_
  refine WC.seq ?_
  refine WC.region ?_
  refine WL.pur (Pur.move rfl) ?_
  refine' WL.pur (Pur.bin rfl rfl ?h5_0) ?k5
  case h5_0 => first | exact Bin.neN (b := 0) | exact Bin.neI
  refine WL.pur (Pur.move rfl) ?_
  refine' WL.orp (u := 27) (t := 30) rfl ?h6_0 ?h6_1 ?h6_2 rfl ?k6
  case h6_0 =>
    intro hg27 K27
    refine WL.gpur (u := 27) rfl rfl (gF hg27) (Pur.move rfl) ?_
    refine' WL.gpur (u := 27) rfl rfl (gF hg27) (Pur.bin rfl rfl ?h7_0) ?k7
    case h7_0 => exact Bin.eqP isPtr_25
    exact K27 _ zcR rfl
  case h6_1 =>
    intro hg27 K27
    refine WL.gskip (u := 27) rfl rfl (sF hg27) ?_
    refine WL.gskip (u := 27) rfl rfl (sF hg27) ?_
    exact K27 _ zcR
  case h6_2 => exact Wanted.plain rfl
  refine WL.pur (Pur.move rfl) ?_
  refine' WL.orp (u := 31) (t := 35) rfl ?h8_0 ?h8_1 ?h8_2 rfl ?k8
  case h8_0 =>
    intro hg31 K31
    refine WL.gpur (u := 31) rfl rfl (gF hg31) (Pur.move rfl) ?_
    refine WL.gcallP (u := 31) rfl rfl (gF hg31) rfl Tryz.call43 ((past_Len _ _ [gA, gB] hp1)) ?_
    refine' WL.gpur (u := 31) rfl rfl (gF hg31) (Pur.bin rfl rfl ?h9_0) ?k9
    case h9_0 => first | exact Bin.neN (b := 2) | exact Bin.neI
    exact K31 _ zcR rfl
  case h8_1 =>
    intro hg31 K31
    refine WL.gskip (u := 31) rfl rfl (sF hg31) ?_
    refine WL.gskip (u := 31) rfl rfl (sF hg31) ?_
    refine WL.gskip (u := 31) rfl rfl (sF hg31) ?_
    exact K31 _ zcR
  case h8_2 => exact Wanted.plain rfl
  refine WL.pur (Pur.move rfl) ?_
  refine' WL.orp (u := 36) (t := 42) rfl ?h10_0 ?h10_1 ?h10_2 rfl ?k10
  case h10_0 =>
    intro hg36 K36
    refine WL.gpur (u := 36) rfl rfl (gF hg36) (Pur.move rfl) ?_
    refine WL.gpur (u := 36) rfl rfl (gF hg36) (Pur.fieldAddr rfl fo_45_0) ?_
    refine' WL.gpur (u := 36) rfl rfl (gF hg36) (Pur.loadN rfl ty_39 ?h11_0 ?h11_1) ?k11
    case h11_0 => first | (apply Rd.own_sub; exact zmE; exact Sub.ent_hash _ _ _ _ _) | (apply RdV.rd; apply RdV.sub0; assumption; exact Sub.ent_hash _ _ _ _ _)
    case h11_1 => first | rfl | assumption
    refine WL.gcallP (u := 36) rfl rfl (gF hg36) rfl Tryz.call36 ((past_Number _ _ [gA, gB] (2 ^ 248) hp1 hIB)) ?_
    refine' WL.gpur (u := 36) rfl rfl (gF hg36) (Pur.bin rfl rfl ?h12_0) ?k12
    case h12_0 => first | exact Bin.neN (b := 1) | exact Bin.neI
    exact K36 _ zcR rfl
  case h10_1 =>
    intro hg36 K36
    refine WL.gskip (u := 36) rfl rfl (sF hg36) ?_
    refine WL.gskip (u := 36) rfl rfl (sF hg36) ?_
    refine WL.gskip (u := 36) rfl rfl (sF hg36) ?_
    refine WL.gskip (u := 36) rfl rfl (sF hg36) ?_
    refine WL.gskip (u := 36) rfl rfl (sF hg36) ?_
    exact K36 _ zcR
  case h10_2 => exact Wanted.plain rfl
  refine WL.pur (Pur.move rfl) ?_
  refine' WL.orp (u := 43) (t := 47) rfl ?h13_0 ?h13_1 ?h13_2 rfl ?k13
  case h13_0 =>
    intro hg43 K43
    refine WL.gpur (u := 43) rfl rfl (gF hg43) (Pur.move rfl) ?_
    refine WL.gcallP (u := 43) rfl rfl (gF hg43) rfl Tryz.call113 ((past_Sees _ _ [gA, gB] 0 1 hp1 ok_g (by decide) (by decide))) ?_
    first | refine WL.gpur (u := 43) rfl rfl (gF hg43) (Pur.not rfl) ?_ | refine WL.gpur (u := 43) rfl rfl (gF hg43) (Pur.notB rfl) ?_
    exact K43 _ zcR rfl
  case h13_1 =>
    intro hg43 K43
    refine WL.gskip (u := 43) rfl rfl (sF hg43) ?_
    refine WL.gskip (u := 43) rfl rfl (sF hg43) ?_
    refine WL.gskip (u := 43) rfl rfl (sF hg43) ?_
    exact K43 _ zcR
  case h13_2 => exact Wanted.plain rfl
  refine WL.pur (Pur.move rfl) ?_
  refine' WL.orp (u := 48) (t := 51) rfl ?h14_0 ?h14_1 ?h14_2 rfl ?k14
  case h14_0 =>
    intro hg48 K48
    refine WL.gpur (u := 48) rfl rfl (gF hg48) (Pur.move rfl) ?_
    refine WL.gcallP (u := 48) rfl rfl (gF hg48) rfl Tryz.call113 ((past_Sees _ _ [gA, gB] 1 0 hp1 ok_g (by decide) (by decide))) ?_
    exact K48 _ zcR rfl
  case h14_1 =>
    intro hg48 K48
    refine WL.gskip (u := 48) rfl rfl (sF hg48) ?_
    refine WL.gskip (u := 48) rfl rfl (sF hg48) ?_
    exact K48 _ zcR
  case h14_2 => exact Wanted.plain rfl
  refine WL.nil ?_
  refine WQ.thn ?_
  first | refine WC.cond rfl (fun hc0 => ?_) (fun hc0 => ?_) | refine WC.condB rfl (fun hc0 => ?_) (fun hc0 => ?_)
  · rcases hc0 with ((((hc | hc) | hc) | hc) | hc) | hc
    · exact absurd right_g hc
    · obtain ⟨_, _, _, _, hpe, _⟩ := hp1; subst hc; cases hpe
    · exact absurd hc (by decide)
    · exact absurd (by decide) hc
    · exact absurd sees01_g hc
    · exact absurd hc sees10_g
  · refine WC.skip ?_
    refine WQ.thn ?_
    refine WC.seq ?_
    refine WC.region ?_
    refine WL.pur (Pur.move rfl) ?_
    refine WL.call (H0 := []) (Hr := (b2, rowO 45 (entCells (2 ^ 248) 2 2 (.slice (some ⟨b14, 0, none⟩) 1 1) (.slice none 0 0))) :: (b1, rowO 45 (entCells (2 ^ 249) 1 1 (.slice none 0 0) (.slice none 0 0))) :: Hr) rfl Tryz.call67 (List.Perm.refl _) (past_Heads _ _ [gA, gB] hp1 ok_g) ?_
    rintro _ σ4 _ ⟨hK4, rfl⟩ hle4
    rw [List.nil_append]
    rw [heads_g] at hK4
    refine WL.pur (Pur.assign rfl) ?_
    refine WL.nil ?_
    refine WQ.thn ?_
    refine WC.seq ?_
    refine WC.region ?_
    refine WL.pur (Pur.move rfl) ?_
    refine WL.call (H0 := []) (Hr := (b2, rowO 45 (entCells (2 ^ 248) 2 2 (.slice (some ⟨b14, 0, none⟩) 1 1) (.slice none 0 0))) :: (b1, rowO 45 (entCells (2 ^ 249) 1 1 (.slice none 0 0) (.slice none 0 0))) :: Hr) rfl Tryz.call44 (List.Perm.refl _) (past_Entry _ _ [gA, gB] 1 (hp1.mono hle4)) ?_
    rintro _ σ5 _ ⟨hd, rfl⟩ hle5
    rw [List.nil_append]
    obtain ⟨k, e, xv, ov, hik, he, rfl, hNR⟩ := hd.resolve_right (fun h => by have := h.1; simp at this)
    obtain rfl : k = 1 := by omega
    obtain rfl : gB = e := by simpa using he
    have hK := hK4.mono eHash_mono hle5
    obtain ⟨ka, kc, rfl, hkc, _⟩ := hK.shape
    obtain ⟨kb, koff, hea, hkat⟩ := hK.rds
    obtain ⟨_, _, _, ⟨rfl, _⟩, hr1⟩ := hkat 0 (2 ^ 248) rfl
    obtain ⟨_, _, rfl, _, _⟩ := hNR.1.shape
    obtain ⟨_, _, rfl, _, _⟩ := hNR.2.1.shape
    refine WL.pur (Pur.move rfl) ?_
    first | refine WL.pur (Pur.ex2_0 rfl) ?_ | refine WL.pur (Pur.ex3_0 rfl) ?_ | refine WL.pur (Pur.extractNext rfl) ?_ | refine WL.pur (Pur.extract rfl rfl) ?_
    first | refine WL.pur (Pur.ex2_1 rfl) ?_ | refine WL.pur (Pur.ex3_1 rfl) ?_ | refine WL.pur (Pur.extract rfl rfl) ?_
    refine WL.new (New.alloc zc_45) (fun b7 => ?_)
    refine' WL.run0 (Run.storeAll rfl rfl ty_45 ?h15_0 (by first | rfl | assumption) ?h15_1 (by first | rfl | assumption)) ?k15
    case h15_0 => repeat (first | exact Part.one | exact Part.here | apply Part.cons | apply Part.app)
    case h15_1 => first | rfl | assumption
    refine WL.pur (Pur.assign rfl) ?_
    refine WL.nil ?_
    refine WQ.thn ?_
    refine WC.seq ?_
    refine WC.drawH 23 23 mixed (by kernel_rfl) rfl ?_
    refine SA.take 0 (by kernel_rfl) rfl rfl rfl (Wanted.plain rfl) zsL (View.le_refl _) (Pur.move rfl) ?_
    refine SA.take 1 (by kernel_rfl) rfl rfl rfl (Wanted.plain rfl) zsL (View.le_refl _) (Pur.len rfl isSlice_41) ?_
    refine' SA.take 2 (by kernel_rfl) rfl rfl rfl (Wanted.plain rfl) zsL (View.le_refl _) (Pur.bin rfl rfl ?h16_0) ?k16
    case h16_0 => first | exact Bin.eqN (b := 1) | exact Bin.eqI
    refine SA.take 3 (by kernel_rfl) rfl rfl rfl (Wanted.plain rfl) zsL (View.le_refl _) (Pur.move rfl) ?_
    refine' SA.andp 10 (u := 62) rfl ?h17_0 ?h17_1 ?h17_2 rfl zsL (View.le_refl _) ?h17_3 rfl ?k17
    case h17_0 =>
      intro hg62 K62
      refine SA.take 4 (by kernel_rfl) rfl rfl rfl (Wanted.guard (u := 62) rfl rfl rfl (gT hg62)) zsL (View.le_refl _) (Pur.move rfl) ?_
      refine' SA.take 5 (by kernel_rfl) rfl rfl rfl (Wanted.guard (u := 62) rfl rfl rfl (gT hg62)) zsL (View.le_refl _) (Pur.indexAddr (i := 0) (eqA (hea (by decide))) rfl sl_41 ?h18_0) ?k18
      case h18_0 => decide
      refine' SA.take 6 (by kernel_rfl) rfl rfl rfl (Wanted.guard (u := 62) rfl rfl rfl (gT hg62)) zsL (View.le_refl _) (Pur.loadN rfl ty_39 ?h19_0 ?h19_1) ?k19
      case h19_0 => exact RdV.rd hr1
      case h19_1 => first | rfl | assumption
      refine SA.take 7 (by kernel_rfl) rfl rfl rfl (Wanted.guard (u := 62) rfl rfl rfl (gT hg62)) zsL (View.le_refl _) (Pur.fieldAddr rfl fo_45_0) ?_
      refine' SA.take 8 (by kernel_rfl) rfl rfl rfl (Wanted.guard (u := 62) rfl rfl rfl (gT hg62)) zsL (View.le_refl _) (Pur.loadN rfl ty_39 ?h20_0 ?h20_1) ?k20
      case h20_0 => first | (apply Rd.own_sub; exact zmE; exact Sub.ent_hash _ _ _ _ _) | (apply RdV.rd; apply RdV.sub0; assumption; exact Sub.ent_hash _ _ _ _ _)
      case h20_1 => first | rfl | assumption
      refine' SA.take 9 (by kernel_rfl) rfl rfl rfl (Wanted.guard (u := 62) rfl rfl rfl (gT hg62)) zsL (View.le_refl _) (Pur.bin rfl rfl ?h21_0) ?k21
      case h21_0 => (refine Bin.eqH isHash_39 ?_ ?_ <;> assumption)
      exact K62 _ zcR rfl
    case h17_1 =>
      intro hg62 K62
      refine SA.gskip 4 (u := 62) (by kernel_rfl) rfl rfl rfl rfl rfl rfl (sT hg62) zsL (View.le_refl _) ?_
      refine SA.gskip 5 (u := 62) (by kernel_rfl) rfl rfl rfl rfl rfl rfl (sT hg62) zsL (View.le_refl _) ?_
      refine SA.gskip 6 (u := 62) (by kernel_rfl) rfl rfl rfl rfl rfl rfl (sT hg62) zsL (View.le_refl _) ?_
      refine SA.gskip 7 (u := 62) (by kernel_rfl) rfl rfl rfl rfl rfl rfl (sT hg62) zsL (View.le_refl _) ?_
      refine SA.gskip 8 (u := 62) (by kernel_rfl) rfl rfl rfl rfl rfl rfl (sT hg62) zsL (View.le_refl _) ?_
      refine SA.gskip 9 (u := 62) (by kernel_rfl) rfl rfl rfl rfl rfl rfl (sT hg62) zsL (View.le_refl _) ?_
      exact K62 _ zcR
    case h17_2 => kernel_rfl
    case h17_3 => exact Wanted.plain rfl
    refine SA.take 11 (by kernel_rfl) rfl rfl rfl (Wanted.plain rfl) zsL (View.le_refl _) (Pur.move rfl) ?_
    refine' SA.andp 14 (u := 70) rfl ?h22_0 ?h22_1 ?h22_2 rfl zsL (View.le_refl _) ?h22_3 rfl ?k22
    case h22_0 =>
      intro hg70 K70
      refine SA.take 12 (by kernel_rfl) rfl rfl rfl (Wanted.guard (u := 70) rfl rfl rfl (gT hg70)) zsL (View.le_refl _) (Pur.move rfl) ?_
      refine' SA.take 13 (by kernel_rfl) rfl rfl rfl (Wanted.guard (u := 70) rfl rfl rfl (gT hg70)) zsL (View.le_refl _) (Pur.bin rfl rfl ?h23_0) ?k23
      case h23_0 => first | exact Bin.eqN (b := 0) | exact Bin.eqI
      exact K70 _ zcR rfl
    case h22_1 =>
      intro hg70 K70
      refine SA.gskip 12 (u := 70) (by kernel_rfl) rfl rfl rfl rfl rfl rfl (sT hg70) zsL (View.le_refl _) ?_
      refine SA.gskip 13 (u := 70) (by kernel_rfl) rfl rfl rfl rfl rfl rfl (sT hg70) zsL (View.le_refl _) ?_
      exact K70 _ zcR
    case h22_2 => kernel_rfl
    case h22_3 => exact Wanted.plain rfl
    refine SA.take 15 (by kernel_rfl) rfl rfl rfl (Wanted.plain rfl) zsL (View.le_refl _) (Pur.move rfl) ?_
    refine' SA.andp 21 (u := 74) rfl ?h24_0 ?h24_1 ?h24_2 rfl zsL (View.le_refl _) ?h24_3 rfl ?k24
    case h24_0 =>
      intro hg74 K74
      refine SA.take 16 (by kernel_rfl) rfl rfl rfl (Wanted.guard (u := 74) rfl rfl rfl (gT hg74)) zsL (View.le_refl _) (Pur.fieldAddr rfl fo_45_0) ?_
      refine' SA.take 17 (by kernel_rfl) rfl rfl rfl (Wanted.guard (u := 74) rfl rfl rfl (gT hg74)) zsL (View.le_refl _) (Pur.loadN rfl ty_39 ?h25_0 ?h25_1) ?k25
      case h25_0 => first | (apply Rd.own_sub; exact zmE; exact Sub.ent_hash _ _ _ _ _) | (apply RdV.rd; apply RdV.sub0; assumption; exact Sub.ent_hash _ _ _ _ _)
      case h25_1 => first | rfl | assumption
      refine SA.take 18 (by kernel_rfl) rfl rfl rfl (Wanted.guard (u := 74) rfl rfl rfl (gT hg74)) zsL (View.le_refl _) (Pur.fieldAddr rfl fo_45_0) ?_
      refine' SA.take 19 (by kernel_rfl) rfl rfl rfl (Wanted.guard (u := 74) rfl rfl rfl (gT hg74)) zsL (View.le_refl _) (Pur.loadN rfl ty_39 ?h26_0 ?h26_1) ?k26
      case h26_0 => first | (apply Rd.own_sub; exact zmE; exact Sub.ent_hash _ _ _ _ _) | (apply RdV.rd; apply RdV.sub0; assumption; exact Sub.ent_hash _ _ _ _ _)
      case h26_1 => first | rfl | assumption
      refine' SA.take 20 (by kernel_rfl) rfl rfl rfl (Wanted.guard (u := 74) rfl rfl rfl (gT hg74)) zsL (View.le_refl _) (Pur.bin rfl rfl ?h27_0) ?k27
      case h27_0 => (refine Bin.eqH isHash_39 ?_ ?_ <;> assumption)
      exact K74 _ zcR rfl
    case h24_1 =>
      intro hg74 K74
      refine SA.gskip 16 (u := 74) (by kernel_rfl) rfl rfl rfl rfl rfl rfl (sT hg74) zsL (View.le_refl _) ?_
      refine SA.gskip 17 (u := 74) (by kernel_rfl) rfl rfl rfl rfl rfl rfl (sT hg74) zsL (View.le_refl _) ?_
      refine SA.gskip 18 (u := 74) (by kernel_rfl) rfl rfl rfl rfl rfl rfl (sT hg74) zsL (View.le_refl _) ?_
      refine SA.gskip 19 (u := 74) (by kernel_rfl) rfl rfl rfl rfl rfl rfl (sT hg74) zsL (View.le_refl _) ?_
      refine SA.gskip 20 (u := 74) (by kernel_rfl) rfl rfl rfl rfl rfl rfl (sT hg74) zsL (View.le_refl _) ?_
      exact K74 _ zcR
    case h24_2 => kernel_rfl
    case h24_3 => exact Wanted.plain rfl
    refine SA.take 22 (by kernel_rfl) rfl rfl rfl (Wanted.plain rfl) zsL (View.le_refl _) (Pur.assign rfl) ?_
    refine SA.done (by kernel_rfl) ?_
    refine WQ.thn ?_
    refine WC.ret ?_
    refine WQ.ret1 Tryz.results35 rfl [] zsL (View.le_trans hle1 (View.le_trans hle2 (View.le_trans hle3 (View.le_trans hle4 hle5)))) ?_
    exact ⟨(boolT ⟨⟨⟨rfl, rfl⟩, rfl⟩, rfl⟩).symm, rfl⟩

end Go.Proofs.YtgoooilgmabkmaaGreat
