/-
  Contracts of the functions of the program and of its references: what each call hands back, from what is known and owned.
-/
import Derived.Test.YtgoooilgmabkmaaGreatCf
set_option linter.unusedVariables false
set_option linter.unusedSimpArgs false
set_option linter.unusedSectionVars false
namespace Go.Proofs.YtgoooilgmabkmaaGreat
open Go Go.Sl
set_option linter.unusedVariables false
set_option linter.unusedSimpArgs false
set_option maxRecDepth 100000

def spB : ByteArray := ⟨#[115, 112, 111, 105, 108, 116]⟩
def grB : ByteArray := ⟨#[103, 114, 111, 119, 110]⟩
theorem spOk : StrOk spB := by unfold StrOk; decide
theorem grOk : StrOk grB := by unfold StrOk; decide
theorem cntKeys_len {L : List EntD} (ho : OrdOk L) : (cntKeys L).length ≤ 4194304 := by
  unfold cntKeys
  refine Nat.le_trans (List.length_filter_le _ _) ?_
  rw [keysR_eq]
  refine Nat.le_trans (dedup_len _) ?_
  rw [textsL_len]
  unfold keysOf
  rw [List.length_map]
  have h1 := opsN_len ho (isKind 6 7) L.length
  have h2 := ho.most
  omega

set_option maxHeartbeats 2000000 in
theorem law16_CountsKeeps (σ : View) (lv : Value) (key : ByteArray) (l : List EntD) (h : Ents σ lv l) :
    Tri Tryz.prog 8 #[lv, .string key] σ [] (fun v σ' H' => v = .bool true) := by
  have h' := h
  obtain ⟨la, lc, rfl, hlc, hlby⟩ := h.shape
  refine Tri.of_body [(0, .slice la l.length lc), (1, .string key)] Tryz.func8 rfl Tryz.ntmps8 (by simp) rfl (fun Hr => ?_)
  rw [List.nil_append]
  refine WC.seq ?_
  refine WC.region ?_
  refine WL.pur (Pur.assign rfl) ?_
  refine WL.nil ?_
  refine WQ.thn ?_
  refine WC.seq ?_
  refine WC.region ?_
  refine WL.pur (Pur.move rfl) ?_
  refine WL.call (H0 := []) (Hr := Hr) rfl Tryz.call23 (List.Perm.refl _) (past_Of2 _ _ l h') ?_
  rintro _ σ1 _ ⟨⟨pa, n1, rfl, hpp, hpn⟩, rfl⟩ hle1
  rw [List.nil_append]
  refine WL.pur (Pur.move rfl) ?_
  first | refine WL.pur (Pur.ex2_0 rfl) ?_ | refine WL.pur (Pur.ex3_0 rfl) ?_ | refine WL.pur (Pur.extractNext rfl) ?_ | refine WL.pur (Pur.extract rfl rfl) ?_
  first | refine WL.pur (Pur.ex2_1 rfl) ?_ | refine WL.pur (Pur.ex3_1 rfl) ?_ | refine WL.pur (Pur.extract rfl rfl) ?_
  first | refine WL.pur (Pur.ex3_2 rfl) ?_ | refine WL.pur (Pur.extract rfl rfl) ?_
  refine WL.pur (Pur.assign rfl) ?_
  refine WL.pur (Pur.assign rfl) ?_
  refine WL.pur (Pur.assign rfl) ?_
  refine WL.nil ?_
  refine WQ.thn ?_
  refine WC.seq ?_
  refine WC.region ?_
  refine WL.pur (Pur.move rfl) ?_
  refine WL.call (H0 := []) (Hr := Hr) rfl Tryz.call24 (List.Perm.refl _) (r11_Of2 _ _ l (h'.mono eEnt_mono hle1)) ?_
  rintro _ σ2 _ ⟨⟨qa, m3, rfl, hqq, hqn⟩, rfl⟩ hle2
  rw [List.nil_append]
  refine WL.pur (Pur.move rfl) ?_
  first | refine WL.pur (Pur.ex2_0 rfl) ?_ | refine WL.pur (Pur.ex3_0 rfl) ?_ | refine WL.pur (Pur.extractNext rfl) ?_ | refine WL.pur (Pur.extract rfl rfl) ?_
  first | refine WL.pur (Pur.ex2_1 rfl) ?_ | refine WL.pur (Pur.ex3_1 rfl) ?_ | refine WL.pur (Pur.extract rfl rfl) ?_
  first | refine WL.pur (Pur.ex3_2 rfl) ?_ | refine WL.pur (Pur.extract rfl rfl) ?_
  refine WL.pur (Pur.assign rfl) ?_
  refine WL.pur (Pur.assign rfl) ?_
  refine WL.pur (Pur.assign rfl) ?_
  refine WL.nil ?_
  refine WQ.thn ?_
  refine WC.seq ?_
  refine WC.seq ?_
  refine WC.region ?_
  refine WL.pur (Pur.move rfl) ?_
  refine' WL.pur (Pur.bin rfl rfl ?h1_0) ?k1
  case h1_0 => first | exact Bin.neN (b := 0) | exact Bin.neI
  refine WL.nil ?_
  refine WQ.thn ?_
  first | refine WC.cond rfl (fun hc0 => ?_) (fun hc0 => ?_) | refine WC.condB rfl (fun hc0 => ?_) (fun hc0 => ?_)
  · refine WC.seq ?_
    refine WC.region ?_
    refine WL.pur (Pur.move rfl) ?_
    refine WL.pur (Pur.move rfl) ?_
    refine' WL.pur (Pur.bin rfl rfl ?h2_0) ?k2
    case h2_0 => first | exact Bin.eqN | exact Bin.eqI
    refine WL.pur (Pur.move rfl) ?_
    refine' WL.andp (u := 37) (t := 40) rfl ?h3_0 ?h3_1 ?h3_2 rfl ?k3
    case h3_0 =>
      intro hg37 K37
      refine WL.gpur (u := 37) rfl rfl (gT hg37) (Pur.move rfl) ?_
      refine' WL.gpur (u := 37) rfl rfl (gT hg37) (Pur.bin rfl rfl ?h4_0) ?k4
      case h4_0 => exact Bin.eqP isPtr_25
      exact K37 _ zcR rfl
    case h3_1 =>
      intro hg37 K37
      refine WL.gskip (u := 37) rfl rfl (sT hg37) ?_
      refine WL.gskip (u := 37) rfl rfl (sT hg37) ?_
      exact K37 _ zcR
    case h3_2 => exact Wanted.plain rfl
    refine WL.pur (Pur.move rfl) ?_
    refine' WL.andp (u := 41) (t := 43) rfl ?h5_0 ?h5_1 ?h5_2 rfl ?k5
    case h5_0 =>
      intro hg41 K41
      refine WL.gcallR (H0 := []) (u := 41) rfl rfl (gT hg41) rfl Tryz.call31 (List.Perm.refl _) (law16_fixed _) ?_
      rintro v42 σf _ ⟨hfv, rfl⟩ hlef
      obtain rfl : v42 = .bool (decide True) := hfv
      rw [List.nil_append]
      refine WL.le hlef ?_
      exact K41 _ zcR rfl
    case h5_1 =>
      intro hg41 K41
      refine WL.gskip (u := 41) rfl rfl (sT hg41) ?_
      exact K41 _ zcR
    case h5_2 => exact Wanted.plain rfl
    refine WL.pur (Pur.assign rfl) ?_
    refine WL.nil ?_
    refine WQ.thn ?_
    refine WC.ret ?_
    refine WQ.thn_ret ?_
    refine WQ.ret1 Tryz.results8 rfl [] (by first | exact List.Sublist.refl _ | exact List.sublist_append_right _ _) (View.le_trans hle1 hle2) ?_
    exact (boolT ⟨⟨rfl, hpn hc0⟩, trivial⟩).symm
  · have h0 : (rightErr l).1 = 0 := Decidable.not_not.1 hc0
    have hg := good_of_right h0
    have ho := ordE_ok hg
    have hq2 := hqq h0
    have hp2 := (hpp h0).mono hle2
    have hmost := hg.most
    have hKl := cntKeys_len ho
    have hLl := ordE_len hg
    refine WC.skip ?_
    refine WQ.thn ?_
    refine WC.seq ?_
    refine WC.seq ?_
    refine WC.region ?_
    refine WL.pur (Pur.move rfl) ?_
    refine' WL.pur (Pur.bin rfl rfl ?h6_0) ?k6
    case h6_0 => exact Bin.eqP isPtr_25
    refine WL.pur (Pur.move rfl) ?_
    refine' WL.orp (u := 46) (t := 49) rfl ?h7_0 ?h7_1 ?h7_2 rfl ?k7
    case h7_0 =>
      intro hg46 K46
      refine WL.gpur (u := 46) rfl rfl (gF hg46) (Pur.move rfl) ?_
      refine' WL.gpur (u := 46) rfl rfl (gF hg46) (Pur.bin rfl rfl ?h8_0) ?k8
      case h8_0 => first | exact Bin.neN (b := 0) | exact Bin.neI
      exact K46 _ zcR rfl
    case h7_1 =>
      intro hg46 K46
      refine WL.gskip (u := 46) rfl rfl (sF hg46) ?_
      refine WL.gskip (u := 46) rfl rfl (sF hg46) ?_
      exact K46 _ zcR
    case h7_2 => exact Wanted.plain rfl
    refine WL.nil ?_
    refine WQ.thn ?_
    first | refine WC.cond rfl (fun hc1 => ?_) (fun hc1 => ?_) | refine WC.condB rfl (fun hc1 => ?_) (fun hc1 => ?_)
    · obtain ⟨_, _, _, _, hpe, _⟩ := hp2
      rcases hc1 with hc | hc
      · subst hc; cases hpe
      · exact absurd h0 hc
    · refine WC.skip ?_
      refine WQ.thn ?_
      refine WC.seq ?_
      refine WC.region ?_
      refine WL.pur (Pur.move rfl) ?_
      refine WL.call (H0 := []) (Hr := Hr) rfl Tryz.call40 (List.Perm.refl _) (r16_Keys _ _ (ordE l) hq2 ho) ?_
      rintro _ σ3 _ ⟨_, hso3, rfl⟩ hle3
      refine WL.giveS (byt := 16) (H1 := []) (H2 := Hr) eStr_mono hso3 (by omega) rfl (fun σ4 hle4 hW4 => ?_)
      rw [List.nil_append]
      obtain ⟨wa, wc, rfl, hwc, hwb⟩ := hW4.shape
      refine WL.pur (Pur.assign rfl) ?_
      refine WL.nil ?_
      refine WQ.thn ?_
      refine WC.seq ?_
      refine WC.region ?_
      refine WL.pur (Pur.move rfl) ?_
      refine WL.pur (Pur.move rfl) ?_
      refine WL.call (H0 := []) (Hr := Hr) rfl Tryz.call32 (List.Perm.refl _) (counts_Value _ _ (ordE l) key (hp2.mono (View.le_trans hle3 hle4)) ho) ?_
      rintro _ σ5 _ ⟨rfl, rfl⟩ hle5
      rw [List.nil_append]
      refine WL.pur (Pur.assign rfl) ?_
      refine WL.nil ?_
      refine WQ.thn ?_
      refine WC.seq ?_
      refine WC.region ?_
      refine WL.pur (Pur.move rfl) ?_
      refine WL.call (H0 := []) (Hr := Hr) rfl Tryz.call41 (List.Perm.refl _) (counts_Keys _ _ (ordE l) (hp2.mono (View.le_trans hle3 (View.le_trans hle4 hle5))) ho) ?_
      rintro v56 σ6 hX ⟨_, hsoX, rfl⟩ hle6
      refine WL.pur (Pur.assign rfl) ?_
      refine WL.nil ?_
      refine WQ.thn ?_
      refine WC.seq ?_
      refine WC.region ?_
      refine WL.pur (Pur.move rfl) ?_
      refine WL.call (H0 := []) (Hr := hX ++ Hr) rfl Tryz.call41 (List.Perm.refl _) (counts_Keys _ _ (ordE l) (hp2.mono (View.le_trans hle3 (View.le_trans hle4 (View.le_trans hle5 hle6)))) ho) ?_
      rintro _ σ7 _ ⟨_, hsoY, rfl⟩ hle7
      refine WL.giveS (byt := 16) (H1 := []) (H2 := hX ++ Hr) eStr_mono hsoY (by omega) rfl (fun σ8 hle8 hY8 => ?_)
      rw [List.nil_append]
      obtain ⟨ya, yc, rfl, hyc, hyb⟩ := hY8.shape
      have hsoX8 := hsoX.mono eStr_mono (View.le_trans hle7 hle8)
      obtain ⟨xa, xc, rfl, hxc⟩ := hsoX8.shape
      have hW8 := hW4.mono eStr_mono (View.le_trans hle5 (View.le_trans hle6 (View.le_trans hle7 hle8)))
      refine WL.pur (Pur.assign rfl) ?_
      refine WL.nil ?_
      refine WQ.thn ?_
      refine WC.seq ?_
      refine WC.seq ?_
      refine WC.region ?_
      refine WL.pur (Pur.move rfl) ?_
      refine WL.pur (Pur.move rfl) ?_
      refine WL.call (H0 := hX) (Hr := Hr) rfl Tryz.call26 (List.Perm.refl _) (hsoX8.borrow (byt := 16) eStr_mono (by omega) (fun σ' hl' hs' => r11_EqTexts σ' _ _ _ _ hs' (hW8.mono eStr_mono hl'))) ?_
      rintro _ σ8 hX ⟨rfl, rfl, rfl⟩ _
      first | refine WL.pur (Pur.not rfl) ?_ | refine WL.pur (Pur.notB rfl) ?_
      refine WL.pur (Pur.move rfl) ?_
      refine' WL.orp (u := 63) (t := 69) rfl ?h9_0 ?h9_1 ?h9_2 rfl ?k9
      case h9_0 =>
        intro hg63 K63
        refine WL.gpur (u := 63) rfl rfl (gF hg63) (Pur.move rfl) ?_
        refine WL.gpur (u := 63) rfl rfl (gF hg63) (Pur.move rfl) ?_
        refine WL.gpur (u := 63) rfl rfl (gF hg63) (Pur.move rfl) ?_
        refine WL.gcallR (H0 := []) (Hr := hX ++ Hr) (u := 63) rfl rfl (gF hg63) rfl Tryz.call42 (List.Perm.refl _) (r16_Value _ _ (ordE l) key (hq2.mono (View.le_trans hle3 (View.le_trans hle4 (View.le_trans hle5 (View.le_trans hle6 (View.le_trans hle7 hle8)))))) ho) ?_
        rintro _ σ9 _ ⟨rfl, rfl⟩ hle9
        rw [List.nil_append]
        refine' WL.gpur (u := 63) rfl rfl (gF hg63) (Pur.bin rfl rfl ?h10_0) ?k10
        case h10_0 => first | exact Bin.neN | exact Bin.neI
        refine WL.le hle9 ?_
        exact K63 _ zcR rfl
      case h9_1 =>
        intro hg63 K63
        refine WL.gskip (u := 63) rfl rfl (sF hg63) ?_
        refine WL.gskip (u := 63) rfl rfl (sF hg63) ?_
        refine WL.gskip (u := 63) rfl rfl (sF hg63) ?_
        refine WL.gskip (u := 63) rfl rfl (sF hg63) ?_
        refine WL.gskip (u := 63) rfl rfl (sF hg63) ?_
        exact K63 _ zcR
      case h9_2 => exact Wanted.plain rfl
      refine WL.nil ?_
      refine WQ.thn ?_
      first | refine WC.cond rfl (fun hc2 => ?_) (fun hc2 => ?_) | refine WC.condB rfl (fun hc2 => ?_) (fun hc2 => ?_)
      · exact (hc2.elim (fun h => h rfl) (fun h => h rfl)).elim
      · refine WC.skip ?_
        refine WQ.thn ?_
        refine WC.seq ?_
        refine WC.seq ?_
        refine WC.region ?_
        refine WL.pur (Pur.assign rfl) ?_
        refine WL.nil ?_
        refine WQ.thn ?_
        refine WC.block ?_
        refine WC.loop (fun j m σ' H' => ∃ (i : Nat) (l' : List ByteArray) (hx : HList), j = (cntKeys (ordE l)).length - i ∧ i ≤ (cntKeys (ordE l)).length ∧ l'.length = (cntKeys (ordE l)).length ∧ SlO σ' eStr 9 1 (.slice xa (cntKeys (ordE l)).length xc) l' hx ∧ m = [(0, .slice la l.length lc), (1, .string key), (5, .pointer pa), (8, .pointer qa), (11, .slice wa (cntKeys (ordE l)).length wc), (12, .int .i64 (cntV (ordE l) key)), (14, .slice ya (cntKeys (ordE l)).length yc), (13, .slice xa (cntKeys (ordE l)).length xc), (15, .int .i64 (i : Int))] ∧ σ' = σ8 ∧ H' = hx ++ Hr) ⟨0, _, hX, rfl, by omega, rfl, hsoX8, rfl, rfl, rfl⟩ zcV zsL ?_
        rintro _ _ σ Hr ⟨i, l', hx, rfl, hi, hll, hso, rfl, rfl, rfl⟩
        refine WC.seq ?_
        refine WC.seq ?_
        refine WC.region ?_
        refine WL.pur (Pur.move rfl) ?_
        refine WL.pur (Pur.move rfl) ?_
        refine WL.pur (Pur.len rfl isSlice_23) ?_
        refine' WL.pur (Pur.bin rfl rfl ?h11_0) ?k11
        case h11_0 => first | exact Bin.ltN | exact Bin.ltI | exact Bin.ltS
        refine WL.nil ?_
        refine WQ.thn ?_
        first | refine WC.cond rfl (fun hc3 => ?_) (fun hc3 => ?_) | refine WC.condB rfl (fun hc3 => ?_) (fun hc3 => ?_)
        · obtain ⟨b, cap, junk, vss, e1, rfl, hcap, hjl, hel⟩ := hso.at (by omega)
          have hcap2 := hcap
          injection e1 with e2 e3 e4
          subst e2
          subst e4
          have hset := SlO.set1 (T := 9) (b := b) (x := spB) hel hcap hjl (by rw [hll]; exact hc3) spOk
          rw [hll] at hset
          refine WC.skip ?_
          refine WQ.thn ?_
          refine WC.seq ?_
          refine WC.block ?_
          refine WC.region ?_
          refine WL.pur (Pur.move rfl) ?_
          refine WL.pur (Pur.move rfl) ?_
          refine' WL.pur (Pur.indexAddr rfl rfl sl_23 ?h12_0) ?k12
          case h12_0 => omega
          refine' WL.run0 (Run.store1 rfl rfl ty_9 (by first | rfl | assumption) ?h13_0 ?h13_1 sz_9) ?k13
          case h13_0 => repeat (first | exact Part.one | exact Part.here | apply Part.cons | apply Part.app)
          case h13_1 => rw [List.length_append, hel.flat]; omega
          refine WL.nil ?_
          refine WQ.blk ?_
          refine WQ.thn ?_
          refine WC.region ?_
          refine WL.pur (Pur.move rfl) ?_
          refine' WL.pur (Pur.bin rfl rfl ?h14_0) ?k14
          case h14_0 => first | (refine Bin.addN (b := 1) ?_; omega) | (refine Bin.addI ?_; omega)
          refine WL.pur (Pur.assign rfl) ?_
          refine WL.nil ?_
          refine WQ.back _ ⟨i + 1, l'.set i spB, _, rfl, by omega, by rw [List.length_set]; exact hll, hset, rfl, rfl, rfl⟩ (by omega) zcV zsL
        · refine WC.exit ?_
          refine WQ.thn_exit ?_
          refine WQ.back_exit ?_
          refine WQ.blk_here ?_
          refine WQ.thn ?_
          refine WC.seq ?_
          refine WC.seq ?_
          refine WC.region ?_
          refine WL.pur (Pur.assign rfl) ?_
          refine WL.nil ?_
          refine WQ.thn ?_
          refine WC.block ?_
          refine WC.loop (fun j m σ' H' => ∃ (i : Nat) (tv : Value) (l' : List ByteArray) (hx : HList), j = 20 - i ∧ i ≤ 20 ∧ l'.length = (cntKeys (ordE l)).length + i ∧ SlO σ' eStr 9 1 tv l' hx ∧ m = [(0, .slice la l.length lc), (1, .string key), (5, .pointer pa), (8, .pointer qa), (11, .slice wa (cntKeys (ordE l)).length wc), (12, .int .i64 (cntV (ordE l) key)), (14, .slice ya (cntKeys (ordE l)).length yc), (13, tv), (16, .int .i64 (i : Int))] ∧ σ' = σ ∧ H' = hx ++ Hr) ⟨0, _, _, _, rfl, by omega, hll, hso, rfl, rfl, rfl⟩ zcV zsL ?_
          rintro _ _ σ Hr ⟨i, tv, l2, hx3, rfl, hi, hll2, hsp, rfl, rfl, rfl⟩
          refine WC.seq ?_
          refine WC.seq ?_
          refine WC.region ?_
          refine WL.pur (Pur.move rfl) ?_
          refine' WL.pur (Pur.bin rfl rfl ?h15_0) ?k15
          case h15_0 => first | exact Bin.ltN (b := 20) | exact Bin.ltI | exact Bin.ltS
          refine WL.nil ?_
          refine WQ.thn ?_
          first | refine WC.cond rfl (fun hc4 => ?_) (fun hc4 => ?_) | refine WC.condB rfl (fun hc4 => ?_) (fun hc4 => ?_)
          · refine WC.skip ?_
            refine WQ.thn ?_
            refine WC.seq ?_
            refine WC.block ?_
            refine WC.region ?_
            refine WL.pur (Pur.move rfl) ?_
            refine WL.new (New.buildSliceS (xs := [.const (.string ⟨#[103, 114, 111, 119, 110]⟩)]) sl_23 zc_9 rfl rfl rfl (by rfl) (by rfl)) (fun b84 => ?_)
            refine' WL.any (Any.push (H1 := [(b84, _)]) (H2 := Hr) sl_23 zc_9 rfl by_9 rfl rfl hsp ?h16_0 ?h16_1 ?h16_2 ?h16_3 rfl (by omega) (by omega)) ?k16
            case h16_0 => apply Rd.own_sub; exact zmE; exact Sub.refl _
            case h16_1 => first | rfl | assumption
            case h16_2 => first | rfl | assumption
            case h16_3 => exact ⟨rfl, grOk⟩
            rintro v85 σ _ ⟨hx2, hso2, rfl, rfl⟩ _
            refine WL.pur (Pur.assign rfl) ?_
            refine WL.nil ?_
            refine WQ.blk ?_
            refine WQ.thn ?_
            refine WC.region ?_
            refine WL.pur (Pur.move rfl) ?_
            refine' WL.pur (Pur.bin rfl rfl ?h17_0) ?k17
            case h17_0 => first | (refine Bin.addN (b := 1) ?_; omega) | (refine Bin.addI ?_; omega)
            refine WL.pur (Pur.assign rfl) ?_
            refine WL.nil ?_
            refine WQ.back _ ⟨i + 1, _, _, _, rfl, by omega, by rw [List.length_append]; simp only [List.length_cons, List.length_nil]; omega, hso2, rfl, rfl, rfl⟩ (by omega) zcV zsL
          · refine WC.weak (H0 := Hr) ?_ (Covers.refl _) (List.sublist_append_right _ _)
            refine WC.exit ?_
            refine WQ.thn_exit ?_
            refine WQ.back_exit ?_
            refine WQ.blk_here ?_
            refine WQ.thn ?_
            refine WC.seq ?_
            refine WC.seq ?_
            refine WC.region ?_
            refine WL.pur (Pur.move rfl) ?_
            refine WL.pur (Pur.move rfl) ?_
            refine WL.callP rfl Tryz.call26 ((r11_EqTexts _ _ _ _ _ hY8 hW8)) ?_
            first | refine WL.pur (Pur.not rfl) ?_ | refine WL.pur (Pur.notB rfl) ?_
            refine WL.pur (Pur.move rfl) ?_
            refine' WL.orp (u := 90) (t := 96) rfl ?h18_0 ?h18_1 ?h18_2 rfl ?k18
            case h18_0 =>
              intro hg90 K90
              refine WL.gpur (u := 90) rfl rfl (gF hg90) (Pur.move rfl) ?_
              refine WL.gcallR (H0 := []) (Hr := Hr) (u := 90) rfl rfl (gF hg90) rfl Tryz.call41 (List.Perm.refl _) (counts_Keys _ _ (ordE l) (hp2.mono (View.le_trans hle3 (View.le_trans hle4 (View.le_trans hle5 (View.le_trans hle6 (View.le_trans hle7 hle8)))))) ho) ?_
              rintro _ σ10 _ ⟨_, hsoZ, rfl⟩ hle10
              refine WL.giveS (byt := 16) (H1 := []) (H2 := Hr) eStr_mono hsoZ (by omega) rfl (fun σ11 hle11 hZ11 => ?_)
              rw [List.nil_append]
              refine WL.gpur (u := 90) rfl rfl (gF hg90) (Pur.move rfl) ?_
              refine WL.gcallP (u := 90) rfl rfl (gF hg90) rfl Tryz.call26 ((r11_EqTexts _ _ _ _ _ hZ11 (hW8.mono eStr_mono (View.le_trans hle10 hle11)))) ?_
              first | refine WL.gpur (u := 90) rfl rfl (gF hg90) (Pur.not rfl) ?_ | refine WL.gpur (u := 90) rfl rfl (gF hg90) (Pur.notB rfl) ?_
              refine WL.le (View.le_trans hle10 hle11) ?_
              exact K90 _ zcR rfl
            case h18_1 =>
              intro hg90 K90
              refine WL.gskip (u := 90) rfl rfl (sF hg90) ?_
              refine WL.gskip (u := 90) rfl rfl (sF hg90) ?_
              refine WL.gskip (u := 90) rfl rfl (sF hg90) ?_
              refine WL.gskip (u := 90) rfl rfl (sF hg90) ?_
              refine WL.gskip (u := 90) rfl rfl (sF hg90) ?_
              exact K90 _ zcR
            case h18_2 => exact Wanted.plain rfl
            refine WL.pur (Pur.move rfl) ?_
            refine' WL.orp (u := 97) (t := 103) rfl ?h19_0 ?h19_1 ?h19_2 rfl ?k19
            case h19_0 =>
              intro hg97 K97
              refine WL.gpur (u := 97) rfl rfl (gF hg97) (Pur.move rfl) ?_
              refine WL.gpur (u := 97) rfl rfl (gF hg97) (Pur.move rfl) ?_
              refine WL.gcallR (H0 := []) (Hr := Hr) (u := 97) rfl rfl (gF hg97) rfl Tryz.call32 (List.Perm.refl _) (counts_Value _ _ (ordE l) key (hp2.mono (View.le_trans hle3 (View.le_trans hle4 (View.le_trans hle5 (View.le_trans hle6 (View.le_trans hle7 hle8)))))) ho) ?_
              rintro _ σ12 _ ⟨rfl, rfl⟩ hle12
              rw [List.nil_append]
              refine WL.gpur (u := 97) rfl rfl (gF hg97) (Pur.move rfl) ?_
              refine' WL.gpur (u := 97) rfl rfl (gF hg97) (Pur.bin rfl rfl ?h20_0) ?k20
              case h20_0 => first | exact Bin.neN | exact Bin.neI
              refine WL.le hle12 ?_
              exact K97 _ zcR rfl
            case h19_1 =>
              intro hg97 K97
              refine WL.gskip (u := 97) rfl rfl (sF hg97) ?_
              refine WL.gskip (u := 97) rfl rfl (sF hg97) ?_
              refine WL.gskip (u := 97) rfl rfl (sF hg97) ?_
              refine WL.gskip (u := 97) rfl rfl (sF hg97) ?_
              refine WL.gskip (u := 97) rfl rfl (sF hg97) ?_
              exact K97 _ zcR
            case h19_2 => exact Wanted.plain rfl
            refine WL.pur (Pur.move rfl) ?_
            refine' WL.orp (u := 104) (t := 110) rfl ?h21_0 ?h21_1 ?h21_2 rfl ?k21
            case h21_0 =>
              intro hg104 K104
              refine WL.gpur (u := 104) rfl rfl (gF hg104) (Pur.move rfl) ?_
              refine WL.gcallP (u := 104) rfl rfl (gF hg104) rfl Tryz.call43 ((past_Len _ _ (ordE l) (hp2.mono (View.le_trans hle3 (View.le_trans hle4 (View.le_trans hle5 (View.le_trans hle6 (View.le_trans hle7 hle8)))))))) ?_
              refine WL.gpur (u := 104) rfl rfl (gF hg104) (Pur.move rfl) ?_
              refine WL.gpur (u := 104) rfl rfl (gF hg104) (Pur.len rfl isSlice_22) ?_
              refine' WL.gpur (u := 104) rfl rfl (gF hg104) (Pur.bin rfl rfl ?h22_0) ?k22
              case h22_0 => first | exact Bin.neN | exact Bin.neI
              exact K104 _ zcR rfl
            case h21_1 =>
              intro hg104 K104
              refine WL.gskip (u := 104) rfl rfl (sF hg104) ?_
              refine WL.gskip (u := 104) rfl rfl (sF hg104) ?_
              refine WL.gskip (u := 104) rfl rfl (sF hg104) ?_
              refine WL.gskip (u := 104) rfl rfl (sF hg104) ?_
              refine WL.gskip (u := 104) rfl rfl (sF hg104) ?_
              exact K104 _ zcR
            case h21_2 => exact Wanted.plain rfl
            refine WL.nil ?_
            refine WQ.thn ?_
            first | refine WC.cond rfl (fun hc5 => ?_) (fun hc5 => ?_) | refine WC.condB rfl (fun hc5 => ?_) (fun hc5 => ?_)
            · exact (hc5.elim (fun h => h.elim (fun h => h.elim (fun h => h rfl) (fun h => h rfl)) (fun h => h rfl)) (fun h => h (by omega))).elim
            · obtain ⟨qb, plv, psv, pqv, hqe, hr, hE, hS, hQ⟩ := hq2.mono (View.le_trans hle3 (View.le_trans hle4 (View.le_trans hle5 (View.le_trans hle6 (View.le_trans hle7 hle8)))))
              cases hqe
              obtain ⟨ea, ec, rfl, hec, heb⟩ := hE.shape
              obtain ⟨eb, eoff, hel2⟩ := addr_of hE
              refine WC.skip ?_
              refine WQ.thn ?_
              refine WC.seq ?_
              refine WC.seq ?_
              refine WC.region ?_
              refine WL.pur (Pur.assign rfl) ?_
              refine WL.nil ?_
              refine WQ.thn ?_
              refine WC.block ?_
              refine WC.loop (fun j m σ' H' => ∃ i : Nat, j = (ordE l).length - i ∧ i ≤ (ordE l).length ∧ σ.le σ' ∧ m = [(5, .pointer pa), (8, .pointer (some ⟨qb, 0, none⟩)), (17, .int .i64 (i : Int))] ∧ H' = Hr) ⟨0, rfl, by omega, View.le_refl _, rfl, rfl⟩ zcV zsL ?_
              rintro _ _ σ Hr ⟨i, rfl, hi, hlei, rfl, rfl⟩
              refine WC.seq ?_
              refine WC.seq ?_
              refine WC.region ?_
              refine WL.pur (Pur.move rfl) ?_
              refine WL.pur (Pur.move rfl) ?_
              refine WL.pur (Pur.nilCheck rfl) ?_
              refine WL.pur (Pur.fieldAddr rfl fo_74_0) ?_
              refine' WL.pur (Pur.load1 rfl ty_22 ?h23_0) ?k23
              case h23_0 => exact RdV.rd (RdV.idx (off := 0) (i := 0) (hr.mono hlei) rfl)
              refine WL.pur (Pur.len rfl isSlice_22) ?_
              refine' WL.pur (Pur.bin rfl rfl ?h24_0) ?k24
              case h24_0 => first | exact Bin.ltN | exact Bin.ltI | exact Bin.ltS
              refine WL.nil ?_
              refine WQ.thn ?_
              first | refine WC.cond rfl (fun hc6 => ?_) (fun hc6 => ?_) | refine WC.condB rfl (fun hc6 => ?_) (fun hc6 => ?_)
              · obtain ⟨e, he⟩ : ∃ e, (ordE l)[i]? = some e := ⟨_, List.getElem?_eq_getElem (by omega)⟩
                obtain ⟨qv, ov, hrd, heH, hNR⟩ := ent_rd (hE.mono eEnt_mono hlei) hel2 he
                have hNR2 := hNR
                obtain ⟨epa, epc, rfl, _, _⟩ := hNR2.1.shape
                obtain ⟨eoa, eoc, rfl, _, _⟩ := hNR2.2.1.shape
                refine WC.skip ?_
                refine WQ.thn ?_
                refine WC.seq ?_
                refine WC.block ?_
                refine WC.seq ?_
                refine WC.region ?_
                refine WL.pur (Pur.move rfl) ?_
                refine WL.pur (Pur.move rfl) ?_
                refine WL.call (H0 := []) (Hr := Hr) rfl Tryz.call44 (List.Perm.refl _) (past_Entry _ _ (ordE l) (i : Int) (hp2.mono (View.le_trans hle3 (View.le_trans hle4 (View.le_trans hle5 (View.le_trans hle6 (View.le_trans hle7 (View.le_trans hle8 hlei)))))))) ?_
                rintro _ σ14 _ ⟨hd, rfl⟩ hle14
                rw [List.nil_append]
                obtain ⟨k, e2, xv2, ov2, hik, he2, rfl, hNRx⟩ := hd.resolve_right (fun h => by have := h.1; omega)
                obtain rfl : i = k := by omega
                rw [he] at he2
                cases he2
                have hNRy := hNRx
                obtain ⟨xpa, xpc, rfl, _, _⟩ := hNRy.1.shape
                obtain ⟨xoa, xoc, rfl, _, _⟩ := hNRy.2.1.shape
                refine WL.pur (Pur.move rfl) ?_
                first | refine WL.pur (Pur.ex2_0 rfl) ?_ | refine WL.pur (Pur.ex3_0 rfl) ?_ | refine WL.pur (Pur.extractNext rfl) ?_ | refine WL.pur (Pur.extract rfl rfl) ?_
                first | refine WL.pur (Pur.ex2_1 rfl) ?_ | refine WL.pur (Pur.ex3_1 rfl) ?_ | refine WL.pur (Pur.extract rfl rfl) ?_
                refine WL.new (New.alloc zc_45) (fun b18 => ?_)
                refine' WL.run0 (Run.storeAll rfl rfl ty_45 ?h25_0 (by first | rfl | assumption) ?h25_1 (by first | rfl | assumption)) ?k25
                case h25_0 => repeat (first | exact Part.one | exact Part.here | apply Part.cons | apply Part.app)
                case h25_1 => first | rfl | assumption
                refine WL.pur (Pur.assign rfl) ?_
                refine WL.nil ?_
                refine WQ.thn ?_
                refine WC.seq ?_
                refine WC.drawH 14 14 mixed (by kernel_rfl) rfl ?_
                refine SA.take 0 (by kernel_rfl) rfl rfl rfl (Wanted.plain rfl) zsL (View.le_refl _) (Pur.move rfl) ?_
                refine' SA.take 1 (by kernel_rfl) rfl rfl rfl (Wanted.plain rfl) zsL (View.le_refl _) (Pur.bin rfl rfl ?h26_0) ?k26
                case h26_0 => first | exact Bin.neN (b := 0) | exact Bin.neI
                refine SA.take 2 (by kernel_rfl) rfl rfl rfl (Wanted.plain rfl) zsL (View.le_refl _) (Pur.move rfl) ?_
                refine' SA.orp 13 (u := 128) rfl ?h27_0 ?h27_1 ?h27_2 rfl zsL (View.le_refl _) ?h27_3 rfl ?k27
                case h27_0 =>
                  intro hg128 K128
                  refine' SA.take 3 (by kernel_rfl) rfl rfl rfl (Wanted.guard (u := 128) rfl rfl rfl (gF hg128)) zsL (View.le_refl _) (Pur.loadN rfl ty_45 ?h28_0 ?h28_1) ?k28
                  case h28_0 => first | (apply Rd.own_sub; exact zmE; exact Sub.refl _) | (apply RdV.rd; assumption)
                  case h28_1 => first | rfl | assumption
                  refine SA.take 4 (by kernel_rfl) rfl rfl rfl (Wanted.guard (u := 128) rfl rfl rfl (gF hg128)) zsL (View.le_refl _) (Pur.move rfl) ?_
                  refine SA.take 5 (by kernel_rfl) rfl rfl rfl (Wanted.guard (u := 128) rfl rfl rfl (gF hg128)) zsL (View.le_refl _) (Pur.nilCheck rfl) ?_
                  refine SA.take 6 (by kernel_rfl) rfl rfl rfl (Wanted.guard (u := 128) rfl rfl rfl (gF hg128)) zsL (View.le_refl _) (Pur.fieldAddr rfl fo_74_0) ?_
                  refine' SA.take 7 (by kernel_rfl) rfl rfl rfl (Wanted.guard (u := 128) rfl rfl rfl (gF hg128)) zsL (View.le_refl _) (Pur.load1 rfl ty_22 ?h29_0) ?k29
                  case h29_0 => exact RdV.rd (RdV.idx (off := 0) (i := 0) (hr.mono (View.le_trans hlei hle14)) rfl)
                  refine SA.take 8 (by kernel_rfl) rfl rfl rfl (Wanted.guard (u := 128) rfl rfl rfl (gF hg128)) zsL (View.le_refl _) (Pur.move rfl) ?_
                  refine' SA.take 9 (by kernel_rfl) rfl rfl rfl (Wanted.guard (u := 128) rfl rfl rfl (gF hg128)) zsL (View.le_refl _) (Pur.indexAddr (eqA (hel2 (by omega))) rfl sl_22 ?h30_0) ?k30
                  case h30_0 => omega
                  refine' SA.take 10 (by kernel_rfl) rfl rfl rfl (Wanted.guard (u := 128) rfl rfl rfl (gF hg128)) zsL (View.le_refl _) (Pur.loadN rfl ty_45 ?h31_0 ?h31_1) ?k31
                  case h31_0 => exact RdV.rd (hrd.mono hle14)
                  case h31_1 => first | rfl | assumption
                  refine SA.callP 11 rfl rfl (Wanted.guard (u := 128) rfl rfl rfl (gF hg128)) (by kernel_rfl) rfl Tryz.call45 zsL (View.le_refl _) ((r5_SameEntry _ e e _ _ _ _ hNRx (hNR.mono hle14) heH heH)) ?_
                  first | refine SA.take 12 (by kernel_rfl) rfl rfl rfl (Wanted.guard (u := 128) rfl rfl rfl (gF hg128)) zsL (View.le_refl _) (Pur.not rfl) ?_ | refine SA.take 12 (by kernel_rfl) rfl rfl rfl (Wanted.guard (u := 128) rfl rfl rfl (gF hg128)) zsL (View.le_refl _) (Pur.notB rfl) ?_
                  exact K128 _ zcR rfl
                case h27_1 =>
                  intro hg128 K128
                  refine SA.gskip 3 (u := 128) (by kernel_rfl) rfl rfl rfl rfl rfl rfl (sF hg128) zsL (View.le_refl _) ?_
                  refine SA.gskip 4 (u := 128) (by kernel_rfl) rfl rfl rfl rfl rfl rfl (sF hg128) zsL (View.le_refl _) ?_
                  refine SA.gskip 5 (u := 128) (by kernel_rfl) rfl rfl rfl rfl rfl rfl (sF hg128) zsL (View.le_refl _) ?_
                  refine SA.gskip 6 (u := 128) (by kernel_rfl) rfl rfl rfl rfl rfl rfl (sF hg128) zsL (View.le_refl _) ?_
                  refine SA.gskip 7 (u := 128) (by kernel_rfl) rfl rfl rfl rfl rfl rfl (sF hg128) zsL (View.le_refl _) ?_
                  refine SA.gskip 8 (u := 128) (by kernel_rfl) rfl rfl rfl rfl rfl rfl (sF hg128) zsL (View.le_refl _) ?_
                  refine SA.gskip 9 (u := 128) (by kernel_rfl) rfl rfl rfl rfl rfl rfl (sF hg128) zsL (View.le_refl _) ?_
                  refine SA.gskip 10 (u := 128) (by kernel_rfl) rfl rfl rfl rfl rfl rfl (sF hg128) zsL (View.le_refl _) ?_
                  refine SA.gskip 11 (u := 128) (by kernel_rfl) rfl rfl rfl rfl rfl rfl (sF hg128) zsL (View.le_refl _) ?_
                  refine SA.gskip 12 (u := 128) (by kernel_rfl) rfl rfl rfl rfl rfl rfl (sF hg128) zsL (View.le_refl _) ?_
                  exact K128 _ zcR
                case h27_2 => kernel_rfl
                case h27_3 => exact Wanted.plain rfl
                refine SA.done (by kernel_rfl) ?_
                refine WQ.thn ?_
                first | refine WC.cond rfl (fun hc7 => ?_) (fun hc7 => ?_) | refine WC.condB rfl (fun hc7 => ?_) (fun hc7 => ?_)
                · exact (hc7.elim (fun h => h rfl) (fun h => h rfl)).elim
                · refine WC.skip ?_
                  refine WQ.blk ?_
                  refine WQ.thn ?_
                  refine WC.region ?_
                  refine WL.pur (Pur.move rfl) ?_
                  refine' WL.pur (Pur.bin rfl rfl ?h32_0) ?k32
                  case h32_0 => first | (refine Bin.addN (b := 1) ?_; omega) | (refine Bin.addI ?_; omega)
                  refine WL.pur (Pur.assign rfl) ?_
                  refine WL.nil ?_
                  refine WQ.back _ ⟨i + 1, rfl, by omega, View.le_trans hlei hle14, rfl, rfl⟩ (by omega) zcV zsL
              · refine WC.exit ?_
                refine WQ.thn_exit ?_
                refine WQ.back_exit ?_
                refine WQ.blk_here ?_
                refine WQ.thn ?_
                refine WC.seq ?_
                refine WC.region ?_
                refine WL.call (H0 := []) (Hr := Hr) rfl Tryz.call31 (List.Perm.refl _) (law16_fixed _) ?_
                rintro _ σf _ ⟨rfl, rfl⟩ hlef
                rw [List.nil_append]
                refine WL.pur (Pur.assign rfl) ?_
                refine WL.nil ?_
                refine WQ.thn ?_
                refine WC.ret ?_
                refine WQ.ret1 Tryz.results8 rfl [] (by first | exact List.Sublist.refl _ | exact List.sublist_append_right _ _) (View.le_trans hle1 (View.le_trans hle2 (View.le_trans hle3 (View.le_trans hle4 (View.le_trans hle5 (View.le_trans hle6 (View.le_trans hle7 (View.le_trans hle8 (View.le_trans hlei hlef))))))))) ?_
                rfl

end Go.Proofs.YtgoooilgmabkmaaGreat
