/-
  Contracts of the functions of the program and of its references: what each call hands back, from what is known and owned.
-/
import Derived.Test.YtgoooilgmabkmaaGreatCd
set_option linter.unusedVariables false
set_option linter.unusedSimpArgs false
set_option linter.unusedSectionVars false
namespace Go.Proofs.YtgoooilgmabkmaaGreat
open Go Go.Sl
set_option maxRecDepth 100000
theorem and_t {a b : Bool} (h : a = true) (k : b = true) : (a && b) = true := by rw [h, k]; rfl
theorem rc1 : (laidOutB Tryz.prog) = true := by kernel_rfl
theorem rc2 : (mapsRowed Tryz.prog) = true := by kernel_rfl
theorem rc6 : ((Tryz.prog.stops == [])) = true := by kernel_rfl
theorem rc8 : ((Tryz.prog.stopKnobs == [])) = true := by kernel_rfl
theorem rc22 : ((Rows.regReadsRow.plainKeys == Tryz.prog.plainKeys)) = true := by kernel_rfl
theorem rc24 : (Tryz.prog.stopsHeard) = true := by kernel_rfl
theorem rc25 : (Tryz.prog.mayEnter) = true := by kernel_rfl
theorem rc26 : ((Rows.regReadsRow.lifted == Tryz.prog.liftsFinal)) = true := by kernel_rfl
theorem rc27 : ((Tryz.prog.make == some Rows.regReadsRow.make)) = true := by kernel_rfl
end Go.Proofs.YtgoooilgmabkmaaGreat
namespace Go.Proofs.YtgoooilgmabkmaaGreat
open Go Go.Sl
set_option linter.unusedVariables false
set_option linter.unusedSimpArgs false
set_option maxRecDepth 100000

theorem WC.giveTA {P : Program} {r : Option Nat} {Q : Exit → Act → World → Prop} {c : Code} {nn : Nat} {d : List Deferred} {m : Slots} {σ : View} {H : HList} {T n k : Nat} {x : ByteArray} {a t : Value} {h H1 H2 : HList} (hT : TA T n x a k t h) (hx : StrOk x) (hn : n * 16 ≤ 140737488355328) (hH : H = H1 ++ (h ++ H2))
    (kk : ∀ σ', σ.le σ' → SlE σ' eStr 1 16 a (List.replicate n x) → WC P r Q c nn d m σ' (H1 ++ H2)) : WC P r Q c nn d m σ H := fun ac w hf hst => by
  subst hH
  obtain ⟨σ', h1, h2, h3⟩ := St.giveTA hT hx hn hst
  exact kk σ' h1 h2 ac w hf h3

theorem law14_RegKeeps (σ : View) (lv : Value) (key : ByteArray) (l : List EntD) (h : Ents σ lv l) :
    Tri Tryz.prog 5 #[lv, .string key] σ [] (fun v σ' H' => v = .bool true) := by
  refine Tri.of_body [(0, lv), (1, .string key)] Tryz.func5 rfl Tryz.ntmps5 (by simp) rfl (fun Hr => ?_)
  rw [List.nil_append]
  refine WC.seq ?_
  refine WC.region ?_
  refine WL.pur (Pur.assign rfl) ?_
  refine WL.nil ?_
  refine WQ.thn ?_
  refine WC.seq ?_
  refine WC.seq ?_
  refine WC.region ?_
  refine WL.call (H0 := []) (Hr := Hr) rfl Tryz.call22 (List.Perm.refl _) (law14_awake σ) ?_
  rintro _ σ1 _ ⟨rfl, rfl⟩ hle1
  rw [List.nil_append]
  first | refine WL.pur (Pur.not rfl) ?_ | refine WL.pur (Pur.notB rfl) ?_
  refine WL.nil ?_
  refine WQ.thn ?_
  refine WC.condF rfl ?_
  refine WC.skip ?_
  refine WQ.thn ?_
  refine WC.seq ?_
  refine WC.region ?_
  refine WL.pur (Pur.move rfl) ?_
  refine WL.call (H0 := []) (Hr := Hr) rfl Tryz.call23 (List.Perm.refl _) (past_Of2 _ _ l (h.mono eEnt_mono hle1)) ?_
  rintro _ σ2 _ ⟨⟨pa, n3, rfl, hpp, hpn⟩, rfl⟩ hle2
  rw [List.nil_append]
  refine WL.pur (Pur.move rfl) ?_
  first | refine WL.pur (Pur.ex2_0 rfl) ?_ | refine WL.pur (Pur.ex3_0 rfl) ?_ | refine WL.pur (Pur.extractNext rfl) ?_ | refine WL.pur (Pur.extract rfl rfl) ?_
  first | refine WL.pur (Pur.ex2_1 rfl) ?_ | refine WL.pur (Pur.ex3_1 rfl) ?_ | refine WL.pur (Pur.extract rfl rfl) ?_
  first | refine WL.pur (Pur.ex3_2 rfl) ?_ | refine WL.pur (Pur.extract rfl rfl) ?_
  refine WL.pur (Pur.assign rfl) ?_
  refine WL.pur (Pur.assign rfl) ?_
  refine WL.pur (Pur.assign rfl) ?_
  refine WL.nil ?_
  refine WQ.thn ?_
  refine WC.seq ?_
  refine WC.region ?_
  refine WL.pur (Pur.move rfl) ?_
  refine WL.call (H0 := []) (Hr := Hr) rfl Tryz.call24 (List.Perm.refl _) (r11_Of2 _ _ l (h.mono eEnt_mono (View.le_trans hle1 hle2))) ?_
  rintro _ σ3 _ ⟨⟨qa, m3, rfl, hqq, hqn⟩, rfl⟩ hle3
  rw [List.nil_append]
  refine WL.pur (Pur.move rfl) ?_
  first | refine WL.pur (Pur.ex2_0 rfl) ?_ | refine WL.pur (Pur.ex3_0 rfl) ?_ | refine WL.pur (Pur.extractNext rfl) ?_ | refine WL.pur (Pur.extract rfl rfl) ?_
  first | refine WL.pur (Pur.ex2_1 rfl) ?_ | refine WL.pur (Pur.ex3_1 rfl) ?_ | refine WL.pur (Pur.extract rfl rfl) ?_
  first | refine WL.pur (Pur.ex3_2 rfl) ?_ | refine WL.pur (Pur.extract rfl rfl) ?_
  refine WL.pur (Pur.assign rfl) ?_
  refine WL.pur (Pur.assign rfl) ?_
  refine WL.pur (Pur.assign rfl) ?_
  refine WL.nil ?_
  refine WQ.thn ?_
  refine WC.seq ?_
  refine WC.seq ?_
  refine WC.region ?_
  refine WL.pur (Pur.move rfl) ?_
  refine' WL.pur (Pur.bin rfl rfl ?h1_0) ?k1
  case h1_0 => first | exact Bin.neN (b := 0) | exact Bin.neI
  refine WL.pur (Pur.move rfl) ?_
  refine' WL.orp (u := 42) (t := 45) rfl ?h2_0 ?h2_1 ?h2_2 rfl ?k2
  case h2_0 =>
    intro hg42 K42
    refine WL.gpur (u := 42) rfl rfl (gF hg42) (Pur.move rfl) ?_
    refine' WL.gpur (u := 42) rfl rfl (gF hg42) (Pur.bin rfl rfl ?h3_0) ?k3
    case h3_0 => first | exact Bin.neN (b := 0) | exact Bin.neI
    exact K42 _ (by repeat (first | exact Covers.refl _ | refine Covers.push ?_ rfl)) rfl
  case h2_1 =>
    intro hg42 K42
    refine WL.gskip (u := 42) rfl rfl (sF hg42) ?_
    refine WL.gskip (u := 42) rfl rfl (sF hg42) ?_
    exact K42 _ (by repeat (first | exact Covers.refl _ | refine Covers.push ?_ rfl))
  case h2_2 => exact Wanted.plain rfl
  refine WL.pur (Pur.move rfl) ?_
  refine' WL.orp (u := 46) (t := 49) rfl ?h4_0 ?h4_1 ?h4_2 rfl ?k4
  case h4_0 =>
    intro hg46 K46
    refine WL.gpur (u := 46) rfl rfl (gF hg46) (Pur.move rfl) ?_
    refine' WL.gpur (u := 46) rfl rfl (gF hg46) (Pur.bin rfl rfl ?h5_0) ?k5
    case h5_0 => exact Bin.eqP isPtr_25
    exact K46 _ (by repeat (first | exact Covers.refl _ | refine Covers.push ?_ rfl)) rfl
  case h4_1 =>
    intro hg46 K46
    refine WL.gskip (u := 46) rfl rfl (sF hg46) ?_
    refine WL.gskip (u := 46) rfl rfl (sF hg46) ?_
    exact K46 _ (by repeat (first | exact Covers.refl _ | refine Covers.push ?_ rfl))
  case h4_2 => exact Wanted.plain rfl
  refine WL.nil ?_
  refine WQ.thn ?_
  first | refine WC.cond rfl (fun hc1 => ?_) (fun hc1 => ?_) | refine WC.condB rfl (fun hc1 => ?_) (fun hc1 => ?_)
  · refine WC.seq ?_
    refine WC.region ?_
    refine WL.pur (Pur.move rfl) ?_
    refine WL.pur (Pur.move rfl) ?_
    refine' WL.pur (Pur.bin rfl rfl ?h6_0) ?k6
    case h6_0 => first | exact Bin.eqN | exact Bin.eqI
    refine WL.pur (Pur.move rfl) ?_
    refine' WL.andp (u := 53) (t := 56) rfl ?h7_0 ?h7_1 ?h7_2 rfl ?k7
    case h7_0 =>
      intro hg53 K53
      refine WL.gpur (u := 53) rfl rfl (gT hg53) (Pur.move rfl) ?_
      refine' WL.gpur (u := 53) rfl rfl (gT hg53) (Pur.bin rfl rfl ?h8_0) ?k8
      case h8_0 => exact Bin.eqP isPtr_25
      exact K53 _ (by repeat (first | exact Covers.refl _ | refine Covers.push ?_ rfl)) rfl
    case h7_1 =>
      intro hg53 K53
      refine WL.gskip (u := 53) rfl rfl (sT hg53) ?_
      refine WL.gskip (u := 53) rfl rfl (sT hg53) ?_
      exact K53 _ (by repeat (first | exact Covers.refl _ | refine Covers.push ?_ rfl))
    case h7_2 => exact Wanted.plain rfl
    refine WL.pur (Pur.assign rfl) ?_
    refine WL.nil ?_
    refine WQ.thn ?_
    refine WC.ret ?_
    refine WQ.thn_ret ?_
    refine WQ.ret1 Tryz.results5 rfl [] (by first | exact List.Sublist.refl _ | exact List.sublist_append_right _ _) (View.le_trans hle1 (View.le_trans hle2 hle3)) ?_
    exact (boolT ⟨rfl, hc1.elim (fun h => h.elim hpn hpn) id⟩).symm
  · have h0 : (rightErr l).1 = 0 := Decidable.not_not.1 fun h => hc1 (.inl (.inl h))
    have hg := good_of_right h0
    have ho := ordE_ok hg
    have hp3 := (hpp h0).mono hle3
    have hq3 := hqq h0
    obtain ⟨pb, _, _, _, hpe, _⟩ := hpp h0
    obtain ⟨qb, _, _, _, hqe, _⟩ := hqq h0
    have hKl := regKeys_len ho
    have hWl := regHeld_len ho key
    refine WC.skip ?_
    refine WQ.thn ?_
    refine WC.seq ?_
    refine WC.region ?_
    refine WL.pur (Pur.move rfl) ?_
    refine WL.pur (Pur.move rfl) ?_
    refine WL.call (H0 := []) (Hr := Hr) rfl Tryz.call29 (List.Perm.refl _) (r14_Read _ _ (ordE l) key hq3 ho) ?_
    rintro _ σ4 _ ⟨_, hso4, rfl⟩ hle4
    refine WL.giveS (byt := 16) (H1 := []) (H2 := Hr) eStr_mono hso4 (by omega) rfl (fun σ5 hle5 hW5 => ?_)
    rw [List.nil_append]
    refine WL.pur (Pur.move rfl) ?_
    refine WL.call (H0 := []) (Hr := Hr) rfl Tryz.call25 (List.Perm.refl _) (r14_Keys _ _ (ordE l) (hq3.mono (View.le_trans hle4 hle5)) ho) ?_
    rintro _ σ6 _ ⟨_, hso6, rfl⟩ hle6
    refine WL.giveS (byt := 16) (H1 := []) (H2 := Hr) eStr_mono hso6 (by omega) rfl (fun σ7 hle7 hK7 => ?_)
    rw [List.nil_append]
    have hW7 := hW5.mono eStr_mono (View.le_trans hle6 hle7)
    have hp7 := hp3.mono (View.le_trans hle4 (View.le_trans hle5 (View.le_trans hle6 hle7)))
    obtain ⟨wa, wc, rfl, hwc, hwb⟩ := hW7.shape
    obtain ⟨ya, yc, rfl, hyc, hyb⟩ := hK7.shape
    refine WL.pur (Pur.assign rfl) ?_
    refine WL.pur (Pur.assign rfl) ?_
    refine WL.nil ?_
    refine WQ.thn ?_
    refine WC.seq ?_
    refine WC.region ?_
    refine WL.new (New.buildSlice0 sl_53) (fun b62 => ?_)
    refine WL.pur (Pur.assign rfl) ?_
    refine WL.nil ?_
    refine WQ.thn ?_
    refine WC.seq ?_
    refine WC.seq ?_
    refine WC.region ?_
    refine WL.pur (Pur.assign rfl) ?_
    refine WL.nil ?_
    refine WQ.thn ?_
    refine WC.block ?_
    refine WC.loop (fun j m σ' H' => ∃ (i : Nat) (sv : Value) (TL : List Value) (ht : HList), j = 4 - i ∧ i ≤ 4 ∧ TL.length = 2 * i ∧ SlO σ' eVal 23 1 sv TL ht ∧ ToldM σ' TL ∧ σ7.le σ' ∧ m = [(1, .string key), (5, .pointer pa), (11, .slice wa (regHeld (ordE l) key).length wc), (12, .slice ya (regKeys (ordE l)).length yc), (13, sv), (14, .int .i64 (i : Int))] ∧ H' = ht ++ Hr) ⟨0, _, [], [(b62, rowO 23 [])], rfl, by omega, rfl, SlO.row (b := b62) (ElR.nil (σ := σ7) (E := eVal) (sz := 1)), fun j v hj => by simp at hj, View.le_refl _, rfl, rfl⟩ (by repeat (first | exact Covers.nil _ | refine Covers.cons rfl ?_)) (by repeat (first | exact List.Sublist.refl _ | exact List.nil_sublist _ | apply List.Sublist.cons_cons | apply List.Sublist.cons | apply List.Sublist.append_left | exact List.sublist_append_right _ _)) ?_
    rintro _ _ σ Hr ⟨i, sv, TL, ht, rfl, hi, hTl, hso, hTold, hlei, rfl, rfl⟩
    refine WC.seq ?_
    refine WC.seq ?_
    refine WC.region ?_
    refine WL.pur (Pur.move rfl) ?_
    refine' WL.pur (Pur.bin rfl rfl ?h9_0) ?k9
    case h9_0 => first | exact Bin.ltN (b := 4) | exact Bin.ltI | exact Bin.ltS
    refine WL.nil ?_
    refine WQ.thn ?_
    first | refine WC.cond rfl (fun hc2 => ?_) (fun hc2 => ?_) | refine WC.condB rfl (fun hc2 => ?_) (fun hc2 => ?_)
    · have hi4 : i < 4 := hc2
      refine WC.skip ?_
      refine WQ.thn ?_
      refine WC.seq ?_
      refine WC.block ?_
      refine WC.seq ?_
      refine WC.region ?_
      refine WL.pur (Pur.move rfl) ?_
      refine WL.pur (Pur.move rfl) ?_
      refine WL.call (H0 := []) (Hr := ht ++ Hr) rfl Tryz.call28 (List.Perm.refl _) (reg_Read _ _ (ordE l) key (hp7.mono hlei) ho) ?_
      rintro v69 σ8 hA ⟨_, hsoA, rfl⟩ hle8
      refine WL.pur (Pur.move rfl) ?_
      refine WL.call (H0 := []) (Hr := hA ++ (ht ++ Hr)) rfl Tryz.call27 (List.Perm.refl _) (reg_Keys _ _ (ordE l) (hp7.mono (View.le_trans hlei hle8)) ho) ?_
      rintro v71 σ9 hB ⟨_, hsoB, rfl⟩ hle9
      have hsoA9 := hsoA.mono eStr_mono hle9
      have hso9 := hso.mono eVal_mono (View.le_trans hle8 hle9)
      obtain ⟨aa, ac, rfl, hac⟩ := hsoA9.shape
      obtain ⟨ba, bc, rfl, hbc⟩ := hsoB.shape
      have hle7_9 := View.le_trans hlei (View.le_trans hle8 hle9)
      have hW9 := hW7.mono eStr_mono hle7_9
      have hK9 := hK7.mono eStr_mono hle7_9
      have hTold9 := hTold.mono (View.le_trans hle8 hle9)
      refine WL.pur (Pur.assign rfl) ?_
      refine WL.pur (Pur.assign rfl) ?_
      refine WL.nil ?_
      refine WQ.thn ?_
      refine WC.seq ?_
      refine WC.seq ?_
      refine WC.region ?_
      refine WL.pur (Pur.move rfl) ?_
      refine WL.pur (Pur.move rfl) ?_
      refine WL.call (H0 := hA) (Hr := hB ++ (ht ++ Hr)) rfl Tryz.call26 (List.perm_append_comm_assoc hA hB _) (hsoA9.borrow (byt := 16) eStr_mono (by omega) (fun σ' hl' hs' => r11_EqTexts σ' _ _ _ _ hs' (hW9.mono eStr_mono hl'))) ?_
      rintro _ σ9 hA ⟨rfl, rfl, rfl⟩ _
      first | refine WL.pur (Pur.not rfl) ?_ | refine WL.pur (Pur.notB rfl) ?_
      refine WL.pur (Pur.move rfl) ?_
      refine' WL.orp (u := 76) (t := 81) rfl ?h10_0 ?h10_1 ?h10_2 rfl ?k10
      case h10_0 =>
        intro hg76 K76
        refine WL.gpur (u := 76) rfl rfl (gF hg76) (Pur.move rfl) ?_
        refine WL.gpur (u := 76) rfl rfl (gF hg76) (Pur.move rfl) ?_
        refine WL.gcallR (H0 := hB) (Hr := hA ++ (ht ++ Hr)) (u := 76) rfl rfl (gF hg76) rfl Tryz.call26 (List.perm_append_comm_assoc hB hA _) (hsoB.borrow (byt := 16) eStr_mono (by omega) (fun σ' hl' hs' => r11_EqTexts σ' _ _ _ _ hs' (hK9.mono eStr_mono hl'))) ?_
        rintro _ σ9 hB ⟨rfl, rfl, rfl⟩ _
        refine WL.perm ?_ (List.perm_append_comm_assoc hA hB _)
        first | refine WL.gpur (u := 76) rfl rfl (gF hg76) (Pur.not rfl) ?_ | refine WL.gpur (u := 76) rfl rfl (gF hg76) (Pur.notB rfl) ?_
        exact K76 _ (by repeat (first | exact Covers.refl _ | refine Covers.push ?_ rfl)) rfl
      case h10_1 =>
        intro hg76 K76
        refine WL.gskip (u := 76) rfl rfl (sF hg76) ?_
        refine WL.gskip (u := 76) rfl rfl (sF hg76) ?_
        refine WL.gskip (u := 76) rfl rfl (sF hg76) ?_
        refine WL.gskip (u := 76) rfl rfl (sF hg76) ?_
        exact K76 _ (by repeat (first | exact Covers.refl _ | refine Covers.push ?_ rfl))
      case h10_2 => exact Wanted.plain rfl
      refine WL.nil ?_
      refine WQ.thn ?_
      first | refine WC.cond rfl (fun hc3 => ?_) (fun hc3 => ?_) | refine WC.condB rfl (fun hc3 => ?_) (fun hc3 => ?_)
      · exact (hc3.elim (fun h => h rfl) (fun h => h rfl)).elim
      · refine WC.skip ?_
        refine WQ.thn ?_
        refine WC.seq ?_
        refine WC.region ?_
        refine WL.pur (Pur.move rfl) ?_
        refine WL.pur (Pur.move rfl) ?_
        refine WL.pur (Pur.move rfl) ?_
        refine WL.new (New.buildSliceS (xs := [.tmp 83, .tmp 84]) sl_53 zc_23 rfl rfl rfl (by rfl) (by rfl)) (fun b85 => ?_)
        refine WL.any (Any.pushL (E := eVal) (k := [.slice aa (regHeld (ordE l) key).length ac, .slice ba (regKeys (ordE l)).length bc]) (uss := [[.slice aa (regHeld (ordE l) key).length ac], [.slice ba (regKeys (ordE l)).length bc]]) (H1 := (b85, rowO 23 [.slice aa (regHeld (ordE l) key).length ac, .slice ba (regKeys (ordE l)).length bc]) :: (hA ++ hB)) (H2 := Hr) sl_53 zc_23 rfl (show (Tryz.prog.info? 23).map (·.bytes) = some 24 from by kernel_rfl) rfl rfl hso9 (by apply Rd.own_sub; (focus repeat (first | exact List.Mem.head _ | apply List.Mem.tail | apply List.mem_append_right)); exact Sub.refl _) ((ElR.single rfl rfl ⟨rfl, rfl⟩).push rfl rfl ⟨rfl, rfl⟩) (by simp) (by simp only [List.length_cons, List.length_nil]; omega) (by simp only [List.length_cons, List.length_nil]; omega)) ?_
        rintro v86 σ9 _ ⟨ht2, hso86, rfl, rfl⟩ _
        simp only [List.cons_append, List.append_assoc]
        refine WL.pur (Pur.assign rfl) ?_
        refine WL.nil ?_
        refine WQ.thn ?_
        refine WC.seq ?_
        refine WC.region ?_
        refine WL.pur (Pur.move rfl) ?_
        refine' WL.pur (Pur.bin rfl rfl ?h11_0) ?k11
        case h11_0 => exact Bin.addN (a := 65) (b := i) (by omega)
        refine WL.pur ((Pur.convTo (ks := .i64) (kt := .i32) rfl (by kernel_rfl) (by kernel_rfl) (i32_small i (by omega)))) ?_
        refine WL.pur ((Pur.convStr (ks := .i32) rfl (by kernel_rfl) isString_9)) ?_
        refine WL.pur (Pur.assign rfl) ?_
        refine WL.nil ?_
        refine WQ.thn ?_
        refine WC.seq ?_
        refine WC.region ?_
        refine WL.pur (Pur.move rfl) ?_
        refine WL.pur (Pur.move rfl) ?_
        refine WL.new (New.buildSliceS (xs := [.tmp 91, .tmp 92]) sl_53 zc_23 rfl rfl rfl (by rfl) (by rfl)) (fun b93 => ?_)
        refine WL.pur (Pur.len rfl isSlice_53) ?_
        refine WL.pur (Pur.move rfl) ?_
        refine WL.nil ?_
        refine WQ.thn ?_
        refine WC.block ?_
        refine WC.loop (fun j m σ' H' => ∃ (x : Nat) (hP : HList), j = 2 - x ∧ x ≤ 2 ∧ Pend σ' 9 (mB i) (.slice aa (regHeld (ordE l) key).length ac) (.slice ba (regKeys (ordE l)).length bc) (regHeld (ordE l) key) (regKeys (ordE l)) x hP ∧ σ9.le σ' ∧ m = [(1, .string key), (5, .pointer pa), (11, .slice wa (regHeld (ordE l) key).length wc), (12, .slice ya (regKeys (ordE l)).length yc), (13, v86), (14, .int .i64 (i : Int)), (17, .string (mB i)), (93, .slice (some ⟨b93, 0, none⟩) 2 2), (94, .int .i64 ((2 : Nat) : Int)), (95, .int .i64 (x : Int))] ∧ H' = (b93, rowO 23 [.slice aa (regHeld (ordE l) key).length ac, .slice ba (regKeys (ordE l)).length bc]) :: (hP ++ (ht2 ++ Hr))) ⟨0, hA ++ hB, rfl, by omega, .inl ⟨rfl, hA, hB, rfl, hsoA9, hsoB⟩, View.le_refl _, rfl, rfl⟩ (by repeat (first | exact Covers.nil _ | refine Covers.cons rfl ?_)) (by rw [List.append_assoc]; repeat (first | exact List.Sublist.refl _ | exact List.nil_sublist _ | apply List.Sublist.cons_cons | apply List.Sublist.cons | apply List.Sublist.append_left | exact List.sublist_append_right _ _)) ?_
        rintro _ _ σ Hr ⟨x, hP, rfl, hx, hp, hlex, rfl, rfl⟩
        refine WC.seq ?_
        refine WC.region ?_
        refine' WL.pur (Pur.bin rfl rfl ?h12_0) ?k12
        case h12_0 => first | exact Bin.ltN | exact Bin.ltI | exact Bin.ltS
        refine WL.nil ?_
        refine WQ.thn ?_
        refine WC.seq ?_
        first | refine WC.cond rfl (fun hc4 => ?_) (fun hc4 => ?_) | refine WC.condB rfl (fun hc4 => ?_) (fun hc4 => ?_)
        · obtain ⟨tv, L0, h0_, hR, htv, hso0, hL0, rfl, hfin⟩ := hp.open hc4 hWl hKl
          obtain ⟨ta, tc, rfl, htc⟩ := hso0.shape
          refine WC.skip ?_
          refine WQ.thn ?_
          refine WC.seq ?_
          refine WC.block ?_
          refine WC.seq ?_
          refine WC.region ?_
          refine' WL.pur (Pur.indexAddr rfl rfl sl_53 ?h13_0) ?k13
          case h13_0 => omega
          refine' WL.pur (Pur.load1 rfl ty_23 ?h14_0) ?k14
          case h14_0 => apply Rd.own1; (focus repeat (first | exact List.Mem.head _ | apply List.Mem.tail | apply List.mem_append_right)); rw [show 0 + x * 1 = x by omega]; exact htv
          refine WL.pur (Pur.assign rfl) ?_
          refine WL.nil ?_
          refine WQ.thn ?_
          refine WC.seq ?_
          refine WC.seq ?_
          refine WC.region ?_
          refine WL.pur (Pur.move rfl) ?_
          refine WL.pur (Pur.len rfl isSlice_23) ?_
          refine WL.pur (Pur.move rfl) ?_
          refine WL.nil ?_
          refine WQ.thn ?_
          refine WC.block ?_
          refine WC.loop (fun j m σ' H' => ∃ (q : Nat) (h2 : HList), j = L0.length - q ∧ q ≤ L0.length ∧ SlO σ eStr 9 1 (.slice ta L0.length tc) (List.replicate q (mB i) ++ L0.drop q) h2 ∧ m = [(1, .string key), (5, .pointer pa), (11, .slice wa (regHeld (ordE l) key).length wc), (12, .slice ya (regKeys (ordE l)).length yc), (13, v86), (14, .int .i64 (i : Int)), (17, .string (mB i)), (93, .slice (some ⟨b93, 0, none⟩) 2 2), (94, .int .i64 ((2 : Nat) : Int)), (95, .int .i64 (x : Int)), (19, .slice ta L0.length tc), (100, .int .i64 (L0.length : Int)), (101, .int .i64 (q : Int))] ∧ σ' = σ ∧ H' = (b93, rowO 23 [.slice aa (regHeld (ordE l) key).length ac, .slice ba (regKeys (ordE l)).length bc]) :: (h2 ++ (hR ++ (ht2 ++ Hr)))) ⟨0, h0_, rfl, by omega, by simpa using hso0, rfl, rfl, rfl⟩ (by repeat (first | exact Covers.nil _ | refine Covers.cons rfl ?_)) (by rw [List.append_assoc]; repeat (first | exact List.Sublist.refl _ | exact List.nil_sublist _ | apply List.Sublist.cons_cons | apply List.Sublist.cons | apply List.Sublist.append_left | exact List.sublist_append_right _ _)) ?_
          rintro _ _ σ Hr ⟨q, h2, rfl, hq, hso2, rfl, rfl, rfl⟩
          refine WC.seq ?_
          refine WC.region ?_
          refine' WL.pur (Pur.bin rfl rfl ?h15_0) ?k15
          case h15_0 => first | exact Bin.ltN | exact Bin.ltI | exact Bin.ltS
          refine WL.nil ?_
          refine WQ.thn ?_
          refine WC.seq ?_
          first | refine WC.cond rfl (fun hc5 => ?_) (fun hc5 => ?_) | refine WC.condB rfl (fun hc5 => ?_) (fun hc5 => ?_)
          · obtain ⟨b, cap, junk, vss, e1, rfl, hcap, hjl, hel⟩ := hso2.at (by rw [rep_len hq]; omega)
            have hcap2 := hcap
            rw [rep_len hq] at e1 hcap2
            injection e1 with e2 e3 e4
            subst e2
            subst e4
            have hset := SlO.set1 (T := 9) (b := b) (x := mB i) hel hcap hjl (by rw [rep_len hq]; exact hc5) (mB_ok i hi4)
            rw [rep_set hc5, rep_len hq] at hset
            refine WC.skip ?_
            refine WQ.thn ?_
            refine WC.seq ?_
            refine WC.block ?_
            refine WC.seq ?_
            refine WC.region ?_
            refine WL.pur (Pur.move rfl) ?_
            refine WL.pur (Pur.assign rfl) ?_
            refine WL.nil ?_
            refine WQ.thn ?_
            refine WC.region ?_
            refine WL.pur (Pur.move rfl) ?_
            refine WL.pur (Pur.move rfl) ?_
            refine WL.pur (Pur.move rfl) ?_
            refine' WL.pur (Pur.indexAddr rfl rfl sl_23 ?h16_0) ?k16
            case h16_0 => omega
            refine' WL.run0 (Run.store1 rfl rfl ty_9 (by first | rfl | assumption) ?h17_0 ?h17_1 sz_9) ?k17
            case h17_0 => repeat (first | exact Part.one | exact Part.here | apply Part.cons | apply Part.app)
            case h17_1 => rw [List.length_append, hel.flat, rep_len hq]; omega
            refine WL.nil ?_
            refine WQ.blk ?_
            refine WQ.thn ?_
            refine WC.region ?_
            refine' WL.pur (Pur.bin rfl rfl ?h18_0) ?k18
            case h18_0 => first | (refine Bin.addN (b := 1) ?_; omega) | (refine Bin.addI ?_; omega)
            refine WL.pur (Pur.move rfl) ?_
            refine WL.nil ?_
            refine WQ.back _ ⟨q + 1, _, rfl, by omega, hset, rfl, rfl, rfl⟩ (by omega) (by repeat (first | exact Covers.nil _ | refine Covers.cons rfl ?_)) (by repeat (first | exact List.Sublist.refl _ | exact List.nil_sublist _ | apply List.Sublist.cons_cons | apply List.Sublist.cons | apply List.Sublist.append_left | exact List.sublist_append_right _ _))
          · have hq2 : q = L0.length := by omega
            subst hq2
            rw [List.drop_length, List.append_nil] at hso2
            have hTA0 := TA.start hso2
            refine WC.exit ?_
            refine WQ.thn_exit ?_
            refine WQ.back_exit ?_
            refine WQ.blk_here ?_
            refine WQ.thn ?_
            refine WC.seq ?_
            refine WC.region ?_
            refine WL.pur (Pur.assign rfl) ?_
            refine WL.nil ?_
            refine WQ.thn ?_
            refine WC.block ?_
            refine WC.loop (fun j m σ' H' => ∃ (k : Nat) (tcur : Value) (h2 : HList), j = 9 - k ∧ k ≤ 9 ∧ TA 9 L0.length (mB i) (.slice ta L0.length tc) k tcur h2 ∧ m = [(1, .string key), (5, .pointer pa), (11, .slice wa (regHeld (ordE l) key).length wc), (12, .slice ya (regKeys (ordE l)).length yc), (13, v86), (14, .int .i64 (i : Int)), (17, .string (mB i)), (93, .slice (some ⟨b93, 0, none⟩) 2 2), (94, .int .i64 ((2 : Nat) : Int)), (95, .int .i64 (x : Int)), (19, tcur), (21, .int .i64 (k : Int))] ∧ σ' = σ ∧ H' = (b93, rowO 23 [.slice aa (regHeld (ordE l) key).length ac, .slice ba (regKeys (ordE l)).length bc]) :: (h2 ++ (hR ++ (ht2 ++ Hr)))) ⟨0, _, _, rfl, by omega, hTA0, rfl, rfl, rfl⟩ (by repeat (first | exact Covers.nil _ | refine Covers.cons rfl ?_)) (by repeat (first | exact List.Sublist.refl _ | exact List.nil_sublist _ | apply List.Sublist.cons_cons | apply List.Sublist.cons | apply List.Sublist.append_left | exact List.sublist_append_right _ _)) ?_
            rintro _ _ σ Hr ⟨k, tcur, h2, rfl, hk, hTA, rfl, rfl, rfl⟩
            refine WC.seq ?_
            refine WC.seq ?_
            refine WC.region ?_
            refine WL.pur (Pur.move rfl) ?_
            refine' WL.pur (Pur.bin rfl rfl ?h19_0) ?k19
            case h19_0 => first | exact Bin.ltN (b := 9) | exact Bin.ltI | exact Bin.ltS
            refine WL.nil ?_
            refine WQ.thn ?_
            first | refine WC.cond rfl (fun hc6 => ?_) (fun hc6 => ?_) | refine WC.condB rfl (fun hc6 => ?_) (fun hc6 => ?_)
            · refine WC.skip ?_
              refine WQ.thn ?_
              refine WC.seq ?_
              refine WC.block ?_
              refine WC.region ?_
              refine WL.pur (Pur.move rfl) ?_
              refine WL.pur (Pur.move rfl) ?_
              refine WL.new (New.buildSliceS (xs := [.tmp 114]) sl_23 zc_9 rfl rfl rfl (by rfl) (by rfl)) (fun b115 => ?_)
              refine WL.any (Any.appendTA (H1 := [(b115, _), (b93, _)]) (H2 := hR ++ (ht2 ++ Hr)) sl_23 zc_9 by_9 rfl rfl hTA (by apply Rd.own_sub; (focus repeat (first | exact List.Mem.head _ | apply List.Mem.tail | apply List.mem_append_right)); exact Sub.refl _) rfl (by omega)) ?_
              rintro v116 σ _ ⟨h116, hTA2, rfl, rfl⟩ _
              refine WL.pur (Pur.assign rfl) ?_
              refine WL.nil ?_
              refine WQ.blk ?_
              refine WQ.thn ?_
              refine WC.region ?_
              refine WL.pur (Pur.move rfl) ?_
              refine' WL.pur (Pur.bin rfl rfl ?h20_0) ?k20
              case h20_0 => first | (refine Bin.addN (b := 1) ?_; omega) | (refine Bin.addI ?_; omega)
              refine WL.pur (Pur.assign rfl) ?_
              refine WL.nil ?_
              refine WQ.back _ ⟨k + 1, _, _, rfl, by omega, hTA2, rfl, rfl, rfl⟩ (by omega) (by repeat (first | exact Covers.nil _ | refine Covers.cons rfl ?_)) (by repeat (first | exact List.Sublist.refl _ | exact List.nil_sublist _ | apply List.Sublist.cons_cons | apply List.Sublist.cons | apply List.Sublist.append_left | exact List.sublist_append_right _ _))
            · refine WC.giveTA (H1 := [(b93, _)]) (H2 := hR ++ (ht2 ++ Hr)) hTA (mB_ok i hi4) (by omega) rfl (fun σ10 hle10 hE10 => ?_)
              rw [List.singleton_append]
              refine WC.exit ?_
              refine WQ.thn_exit ?_
              refine WQ.back_exit ?_
              refine WQ.blk_here ?_
              refine WQ.blk ?_
              refine WQ.thn ?_
              refine WC.region ?_
              refine' WL.pur (Pur.bin rfl rfl ?h21_0) ?k21
              case h21_0 => first | (refine Bin.addN (b := 1) ?_; omega) | (refine Bin.addI ?_; omega)
              refine WL.pur (Pur.move rfl) ?_
              refine WL.nil ?_
              refine WQ.back _ ⟨x + 1, hR, rfl, by omega, hfin _ hle10 hE10, View.le_trans hlex hle10, rfl, rfl⟩ (by omega) (by repeat (first | exact Covers.nil _ | refine Covers.cons rfl ?_)) (by repeat (first | exact List.Sublist.refl _ | exact List.nil_sublist _ | apply List.Sublist.cons_cons | apply List.Sublist.cons | apply List.Sublist.append_left | exact List.sublist_append_right _ _))
        · obtain ⟨hEA, hEB, rfl⟩ := hp.done hc4
          refine WC.exit ?_
          refine WQ.thn_exit ?_
          refine WQ.back_exit ?_
          refine WQ.blk_here ?_
          refine WQ.blk ?_
          refine WQ.thn ?_
          refine WC.region ?_
          refine WL.pur (Pur.move rfl) ?_
          refine' WL.pur (Pur.bin rfl rfl ?h22_0) ?k22
          case h22_0 => first | (refine Bin.addN (b := 1) ?_; omega) | (refine Bin.addI ?_; omega)
          refine WL.pur (Pur.assign rfl) ?_
          refine WL.nil ?_
          refine WQ.back _ ⟨i + 1, v86, TL ++ [.slice aa (regHeld (ordE l) key).length ac, .slice ba (regKeys (ordE l)).length bc], ht2, rfl, by omega, by rw [List.length_append]; simp only [List.length_cons, List.length_nil]; omega, hso86.mono eVal_mono hlex, ToldM.two (hTold9.mono hlex) hTl hWl hKl hEA hEB, View.le_trans hle7_9 hlex, rfl, rfl⟩ (by omega) (by repeat (first | exact Covers.nil _ | refine Covers.cons rfl ?_)) (by repeat (first | exact List.Sublist.refl _ | exact List.nil_sublist _ | apply List.Sublist.cons_cons | apply List.Sublist.cons | apply List.Sublist.append_left | exact List.sublist_append_right _ _))
    · obtain ⟨ua, uc, rfl, huc⟩ := hso.shape
      obtain ⟨ub, hua, huat⟩ := hso.rds
      have hTl8 : TL.length = 8 := by omega
      refine WC.exit ?_
      refine WQ.thn_exit ?_
      refine WQ.back_exit ?_
      refine WQ.blk_here ?_
      refine WQ.thn ?_
      refine WC.seq ?_
      refine WC.seq ?_
      refine WC.region ?_
      refine WL.pur (Pur.move rfl) ?_
      refine WL.pur (Pur.len rfl isSlice_53) ?_
      refine WL.pur (Pur.move rfl) ?_
      refine WL.nil ?_
      refine WQ.thn ?_
      refine WC.block ?_
      refine WC.loop (fun j m σ' H' => ∃ i2 : Nat, j = TL.length - i2 ∧ i2 ≤ TL.length ∧ m = [(1, .string key), (5, .pointer pa), (11, .slice wa (regHeld (ordE l) key).length wc), (12, .slice ya (regKeys (ordE l)).length yc), (118, .slice ua TL.length uc), (119, .int .i64 (TL.length : Int)), (120, .int .i64 (i2 : Int))] ∧ σ' = σ ∧ H' = ht ++ Hr) ⟨0, rfl, by omega, rfl, rfl, rfl⟩ (by repeat (first | exact Covers.nil _ | refine Covers.cons rfl ?_)) (by repeat (first | exact List.Sublist.refl _ | exact List.nil_sublist _ | apply List.Sublist.cons_cons | apply List.Sublist.cons | apply List.Sublist.append_left | exact List.sublist_append_right _ _)) ?_
      rintro _ _ σ Hr ⟨i2, rfl, hi2, rfl, rfl, rfl⟩
      refine WC.seq ?_
      refine WC.region ?_
      refine' WL.pur (Pur.bin rfl rfl ?h23_0) ?k23
      case h23_0 => first | exact Bin.ltN | exact Bin.ltI | exact Bin.ltS
      refine WL.nil ?_
      refine WQ.thn ?_
      refine WC.seq ?_
      first | refine WC.cond rfl (fun hc7 => ?_) (fun hc7 => ?_) | refine WC.condB rfl (fun hc7 => ?_) (fun hc7 => ?_)
      · obtain ⟨v, hv⟩ : ∃ v, TL[i2]? = some v := ⟨_, List.getElem?_eq_getElem hc7⟩
        obtain ⟨vs, _, _, ⟨rfl, hv1⟩, hvr⟩ := huat i2 v hv
        obtain ⟨nj, hnj, hEv⟩ := hTold i2 v hv
        obtain ⟨va, vc, rfl, hvc, hvb⟩ := hEv.shape
        obtain ⟨vb, voff, hva, hvat⟩ := hEv.rds
        refine WC.skip ?_
        refine WQ.thn ?_
        refine WC.seq ?_
        refine WC.block ?_
        refine WC.seq ?_
        refine WC.region ?_
        refine WL.pur (Pur.move rfl) ?_
        refine' WL.pur (Pur.indexAddr (eqA (hua (by omega))) rfl sl_53 ?h24_0) ?k24
        case h24_0 => omega
        refine' WL.pur (Pur.load1 rfl ty_23 ?h25_0) ?k25
        case h25_0 => exact hvr _ _ (fun p hp => by repeat (first | exact List.mem_append_left _ hp | apply List.Mem.tail | apply List.mem_append_right))
        refine WL.pur (Pur.assign rfl) ?_
        refine WL.pur (Pur.assign rfl) ?_
        refine WL.nil ?_
        refine WQ.thn ?_
        refine WC.seq ?_
        refine WC.region ?_
        refine WL.pur (Pur.move rfl) ?_
        refine WL.pur (Pur.len rfl isSlice_23) ?_
        refine WL.pur (Pur.move rfl) ?_
        refine WL.nil ?_
        refine WQ.thn ?_
        refine WC.block ?_
        refine WC.loop (fun j m σ' H' => ∃ q : Nat, j = (List.replicate nj (mB (i2 / 2))).length - q ∧ q ≤ (List.replicate nj (mB (i2 / 2))).length ∧ m = [(1, .string key), (5, .pointer pa), (11, .slice wa (regHeld (ordE l) key).length wc), (12, .slice ya (regKeys (ordE l)).length yc), (118, .slice ua TL.length uc), (119, .int .i64 (TL.length : Int)), (120, .int .i64 (i2 : Int)), (22, .int .i64 (i2 : Int)), (125, .slice va (List.replicate nj (mB (i2 / 2))).length vc), (126, .int .i64 ((List.replicate nj (mB (i2 / 2))).length : Int)), (127, .int .i64 (q : Int))] ∧ σ' = σ ∧ H' = ht ++ Hr) ⟨0, rfl, by omega, rfl, rfl, rfl⟩ (by repeat (first | exact Covers.nil _ | refine Covers.cons rfl ?_)) (by repeat (first | exact List.Sublist.refl _ | exact List.nil_sublist _ | apply List.Sublist.cons_cons | apply List.Sublist.cons | apply List.Sublist.append_left | exact List.sublist_append_right _ _)) ?_
        rintro _ _ σ Hr ⟨q, rfl, hq, rfl, rfl, rfl⟩
        refine WC.seq ?_
        refine WC.region ?_
        refine' WL.pur (Pur.bin rfl rfl ?h26_0) ?k26
        case h26_0 => first | exact Bin.ltN | exact Bin.ltI | exact Bin.ltS
        refine WL.nil ?_
        refine WQ.thn ?_
        refine WC.seq ?_
        first | refine WC.cond rfl (fun hc8 => ?_) (fun hc8 => ?_) | refine WC.condB rfl (fun hc8 => ?_) (fun hc8 => ?_)
        · have hs : (List.replicate nj (mB (i2 / 2)))[q]? = some (mB (i2 / 2)) := by rw [List.getElem?_replicate, if_pos (by simpa using hc8)]
          obtain ⟨vs2, _, _, ⟨rfl, _⟩, hr2⟩ := hvat q _ hs
          refine WC.skip ?_
          refine WQ.thn ?_
          refine WC.seq ?_
          refine WC.block ?_
          refine WC.seq ?_
          refine WC.region ?_
          refine' WL.pur (Pur.indexAddr (eqA (hva (by omega))) rfl sl_23 ?h27_0) ?k27
          case h27_0 => omega
          refine' WL.pur (Pur.load1 rfl ty_9 ?h28_0) ?k28
          case h28_0 => exact RdV.rd hr2
          refine WL.pur (Pur.assign rfl) ?_
          refine WL.nil ?_
          refine WQ.thn ?_
          refine WC.seq ?_
          refine WC.region ?_
          refine WL.pur (Pur.move rfl) ?_
          refine WL.pur (Pur.move rfl) ?_
          refine' WL.pur (Pur.bin rfl rfl ?h29_0) ?k29
          case h29_0 => first | (refine Bin.quoN (b := 2) ?_ ?_ <;> omega)
          refine' WL.pur (Pur.bin rfl rfl ?h30_0) ?k30
          case h30_0 => exact Bin.addN (a := 65) (b := i2 / 2) (by omega)
          refine WL.pur ((Pur.convTo (ks := .i64) (kt := .i32) rfl (by kernel_rfl) (by kernel_rfl) (i32_small (i2 / 2) (by omega)))) ?_
          refine WL.pur ((Pur.convStr (ks := .i32) rfl (by kernel_rfl) isString_9)) ?_
          refine' WL.pur (Pur.bin rfl rfl ?h31_0) ?k31
          case h31_0 => exact Bin.neS
          refine WL.nil ?_
          refine WQ.thn ?_
          first | refine WC.cond rfl (fun hc9 => ?_) (fun hc9 => ?_) | refine WC.condB rfl (fun hc9 => ?_) (fun hc9 => ?_)
          · exact absurd rfl hc9
          · refine WC.skip ?_
            refine WQ.blk ?_
            refine WQ.thn ?_
            refine WC.region ?_
            refine' WL.pur (Pur.bin rfl rfl ?h32_0) ?k32
            case h32_0 => first | (refine Bin.addN (b := 1) ?_; omega) | (refine Bin.addI ?_; omega)
            refine WL.pur (Pur.move rfl) ?_
            refine WL.nil ?_
            refine WQ.back _ ⟨q + 1, rfl, by omega, rfl, rfl, rfl⟩ (by omega) (by repeat (first | exact Covers.nil _ | refine Covers.cons rfl ?_)) (by repeat (first | exact List.Sublist.refl _ | exact List.nil_sublist _ | apply List.Sublist.cons_cons | apply List.Sublist.cons | apply List.Sublist.append_left | exact List.sublist_append_right _ _))
        · refine WC.exit ?_
          refine WQ.thn_exit ?_
          refine WQ.back_exit ?_
          refine WQ.blk_here ?_
          refine WQ.blk ?_
          refine WQ.thn ?_
          refine WC.region ?_
          refine' WL.pur (Pur.bin rfl rfl ?h33_0) ?k33
          case h33_0 => first | (refine Bin.addN (b := 1) ?_; omega) | (refine Bin.addI ?_; omega)
          refine WL.pur (Pur.move rfl) ?_
          refine WL.nil ?_
          refine WQ.back _ ⟨i2 + 1, rfl, by omega, rfl, rfl, rfl⟩ (by omega) (by repeat (first | exact Covers.nil _ | refine Covers.cons rfl ?_)) (by repeat (first | exact List.Sublist.refl _ | exact List.nil_sublist _ | apply List.Sublist.cons_cons | apply List.Sublist.cons | apply List.Sublist.append_left | exact List.sublist_append_right _ _))
      · refine WC.exit ?_
        refine WQ.thn_exit ?_
        refine WQ.back_exit ?_
        refine WQ.blk_here ?_
        refine WQ.thn ?_
        refine WC.seq ?_
        refine WC.region ?_
        refine WL.pur (Pur.move rfl) ?_
        refine WL.pur (Pur.move rfl) ?_
        refine WL.call (H0 := []) (Hr := ht ++ Hr) rfl Tryz.call28 (List.Perm.refl _) (reg_Read _ _ (ordE l) key (hp7.mono hlei) ho) ?_
        rintro _ σ11 _ ⟨_, hsoC, rfl⟩ hle11
        refine WL.giveS (byt := 16) (H1 := []) (H2 := ht ++ Hr) eStr_mono hsoC (by omega) rfl (fun σ12 hle12 hC12 => ?_)
        rw [List.nil_append]
        refine WL.pur (Pur.move rfl) ?_
        refine WL.callP rfl Tryz.call26 ((r11_EqTexts _ _ _ _ _ hC12 (hW7.mono eStr_mono (View.le_trans hlei (View.le_trans hle11 hle12))))) ?_
        refine WL.pur (Pur.move rfl) ?_
        refine' WL.andp (u := 145) (t := 150) rfl ?h34_0 ?h34_1 ?h34_2 rfl ?k34
        case h34_0 =>
          intro hg145 K145
          refine WL.gpur (u := 145) rfl rfl (gT hg145) (Pur.move rfl) ?_
          refine WL.gcallR (H0 := []) (Hr := ht ++ Hr) (u := 145) rfl rfl (gT hg145) rfl Tryz.call27 (List.Perm.refl _) (reg_Keys _ _ (ordE l) (hp7.mono (View.le_trans hlei (View.le_trans hle11 hle12))) ho) ?_
          rintro _ σ13 _ ⟨_, hsoD, rfl⟩ hle13
          refine WL.giveS (byt := 16) (H1 := []) (H2 := ht ++ Hr) eStr_mono hsoD (by omega) rfl (fun σ14 hle14 hD14 => ?_)
          rw [List.nil_append]
          refine WL.gpur (u := 145) rfl rfl (gT hg145) (Pur.move rfl) ?_
          refine WL.gcallP (u := 145) rfl rfl (gT hg145) rfl Tryz.call26 ((r11_EqTexts _ _ _ _ _ hD14 (hK7.mono eStr_mono (View.le_trans hlei (View.le_trans hle11 (View.le_trans hle12 (View.le_trans hle13 hle14))))))) ?_
          refine WL.le (View.le_trans hle13 hle14) ?_
          exact K145 _ (by repeat (first | exact Covers.refl _ | refine Covers.push ?_ rfl)) rfl
        case h34_1 =>
          intro hg145 K145
          refine WL.gskip (u := 145) rfl rfl (sT hg145) ?_
          refine WL.gskip (u := 145) rfl rfl (sT hg145) ?_
          refine WL.gskip (u := 145) rfl rfl (sT hg145) ?_
          refine WL.gskip (u := 145) rfl rfl (sT hg145) ?_
          exact K145 _ (by repeat (first | exact Covers.refl _ | refine Covers.push ?_ rfl))
        case h34_2 => exact Wanted.plain rfl
        refine WL.pur (Pur.assign rfl) ?_
        refine WL.nil ?_
        refine WQ.thn ?_
        refine WC.ret ?_
        refine WQ.ret1 Tryz.results5 rfl [] (by first | exact List.Sublist.refl _ | exact List.sublist_append_right _ _) (View.le_trans hle1 (View.le_trans hle2 (View.le_trans hle3 (View.le_trans hle4 (View.le_trans hle5 (View.le_trans hle6 (View.le_trans hle7 (View.le_trans hlei (View.le_trans hle11 hle12))))))))) ?_
        exact (boolT ⟨rfl, rfl⟩).symm

end Go.Proofs.YtgoooilgmabkmaaGreat
