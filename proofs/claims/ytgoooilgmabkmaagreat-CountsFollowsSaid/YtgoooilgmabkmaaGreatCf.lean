/-
  Contracts of the functions of the program and of its references: what each call hands back, from what is known and owned.
-/
import Derived.Test.YtgoooilgmabkmaaGreatCe
set_option linter.unusedVariables false
set_option linter.unusedSimpArgs false
set_option linter.unusedSectionVars false
namespace Go.Proofs.YtgoooilgmabkmaaGreat
open Go Go.Sl
set_option linter.unusedVariables false
set_option linter.unusedSimpArgs false
set_option maxRecDepth 100000

def moreCells (id : Nat) (ov : Value) (key : ByteArray) : List Value := hashCells id ++ [ov, .string key]
theorem Sub.more_hash (id : Nat) (ov : Value) (key : ByteArray) : Sub (moreCells id ov key) 0 (hashCells id) := Sub.head
theorem more_ops (id : Nat) (ov : Value) (key : ByteArray) : (moreCells id ov key)[32]? = some ov := by rfl
theorem more_key (id : Nat) (ov : Value) (key : ByteArray) : (moreCells id ov key)[33]? = some (.string key) := by rfl
theorem opsTo_one (e : EntD) : opsTo [e] [e].length = e.node.ops := by simp [opsTo]
theorem i64_0 : I64 0 := by unfold I64; decide
theorem isH_0 : IsH 0 := isH0

set_option maxHeartbeats 2000000 in
theorem law16_CountsFollows (σ : View) (lv ov : Value) (id : Nat) (ops : List OpD) (key : ByteArray) (l : List EntD) (h : Ents σ lv l) (hid : IsH id) (hops : SlE σ eOp 37 88 ov ops) :
    Tri Tryz.prog 6 #[lv, .agg (moreCells id ov key).toArray] σ [] (fun v σ' H' => v = .bool true) := by
  have h' := h
  have hops' := hops
  obtain ⟨la, lc, rfl, hlc, hlby⟩ := h.shape
  obtain ⟨oa, oc, rfl, hoc, hob⟩ := hops.shape
  refine Tri.of_body [(0, .slice la l.length lc), (1, .agg (moreCells id (.slice oa ops.length oc) key).toArray)] Tryz.func6 rfl Tryz.ntmps6 (by simp) rfl (fun Hr => ?_)
  rw [List.nil_append]
  refine WC.seq ?_
  refine WC.region ?_
  refine WL.new (New.boxN rfl) (fun b3 => ?_)
  refine WL.pur (Pur.assign rfl) ?_
  refine WL.nil ?_
  refine WQ.thn ?_
  refine WC.seq ?_
  refine WC.region ?_
  refine WL.give (H1 := []) (H2 := Hr) (fun hb3 => ?_)
  rw [List.nil_append]
  have hle0 := View.le_add (rowO 56 (moreCells id (.slice oa ops.length oc) key)) hb3
  have hx0 := RdV.row (View.add_same σ b3 (rowO 56 (moreCells id (.slice oa ops.length oc) key)))
  generalize σ.add b3 (rowO 56 (moreCells id (.slice oa ops.length oc) key)) = σ0 at hle0 hx0 ⊢
  refine WL.pur (Pur.move rfl) ?_
  refine WL.call (H0 := []) (Hr := Hr) rfl Tryz.call23 (List.Perm.refl _) (past_Of2 _ _ l (h'.mono eEnt_mono hle0)) ?_
  rintro _ σ1 _ ⟨⟨pa, n1, rfl, hpp, hpn⟩, rfl⟩ hle1
  rw [List.nil_append]
  refine WL.pur (Pur.move rfl) ?_
  first | refine WL.pur (Pur.ex2_0 rfl) ?_ | refine WL.pur (Pur.ex3_0 rfl) ?_ | refine WL.pur (Pur.extractNext rfl) ?_ | refine WL.pur (Pur.extract rfl rfl) ?_
  first | refine WL.pur (Pur.ex2_1 rfl) ?_ | refine WL.pur (Pur.ex3_1 rfl) ?_ | refine WL.pur (Pur.extract rfl rfl) ?_
  first | refine WL.pur (Pur.ex3_2 rfl) ?_ | refine WL.pur (Pur.extract rfl rfl) ?_
  refine WL.pur (Pur.assign rfl) ?_
  refine WL.pur (Pur.assign rfl) ?_
  refine WL.pur (Pur.assign rfl) ?_
  refine WL.nil ?_
  refine WQ.thn ?_
  refine WC.seq ?_
  refine WC.region ?_
  refine WL.pur (Pur.move rfl) ?_
  refine WL.call (H0 := []) (Hr := Hr) rfl Tryz.call24 (List.Perm.refl _) (r11_Of2 _ _ l (h'.mono eEnt_mono (View.le_trans hle0 hle1))) ?_
  rintro _ σ2 _ ⟨⟨qa, m3, rfl, hqq, hqn⟩, rfl⟩ hle2
  rw [List.nil_append]
  refine WL.pur (Pur.move rfl) ?_
  first | refine WL.pur (Pur.ex2_0 rfl) ?_ | refine WL.pur (Pur.ex3_0 rfl) ?_ | refine WL.pur (Pur.extractNext rfl) ?_ | refine WL.pur (Pur.extract rfl rfl) ?_
  first | refine WL.pur (Pur.ex2_1 rfl) ?_ | refine WL.pur (Pur.ex3_1 rfl) ?_ | refine WL.pur (Pur.extract rfl rfl) ?_
  first | refine WL.pur (Pur.ex3_2 rfl) ?_ | refine WL.pur (Pur.extract rfl rfl) ?_
  refine WL.pur (Pur.assign rfl) ?_
  refine WL.pur (Pur.assign rfl) ?_
  refine WL.pur (Pur.assign rfl) ?_
  refine WL.nil ?_
  refine WQ.thn ?_
  refine WC.seq ?_
  refine WC.seq ?_
  refine WC.region ?_
  refine WL.pur (Pur.move rfl) ?_
  refine' WL.pur (Pur.bin rfl rfl ?h1_0) ?k1
  case h1_0 => first | exact Bin.neN (b := 0) | exact Bin.neI
  refine WL.nil ?_
  refine WQ.thn ?_
  first | refine WC.cond rfl (fun hc0 => ?_) (fun hc0 => ?_) | refine WC.condB rfl (fun hc0 => ?_) (fun hc0 => ?_)
  · refine WC.seq ?_
    refine WC.region ?_
    refine WL.pur (Pur.move rfl) ?_
    refine WL.pur (Pur.move rfl) ?_
    refine' WL.pur (Pur.bin rfl rfl ?h2_0) ?k2
    case h2_0 => first | exact Bin.eqN | exact Bin.eqI
    refine WL.pur (Pur.move rfl) ?_
    refine' WL.andp (u := 42) (t := 45) rfl ?h3_0 ?h3_1 ?h3_2 rfl ?k3
    case h3_0 =>
      intro hg42 K42
      refine WL.gpur (u := 42) rfl rfl (gT hg42) (Pur.move rfl) ?_
      refine' WL.gpur (u := 42) rfl rfl (gT hg42) (Pur.bin rfl rfl ?h4_0) ?k4
      case h4_0 => exact Bin.eqP isPtr_25
      exact K42 _ (by repeat (first | exact Covers.refl _ | refine Covers.push ?_ rfl)) rfl
    case h3_1 =>
      intro hg42 K42
      refine WL.gskip (u := 42) rfl rfl (sT hg42) ?_
      refine WL.gskip (u := 42) rfl rfl (sT hg42) ?_
      exact K42 _ (by repeat (first | exact Covers.refl _ | refine Covers.push ?_ rfl))
    case h3_2 => exact Wanted.plain rfl
    refine WL.pur (Pur.move rfl) ?_
    refine' WL.andp (u := 46) (t := 48) rfl ?h5_0 ?h5_1 ?h5_2 rfl ?k5
    case h5_0 =>
      intro hg46 K46
      refine WL.gcallR (H0 := []) (u := 46) rfl rfl (gT hg46) rfl Tryz.call31 (List.Perm.refl _) (law16_fixed _) ?_
      rintro v47 σf _ ⟨hfv, rfl⟩ hlef
      obtain rfl : v47 = .bool (decide True) := hfv
      rw [List.nil_append]
      refine WL.le hlef ?_
      exact K46 _ (by repeat (first | exact Covers.refl _ | refine Covers.push ?_ rfl)) rfl
    case h5_1 =>
      intro hg46 K46
      refine WL.gskip (u := 46) rfl rfl (sT hg46) ?_
      exact K46 _ (by repeat (first | exact Covers.refl _ | refine Covers.push ?_ rfl))
    case h5_2 => exact Wanted.plain rfl
    refine WL.pur (Pur.assign rfl) ?_
    refine WL.nil ?_
    refine WQ.thn ?_
    refine WC.ret ?_
    refine WQ.thn_ret ?_
    refine WQ.ret1 Tryz.results6 rfl [] (by repeat (first | exact List.Sublist.refl _ | exact List.nil_sublist _ | apply List.Sublist.cons_cons | apply List.Sublist.cons | apply List.Sublist.append_left | exact List.sublist_append_right _ _)) (View.le_trans hle0 (View.le_trans hle1 hle2)) ?_
    exact (boolT ⟨⟨rfl, hpn hc0⟩, trivial⟩).symm
  · have h0 : (rightErr l).1 = 0 := Decidable.not_not.1 hc0
    have hg := good_of_right h0
    have ho := ordE_ok hg
    have hq2 := hqq h0
    have hp2 := (hpp h0).mono hle2
    have hops2 := hops'.mono eOp_mono (View.le_trans hle0 (View.le_trans hle1 hle2))
    have hx2 := hx0.mono (View.le_trans hle1 hle2)
    have hmost := hg.most
    refine WC.skip ?_
    refine WQ.thn ?_
    refine WC.seq ?_
    refine WC.seq ?_
    refine WC.region ?_
    refine WL.pur (Pur.move rfl) ?_
    refine' WL.pur (Pur.bin rfl rfl ?h6_0) ?k6
    case h6_0 => exact Bin.eqP isPtr_25
    refine WL.pur (Pur.move rfl) ?_
    refine' WL.orp (u := 51) (t := 54) rfl ?h7_0 ?h7_1 ?h7_2 rfl ?k7
    case h7_0 =>
      intro hg51 K51
      refine WL.gpur (u := 51) rfl rfl (gF hg51) (Pur.move rfl) ?_
      refine' WL.gpur (u := 51) rfl rfl (gF hg51) (Pur.bin rfl rfl ?h8_0) ?k8
      case h8_0 => first | exact Bin.neN (b := 0) | exact Bin.neI
      exact K51 _ (by repeat (first | exact Covers.refl _ | refine Covers.push ?_ rfl)) rfl
    case h7_1 =>
      intro hg51 K51
      refine WL.gskip (u := 51) rfl rfl (sF hg51) ?_
      refine WL.gskip (u := 51) rfl rfl (sF hg51) ?_
      exact K51 _ (by repeat (first | exact Covers.refl _ | refine Covers.push ?_ rfl))
    case h7_2 => exact Wanted.plain rfl
    refine WL.nil ?_
    refine WQ.thn ?_
    first | refine WC.cond rfl (fun hc1 => ?_) (fun hc1 => ?_) | refine WC.condB rfl (fun hc1 => ?_) (fun hc1 => ?_)
    · obtain ⟨_, _, _, _, hpe, _⟩ := hp2
      rcases hc1 with hc | hc
      · subst hc; cases hpe
      · exact absurd h0 hc
    · refine WC.skip ?_
      refine WQ.thn ?_
      refine WC.seq ?_
      refine WC.region ?_
      refine WL.pur (Pur.move rfl) ?_
      refine WL.pur (Pur.fieldAddr rfl fo_56_2) ?_
      refine' WL.pur (Pur.load1 rfl ty_9 ?h9_0) ?k9
      case h9_0 => exact RdV.rd (RdV.idx (off := 0) (i := 33) hx2 (more_key id (.slice oa ops.length oc) key))
      refine WL.call (H0 := []) (Hr := Hr) rfl Tryz.call32 (List.Perm.refl _) (counts_Value _ _ (ordE l) key hp2 ho) ?_
      rintro _ σ3 _ ⟨rfl, rfl⟩ hle3
      rw [List.nil_append]
      have hx3 := hx2.mono hle3
      refine WL.pur (Pur.assign rfl) ?_
      refine WL.nil ?_
      refine WQ.thn ?_
      refine WC.seq ?_
      refine WC.region ?_
      refine WL.pur (Pur.move rfl) ?_
      refine WL.pur (Pur.fieldAddr rfl fo_56_2) ?_
      refine' WL.pur (Pur.load1 rfl ty_9 ?h10_0) ?k10
      case h10_0 => exact RdV.rd (RdV.idx (off := 0) (i := 33) hx3 (more_key id (.slice oa ops.length oc) key))
      refine WL.callP rfl Tryz.call33 ((law16_sum _ _ l key (h'.mono eEnt_mono (View.le_trans hle0 (View.le_trans hle1 (View.le_trans hle2 hle3)))))) ?_
      refine WL.pur (Pur.move rfl) ?_
      first | refine WL.pur (Pur.ex2_0 rfl) ?_ | refine WL.pur (Pur.ex3_0 rfl) ?_ | refine WL.pur (Pur.extractNext rfl) ?_ | refine WL.pur (Pur.extract rfl rfl) ?_
      first | refine WL.pur (Pur.ex2_1 rfl) ?_ | refine WL.pur (Pur.ex3_1 rfl) ?_ | refine WL.pur (Pur.extract rfl rfl) ?_
      refine WL.pur (Pur.assign rfl) ?_
      refine WL.pur (Pur.assign rfl) ?_
      refine WL.nil ?_
      refine WQ.thn ?_
      refine WC.seq ?_
      refine WC.seq ?_
      refine WC.region ?_
      refine WL.pur (Pur.move rfl) ?_
      first | refine WL.pur (Pur.not rfl) ?_ | refine WL.pur (Pur.notB rfl) ?_
      refine WL.pur (Pur.move rfl) ?_
      refine' WL.andp (u := 68) (t := 72) rfl ?h11_0 ?h11_1 ?h11_2 rfl ?k11
      case h11_0 =>
        intro hg68 K68
        refine WL.gpur (u := 68) rfl rfl (gT hg68) (Pur.move rfl) ?_
        refine WL.gpur (u := 68) rfl rfl (gT hg68) (Pur.move rfl) ?_
        refine' WL.gpur (u := 68) rfl rfl (gT hg68) (Pur.bin rfl rfl ?h12_0) ?k12
        case h12_0 => first | exact Bin.neN | exact Bin.neI
        exact K68 _ (by repeat (first | exact Covers.refl _ | refine Covers.push ?_ rfl)) rfl
      case h11_1 =>
        intro hg68 K68
        refine WL.gskip (u := 68) rfl rfl (sT hg68) ?_
        refine WL.gskip (u := 68) rfl rfl (sT hg68) ?_
        refine WL.gskip (u := 68) rfl rfl (sT hg68) ?_
        exact K68 _ (by repeat (first | exact Covers.refl _ | refine Covers.push ?_ rfl))
      case h11_2 => exact Wanted.plain rfl
      refine WL.nil ?_
      refine WQ.thn ?_
      first | refine WC.cond rfl (fun hc2 => ?_) (fun hc2 => ?_) | refine WC.condB rfl (fun hc2 => ?_) (fun hc2 => ?_)
      · exact absurd (cntV_all hg hc2.1) hc2.2
      · refine WC.skip ?_
        refine WQ.thn ?_
        refine WC.seq ?_
        refine WC.region ?_
        refine WL.pur (Pur.move rfl) ?_
        refine WL.pur (Pur.fieldAddr rfl fo_56_0) ?_
        refine' WL.pur (Pur.loadN rfl ty_39 ?h13_0 ?h13_1) ?k13
        case h13_0 => apply RdV.rd; apply RdV.sub0; exact hx3; exact Sub.more_hash _ _ _
        case h13_1 => first | rfl | assumption
        refine WL.pur (Pur.fieldAddr rfl fo_56_1) ?_
        refine' WL.pur (Pur.load1 rfl ty_40 ?h14_0) ?k14
        case h14_0 => exact RdV.rd (RdV.idx (off := 0) (i := 32) hx3 (more_ops id (.slice oa ops.length oc) key))
        refine WL.call (H0 := []) (Hr := Hr) rfl Tryz.call30 (List.Perm.refl _) (r11_Behind _ _ _ (ordE l) id ops (hq2.mono hle3) ho hid (hops2.mono eOp_mono hle3)) ?_
        rintro _ σ4 _ ⟨⟨xv, rfl, hX⟩, rfl⟩ hle4
        rw [List.nil_append]
        have hXp : SlE σ4 eHash 32 32 xv (headsL (ordE l)) := hX.1
        obtain ⟨xa, xcp, rfl, hxc, hxb⟩ := hXp.shape
        have hx4 := hx3.mono hle4
        have hl4 := h'.mono eEnt_mono (View.le_trans hle0 (View.le_trans hle1 (View.le_trans hle2 (View.le_trans hle3 hle4))))
        refine WL.pur (Pur.move rfl) ?_
        first | refine WL.pur (Pur.ex2_0 rfl) ?_ | refine WL.pur (Pur.ex3_0 rfl) ?_ | refine WL.pur (Pur.extractNext rfl) ?_ | refine WL.pur (Pur.extract rfl rfl) ?_
        first | refine WL.pur (Pur.ex2_1 rfl) ?_ | refine WL.pur (Pur.ex3_1 rfl) ?_ | refine WL.pur (Pur.extract rfl rfl) ?_
        refine WL.new (New.alloc zc_45) (fun b14 => ?_)
        refine' WL.run0 (Run.storeAll rfl rfl ty_45 ?h15_0 (by first | rfl | assumption) ?h15_1 (by first | rfl | assumption)) ?k15
        case h15_0 => repeat (first | exact Part.one | exact Part.here | apply Part.cons | apply Part.app)
        case h15_1 => first | rfl | assumption
        refine WL.pur (Pur.assign rfl) ?_
        refine WL.nil ?_
        refine WQ.thn ?_
        refine WC.seq ?_
        refine WC.seq ?_
        refine WC.region ?_
        refine WL.pur (Pur.move rfl) ?_
        first | refine WL.pur (Pur.not rfl) ?_ | refine WL.pur (Pur.notB rfl) ?_
        refine WL.nil ?_
        refine WQ.thn ?_
        first | refine WC.cond rfl (fun hc3 => ?_) (fun hc3 => ?_) | refine WC.condB rfl (fun hc3 => ?_) (fun hc3 => ?_)
        · refine WC.seq ?_
          refine WC.region ?_
          refine WL.call (H0 := []) (Hr := (b14, _) :: Hr) rfl Tryz.call31 (List.Perm.refl _) (law16_fixed _) ?_
          rintro _ σf _ ⟨rfl, rfl⟩ hlef
          rw [List.nil_append]
          refine WL.pur (Pur.assign rfl) ?_
          refine WL.nil ?_
          refine WQ.thn ?_
          refine WC.ret ?_
          refine WQ.thn_ret ?_
          refine WQ.ret1 Tryz.results6 rfl [] (by repeat (first | exact List.Sublist.refl _ | exact List.nil_sublist _ | apply List.Sublist.cons_cons | apply List.Sublist.cons | apply List.Sublist.append_left | exact List.sublist_append_right _ _)) (View.le_trans hle0 (View.le_trans hle1 (View.le_trans hle2 (View.le_trans hle3 (View.le_trans hle4 hlef))))) ?_
          rfl
        · have hmay : mayB (ordE l) id ops := by first | exact Decidable.not_not.1 hc3 | simpa using hc3
          have hmay2 := hmay
          obtain ⟨⟨hlt, hnum⟩, hxe⟩ := hmay2
          have hLl := ordE_len hg
          have hidn : idxOf (ordE l) id = none := numV_none.1 hnum
          have hid2 : ∀ e ∈ l, e.id ≠ id := fun e he => idxOf_none.1 hidn e ((mem_ordE hg).2 he)
          have hr2 := behind_right h0 hid2 (by omega) hxe
          have hg2 := good_of_right hr2
          have hord := behind_ord hg hg2 rfl
          have ho2 : OrdOk (ordE l ++ [(behindE (ordE l) id ops)]) := by rw [← hord]; exact ordE_ok hg2
          have hopl : ops.length ≤ 1024 := opsErr_len (nodeErr_zero hxe).2.2.2
          refine WC.skip ?_
          refine WQ.thn ?_
          refine WC.seqK (fun m σ' H' => ∃ (nv : Value) (hn : HList), SlO σ4 eEnt 45 36 nv (l ++ [(behindE (ordE l) id ops)]) hn ∧ m = [(3, .pointer (some ⟨b3, 0, none⟩)), (11, .int .i64 (cntV (ordE l) key)), (16, nv)] ∧ σ' = σ4 ∧ H' = hn ++ Hr) (fun KM => ?_) ?_
          · refine WC.draw 5 6 ([(b14, rowO 45 (entCells id 1 (clB (ordE l)) (.slice xa (headsL (ordE l)).length xcp) (.slice oa ops.length oc)))]) mixed (by kernel_rfl) rfl ?_
            refine SA.takeW 0 (by kernel_rfl) rfl rfl rfl (Wanted.plain rfl) (tells_move rfl) ?_
            refine' SA.take 2 (by kernel_rfl) rfl rfl rfl (Wanted.plain rfl) (by repeat (first | exact List.nil_sublist _ | apply List.Sublist.cons_cons | apply List.Sublist.cons | apply sub_app)) (by first | exact View.le_refl _ | assumption) (Pur.loadN rfl ty_45 ?h16_0 ?h16_1) ?k16
            case h16_0 => first | (apply Rd.own_sub; (focus repeat (first | exact List.Mem.head _ | apply List.Mem.tail | apply List.mem_append_right)); exact Sub.refl _) | (apply RdV.rd; assumption)
            case h16_1 => first | rfl | assumption
            refine SA.two 1 3 (by kernel_rfl) ?_ ?_
            · refine SStep.any 1 rfl rfl rfl (Wanted.plain rfl) (Any.pushAll (E := eEnt) (H1 := []) (h := []) (H2 := _) sl_22 zc_45 rfl by_45 rfl rfl SlO.nil hl4 rfl (by simp only [List.length_nil]; omega) (by simp only [List.length_nil]; omega)) (fun _ _ _ hJ => .inr ⟨by (obtain ⟨_, _, hσ, hH⟩ := hJ; subst hH; repeat (first | exact List.nil_sublist _ | apply List.Sublist.cons_cons | apply List.Sublist.cons | apply sub_app)), View.le_refl _⟩) ?_
              rintro v86 σ4 _ ⟨h86, hs86, rfl, rfl⟩ _
              rw [List.nil_append] at hs86
              refine SA.new 3 rfl rfl rfl (Wanted.plain rfl) (by kernel_rfl) (New.buildSliceN (xs := [.tmp 87]) (vss := [entCells id 1 (clB (ordE l)) (.slice xa (headsL (ordE l)).length xcp) (.slice oa ops.length oc)]) sl_22 zc_45 rfl rfl rfl (by rfl) (by rfl)) (.inr ⟨(by repeat (first | exact List.nil_sublist _ | apply List.Sublist.cons_cons | apply List.Sublist.cons | apply sub_app)), (by first | exact View.le_refl _ | assumption)⟩) (fun b88 => ?_)
              refine SA.any 4 rfl rfl rfl (Wanted.plain rfl) (by kernel_rfl) (Any.push (E := eEnt) (H1 := [(b88, _)]) (H2 := _) sl_22 zc_45 rfl by_45 rfl rfl hs86 (by apply Rd.own_sub; (focus repeat (first | exact List.Mem.head _ | apply List.Mem.tail | apply List.mem_append_right)); exact Sub.refl _) (by rfl) (by rfl) (by exact (show eEnt _ (behindE (ordE l) id ops) (entCells id 1 (clB (ordE l)) (.slice xa (headsL (ordE l)).length xcp) (.slice oa ops.length oc)) from ⟨.slice xa (headsL (ordE l)).length xcp, .slice oa ops.length oc, rfl, hid, hX⟩)) rfl (by omega) (by omega)) (fun _ _ _ hJ => .inr ⟨by (obtain ⟨_, _, hσ, hH⟩ := hJ; subst hH; repeat (first | exact List.nil_sublist _ | apply List.Sublist.cons_cons | apply List.Sublist.cons | apply sub_app)), View.le_refl _⟩) ?_
              rintro v89 σ4 _ ⟨h89, hs89, rfl, rfl⟩ _
              refine SA.run 5 rfl (fun _ e => by cases e; rfl) (Wanted.plain rfl) (by kernel_rfl) (Pur.run (Pur.assign rfl)) (.inl (by decide)) ?_
              refine SA.done (by kernel_rfl) ?_
              exact WQ.thnK (KM _ _ _ ⟨_, h89, hs89, rfl, rfl, rfl⟩) (by repeat (first | exact Covers.nil _ | refine Covers.cons rfl ?_)) (by repeat (first | exact List.Sublist.refl _ | exact List.nil_sublist _ | apply List.Sublist.cons_cons | apply List.Sublist.cons | apply List.Sublist.append_left | exact List.sublist_append_right _ _))
            · refine SStep.new 3 rfl rfl rfl (Wanted.plain rfl) (New.buildSliceN (xs := [.tmp 87]) (vss := [entCells id 1 (clB (ordE l)) (.slice xa (headsL (ordE l)).length xcp) (.slice oa ops.length oc)]) sl_22 zc_45 rfl rfl rfl (by rfl) (by rfl)) (.inr ⟨(by repeat (first | exact List.nil_sublist _ | apply List.Sublist.cons_cons | apply List.Sublist.cons | apply sub_app)), (by first | exact View.le_refl _ | assumption)⟩) (fun b88 => ?_)
              refine SA.any 1 rfl rfl rfl (Wanted.plain rfl) (by kernel_rfl) (Any.pushAll (E := eEnt) (H1 := [(b88, _)]) (h := []) (H2 := _) sl_22 zc_45 rfl by_45 rfl rfl SlO.nil hl4 rfl (by simp only [List.length_nil]; omega) (by simp only [List.length_nil]; omega)) (fun _ _ _ hJ => .inr ⟨by (obtain ⟨_, _, hσ, hH⟩ := hJ; subst hH; repeat (first | exact List.nil_sublist _ | apply List.Sublist.cons_cons | apply List.Sublist.cons | apply sub_app)), View.le_refl _⟩) ?_
              rintro v86 σ4 _ ⟨h86, hs86, rfl, rfl⟩ _
              rw [List.nil_append] at hs86
              refine SA.any 4 rfl rfl rfl (Wanted.plain rfl) (by kernel_rfl) (Any.push (E := eEnt) (H1 := [(b88, _)]) (H2 := _) sl_22 zc_45 rfl by_45 rfl rfl hs86 (by apply Rd.own_sub; (focus repeat (first | exact List.Mem.head _ | apply List.Mem.tail | apply List.mem_append_right)); exact Sub.refl _) (by rfl) (by rfl) (by exact (show eEnt _ (behindE (ordE l) id ops) (entCells id 1 (clB (ordE l)) (.slice xa (headsL (ordE l)).length xcp) (.slice oa ops.length oc)) from ⟨.slice xa (headsL (ordE l)).length xcp, .slice oa ops.length oc, rfl, hid, hX⟩)) rfl (by omega) (by omega)) (fun _ _ _ hJ => .inr ⟨by (obtain ⟨_, _, hσ, hH⟩ := hJ; subst hH; repeat (first | exact List.nil_sublist _ | apply List.Sublist.cons_cons | apply List.Sublist.cons | apply sub_app)), View.le_refl _⟩) ?_
              rintro v89 σ4 _ ⟨h89, hs89, rfl, rfl⟩ _
              refine SA.run 5 rfl (fun _ e => by cases e; rfl) (Wanted.plain rfl) (by kernel_rfl) (Pur.run (Pur.assign rfl)) (.inl (by decide)) ?_
              refine SA.done (by kernel_rfl) ?_
              exact WQ.thnK (KM _ _ _ ⟨_, h89, hs89, rfl, rfl, rfl⟩) (by repeat (first | exact Covers.nil _ | refine Covers.cons rfl ?_)) (by repeat (first | exact List.Sublist.refl _ | exact List.nil_sublist _ | apply List.Sublist.cons_cons | apply List.Sublist.cons | apply List.Sublist.append_left | exact List.sublist_append_right _ _))
          · rintro _ σ Hr ⟨nv, hn, hsn, rfl, rfl, rfl⟩
            refine WC.seq ?_
            refine WC.region ?_
            refine WL.pur (Pur.move rfl) ?_
            refine WL.call (H0 := hn) (Hr := Hr) rfl Tryz.call23 (List.Perm.refl _) (hsn.hand (byt := 96) eEnt_mono (by simp only [List.length_append, List.length_cons, List.length_nil]; omega) (fun σ' hl' hs' => past_Of2 σ' _ _ hs')) ?_
            rintro _ σ5 _ ⟨⟨na, n5, rfl, hnp, hnn⟩, rfl⟩ hle5
            rw [List.nil_append]
            have hn5 := hnp hr2
            rw [hord] at hn5
            have hx5 := hx4.mono hle5
            refine WL.pur (Pur.move rfl) ?_
            first | refine WL.pur (Pur.ex2_0 rfl) ?_ | refine WL.pur (Pur.ex3_0 rfl) ?_ | refine WL.pur (Pur.extractNext rfl) ?_ | refine WL.pur (Pur.extract rfl rfl) ?_
            first | refine WL.pur (Pur.ex2_1 rfl) ?_ | refine WL.pur (Pur.ex3_1 rfl) ?_ | refine WL.pur (Pur.extract rfl rfl) ?_
            first | refine WL.pur (Pur.ex3_2 rfl) ?_ | refine WL.pur (Pur.extract rfl rfl) ?_
            refine WL.pur (Pur.assign rfl) ?_
            refine WL.pur (Pur.assign rfl) ?_
            refine WL.pur (Pur.assign rfl) ?_
            refine WL.nil ?_
            refine WQ.thn ?_
            refine WC.seq ?_
            refine WC.seq ?_
            refine WC.region ?_
            refine WL.pur (Pur.move rfl) ?_
            refine' WL.pur (Pur.bin rfl rfl ?h17_0) ?k17
            case h17_0 => exact Bin.eqP isPtr_25
            refine WL.pur (Pur.move rfl) ?_
            refine' WL.orp (u := 98) (t := 101) rfl ?h18_0 ?h18_1 ?h18_2 rfl ?k18
            case h18_0 =>
              intro hg98 K98
              refine WL.gpur (u := 98) rfl rfl (gF hg98) (Pur.move rfl) ?_
              refine' WL.gpur (u := 98) rfl rfl (gF hg98) (Pur.bin rfl rfl ?h19_0) ?k19
              case h19_0 => first | exact Bin.neN (b := 0) | exact Bin.neI
              exact K98 _ (by repeat (first | exact Covers.refl _ | refine Covers.push ?_ rfl)) rfl
            case h18_1 =>
              intro hg98 K98
              refine WL.gskip (u := 98) rfl rfl (sF hg98) ?_
              refine WL.gskip (u := 98) rfl rfl (sF hg98) ?_
              exact K98 _ (by repeat (first | exact Covers.refl _ | refine Covers.push ?_ rfl))
            case h18_2 => exact Wanted.plain rfl
            refine WL.nil ?_
            refine WQ.thn ?_
            first | refine WC.cond rfl (fun hc4 => ?_) (fun hc4 => ?_) | refine WC.condB rfl (fun hc4 => ?_) (fun hc4 => ?_)
            · obtain ⟨_, _, _, _, hne, _⟩ := hn5
              rcases hc4 with hc | hc
              · subst hc; cases hne
              · exact absurd hr2 hc
            · refine WC.skip ?_
              refine WQ.thn ?_
              refine WC.seq ?_
              refine WC.region ?_
              refine WL.pur (Pur.move rfl) ?_
              refine WL.pur (Pur.fieldAddr rfl fo_56_2) ?_
              refine' WL.pur (Pur.load1 rfl ty_9 ?h20_0) ?k20
              case h20_0 => exact RdV.rd (RdV.idx (off := 0) (i := 33) hx5 (more_key id (.slice oa ops.length oc) key))
              refine WL.call (H0 := []) (Hr := Hr) rfl Tryz.call32 (List.Perm.refl _) (counts_Value _ _ (ordE l ++ [(behindE (ordE l) id ops)]) key hn5 ho2) ?_
              rintro _ σ6 _ ⟨rfl, rfl⟩ hle6
              rw [List.nil_append]
              have hx6 := hx5.mono hle6
              have hops6 := hops2.mono eOp_mono (View.le_trans hle3 (View.le_trans hle4 (View.le_trans hle5 hle6)))
              obtain ⟨ob, ooff, heo, hoat⟩ := hops6.rds
              refine WL.pur (Pur.assign rfl) ?_
              refine WL.nil ?_
              refine WQ.thn ?_
              refine WC.seq ?_
              refine WC.region ?_
              refine WL.pur (Pur.assign rfl) ?_
              refine WL.nil ?_
              refine WQ.thn ?_
              refine WC.seq ?_
              refine WC.seq ?_
              refine WC.region ?_
              refine WL.pur (Pur.assign rfl) ?_
              refine WL.nil ?_
              refine WQ.thn ?_
              refine WC.block ?_
              refine WC.loop (fun j m σ' H' => ∃ (q k : Nat) (z : Int), j = ops.length - q ∧ q ≤ ops.length ∧ LastZ key (ops.take q) k ∧ z = (k : Int) - 1 ∧ m = [(3, .pointer (some ⟨b3, 0, none⟩)), (11, .int .i64 (cntV (ordE l) key)), (20, .int .i64 (cntV (ordE l ++ [(behindE (ordE l) id ops)]) key)), (21, .int .i64 z), (22, .int .i64 (q : Int))] ∧ σ' = σ6 ∧ H' = Hr) ⟨0, 0, -1, rfl, by omega, LastZ.zero _ _, rfl, rfl, rfl, rfl⟩ (by repeat (first | exact Covers.nil _ | refine Covers.cons rfl ?_)) (by repeat (first | exact List.Sublist.refl _ | exact List.nil_sublist _ | apply List.Sublist.cons_cons | apply List.Sublist.cons | apply List.Sublist.append_left | exact List.sublist_append_right _ _)) ?_
              rintro _ _ σ Hr ⟨q, k, z, rfl, hq, hlz, hz, rfl, rfl, rfl⟩
              refine WC.seq ?_
              refine WC.seq ?_
              refine WC.region ?_
              refine WL.pur (Pur.move rfl) ?_
              refine WL.pur (Pur.fieldAddr rfl fo_56_1) ?_
              refine' WL.pur (Pur.load1 rfl ty_40 ?h21_0) ?k21
              case h21_0 => exact RdV.rd (RdV.idx (off := 0) (i := 32) hx6 (more_ops id (.slice oa ops.length oc) key))
              refine WL.pur (Pur.len rfl isSlice_40) ?_
              refine' WL.pur (Pur.bin rfl rfl ?h22_0) ?k22
              case h22_0 => first | exact Bin.ltN | exact Bin.ltI | exact Bin.ltS
              refine WL.nil ?_
              refine WQ.thn ?_
              first | refine WC.cond rfl (fun hc5 => ?_) (fun hc5 => ?_) | refine WC.condB rfl (fun hc5 => ?_) (fun hc5 => ?_)
              · obtain ⟨o, hoq⟩ : ∃ o, ops[q]? = some o := ⟨_, List.getElem?_eq_getElem (by omega)⟩
                obtain ⟨vs, _, _, ⟨rfl, hook⟩, hord2⟩ := hoat q o hoq
                refine WC.skip ?_
                refine WQ.thn ?_
                refine WC.seq ?_
                refine WC.block ?_
                refine WC.seq ?_
                refine WC.draw 18 18 ([]) mixed (by kernel_rfl) rfl ?_
                refine SA.take 0 (by kernel_rfl) rfl rfl rfl (Wanted.plain rfl) (by repeat (first | exact List.nil_sublist _ | apply List.Sublist.cons_cons | apply List.Sublist.cons | apply sub_app)) (by first | exact View.le_refl _ | assumption) (Pur.fieldAddr rfl fo_56_1) ?_
                refine' SA.take 1 (by kernel_rfl) rfl rfl rfl (Wanted.plain rfl) (by repeat (first | exact List.nil_sublist _ | apply List.Sublist.cons_cons | apply List.Sublist.cons | apply sub_app)) (by first | exact View.le_refl _ | assumption) (Pur.load1 rfl ty_40 ?h23_0) ?k23
                case h23_0 => exact RdV.rd (RdV.idx (off := 0) (i := 32) hx6 (more_ops id (.slice oa ops.length oc) key))
                refine SA.take 2 (by kernel_rfl) rfl rfl rfl (Wanted.plain rfl) (by repeat (first | exact List.nil_sublist _ | apply List.Sublist.cons_cons | apply List.Sublist.cons | apply sub_app)) (by first | exact View.le_refl _ | assumption) (Pur.move rfl) ?_
                refine' SA.take 3 (by kernel_rfl) rfl rfl rfl (Wanted.plain rfl) (by repeat (first | exact List.nil_sublist _ | apply List.Sublist.cons_cons | apply List.Sublist.cons | apply sub_app)) (by first | exact View.le_refl _ | assumption) (Pur.indexAddr (eqA (heo (by omega))) rfl sl_40 ?h24_0) ?k24
                case h24_0 => omega
                refine SA.take 4 (by kernel_rfl) rfl rfl rfl (Wanted.plain rfl) (by repeat (first | exact List.nil_sublist _ | apply List.Sublist.cons_cons | apply List.Sublist.cons | apply sub_app)) (by first | exact View.le_refl _ | assumption) (Pur.fieldAddr rfl fo_51_1) ?_
                refine' SA.take 5 (by kernel_rfl) rfl rfl rfl (Wanted.plain rfl) (by repeat (first | exact List.nil_sublist _ | apply List.Sublist.cons_cons | apply List.Sublist.cons | apply sub_app)) (by first | exact View.le_refl _ | assumption) (Pur.load1 rfl ty_9 ?h25_0) ?k25
                case h25_0 => first | (apply Rd.own1; (focus repeat (first | exact List.Mem.head _ | apply List.Mem.tail | apply List.mem_append_right)); rfl) | (apply RdV.rd; apply RdV.idx (i := 1); assumption; rfl) | (apply RdV.rd; apply RdV.idx (off := 0) (i := 1); assumption; rfl)
                refine SA.take 6 (by kernel_rfl) rfl rfl rfl (Wanted.plain rfl) (by repeat (first | exact List.nil_sublist _ | apply List.Sublist.cons_cons | apply List.Sublist.cons | apply sub_app)) (by first | exact View.le_refl _ | assumption) (Pur.fieldAddr rfl fo_56_2) ?_
                refine' SA.take 7 (by kernel_rfl) rfl rfl rfl (Wanted.plain rfl) (by repeat (first | exact List.nil_sublist _ | apply List.Sublist.cons_cons | apply List.Sublist.cons | apply sub_app)) (by first | exact View.le_refl _ | assumption) (Pur.load1 rfl ty_9 ?h26_0) ?k26
                case h26_0 => exact RdV.rd (RdV.idx (off := 0) (i := 33) hx6 (more_key id (.slice oa ops.length oc) key))
                refine' SA.take 8 (by kernel_rfl) rfl rfl rfl (Wanted.plain rfl) (by repeat (first | exact List.nil_sublist _ | apply List.Sublist.cons_cons | apply List.Sublist.cons | apply sub_app)) (by first | exact View.le_refl _ | assumption) (Pur.bin rfl rfl ?h27_0) ?k27
                case h27_0 => exact Bin.eqS
                refine SA.take 9 (by kernel_rfl) rfl rfl rfl (Wanted.plain rfl) (by repeat (first | exact List.nil_sublist _ | apply List.Sublist.cons_cons | apply List.Sublist.cons | apply sub_app)) (by first | exact View.le_refl _ | assumption) (Pur.move rfl) ?_
                refine' SA.andp 17 (u := 122) rfl ?h28_0 ?h28_1 ?h28_2 rfl (by repeat (first | exact List.Sublist.refl _ | exact List.nil_sublist _ | apply List.Sublist.cons_cons | apply List.Sublist.cons | apply List.Sublist.append_left | exact List.sublist_append_right _ _)) (View.le_refl _) ?h28_3 rfl ?k28
                case h28_0 =>
                  intro hg122 K122
                  refine SA.take 10 (by kernel_rfl) rfl rfl rfl (Wanted.guard (u := 122) rfl rfl rfl (gT hg122)) (by repeat (first | exact List.nil_sublist _ | apply List.Sublist.cons_cons | apply List.Sublist.cons | apply sub_app)) (by first | exact View.le_refl _ | assumption) (Pur.fieldAddr rfl fo_56_1) ?_
                  refine' SA.take 11 (by kernel_rfl) rfl rfl rfl (Wanted.guard (u := 122) rfl rfl rfl (gT hg122)) (by repeat (first | exact List.nil_sublist _ | apply List.Sublist.cons_cons | apply List.Sublist.cons | apply sub_app)) (by first | exact View.le_refl _ | assumption) (Pur.load1 rfl ty_40 ?h29_0) ?k29
                  case h29_0 => exact RdV.rd (RdV.idx (off := 0) (i := 32) hx6 (more_ops id (.slice oa ops.length oc) key))
                  refine SA.take 12 (by kernel_rfl) rfl rfl rfl (Wanted.guard (u := 122) rfl rfl rfl (gT hg122)) (by repeat (first | exact List.nil_sublist _ | apply List.Sublist.cons_cons | apply List.Sublist.cons | apply sub_app)) (by first | exact View.le_refl _ | assumption) (Pur.move rfl) ?_
                  refine' SA.take 13 (by kernel_rfl) rfl rfl rfl (Wanted.guard (u := 122) rfl rfl rfl (gT hg122)) (by repeat (first | exact List.nil_sublist _ | apply List.Sublist.cons_cons | apply List.Sublist.cons | apply sub_app)) (by first | exact View.le_refl _ | assumption) (Pur.indexAddr (eqA (heo (by omega))) rfl sl_40 ?h30_0) ?k30
                  case h30_0 => omega
                  refine SA.take 14 (by kernel_rfl) rfl rfl rfl (Wanted.guard (u := 122) rfl rfl rfl (gT hg122)) (by repeat (first | exact List.nil_sublist _ | apply List.Sublist.cons_cons | apply List.Sublist.cons | apply sub_app)) (by first | exact View.le_refl _ | assumption) (Pur.fieldAddr rfl fo_51_0) ?_
                  refine' SA.take 15 (by kernel_rfl) rfl rfl rfl (Wanted.guard (u := 122) rfl rfl rfl (gT hg122)) (by repeat (first | exact List.nil_sublist _ | apply List.Sublist.cons_cons | apply List.Sublist.cons | apply sub_app)) (by first | exact View.le_refl _ | assumption) (Pur.load1 rfl ty_3 ?h31_0) ?k31
                  case h31_0 => first | (apply Rd.own1; (focus repeat (first | exact List.Mem.head _ | apply List.Mem.tail | apply List.mem_append_right)); rfl) | (apply Rd.own1; (focus repeat (first | exact List.Mem.head _ | apply List.Mem.tail | apply List.mem_append_right)); assumption) | exact RdV.rd (by assumption) | (apply RdV.rd; apply RdV.idx (i := 0); assumption; rfl)
                  refine' SA.take 16 (by kernel_rfl) rfl rfl rfl (Wanted.guard (u := 122) rfl rfl rfl (gT hg122)) (by repeat (first | exact List.nil_sublist _ | apply List.Sublist.cons_cons | apply List.Sublist.cons | apply sub_app)) (by first | exact View.le_refl _ | assumption) (Pur.bin rfl rfl ?h32_0) ?k32
                  case h32_0 => first | exact Bin.eqN (b := 7) | exact Bin.eqI
                  exact K122 _ (by repeat (first | exact Covers.refl _ | refine Covers.push ?_ rfl)) rfl
                case h28_1 =>
                  intro hg122 K122
                  refine SA.gskip 10 (u := 122) (by kernel_rfl) rfl rfl rfl rfl rfl rfl (sT hg122) (by repeat (first | exact List.nil_sublist _ | apply List.Sublist.cons_cons | apply List.Sublist.cons | apply sub_app)) (by first | exact View.le_refl _ | assumption) ?_
                  refine SA.gskip 11 (u := 122) (by kernel_rfl) rfl rfl rfl rfl rfl rfl (sT hg122) (by repeat (first | exact List.nil_sublist _ | apply List.Sublist.cons_cons | apply List.Sublist.cons | apply sub_app)) (by first | exact View.le_refl _ | assumption) ?_
                  refine SA.gskip 12 (u := 122) (by kernel_rfl) rfl rfl rfl rfl rfl rfl (sT hg122) (by repeat (first | exact List.nil_sublist _ | apply List.Sublist.cons_cons | apply List.Sublist.cons | apply sub_app)) (by first | exact View.le_refl _ | assumption) ?_
                  refine SA.gskip 13 (u := 122) (by kernel_rfl) rfl rfl rfl rfl rfl rfl (sT hg122) (by repeat (first | exact List.nil_sublist _ | apply List.Sublist.cons_cons | apply List.Sublist.cons | apply sub_app)) (by first | exact View.le_refl _ | assumption) ?_
                  refine SA.gskip 14 (u := 122) (by kernel_rfl) rfl rfl rfl rfl rfl rfl (sT hg122) (by repeat (first | exact List.nil_sublist _ | apply List.Sublist.cons_cons | apply List.Sublist.cons | apply sub_app)) (by first | exact View.le_refl _ | assumption) ?_
                  refine SA.gskip 15 (u := 122) (by kernel_rfl) rfl rfl rfl rfl rfl rfl (sT hg122) (by repeat (first | exact List.nil_sublist _ | apply List.Sublist.cons_cons | apply List.Sublist.cons | apply sub_app)) (by first | exact View.le_refl _ | assumption) ?_
                  refine SA.gskip 16 (u := 122) (by kernel_rfl) rfl rfl rfl rfl rfl rfl (sT hg122) (by repeat (first | exact List.nil_sublist _ | apply List.Sublist.cons_cons | apply List.Sublist.cons | apply sub_app)) (by first | exact View.le_refl _ | assumption) ?_
                  exact K122 _ (by repeat (first | exact Covers.refl _ | refine Covers.push ?_ rfl))
                case h28_2 => kernel_rfl
                case h28_3 => exact Wanted.plain rfl
                refine SA.done (by kernel_rfl) ?_
                refine WQ.thn ?_
                first | refine WC.cond rfl (fun hc6 => ?_) (fun hc6 => ?_) | refine WC.condB rfl (fun hc6 => ?_) (fun hc6 => ?_)
                · refine WC.region ?_
                  refine WL.pur (Pur.move rfl) ?_
                  refine WL.pur (Pur.assign rfl) ?_
                  refine WL.nil ?_
                  refine WQ.blk ?_
                  refine WQ.thn ?_
                  refine WC.region ?_
                  refine WL.pur (Pur.move rfl) ?_
                  refine' WL.pur (Pur.bin rfl rfl ?h33_0) ?k33
                  case h33_0 => first | (refine Bin.addN (b := 1) ?_; omega) | (refine Bin.addI ?_; omega)
                  refine WL.pur (Pur.assign rfl) ?_
                  refine WL.nil ?_
                  refine WQ.back _ ⟨q + 1, q + 1, (q : Int), rfl, by omega, LastZ.yes hoq hc6, by omega, rfl, rfl, rfl⟩ (by omega) (by repeat (first | exact Covers.nil _ | refine Covers.cons rfl ?_)) (by repeat (first | exact List.Sublist.refl _ | exact List.nil_sublist _ | apply List.Sublist.cons_cons | apply List.Sublist.cons | apply List.Sublist.append_left | exact List.sublist_append_right _ _))
                · refine WC.skip ?_
                  refine WQ.blk ?_
                  refine WQ.thn ?_
                  refine WC.region ?_
                  refine WL.pur (Pur.move rfl) ?_
                  refine' WL.pur (Pur.bin rfl rfl ?h34_0) ?k34
                  case h34_0 => first | (refine Bin.addN (b := 1) ?_; omega) | (refine Bin.addI ?_; omega)
                  refine WL.pur (Pur.assign rfl) ?_
                  refine WL.nil ?_
                  refine WQ.back _ ⟨q + 1, k, z, rfl, by omega, hlz.no hoq hc6, hz, rfl, rfl, rfl⟩ (by omega) (by repeat (first | exact Covers.nil _ | refine Covers.cons rfl ?_)) (by repeat (first | exact List.Sublist.refl _ | exact List.nil_sublist _ | apply List.Sublist.cons_cons | apply List.Sublist.cons | apply List.Sublist.append_left | exact List.sublist_append_right _ _))
              · have hqq' : q = ops.length := by omega
                subst hqq'
                rw [List.take_length] at hlz
                have hkl := hlz.2.1
                have hdr := hops6.drop k hkl
                have hb := cntV_behind ho ho2 rfl hlz
                have hbz : ∀ t, Bin Tryz.prog .add t (.int .i64 z) (.int .i64 1) (.int .i64 (k : Int)) := fun t => by
                  have e : (k : Int) = z + 1 := by omega
                  rw [e]; refine Bin.addI ?_; omega
                refine WC.exit ?_
                refine WQ.thn_exit ?_
                refine WQ.back_exit ?_
                refine WQ.blk_here ?_
                refine WQ.thn ?_
                refine WC.seq ?_
                refine WC.draw 16 16 ([]) mixed (by kernel_rfl) rfl ?_
                refine SA.take 0 (by kernel_rfl) rfl rfl rfl (Wanted.plain rfl) (by repeat (first | exact List.nil_sublist _ | apply List.Sublist.cons_cons | apply List.Sublist.cons | apply sub_app)) (by first | exact View.le_refl _ | assumption) (Pur.fieldAddr rfl fo_56_1) ?_
                refine' SA.take 1 (by kernel_rfl) rfl rfl rfl (Wanted.plain rfl) (by repeat (first | exact List.nil_sublist _ | apply List.Sublist.cons_cons | apply List.Sublist.cons | apply sub_app)) (by first | exact View.le_refl _ | assumption) (Pur.load1 rfl ty_40 ?h35_0) ?k35
                case h35_0 => exact RdV.rd (RdV.idx (off := 0) (i := 32) hx6 (more_ops id (.slice oa ops.length oc) key))
                refine SA.take 2 (by kernel_rfl) rfl rfl rfl (Wanted.plain rfl) (by repeat (first | exact List.nil_sublist _ | apply List.Sublist.cons_cons | apply List.Sublist.cons | apply sub_app)) (by first | exact View.le_refl _ | assumption) (Pur.move rfl) ?_
                refine' SA.take 3 (by kernel_rfl) rfl rfl rfl (Wanted.plain rfl) (by repeat (first | exact List.nil_sublist _ | apply List.Sublist.cons_cons | apply List.Sublist.cons | apply sub_app)) (by first | exact View.le_refl _ | assumption) (Pur.bin rfl rfl ?h36_0) ?k36
                case h36_0 => exact hbz _
                refine SA.take 4 (by kernel_rfl) rfl rfl rfl (Wanted.plain rfl) (by repeat (first | exact List.nil_sublist _ | apply List.Sublist.cons_cons | apply List.Sublist.cons | apply sub_app)) (by first | exact View.le_refl _ | assumption) ((Pur.sliceX (l := k) rfl rfl sl_40 hkl hoc)) ?_
                refine SA.take 5 (by kernel_rfl) rfl rfl rfl (Wanted.plain rfl) (by repeat (first | exact List.nil_sublist _ | apply List.Sublist.cons_cons | apply List.Sublist.cons | apply sub_app)) (by first | exact View.le_refl _ | assumption) (Pur.build (l := (nodeCells 0 0 (.slice none 0 0) (.slice (dropA oa k 37 oc) (ops.length - k) (oc - k)))) pl_43 zc_43 rfl rfl) ?_
                refine SA.take 6 (by kernel_rfl) rfl rfl rfl (Wanted.plain rfl) (by repeat (first | exact List.nil_sublist _ | apply List.Sublist.cons_cons | apply List.Sublist.cons | apply sub_app)) (by first | exact View.le_refl _ | assumption) (Pur.build (l := (entCells 0 0 0 (.slice none 0 0) (.slice (dropA oa k 37 oc) (ops.length - k) (oc - k)))) pl_45 zc_45 rfl rfl) ?_
                refine SA.take 8 (by kernel_rfl) rfl rfl rfl (Wanted.plain rfl) (by repeat (first | exact List.nil_sublist _ | apply List.Sublist.cons_cons | apply List.Sublist.cons | apply sub_app)) (by first | exact View.le_refl _ | assumption) (Pur.fieldAddr rfl fo_56_2) ?_
                refine' SA.take 9 (by kernel_rfl) rfl rfl rfl (Wanted.plain rfl) (by repeat (first | exact List.nil_sublist _ | apply List.Sublist.cons_cons | apply List.Sublist.cons | apply sub_app)) (by first | exact View.le_refl _ | assumption) (Pur.load1 rfl ty_9 ?h37_0) ?k37
                case h37_0 => exact RdV.rd (RdV.idx (off := 0) (i := 33) hx6 (more_key id (.slice oa ops.length oc) key))
                refine SA.new 7 rfl rfl rfl (Wanted.plain rfl) (by kernel_rfl) (New.buildSliceN (xs := [.tmp 139]) (vss := [entCells 0 0 0 (.slice none 0 0) (.slice (dropA oa k 37 oc) (ops.length - k) (oc - k))]) sl_22 zc_45 rfl rfl rfl (by rfl) (by rfl)) (.inr ⟨(by repeat (first | exact List.nil_sublist _ | apply List.Sublist.cons_cons | apply List.Sublist.cons | apply sub_app)), (by first | exact View.le_refl _ | assumption)⟩) (fun b140 => ?_)
                refine SA.callR 10 (H1 := [(b140, _)]) (Hr := Hr) rfl rfl (Wanted.plain rfl) (by kernel_rfl) rfl Tryz.call33 (List.Perm.refl _) (.inr ⟨(by repeat (first | exact List.nil_sublist _ | apply List.Sublist.cons_cons | apply List.Sublist.cons | apply sub_app)), View.le_refl _⟩) ((SlO.row (T := 45) (b := b140) (ElR.single (E := eEnt) (sz := 36) (x := (⟨0, ⟨0, 0, [], ops.drop k⟩⟩ : EntD)) rfl rfl ⟨_, _, rfl, isH0, SlE.nilS, hdr, i64_0, i64_0⟩)).hand (byt := 96) eEnt_mono (by simp) (fun σ' hl' hs' => (law16_sum σ' _ [(⟨0, ⟨0, 0, [], ops.drop k⟩⟩ : EntD)] key hs').mono (R' := fun v _ H' => v = .tuple #[.int .i64 (IntKind.i64.wrap (sumOps key (ops.drop k) 0)), .bool (decide (∃ o ∈ opsTo [(⟨0, ⟨0, 0, [], ops.drop k⟩⟩ : EntD)] [(⟨0, ⟨0, 0, [], ops.drop k⟩⟩ : EntD)].length, zeroOn key o))] ∧ H' = []) (by rintro v s H ⟨rfl, rfl, rfl⟩; exact ⟨by rw [opsTo_one], rfl⟩))) ?_
                rintro _ σ7 _ ⟨rfl, rfl⟩ hle7
                rw [List.nil_append]
                refine SA.take 11 (by kernel_rfl) rfl rfl rfl (Wanted.plain rfl) (by repeat (first | exact List.nil_sublist _ | apply List.Sublist.cons_cons | apply List.Sublist.cons | apply sub_app)) (by first | exact View.le_refl _ | assumption) (Pur.move rfl) ?_
                first | refine SA.take 12 (by kernel_rfl) rfl rfl rfl (Wanted.plain rfl) (by repeat (first | exact List.nil_sublist _ | apply List.Sublist.cons_cons | apply List.Sublist.cons | apply sub_app)) (by first | exact View.le_refl _ | assumption) (Pur.ex2_0 rfl) ?_ | refine SA.take 12 (by kernel_rfl) rfl rfl rfl (Wanted.plain rfl) (by repeat (first | exact List.nil_sublist _ | apply List.Sublist.cons_cons | apply List.Sublist.cons | apply sub_app)) (by first | exact View.le_refl _ | assumption) (Pur.ex3_0 rfl) ?_ | refine SA.take 12 (by kernel_rfl) rfl rfl rfl (Wanted.plain rfl) (by repeat (first | exact List.nil_sublist _ | apply List.Sublist.cons_cons | apply List.Sublist.cons | apply sub_app)) (by first | exact View.le_refl _ | assumption) (Pur.extractNext rfl) ?_ | refine SA.take 12 (by kernel_rfl) rfl rfl rfl (Wanted.plain rfl) (by repeat (first | exact List.nil_sublist _ | apply List.Sublist.cons_cons | apply List.Sublist.cons | apply sub_app)) (by first | exact View.le_refl _ | assumption) (Pur.extract rfl rfl) ?_
                first | refine SA.take 13 (by kernel_rfl) rfl rfl rfl (Wanted.plain rfl) (by repeat (first | exact List.nil_sublist _ | apply List.Sublist.cons_cons | apply List.Sublist.cons | apply sub_app)) (by first | exact View.le_refl _ | assumption) (Pur.ex2_1 rfl) ?_ | refine SA.take 13 (by kernel_rfl) rfl rfl rfl (Wanted.plain rfl) (by repeat (first | exact List.nil_sublist _ | apply List.Sublist.cons_cons | apply List.Sublist.cons | apply sub_app)) (by first | exact View.le_refl _ | assumption) (Pur.ex3_1 rfl) ?_ | refine SA.take 13 (by kernel_rfl) rfl rfl rfl (Wanted.plain rfl) (by repeat (first | exact List.nil_sublist _ | apply List.Sublist.cons_cons | apply List.Sublist.cons | apply sub_app)) (by first | exact View.le_refl _ | assumption) (Pur.extract rfl rfl) ?_
                refine SA.take 14 (by kernel_rfl) rfl rfl rfl (Wanted.plain rfl) (by repeat (first | exact List.nil_sublist _ | apply List.Sublist.cons_cons | apply List.Sublist.cons | apply sub_app)) (by first | exact View.le_refl _ | assumption) (Pur.assign rfl) ?_
                refine SA.take 15 (by kernel_rfl) rfl rfl rfl (Wanted.plain rfl) (by repeat (first | exact List.nil_sublist _ | apply List.Sublist.cons_cons | apply List.Sublist.cons | apply sub_app)) (by first | exact View.le_refl _ | assumption) (Pur.assign rfl) ?_
                refine SA.done (by kernel_rfl) ?_
                refine WQ.thn ?_
                refine WC.seq ?_
                refine WC.seq ?_
                refine WC.region ?_
                refine WL.pur (Pur.move rfl) ?_
                refine' WL.pur (Pur.bin rfl rfl ?h38_0) ?k38
                case h38_0 => first | exact Bin.ltN (b := 0) | exact Bin.ltI | exact Bin.ltS
                refine WL.nil ?_
                refine WQ.thn ?_
                first | refine WC.cond rfl (fun hc7 => ?_) (fun hc7 => ?_) | refine WC.condB rfl (fun hc7 => ?_) (fun hc7 => ?_)
                · rw [if_pos (show k = 0 by omega)] at hb
                  refine WC.region ?_
                  refine WL.pur (Pur.move rfl) ?_
                  refine WL.pur ((Pur.conv (ks := .i64) (kt := .u64) rfl (by kernel_rfl) (by kernel_rfl))) ?_
                  refine WL.pur (Pur.move rfl) ?_
                  refine WL.pur ((Pur.conv (ks := .i64) (kt := .u64) rfl (by kernel_rfl) (by kernel_rfl))) ?_
                  refine' WL.pur (Pur.bin rfl rfl ?h39_0) ?k39
                  case h39_0 => exact Bin.addWU
                  refine WL.pur ((Pur.conv (ks := .u64) (kt := .i64) rfl (by kernel_rfl) (by kernel_rfl))) ?_
                  refine WL.pur (Pur.assign rfl) ?_
                  refine WL.nil ?_
                  refine WQ.thn ?_
                  refine WC.seq ?_
                  refine WC.region ?_
                  refine WL.pur (Pur.move rfl) ?_
                  refine WL.pur (Pur.move rfl) ?_
                  refine' WL.pur (Pur.bin rfl rfl ?h40_0) ?k40
                  case h40_0 => first | exact Bin.eqN | exact Bin.eqI
                  refine WL.pur (Pur.move rfl) ?_
                  refine' WL.andp (u := 157) (t := 159) rfl ?h41_0 ?h41_1 ?h41_2 rfl ?k41
                  case h41_0 =>
                    intro hg157 K157
                    refine WL.gcallR (H0 := []) (u := 157) rfl rfl (gT hg157) rfl Tryz.call31 (List.Perm.refl _) (law16_fixed _) ?_
                    rintro v158 σf _ ⟨hfv, rfl⟩ hlef
                    obtain rfl : v158 = .bool (decide True) := hfv
                    rw [List.nil_append]
                    refine WL.le hlef ?_
                    exact K157 _ (by repeat (first | exact Covers.refl _ | refine Covers.push ?_ rfl)) rfl
                  case h41_1 =>
                    intro hg157 K157
                    refine WL.gskip (u := 157) rfl rfl (sT hg157) ?_
                    exact K157 _ (by repeat (first | exact Covers.refl _ | refine Covers.push ?_ rfl))
                  case h41_2 => exact Wanted.plain rfl
                  refine WL.pur (Pur.assign rfl) ?_
                  refine WL.nil ?_
                  refine WQ.thn ?_
                  refine WC.ret ?_
                  refine WQ.ret1 Tryz.results6 rfl [] (by repeat (first | exact List.Sublist.refl _ | exact List.nil_sublist _ | apply List.Sublist.cons_cons | apply List.Sublist.cons | apply List.Sublist.append_left | exact List.sublist_append_right _ _)) (View.le_trans hle0 (View.le_trans hle1 (View.le_trans hle2 (View.le_trans hle3 (View.le_trans hle4 (View.le_trans hle5 (View.le_trans hle6 hle7))))))) ?_
                  exact (boolT ⟨hb, trivial⟩).symm
                · rw [if_neg (show k ≠ 0 by omega)] at hb
                  refine WC.skip ?_
                  refine WQ.thn ?_
                  refine WC.seq ?_
                  refine WC.region ?_
                  refine WL.pur (Pur.move rfl) ?_
                  refine WL.pur (Pur.move rfl) ?_
                  refine' WL.pur (Pur.bin rfl rfl ?h42_0) ?k42
                  case h42_0 => first | exact Bin.eqN | exact Bin.eqI
                  refine WL.pur (Pur.move rfl) ?_
                  refine' WL.andp (u := 157) (t := 159) rfl ?h43_0 ?h43_1 ?h43_2 rfl ?k43
                  case h43_0 =>
                    intro hg157 K157
                    refine WL.gcallR (H0 := []) (u := 157) rfl rfl (gT hg157) rfl Tryz.call31 (List.Perm.refl _) (law16_fixed _) ?_
                    rintro v158 σf _ ⟨hfv, rfl⟩ hlef
                    obtain rfl : v158 = .bool (decide True) := hfv
                    rw [List.nil_append]
                    refine WL.le hlef ?_
                    exact K157 _ (by repeat (first | exact Covers.refl _ | refine Covers.push ?_ rfl)) rfl
                  case h43_1 =>
                    intro hg157 K157
                    refine WL.gskip (u := 157) rfl rfl (sT hg157) ?_
                    exact K157 _ (by repeat (first | exact Covers.refl _ | refine Covers.push ?_ rfl))
                  case h43_2 => exact Wanted.plain rfl
                  refine WL.pur (Pur.assign rfl) ?_
                  refine WL.nil ?_
                  refine WQ.thn ?_
                  refine WC.ret ?_
                  refine WQ.ret1 Tryz.results6 rfl [] (by repeat (first | exact List.Sublist.refl _ | exact List.nil_sublist _ | apply List.Sublist.cons_cons | apply List.Sublist.cons | apply List.Sublist.append_left | exact List.sublist_append_right _ _)) (View.le_trans hle0 (View.le_trans hle1 (View.le_trans hle2 (View.le_trans hle3 (View.le_trans hle4 (View.le_trans hle5 (View.le_trans hle6 hle7))))))) ?_
                  exact (boolT ⟨hb, trivial⟩).symm

end Go.Proofs.YtgoooilgmabkmaaGreat
