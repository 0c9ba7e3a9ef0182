/-
  Contracts of the functions of the program: what each call hands back, from what is known and owned.
-/
import Derived.Test.YtgoooilgmabkmaaCd
set_option linter.unusedVariables false
set_option linter.unusedSimpArgs false
set_option linter.unusedSectionVars false
namespace Go.Proofs.Ytgoooilgmabkmaa
open Go Go.Sl
set_option linter.unusedVariables false
set_option linter.unusedSimpArgs false
set_option maxRecDepth 100000


theorem allH_three {L : List EntD} {a b k1 k2 : Nat} (h1 : idxOf L a = some k1) (h2 : idxOf L b = some k2) : allH L [b, a, b] := by
  intro h hh
  simp at hh
  rcases hh with rfl | rfl | rfl
  · rw [h2]; simp
  · rw [h1]; simp
  · rw [h2]; simp
/-- what two have in common where one has seen the other -/
theorem common_one {L : List EntD} (ho : OrdOk L) {a b k1 k2 : Nat} (h1 : idxOf L a = some k1) (h2 : idxOf L b = some k2) (h : k1 = k2 ∨ seesN L k1 k2 = true) : sortN (topsN L (bothP L a b) L.length) = [a] := by
  refine rises_ext _ _ (sortN_rises (topsN_nodup ho _)) (by simp [Rises]) fun x => ?_
  have hk1 := idxOf_lt h1
  have hid : idAt L k1 = a := by
    obtain ⟨e, he, rfl⟩ := idxOf_some h1
    exact idAt_of he
  have hb1 : bothP L a b k1 := (bothP_iff h1 h2 k1).2 ⟨.inl rfl, h⟩
  rw [(sortN_perm _).mem_iff, mem_topsN, List.mem_singleton]
  constructor
  · rintro ⟨i, hi, ht, rfl⟩
    rcases ((bothP_iff h1 h2 i).1 ht.1).1 with rfl | hs
    · exact hid
    · exact absurd ⟨hb1, hs⟩ (ht.2 k1 hk1)
  · rintro rfl
    refine ⟨k1, hk1, ⟨hb1, fun k hk hc => ?_⟩, hid⟩
    have hlt := (sees_lt ho hc.2).1
    rcases ((bothP_iff h1 h2 k).1 hc.1).1 with rfl | hs
    · omega
    · have := (sees_lt ho hs).1; omega

set_option maxHeartbeats 2000000 in
theorem law11_since (σ : View) (pv : Value) (L : List EntD) (a b k1 k2 : Nat) (hp : PastV σ pv L) (h1 : OneOrd L) (ha : IsH a) (hb : IsH b) (hk1 : idxOf L a = some k1) (hk2 : idxOf L b = some k2) :
    Tri Try.prog 29 #[pv, hashV a, hashV b] σ [] (fun v σ' H' => v = .bool true ∧ H' = []) := by
  have ho := h1.ok
  have hmost := ho.most
  have hca := hashCells_length a
  have hcb := hashCells_length b
  have hp1 : pv.oneCell' = true := by obtain ⟨_, _, _, _, rfl, _⟩ := hp; rfl
  have hall1 : allH L [a] := allH_one.2 (by rw [hk1]; simp)
  have hall2 : allH L [b] := allH_one.2 (by rw [hk2]; simp)
  have hall3 := allH_three hk1 hk2
  have hcnt := since_count hk1 hk2
  have hlS := selN_len L (sinceP L [a] [b]) L.length
  have hlO := atL_len (L := L) (q := inH L [a]) L.length
  have hlB := atL_len (L := L) (q := inH L [b, a, b]) L.length
  refine Tri.of_body [(0, pv), (1, hashV a), (2, hashV b)] Try.func29 rfl Try.ntmps29 (by simp) rfl (fun Hr => ?_)
  rw [List.nil_append]
  refine WC.seq ?_
  refine WC.region ?_
  refine WL.new (New.boxN rfl) (fun b4 => ?_)
  refine WL.new (New.boxN rfl) (fun b5 => ?_)
  refine WL.pur (Pur.assign rfl) ?_
  refine WL.nil ?_
  refine WQ.thn ?_
  refine WC.seq ?_
  refine WC.region ?_
  refine WL.pur (Pur.move rfl) ?_
  refine' WL.pur (Pur.loadN rfl ty_31 ?h1_0 ?h1_1) ?k1
  case h1_0 => first | (apply Rd.own_sub; exact zmE; exact Sub.refl _) | (apply RdV.rd; assumption)
  case h1_1 => first | rfl | assumption
  refine WL.new (New.buildSliceN (xs := [.tmp 20]) (vss := [_]) sl_32 zc_31 rfl rfl rfl (by rfl) (by rfl)) (fun b21 => ?_)
  refine' WL.pur (Pur.loadN rfl ty_31 ?h2_0 ?h2_1) ?k2
  case h2_0 => first | (apply Rd.own_sub; exact zmE; exact Sub.refl _) | (apply RdV.rd; assumption)
  case h2_1 => first | rfl | assumption
  refine WL.new (New.buildSliceN (xs := [.tmp 22]) (vss := [_]) sl_32 zc_31 rfl rfl rfl (by rfl) (by rfl)) (fun b23 => ?_)
  refine WL.giveS (byt := 32) (H1 := [(b23, _)]) (H2 := (b5, _) :: (b4, _) :: Hr) eHash_mono (SlO.row (T := 31) (b := b21) (ElR.single (E := eHash) (sz := 32) (x := a) rfl rfl ⟨rfl, ha⟩)) (by simp) rfl (fun σ1 hle1 hA1 => ?_)
  rw [List.singleton_append]
  refine WL.giveS (byt := 32) (H1 := []) (H2 := (b5, _) :: (b4, _) :: Hr) eHash_mono (SlO.row (T := 31) (b := b23) (ElR.single (E := eHash) (sz := 32) (x := b) rfl rfl ⟨rfl, hb⟩)) (by simp) rfl (fun σ2 hle2 hB2 => ?_)
  rw [List.nil_append]
  refine WL.call (H0 := []) (Hr := (b5, _) :: (b4, _) :: Hr) rfl Try.call51 (List.Perm.refl _) (past_SinceK _ _ _ _ L [a] [b] (hp.mono (View.le_trans hle1 hle2)) ho (hA1.mono eHash_mono hle2) hB2 hall1 hall2) ?_
  rintro _ σ3 _ ⟨⟨sv3, rfl, hS3⟩, rfl⟩ hle3
  rw [List.nil_append]
  have hle03 := (View.le_trans hle1 (View.le_trans hle2 hle3))
  refine WL.pur (Pur.move rfl) ?_
  first | refine WL.pur (Pur.ex2_0 rfl) ?_ | refine WL.pur (Pur.ex3_0 rfl) ?_ | refine WL.pur (Pur.extractNext rfl) ?_ | refine WL.pur (Pur.extract rfl rfl) ?_
  first | refine WL.pur (Pur.ex2_1 rfl) ?_ | refine WL.pur (Pur.ex3_1 rfl) ?_ | refine WL.pur (Pur.extract rfl rfl) ?_
  refine WL.pur (Pur.assign rfl) ?_
  refine WL.pur (Pur.assign rfl) ?_
  refine WL.nil ?_
  refine WQ.thn ?_
  refine WC.seq ?_
  refine WC.region ?_
  refine WL.pur (Pur.move rfl) ?_
  refine' WL.pur (Pur.loadN rfl ty_31 ?h3_0 ?h3_1) ?k3
  case h3_0 => first | (apply Rd.own_sub; exact zmE; exact Sub.refl _) | (apply RdV.rd; assumption)
  case h3_1 => first | rfl | assumption
  refine WL.new (New.buildSliceN (xs := [.tmp 29]) (vss := [_]) sl_32 zc_31 rfl rfl rfl (by rfl) (by rfl)) (fun b30 => ?_)
  refine WL.call (H0 := [(b30, _)]) (Hr := (b5, _) :: (b4, _) :: Hr) rfl Try.call17 (List.Perm.refl _) ((SlO.row (T := 31) (b := b30) (ElR.single (E := eHash) (sz := 32) (x := a) rfl rfl ⟨rfl, ha⟩)).hand (byt := 32) eHash_mono (by simp) (fun σ' hl' hs' => past_AtK σ' _ _ L [a] (hp.mono (View.le_trans hle03 hl')) h1 hs' hall1)) ?_
  rintro _ σ4 _ ⟨⟨ob, rfl, hold⟩, rfl⟩ hle4
  rw [List.nil_append]
  have hle04 := View.le_trans hle03 hle4
  refine WL.pur (Pur.move rfl) ?_
  first | refine WL.pur (Pur.ex2_0 rfl) ?_ | refine WL.pur (Pur.ex3_0 rfl) ?_ | refine WL.pur (Pur.extractNext rfl) ?_ | refine WL.pur (Pur.extract rfl rfl) ?_
  first | refine WL.pur (Pur.ex2_1 rfl) ?_ | refine WL.pur (Pur.ex3_1 rfl) ?_ | refine WL.pur (Pur.extract rfl rfl) ?_
  refine WL.pur (Pur.assign rfl) ?_
  refine WL.pur (Pur.assign rfl) ?_
  refine WL.nil ?_
  refine WQ.thn ?_
  refine WC.seq ?_
  refine WC.region ?_
  refine WL.pur (Pur.move rfl) ?_
  refine' WL.pur (Pur.loadN rfl ty_31 ?h4_0 ?h4_1) ?k4
  case h4_0 => first | (apply Rd.own_sub; exact zmE; exact Sub.refl _) | (apply RdV.rd; assumption)
  case h4_1 => first | rfl | assumption
  refine' WL.pur (Pur.loadN rfl ty_31 ?h5_0 ?h5_1) ?k5
  case h5_0 => first | (apply Rd.own_sub; exact zmE; exact Sub.refl _) | (apply RdV.rd; assumption)
  case h5_1 => first | rfl | assumption
  refine' WL.pur (Pur.loadN rfl ty_31 ?h6_0 ?h6_1) ?k6
  case h6_0 => first | (apply Rd.own_sub; exact zmE; exact Sub.refl _) | (apply RdV.rd; assumption)
  case h6_1 => first | rfl | assumption
  refine WL.new (New.buildSliceN (xs := [.tmp 36, .tmp 37, .tmp 38]) (vss := [_, _, _]) sl_32 zc_31 rfl rfl rfl (by rfl) (by rfl)) (fun b39 => ?_)
  refine WL.call (H0 := [(b39, _)]) (Hr := (b5, _) :: (b4, _) :: Hr) rfl Try.call17 (List.Perm.refl _) ((SlO.row (T := 31) (b := b39) (((ElR.single (E := eHash) (sz := 32) (x := b) rfl rfl ⟨rfl, hb⟩).push (x := a) rfl rfl ⟨rfl, ha⟩).push (x := b) rfl rfl ⟨rfl, hb⟩)).hand (byt := 32) eHash_mono (by simp) (fun σ' hl' hs' => past_AtK σ' _ _ L [b, a, b] (hp.mono (View.le_trans hle04 hl')) h1 hs' hall3)) ?_
  rintro _ σ5 _ ⟨⟨bb, rfl, hboth⟩, rfl⟩ hle5
  rw [List.nil_append]
  have hle05 := View.le_trans hle04 hle5
  have hold5 := hold.mono hle5
  have hS5 := hS3.mono eHash_mono (View.le_trans hle4 hle5)
  obtain ⟨s3a, s3c, rfl, hs3c, hs3b⟩ := hS5.shape
  obtain ⟨sb, soff, hes⟩ := addr_of hS5
  have hp5 := hp.mono hle05
  refine WL.pur (Pur.move rfl) ?_
  first | refine WL.pur (Pur.ex2_0 rfl) ?_ | refine WL.pur (Pur.ex3_0 rfl) ?_ | refine WL.pur (Pur.extractNext rfl) ?_ | refine WL.pur (Pur.extract rfl rfl) ?_
  first | refine WL.pur (Pur.ex2_1 rfl) ?_ | refine WL.pur (Pur.ex3_1 rfl) ?_ | refine WL.pur (Pur.extract rfl rfl) ?_
  refine WL.pur (Pur.assign rfl) ?_
  refine WL.pur (Pur.assign rfl) ?_
  refine WL.nil ?_
  refine WQ.thn ?_
  refine WC.seq ?_
  refine WC.seq ?_
  refine WC.region ?_
  refine WL.pur (Pur.move rfl) ?_
  refine' WL.pur (Pur.bin rfl rfl ?h7_0) ?k7
  case h7_0 => first | exact Bin.neN (b := 0) | exact Bin.neI
  refine WL.pur (Pur.move rfl) ?_
  refine' WL.orp (u := 45) (t := 48) rfl ?h8_0 ?h8_1 ?h8_2 rfl ?k8
  case h8_0 =>
    intro hg45 K45
    refine WL.gpur (u := 45) rfl rfl (gF hg45) (Pur.move rfl) ?_
    refine' WL.gpur (u := 45) rfl rfl (gF hg45) (Pur.bin rfl rfl ?h9_0) ?k9
    case h9_0 => first | exact Bin.neN (b := 0) | exact Bin.neI
    exact K45 _ zcR rfl
  case h8_1 =>
    intro hg45 K45
    refine WL.gskip (u := 45) rfl rfl (sF hg45) ?_
    refine WL.gskip (u := 45) rfl rfl (sF hg45) ?_
    exact K45 _ zcR
  case h8_2 => exact Wanted.plain rfl
  refine WL.pur (Pur.move rfl) ?_
  refine' WL.orp (u := 49) (t := 52) rfl ?h10_0 ?h10_1 ?h10_2 rfl ?k10
  case h10_0 =>
    intro hg49 K49
    refine WL.gpur (u := 49) rfl rfl (gF hg49) (Pur.move rfl) ?_
    refine' WL.gpur (u := 49) rfl rfl (gF hg49) (Pur.bin rfl rfl ?h11_0) ?k11
    case h11_0 => first | exact Bin.neN (b := 0) | exact Bin.neI
    exact K49 _ zcR rfl
  case h10_1 =>
    intro hg49 K49
    refine WL.gskip (u := 49) rfl rfl (sF hg49) ?_
    refine WL.gskip (u := 49) rfl rfl (sF hg49) ?_
    exact K49 _ zcR
  case h10_2 => exact Wanted.plain rfl
  refine WL.pur (Pur.move rfl) ?_
  refine' WL.orp (u := 53) (t := 56) rfl ?h12_0 ?h12_1 ?h12_2 rfl ?k12
  case h12_0 =>
    intro hg53 K53
    refine WL.gpur (u := 53) rfl rfl (gF hg53) (Pur.move rfl) ?_
    refine' WL.gpur (u := 53) rfl rfl (gF hg53) (Pur.bin rfl rfl ?h13_0) ?k13
    case h13_0 => exact Bin.eqP isPtr_25
    exact K53 _ zcR rfl
  case h12_1 =>
    intro hg53 K53
    refine WL.gskip (u := 53) rfl rfl (sF hg53) ?_
    refine WL.gskip (u := 53) rfl rfl (sF hg53) ?_
    exact K53 _ zcR
  case h12_2 => exact Wanted.plain rfl
  refine WL.pur (Pur.move rfl) ?_
  refine' WL.orp (u := 57) (t := 60) rfl ?h14_0 ?h14_1 ?h14_2 rfl ?k14
  case h14_0 =>
    intro hg57 K57
    refine WL.gpur (u := 57) rfl rfl (gF hg57) (Pur.move rfl) ?_
    refine' WL.gpur (u := 57) rfl rfl (gF hg57) (Pur.bin rfl rfl ?h15_0) ?k15
    case h15_0 => exact Bin.eqP isPtr_25
    exact K57 _ zcR rfl
  case h14_1 =>
    intro hg57 K57
    refine WL.gskip (u := 57) rfl rfl (sF hg57) ?_
    refine WL.gskip (u := 57) rfl rfl (sF hg57) ?_
    exact K57 _ zcR
  case h14_2 => exact Wanted.plain rfl
  refine WL.pur (Pur.move rfl) ?_
  refine' WL.orp (u := 61) (t := 70) rfl ?h16_0 ?h16_1 ?h16_2 rfl ?k16
  case h16_0 =>
    intro hg61 K61
    refine WL.gpur (u := 61) rfl rfl (gF hg61) (Pur.move rfl) ?_
    refine WL.gpur (u := 61) rfl rfl (gF hg61) (Pur.len rfl isSlice_32) ?_
    refine WL.gpur (u := 61) rfl rfl (gF hg61) (Pur.move rfl) ?_
    refine WL.gcallP (u := 61) rfl rfl (gF hg61) rfl Try.call11 ((past_Len _ _ _ hold5)) ?_
    refine' WL.gpur (u := 61) rfl rfl (gF hg61) (Pur.bin rfl rfl ?h17_0) ?k17
    case h17_0 => refine Bin.addI ?_; omega
    refine WL.gpur (u := 61) rfl rfl (gF hg61) (Pur.move rfl) ?_
    refine WL.gcallP (u := 61) rfl rfl (gF hg61) rfl Try.call11 ((past_Len _ _ _ hboth)) ?_
    refine' WL.gpur (u := 61) rfl rfl (gF hg61) (Pur.bin rfl rfl ?h18_0) ?k18
    case h18_0 => first | exact Bin.neN | exact Bin.neI
    exact K61 _ zcR rfl
  case h16_1 =>
    intro hg61 K61
    refine WL.gskip (u := 61) rfl rfl (sF hg61) ?_
    refine WL.gskip (u := 61) rfl rfl (sF hg61) ?_
    refine WL.gskip (u := 61) rfl rfl (sF hg61) ?_
    refine WL.gskip (u := 61) rfl rfl (sF hg61) ?_
    refine WL.gskip (u := 61) rfl rfl (sF hg61) ?_
    refine WL.gskip (u := 61) rfl rfl (sF hg61) ?_
    refine WL.gskip (u := 61) rfl rfl (sF hg61) ?_
    refine WL.gskip (u := 61) rfl rfl (sF hg61) ?_
    exact K61 _ zcR
  case h16_2 => exact Wanted.plain rfl
  refine WL.nil ?_
  refine WQ.thn ?_
  first | refine WC.cond rfl (fun hc0 => ?_) (fun hc0 => ?_) | refine WC.condB rfl (fun hc0 => ?_) (fun hc0 => ?_)
  · rcases hc0 with ((((hc | hc) | hc) | hc) | hc) | hc
    · exact absurd rfl hc
    · exact absurd rfl hc
    · exact absurd rfl hc
    · cases hc
    · cases hc
    · exact absurd (by omega) hc
  · refine WC.skip ?_
    refine WQ.thn ?_
    refine WC.seq ?_
    refine WC.region ?_
    refine WL.pur (Pur.assign rfl) ?_
    refine WL.nil ?_
    refine WQ.thn ?_
    refine WC.seq ?_
    refine WC.seq ?_
    refine WC.region ?_
    refine WL.pur (Pur.move rfl) ?_
    refine WL.pur (Pur.len rfl isSlice_32) ?_
    refine WL.pur (Pur.move rfl) ?_
    refine WL.nil ?_
    refine WQ.thn ?_
    refine WC.block ?_
    refine WC.loop (fun j m σ' H' => ∃ (i : Nat) (lst : Int), j = (selN L (sinceP L [a] [b]) L.length).length - i ∧ i ≤ (selN L (sinceP L [a] [b]) L.length).length ∧ (∀ k, (selI L (sinceP L [a] [b]))[i]? = some k → lst < (k : Int)) ∧ m = [(0, pv), (5, .pointer (some ⟨b5, 0, none⟩)), (9, .pointer (some ⟨ob, 0, none⟩)), (11, .pointer (some ⟨bb, 0, none⟩)), (13, .int .i64 lst), (71, .slice s3a (selN L (sinceP L [a] [b]) L.length).length s3c), (72, .int .i64 ((selN L (sinceP L [a] [b]) L.length).length : Int)), (73, .int .i64 (i : Int))] ∧ σ' = σ5 ∧ H' = (b5, rowO 31 (hashCells b)) :: Hr) ⟨0, -1, rfl, by omega, fun k _ => by omega, rfl, rfl, rfl⟩ zcV zsL ?_
    rintro _ _ σ Hr ⟨i, lst, rfl, hi, hlst, rfl, rfl, rfl⟩
    refine WC.seq ?_
    refine WC.region ?_
    refine' WL.pur (Pur.bin rfl rfl ?h19_0) ?k19
    case h19_0 => first | exact Bin.ltN | exact Bin.ltI | exact Bin.ltS
    refine WL.nil ?_
    refine WQ.thn ?_
    refine WC.seq ?_
    first | refine WC.cond rfl (fun hc1 => ?_) (fun hc1 => ?_) | refine WC.condB rfl (fun hc1 => ?_) (fun hc1 => ?_)
    · obtain ⟨hxH, hxr, hxg⟩ := hash_rdD hS5 hes (i := i) hc1
      have hIl : (selI L (sinceP L [a] [b])).length = (selN L (sinceP L [a] [b]) L.length).length := by rw [selN_eq, List.length_map]
      obtain ⟨k, hk⟩ : ∃ k, (selI L (sinceP L [a] [b]))[i]? = some k := ⟨_, List.getElem?_eq_getElem (by omega)⟩
      obtain ⟨hkl, hkq⟩ := selI_mem.1 (List.mem_of_getElem? hk)
      have hxk : (selN L (sinceP L [a] [b]) L.length).getD i 0 = idAt L k := by rw [List.getD_eq_getElem?_getD, selN_eq, List.getElem?_map, hk]; rfl
      have hkx : idxOf L ((selN L (sinceP L [a] [b]) L.length).getD i 0) = some k := by rw [hxk]; exact idx_idAt ho hkl
      have hno : idxOf (atL L (inH L [a]) L.length) ((selN L (sinceP L [a] [b]) L.length).getD i 0) = none := by rw [hxk]; exact (idx_at ho hkl).2 hkq.2
      have hyes : idxOf (atL L (inH L [b, a, b]) L.length) ((selN L (sinceP L [a] [b]) L.length).getD i 0) ≠ none := by rw [hxk]; exact fun h => (idx_at ho hkl).1 h ((inH_three hk1 hk2 k).2 (.inr hkq.1))
      have hlk := hlst k hk
      refine WC.skip ?_
      refine WQ.thn ?_
      refine WC.seq ?_
      refine WC.block ?_
      refine WC.seq ?_
      refine WC.region ?_
      refine' WL.pur (Pur.indexAddr (eqA (hes (by omega))) rfl sl_32 ?h20_0) ?k20
      case h20_0 => omega
      refine' WL.pur (Pur.loadN rfl ty_31 ?h21_0 ?h21_1) ?k21
      case h21_0 => exact RdV.rd hxr
      case h21_1 => first | rfl | assumption
      refine WL.new (New.alloc zc_31) (fun b15 => ?_)
      refine' WL.run0 (Run.storeAll rfl rfl ty_31 ?h22_0 (by first | rfl | assumption) ?h22_1 (by first | rfl | assumption)) ?k22
      case h22_0 => repeat (first | exact Part.one | exact Part.here | apply Part.cons | apply Part.app)
      case h22_1 => first | rfl | assumption
      refine WL.nil ?_
      refine WQ.thn ?_
      refine WC.seq ?_
      refine WC.region ?_
      refine WL.pur (Pur.move rfl) ?_
      refine' WL.pur (Pur.loadN rfl ty_31 ?h23_0 ?h23_1) ?k23
      case h23_0 => first | (apply Rd.own_sub; exact zmE; exact Sub.refl _) | (apply RdV.rd; assumption)
      case h23_1 => first | rfl | assumption
      refine WL.callP rfl Try.call23 ((past_NumberK _ _ L _ k hp5 hxH hkx)) ?_
      refine WL.pur (Pur.assign rfl) ?_
      refine WL.nil ?_
      refine WQ.thn ?_
      refine WC.seq ?_
      refine WC.seq ?_
      refine WC.region ?_
      refine WL.pur (Pur.move rfl) ?_
      refine WL.pur (Pur.move rfl) ?_
      refine' WL.pur (Pur.bin rfl rfl ?h24_0) ?k24
      case h24_0 => exact Bin.leI
      refine WL.pur (Pur.move rfl) ?_
      refine' WL.orp (u := 83) (t := 88) rfl ?h25_0 ?h25_1 ?h25_2 rfl ?k25
      case h25_0 =>
        intro hg83 K83
        refine WL.gpur (u := 83) rfl rfl (gF hg83) (Pur.move rfl) ?_
        refine' WL.gpur (u := 83) rfl rfl (gF hg83) (Pur.loadN rfl ty_31 ?h26_0 ?h26_1) ?k26
        case h26_0 => first | (apply Rd.own_sub; exact zmE; exact Sub.refl _) | (apply RdV.rd; assumption)
        case h26_1 => first | rfl | assumption
        refine WL.gcallP (u := 83) rfl rfl (gF hg83) rfl Try.call23 ((past_Number _ _ _ _ hold5 hxH)) ?_
        refine' WL.gpur (u := 83) rfl rfl (gF hg83) (Pur.bin rfl rfl ?h27_0) ?k27
        case h27_0 => first | exact Bin.geN (b := 0) | exact Bin.geI
        exact K83 _ zcR rfl
      case h25_1 =>
        intro hg83 K83
        refine WL.gskip (u := 83) rfl rfl (sF hg83) ?_
        refine WL.gskip (u := 83) rfl rfl (sF hg83) ?_
        refine WL.gskip (u := 83) rfl rfl (sF hg83) ?_
        refine WL.gskip (u := 83) rfl rfl (sF hg83) ?_
        exact K83 _ zcR
      case h25_2 => exact Wanted.plain rfl
      refine WL.pur (Pur.move rfl) ?_
      refine' WL.orp (u := 89) (t := 94) rfl ?h28_0 ?h28_1 ?h28_2 rfl ?k28
      case h28_0 =>
        intro hg89 K89
        refine WL.gpur (u := 89) rfl rfl (gF hg89) (Pur.move rfl) ?_
        refine' WL.gpur (u := 89) rfl rfl (gF hg89) (Pur.loadN rfl ty_31 ?h29_0 ?h29_1) ?k29
        case h29_0 => first | (apply Rd.own_sub; exact zmE; exact Sub.refl _) | (apply RdV.rd; assumption)
        case h29_1 => first | rfl | assumption
        refine WL.gcallP (u := 89) rfl rfl (gF hg89) rfl Try.call23 ((past_Number _ _ _ _ hboth hxH)) ?_
        refine' WL.gpur (u := 89) rfl rfl (gF hg89) (Pur.bin rfl rfl ?h30_0) ?k30
        case h30_0 => first | exact Bin.ltN (b := 0) | exact Bin.ltI | exact Bin.ltS
        exact K89 _ zcR rfl
      case h28_1 =>
        intro hg89 K89
        refine WL.gskip (u := 89) rfl rfl (sF hg89) ?_
        refine WL.gskip (u := 89) rfl rfl (sF hg89) ?_
        refine WL.gskip (u := 89) rfl rfl (sF hg89) ?_
        refine WL.gskip (u := 89) rfl rfl (sF hg89) ?_
        exact K89 _ zcR
      case h28_2 => exact Wanted.plain rfl
      refine WL.nil ?_
      refine WQ.thn ?_
      first | refine WC.cond rfl (fun hc2 => ?_) (fun hc2 => ?_) | refine WC.condB rfl (fun hc2 => ?_) (fun hc2 => ?_)
      · rcases hc2 with (hc | hc) | hc
        · omega
        · rw [hno] at hc; simp [numV] at hc
        · exact absurd (numV_none.1 hc) hyes
      · refine WC.skip ?_
        refine WQ.thn ?_
        refine WC.region ?_
        refine WL.pur (Pur.move rfl) ?_
        refine WL.pur (Pur.assign rfl) ?_
        refine WL.nil ?_
        refine WQ.blk ?_
        refine WQ.thn ?_
        refine WC.region ?_
        refine' WL.pur (Pur.bin rfl rfl ?h31_0) ?k31
        case h31_0 => first | (refine Bin.addN (b := 1) ?_; omega) | (refine Bin.addI ?_; omega)
        refine WL.pur (Pur.move rfl) ?_
        refine WL.nil ?_
        refine WQ.back _ ⟨i + 1, (k : Int), rfl, by omega, fun k2 hk2 => by have := selI_lt (Nat.lt_succ_self i) hk hk2; omega, rfl, rfl, rfl⟩ (by omega) zcV zsL
    · refine WC.exit ?_
      refine WQ.thn_exit ?_
      refine WQ.back_exit ?_
      refine WQ.blk_here ?_
      refine WQ.thn ?_
      refine WC.seq ?_
      refine WC.region ?_
      refine WL.pur (Pur.move rfl) ?_
      refine' WL.pur (Pur.loadN rfl ty_31 ?h32_0 ?h32_1) ?k32
      case h32_0 => first | (apply Rd.own_sub; exact zmE; exact Sub.refl _) | (apply RdV.rd; assumption)
      case h32_1 => first | rfl | assumption
      refine WL.new (New.buildSliceN (xs := [.tmp 99]) (vss := [_]) sl_32 zc_31 rfl rfl rfl (by rfl) (by rfl)) (fun b100 => ?_)
      refine' WL.pur (Pur.loadN rfl ty_31 ?h33_0 ?h33_1) ?k33
      case h33_0 => first | (apply Rd.own_sub; exact zmE; exact Sub.refl _) | (apply RdV.rd; assumption)
      case h33_1 => first | rfl | assumption
      refine WL.new (New.buildSliceN (xs := [.tmp 101]) (vss := [_]) sl_32 zc_31 rfl rfl rfl (by rfl) (by rfl)) (fun b102 => ?_)
      refine WL.giveS (byt := 32) (H1 := [(b102, _)]) (H2 := (b5, _) :: Hr) eHash_mono (SlO.row (T := 31) (b := b100) (ElR.single (E := eHash) (sz := 32) (x := b) rfl rfl ⟨rfl, hb⟩)) (by simp) rfl (fun σ7 hle7 hA7 => ?_)
      rw [List.singleton_append]
      refine WL.giveS (byt := 32) (H1 := []) (H2 := (b5, _) :: Hr) eHash_mono (SlO.row (T := 31) (b := b102) (ElR.single (E := eHash) (sz := 32) (x := b) rfl rfl ⟨rfl, hb⟩)) (by simp) rfl (fun σ8 hle8 hB8 => ?_)
      rw [List.nil_append]
      refine WL.call (H0 := []) (Hr := (b5, _) :: Hr) rfl Try.call51 (List.Perm.refl _) (past_SinceK _ _ _ _ L [b] [b] (hp.mono (View.le_trans hle05 (View.le_trans hle7 hle8))) ho (hA7.mono eHash_mono hle8) hB8 hall2 hall2) ?_
      rintro _ σ9 _ ⟨⟨sv9, rfl, hS9⟩, rfl⟩ hle9
      rw [List.nil_append]
      obtain ⟨s9a, s9c, rfl, _, _⟩ := hS9.shape
      have hle09 := (View.le_trans hle05 (View.le_trans hle7 (View.le_trans hle8 hle9)))
      refine WL.pur (Pur.move rfl) ?_
      first | refine WL.pur (Pur.ex2_0 rfl) ?_ | refine WL.pur (Pur.ex3_0 rfl) ?_ | refine WL.pur (Pur.extractNext rfl) ?_ | refine WL.pur (Pur.extract rfl rfl) ?_
      first | refine WL.pur (Pur.ex2_1 rfl) ?_ | refine WL.pur (Pur.ex3_1 rfl) ?_ | refine WL.pur (Pur.extract rfl rfl) ?_
      refine WL.pur (Pur.assign rfl) ?_
      refine WL.pur (Pur.assign rfl) ?_
      refine WL.nil ?_
      refine WQ.thn ?_
      refine WC.seq ?_
      refine WC.region ?_
      refine WL.pur (Pur.move rfl) ?_
      refine' WL.pur (Pur.bin rfl rfl ?h34_0) ?k34
      case h34_0 => first | exact Bin.eqN (b := 0) | exact Bin.eqI
      refine WL.pur (Pur.move rfl) ?_
      refine' WL.andp (u := 108) (t := 112) rfl ?h35_0 ?h35_1 ?h35_2 rfl ?k35
      case h35_0 =>
        intro hg108 K108
        refine WL.gpur (u := 108) rfl rfl (gT hg108) (Pur.move rfl) ?_
        refine WL.gpur (u := 108) rfl rfl (gT hg108) (Pur.len rfl isSlice_32) ?_
        refine' WL.gpur (u := 108) rfl rfl (gT hg108) (Pur.bin rfl rfl ?h36_0) ?k36
        case h36_0 => first | exact Bin.eqN (b := 0) | exact Bin.eqI
        exact K108 _ zcR rfl
      case h35_1 =>
        intro hg108 K108
        refine WL.gskip (u := 108) rfl rfl (sT hg108) ?_
        refine WL.gskip (u := 108) rfl rfl (sT hg108) ?_
        refine WL.gskip (u := 108) rfl rfl (sT hg108) ?_
        exact K108 _ zcR
      case h35_2 => exact Wanted.plain rfl
      refine WL.pur (Pur.assign rfl) ?_
      refine WL.nil ?_
      refine WQ.thn ?_
      refine WC.ret ?_
      refine WQ.ret1 Try.results29 rfl [] zsL hle09 ?_
      exact ⟨(boolT ⟨rfl, by rw [since_none]; rfl⟩).symm, rfl⟩

end Go.Proofs.Ytgoooilgmabkmaa
namespace Go.Proofs.Ytgoooilgmabkmaa
open Go Go.Sl
set_option linter.unusedVariables false
set_option linter.unusedSimpArgs false
set_option maxRecDepth 100000

theorem ar_64 : arE Try.prog 64 = some (2, 3, 1) := by kernel_rfl
set_option maxHeartbeats 4000000 in
theorem law11_PastFollows (σ : View) (lv : Value) (l : List EntD) (T0 T1 : Int) (h : Ents σ lv l) :
    Tri Try.prog 7 #[lv, .agg #[.int .i64 T0, .int .i64 T1]] σ [] (fun v σ' H' => v = .bool true) := by
  have h' := h
  obtain ⟨la, lc, rfl, hlc, hlby⟩ := h.shape
  obtain ⟨lb, loff, hel⟩ := addr_of h'
  refine Tri.of_body [(0, .slice la l.length lc), (1, .agg #[.int .i64 T0, .int .i64 T1])] Try.func7 rfl Try.ntmps7 (by simp) rfl (fun Hr => ?_)
  rw [List.nil_append]
  refine WC.seq ?_
  refine WC.region ?_
  refine WL.new (New.boxN rfl) (fun b3 => ?_)
  refine WL.pur (Pur.assign rfl) ?_
  refine WL.nil ?_
  refine WQ.thn ?_
  refine WC.seq ?_
  refine WC.seq ?_
  refine WC.region ?_
  refine WL.call (H0 := []) (Hr := (b3, _) :: Hr) rfl Try.call9 (List.Perm.refl _) (law11_awake σ) ?_
  rintro _ σ1 _ ⟨rfl, rfl⟩ hle1
  rw [List.nil_append]
  first | refine WL.pur (Pur.not rfl) ?_ | refine WL.pur (Pur.notB rfl) ?_
  refine WL.nil ?_
  refine WQ.thn ?_
  refine WC.condF rfl ?_
  refine WC.skip ?_
  refine WQ.thn ?_
  refine WC.seq ?_
  refine WC.region ?_
  refine WL.pur (Pur.move rfl) ?_
  refine WL.call (H0 := []) (Hr := (b3, _) :: Hr) rfl Try.call10 (List.Perm.refl _) (past_Of2 _ _ l (h'.mono eEnt_mono hle1)) ?_
  rintro _ σ2 _ ⟨⟨pa, n2, rfl, hpp, hpn⟩, rfl⟩ hle2
  rw [List.nil_append]
  refine WL.pur (Pur.move rfl) ?_
  first | refine WL.pur (Pur.ex2_0 rfl) ?_ | refine WL.pur (Pur.ex3_0 rfl) ?_ | refine WL.pur (Pur.extractNext rfl) ?_ | refine WL.pur (Pur.extract rfl rfl) ?_
  first | refine WL.pur (Pur.ex2_1 rfl) ?_ | refine WL.pur (Pur.ex3_1 rfl) ?_ | refine WL.pur (Pur.extract rfl rfl) ?_
  first | refine WL.pur (Pur.ex3_2 rfl) ?_ | refine WL.pur (Pur.extract rfl rfl) ?_
  refine WL.pur (Pur.assign rfl) ?_
  refine WL.pur (Pur.assign rfl) ?_
  refine WL.pur (Pur.assign rfl) ?_
  refine WL.nil ?_
  refine WQ.thn ?_
  refine WC.seq ?_
  refine WC.seq ?_
  refine WC.region ?_
  refine WL.pur (Pur.move rfl) ?_
  refine' WL.pur (Pur.bin rfl rfl ?h1_0) ?k1
  case h1_0 => first | exact Bin.neN (b := 0) | exact Bin.neI
  refine WL.pur (Pur.move rfl) ?_
  refine' WL.orp (u := 31) (t := 34) rfl ?h2_0 ?h2_1 ?h2_2 rfl ?k2
  case h2_0 =>
    intro hg31 K31
    refine WL.gpur (u := 31) rfl rfl (gF hg31) (Pur.move rfl) ?_
    refine' WL.gpur (u := 31) rfl rfl (gF hg31) (Pur.bin rfl rfl ?h3_0) ?k3
    case h3_0 => exact Bin.eqP isPtr_25
    exact K31 _ zcR rfl
  case h2_1 =>
    intro hg31 K31
    refine WL.gskip (u := 31) rfl rfl (sF hg31) ?_
    refine WL.gskip (u := 31) rfl rfl (sF hg31) ?_
    exact K31 _ zcR
  case h2_2 => exact Wanted.plain rfl
  refine WL.nil ?_
  refine WQ.thn ?_
  first | refine WC.cond rfl (fun hc1 => ?_) (fun hc1 => ?_) | refine WC.condB rfl (fun hc1 => ?_) (fun hc1 => ?_)
  · have hr : (rightErr l).1 ≠ 0 := hc1.elim id (fun hc hz => by obtain ⟨_, _, _, _, hpe, _⟩ := hpp hz; subst hc; cases hpe)
    refine WC.seq ?_
    refine WC.region ?_
    refine WL.pur (Pur.move rfl) ?_
    refine' WL.pur (Pur.bin rfl rfl ?h4_0) ?k4
    case h4_0 => first | exact Bin.neN (b := 0) | exact Bin.neI
    refine WL.pur (Pur.move rfl) ?_
    refine' WL.andp (u := 37) (t := 40) rfl ?h5_0 ?h5_1 ?h5_2 rfl ?k5
    case h5_0 =>
      intro hg37 K37
      refine WL.gpur (u := 37) rfl rfl (gT hg37) (Pur.move rfl) ?_
      refine' WL.gpur (u := 37) rfl rfl (gT hg37) (Pur.bin rfl rfl ?h6_0) ?k6
      case h6_0 => exact Bin.eqP isPtr_25
      exact K37 _ zcR rfl
    case h5_1 =>
      intro hg37 K37
      refine WL.gskip (u := 37) rfl rfl (sT hg37) ?_
      refine WL.gskip (u := 37) rfl rfl (sT hg37) ?_
      exact K37 _ zcR
    case h5_2 => exact Wanted.plain rfl
    refine WL.pur (Pur.assign rfl) ?_
    refine WL.nil ?_
    refine WQ.thn ?_
    refine WC.ret ?_
    refine WQ.thn_ret ?_
    refine WQ.ret1 Try.results7 rfl [] zsL (View.le_trans hle1 hle2) ?_
    exact (boolT ⟨hr, hpn hr⟩).symm
  · have h0 : (rightErr l).1 = 0 := Decidable.not_not.1 fun h => hc1 (.inl h)
    have hg := good_of_right h0
    have hone := oneOrd_ordE h0
    have ho := hone.ok
    have hp2 := hpp h0
    have hLl := ordE_len hg
    have hmost := hg.most
    obtain ⟨pb, _, _, _, hpe, _⟩ := hpp h0
    cases hpe
    refine WC.skip ?_
    refine WQ.thn ?_
    refine WC.seq ?_
    refine WC.seq ?_
    refine WC.region ?_
    refine' WL.pur (Pur.indexAddrA rfl rfl ar_64 ?h7_0) ?k7
    case h7_0 => decide
    refine' WL.pur (Pur.load1 rfl ty_3 ?h8_0) ?k8
    case h8_0 => first | (apply Rd.own1; exact zmE; rfl) | (apply Rd.own1; exact zmE; assumption) | (apply Rd.own_map; exact zmE; assumption) | exact RdV.rd (by assumption) | (apply Rd.own1; exact zmE; exact get_row (by assumption) (by first | assumption | omega)) | (apply RdV.rd; apply RdV.idx (i := 0); assumption; rfl)
    refine' WL.pur (Pur.bin rfl rfl ?h9_0) ?k9
    case h9_0 => exact Bin.ltI
    refine WL.pur (Pur.move rfl) ?_
    refine' WL.orp (u := 44) (t := 50) rfl ?h10_0 ?h10_1 ?h10_2 rfl ?k10
    case h10_0 =>
      intro hg44 K44
      refine' WL.gpur (u := 44) rfl rfl (gF hg44) (Pur.indexAddrA rfl rfl ar_64 ?h11_0) ?k11
      case h11_0 => decide
      refine' WL.gpur (u := 44) rfl rfl (gF hg44) (Pur.load1 rfl ty_3 ?h12_0) ?k12
      case h12_0 => first | (apply Rd.own1; exact zmE; rfl) | (apply Rd.own1; exact zmE; assumption) | (apply Rd.own_map; exact zmE; assumption) | exact RdV.rd (by assumption) | (apply Rd.own1; exact zmE; exact get_row (by assumption) (by first | assumption | omega)) | (apply RdV.rd; apply RdV.idx (i := 0); assumption; rfl)
      refine WL.gpur (u := 44) rfl rfl (gF hg44) (Pur.move rfl) ?_
      refine WL.gpur (u := 44) rfl rfl (gF hg44) (Pur.len rfl isSlice_23) ?_
      refine' WL.gpur (u := 44) rfl rfl (gF hg44) (Pur.bin rfl rfl ?h13_0) ?k13
      case h13_0 => exact Bin.geI
      exact K44 _ zcR rfl
    case h10_1 =>
      intro hg44 K44
      refine WL.gskip (u := 44) rfl rfl (sF hg44) ?_
      refine WL.gskip (u := 44) rfl rfl (sF hg44) ?_
      refine WL.gskip (u := 44) rfl rfl (sF hg44) ?_
      refine WL.gskip (u := 44) rfl rfl (sF hg44) ?_
      refine WL.gskip (u := 44) rfl rfl (sF hg44) ?_
      exact K44 _ zcR
    case h10_2 => exact Wanted.plain rfl
    refine WL.pur (Pur.move rfl) ?_
    refine' WL.orp (u := 51) (t := 55) rfl ?h14_0 ?h14_1 ?h14_2 rfl ?k14
    case h14_0 =>
      intro hg51 K51
      refine' WL.gpur (u := 51) rfl rfl (gF hg51) (Pur.indexAddrA rfl rfl ar_64 ?h15_0) ?k15
      case h15_0 => decide
      refine' WL.gpur (u := 51) rfl rfl (gF hg51) (Pur.load1 rfl ty_3 ?h16_0) ?k16
      case h16_0 => first | (apply Rd.own1; exact zmE; rfl) | (apply Rd.own1; exact zmE; assumption) | (apply Rd.own_map; exact zmE; assumption) | exact RdV.rd (by assumption) | (apply Rd.own1; exact zmE; exact get_row (by assumption) (by first | assumption | omega)) | (apply RdV.rd; apply RdV.idx (i := 0); assumption; rfl)
      refine' WL.gpur (u := 51) rfl rfl (gF hg51) (Pur.bin rfl rfl ?h17_0) ?k17
      case h17_0 => exact Bin.ltI
      exact K51 _ zcR rfl
    case h14_1 =>
      intro hg51 K51
      refine WL.gskip (u := 51) rfl rfl (sF hg51) ?_
      refine WL.gskip (u := 51) rfl rfl (sF hg51) ?_
      refine WL.gskip (u := 51) rfl rfl (sF hg51) ?_
      exact K51 _ zcR
    case h14_2 => exact Wanted.plain rfl
    refine WL.pur (Pur.move rfl) ?_
    refine' WL.orp (u := 56) (t := 62) rfl ?h18_0 ?h18_1 ?h18_2 rfl ?k18
    case h18_0 =>
      intro hg56 K56
      refine' WL.gpur (u := 56) rfl rfl (gF hg56) (Pur.indexAddrA rfl rfl ar_64 ?h19_0) ?k19
      case h19_0 => decide
      refine' WL.gpur (u := 56) rfl rfl (gF hg56) (Pur.load1 rfl ty_3 ?h20_0) ?k20
      case h20_0 => first | (apply Rd.own1; exact zmE; rfl) | (apply Rd.own1; exact zmE; assumption) | (apply Rd.own_map; exact zmE; assumption) | exact RdV.rd (by assumption) | (apply Rd.own1; exact zmE; exact get_row (by assumption) (by first | assumption | omega)) | (apply RdV.rd; apply RdV.idx (i := 0); assumption; rfl)
      refine WL.gpur (u := 56) rfl rfl (gF hg56) (Pur.move rfl) ?_
      refine WL.gpur (u := 56) rfl rfl (gF hg56) (Pur.len rfl isSlice_23) ?_
      refine' WL.gpur (u := 56) rfl rfl (gF hg56) (Pur.bin rfl rfl ?h21_0) ?k21
      case h21_0 => exact Bin.geI
      exact K56 _ zcR rfl
    case h18_1 =>
      intro hg56 K56
      refine WL.gskip (u := 56) rfl rfl (sF hg56) ?_
      refine WL.gskip (u := 56) rfl rfl (sF hg56) ?_
      refine WL.gskip (u := 56) rfl rfl (sF hg56) ?_
      refine WL.gskip (u := 56) rfl rfl (sF hg56) ?_
      refine WL.gskip (u := 56) rfl rfl (sF hg56) ?_
      exact K56 _ zcR
    case h18_2 => exact Wanted.plain rfl
    refine WL.nil ?_
    refine WQ.thn ?_
    first | refine WC.cond rfl (fun hc2 => ?_) (fun hc2 => ?_) | refine WC.condB rfl (fun hc2 => ?_) (fun hc2 => ?_)
    · refine WC.seq ?_
      refine WC.region ?_
      refine WL.pur (Pur.assign rfl) ?_
      refine WL.nil ?_
      refine WQ.thn ?_
      refine WC.ret ?_
      refine WQ.thn_ret ?_
      refine WQ.ret1 Try.results7 rfl [] zsL (View.le_trans hle1 hle2) ?_
      rfl
    · have hx0 : 0 ≤ T0 := by omega
      have hx1 : 0 ≤ T1 := by omega
      have hx0l : T0.toNat < l.length := by omega
      have hx1l : T1.toNat < l.length := by omega
      obtain ⟨e0, he0⟩ : ∃ e, l[T0.toNat]? = some e := ⟨_, List.getElem?_eq_getElem hx0l⟩
      obtain ⟨e1, he1⟩ : ∃ e, l[T1.toNat]? = some e := ⟨_, List.getElem?_eq_getElem hx1l⟩
      have h2 := h'.mono eEnt_mono (View.le_trans hle1 hle2)
      obtain ⟨_, _, hrd0, he0H, hN0⟩ := ent_rd h2 hel he0
      obtain ⟨_, _, hrd1, he1H, hN1⟩ := ent_rd h2 hel he1
      obtain ⟨k1, hk1⟩ : ∃ k, idxOf (ordE l) e0.id = some k := Option.ne_none_iff_exists'.1 fun h => idxOf_none.1 h e0 ((mem_ordE hg).2 (List.mem_of_getElem? he0)) rfl
      obtain ⟨k2, hk2⟩ : ∃ k, idxOf (ordE l) e1.id = some k := Option.ne_none_iff_exists'.1 fun h => idxOf_none.1 h e1 ((mem_ordE hg).2 (List.mem_of_getElem? he1)) rfl
      have hk1l := idxOf_lt hk1
      have hk2l := idxOf_lt hk2
      have hall1 : allH (ordE l) [e0.id] := allH_one.2 (by rw [hk1]; simp)
      have hall2 : allH (ordE l) [e1.id] := allH_one.2 (by rw [hk2]; simp)
      have hca := hashCells_length e0.id
      have hcb2 := hashCells_length e1.id
      refine WC.skip ?_
      refine WQ.thn ?_
      refine WC.seqK (fun m σ' H' => ∃ b8 b9, m = [(5, .pointer (some ⟨pb, 0, none⟩)), (8, .pointer (some ⟨b8, 0, none⟩)), (9, .pointer (some ⟨b9, 0, none⟩))] ∧ σ' = σ2 ∧ H' = (b9, rowO 31 (hashCells e1.id)) :: (b8, rowO 31 (hashCells e0.id)) :: (b3, rowO 64 [.int .i64 T0, .int .i64 T1]) :: Hr) (fun KM => ?_) ?_
      · refine WC.draw 15 16 ([(b3, rowO 64 [.int .i64 T0, .int .i64 T1])]) mixed (by kernel_rfl) rfl ?_
        refine SA.takeW 0 (by kernel_rfl) rfl rfl rfl (Wanted.plain rfl) (tells_move rfl) ?_
        refine' SA.takeP 1 (by kernel_rfl) rfl rfl rfl (Wanted.plain rfl) (fun _ _ => Pur.indexAddrA rfl rfl ar_64 ?h22_0) ?k22
        case h22_0 => decide
        refine' SA.take 2 (by kernel_rfl) rfl rfl rfl (Wanted.plain rfl) zsL (by first | exact View.le_refl _ | assumption) (Pur.load1 rfl ty_3 ?h23_0) ?k23
        case h23_0 => first | (apply Rd.own1; exact zmE; rfl) | (apply Rd.own1; exact zmE; assumption) | (apply Rd.own_map; exact zmE; assumption) | exact RdV.rd (by assumption) | (apply Rd.own1; exact zmE; exact get_row (by assumption) (by first | assumption | omega)) | (apply RdV.rd; apply RdV.idx (i := 0); assumption; rfl)
        refine' SA.takeP 3 (by kernel_rfl) rfl rfl rfl (Wanted.plain rfl) (fun _ _ => Pur.indexAddr (i := T0.toNat) (eqA (hel (by omega))) (by rw [Int.toNat_of_nonneg hx0]; rfl) sl_23 ?h24_0) ?k24
        case h24_0 => exact hx0l
        refine SA.takeP 4 (by kernel_rfl) rfl rfl rfl (Wanted.plain rfl) (fun _ _ => Pur.fieldAddr rfl fo_37_0) ?_
        refine' SA.take 5 (by kernel_rfl) rfl rfl rfl (Wanted.plain rfl) zsL (by first | exact View.le_refl _ | assumption) (Pur.loadN rfl ty_31 ?h25_0 ?h25_1) ?k25
        case h25_0 => apply RdV.rd; apply RdV.sub0; exact hrd0; exact Sub.ent_hash _ _ _ _ _
        case h25_1 => first | rfl | assumption
        refine SA.takeW 6 (by kernel_rfl) rfl rfl rfl (Wanted.plain rfl) (tells_move rfl) ?_
        refine' SA.takeP 7 (by kernel_rfl) rfl rfl rfl (Wanted.plain rfl) (fun _ _ => Pur.indexAddrA rfl rfl ar_64 ?h26_0) ?k26
        case h26_0 => decide
        refine' SA.take 8 (by kernel_rfl) rfl rfl rfl (Wanted.plain rfl) zsL (by first | exact View.le_refl _ | assumption) (Pur.load1 rfl ty_3 ?h27_0) ?k27
        case h27_0 => first | (apply Rd.own1; exact zmE; rfl) | (apply Rd.own1; exact zmE; assumption) | (apply Rd.own_map; exact zmE; assumption) | exact RdV.rd (by assumption) | (apply Rd.own1; exact zmE; exact get_row (by assumption) (by first | assumption | omega)) | (apply RdV.rd; apply RdV.idx (i := 0); assumption; rfl)
        refine' SA.takeP 9 (by kernel_rfl) rfl rfl rfl (Wanted.plain rfl) (fun _ _ => Pur.indexAddr (i := T1.toNat) (eqA (hel (by omega))) (by rw [Int.toNat_of_nonneg hx1]; rfl) sl_23 ?h28_0) ?k28
        case h28_0 => exact hx1l
        refine SA.takeP 10 (by kernel_rfl) rfl rfl rfl (Wanted.plain rfl) (fun _ _ => Pur.fieldAddr rfl fo_37_0) ?_
        refine' SA.take 11 (by kernel_rfl) rfl rfl rfl (Wanted.plain rfl) zsL (by first | exact View.le_refl _ | assumption) (Pur.loadN rfl ty_31 ?h29_0 ?h29_1) ?k29
        case h29_0 => apply RdV.rd; apply RdV.sub0; exact hrd1; exact Sub.ent_hash _ _ _ _ _
        case h29_1 => first | rfl | assumption
        refine SA.two 12 13 (by kernel_rfl) ?_ ?_
        · refine SStep.new 12 rfl rfl rfl (Wanted.plain rfl) (New.alloc zc_31) (.inr ⟨zsL, (by first | exact View.le_refl _ | assumption)⟩) (fun b8 => ?_)
          refine SA.new 13 rfl rfl rfl (Wanted.plain rfl) (by kernel_rfl) (New.alloc zc_31) (.inr ⟨zsL, (by first | exact View.le_refl _ | assumption)⟩) (fun b9 => ?_)
          refine' SA.run 14 rfl (fun _ e => by cases e) (Wanted.plain rfl) (by kernel_rfl) (Run.storeAll rfl rfl ty_31 ?h30_0 (by first | rfl | assumption) ?h30_1 (by first | rfl | assumption)) (.inr ⟨?h30_2, (by first | exact View.le_refl _ | assumption)⟩) ?k30
          case h30_0 => repeat (first | exact Part.one | exact Part.here | apply Part.cons | apply Part.app)
          case h30_1 => first | rfl | assumption
          case h30_2 => exact zsL
          refine' SA.run 15 rfl (fun _ e => by cases e) (Wanted.plain rfl) (by kernel_rfl) (Run.storeAll rfl rfl ty_31 ?h31_0 (by first | rfl | assumption) ?h31_1 (by first | rfl | assumption)) (.inl (by decide)) ?k31
          case h31_0 => repeat (first | exact Part.one | exact Part.here | apply Part.cons | apply Part.app)
          case h31_1 => first | rfl | assumption
          refine SA.done (by kernel_rfl) ?_
          exact WQ.thnK (KM _ _ _ ⟨b8, b9, rfl, rfl, rfl⟩) zcV zsL
        · refine SStep.new 13 rfl rfl rfl (Wanted.plain rfl) (New.alloc zc_31) (.inr ⟨zsL, (by first | exact View.le_refl _ | assumption)⟩) (fun b9 => ?_)
          refine SA.new 12 rfl rfl rfl (Wanted.plain rfl) (by kernel_rfl) (New.alloc zc_31) (.inr ⟨zsL, (by first | exact View.le_refl _ | assumption)⟩) (fun b8 => ?_)
          refine' SA.run 14 rfl (fun _ e => by cases e) (Wanted.plain rfl) (by kernel_rfl) (Run.storeAll rfl rfl ty_31 ?h32_0 (by first | rfl | assumption) ?h32_1 (by first | rfl | assumption)) (.inr ⟨?h32_2, (by first | exact View.le_refl _ | assumption)⟩) ?k32
          case h32_0 => repeat (first | exact Part.one | exact Part.here | apply Part.cons | apply Part.app)
          case h32_1 => first | rfl | assumption
          case h32_2 => exact zsL
          refine' SA.run 15 rfl (fun _ e => by cases e) (Wanted.plain rfl) (by kernel_rfl) (Run.storeAll rfl rfl ty_31 ?h33_0 (by first | rfl | assumption) ?h33_1 (by first | rfl | assumption)) (.inl (by decide)) ?k33
          case h33_0 => repeat (first | exact Part.one | exact Part.here | apply Part.cons | apply Part.app)
          case h33_1 => first | rfl | assumption
          refine SA.done (by kernel_rfl) ?_
          refine WQ.perm (H0 := (b9, rowO 31 (hashCells e1.id)) :: (b8, rowO 31 (hashCells e0.id)) :: (b3, rowO 64 [.int .i64 T0, .int .i64 T1]) :: Hr) ?_ (List.Perm.swap _ _ _)
          exact WQ.thnK (KM _ _ _ ⟨b8, b9, rfl, rfl, rfl⟩) zcV zsL
      · rintro _ σ Hr ⟨b8, b9, rfl, rfl, rfl⟩
        refine WC.seq ?_
        refine WC.draw 8 8 ([(b9, rowO 31 (hashCells e1.id)), (b8, rowO 31 (hashCells e0.id)), (b3, rowO 64 [.int .i64 T0, .int .i64 T1])]) mixed (by kernel_rfl) rfl ?_
        refine SA.take 0 (by kernel_rfl) rfl rfl rfl (Wanted.plain rfl) zsL (by first | exact View.le_refl _ | assumption) (Pur.move rfl) ?_
        refine' SA.take 1 (by kernel_rfl) rfl rfl rfl (Wanted.plain rfl) zsL (by first | exact View.le_refl _ | assumption) (Pur.loadN rfl ty_31 ?h34_0 ?h34_1) ?k34
        case h34_0 => first | (apply Rd.own_sub; exact zmE; exact Sub.refl _) | (apply RdV.rd; assumption)
        case h34_1 => first | rfl | assumption
        refine SA.take 3 (by kernel_rfl) rfl rfl rfl (Wanted.plain rfl) zsL (by first | exact View.le_refl _ | assumption) (Pur.move rfl) ?_
        refine' SA.take 4 (by kernel_rfl) rfl rfl rfl (Wanted.plain rfl) zsL (by first | exact View.le_refl _ | assumption) (Pur.loadN rfl ty_31 ?h35_0 ?h35_1) ?k35
        case h35_0 => first | (apply Rd.own_sub; exact zmE; exact Sub.refl _) | (apply RdV.rd; assumption)
        case h35_1 => first | rfl | assumption
        refine SA.callP 2 rfl rfl (Wanted.plain rfl) (by kernel_rfl) rfl Try.call23 zsL (by first | exact View.le_refl _ | assumption) ((past_NumberK _ _ (ordE l) e0.id k1 hp2 he0H hk1)) ?_
        refine SA.callP 5 rfl rfl (Wanted.plain rfl) (by kernel_rfl) rfl Try.call23 zsL (by first | exact View.le_refl _ | assumption) ((past_NumberK _ _ (ordE l) e1.id k2 hp2 he1H hk2)) ?_
        refine SA.take 6 (by kernel_rfl) rfl rfl rfl (Wanted.plain rfl) zsL (by first | exact View.le_refl _ | assumption) (Pur.assign rfl) ?_
        refine SA.take 7 (by kernel_rfl) rfl rfl rfl (Wanted.plain rfl) zsL (by first | exact View.le_refl _ | assumption) (Pur.assign rfl) ?_
        refine SA.done (by kernel_rfl) ?_
        refine WQ.thn ?_
        refine WC.seq ?_
        refine WC.region ?_
        refine WL.pur (Pur.move rfl) ?_
        refine' WL.pur (Pur.loadN rfl ty_31 ?h36_0 ?h36_1) ?k36
        case h36_0 => first | (apply Rd.own_sub; exact zmE; exact Sub.refl _) | (apply RdV.rd; assumption)
        case h36_1 => first | rfl | assumption
        refine' WL.pur (Pur.loadN rfl ty_31 ?h37_0 ?h37_1) ?k37
        case h37_0 => first | (apply Rd.own_sub; exact zmE; exact Sub.refl _) | (apply RdV.rd; assumption)
        case h37_1 => first | rfl | assumption
        refine WL.call (H0 := []) (Hr := (b9, _) :: (b8, _) :: (b3, _) :: Hr) rfl Try.call26 (List.Perm.refl _) (past_CommonK _ _ (ordE l) e0.id e1.id hp2 ho he0H he1H hall1 hall2) ?_
        rintro _ σ3 _ ⟨⟨sv3, rfl, hC3⟩, rfl⟩ hle3
        rw [List.nil_append]
        refine WL.pur (Pur.move rfl) ?_
        first | refine WL.pur (Pur.ex2_0 rfl) ?_ | refine WL.pur (Pur.ex3_0 rfl) ?_ | refine WL.pur (Pur.extractNext rfl) ?_ | refine WL.pur (Pur.extract rfl rfl) ?_
        first | refine WL.pur (Pur.ex2_1 rfl) ?_ | refine WL.pur (Pur.ex3_1 rfl) ?_ | refine WL.pur (Pur.extract rfl rfl) ?_
        refine WL.pur (Pur.assign rfl) ?_
        refine WL.pur (Pur.assign rfl) ?_
        refine WL.nil ?_
        refine WQ.thn ?_
        refine WC.seq ?_
        refine WC.region ?_
        refine WL.pur (Pur.move rfl) ?_
        refine' WL.pur (Pur.loadN rfl ty_31 ?h38_0 ?h38_1) ?k38
        case h38_0 => first | (apply Rd.own_sub; exact zmE; exact Sub.refl _) | (apply RdV.rd; assumption)
        case h38_1 => first | rfl | assumption
        refine' WL.pur (Pur.loadN rfl ty_31 ?h39_0 ?h39_1) ?k39
        case h39_0 => first | (apply Rd.own_sub; exact zmE; exact Sub.refl _) | (apply RdV.rd; assumption)
        case h39_1 => first | rfl | assumption
        refine WL.call (H0 := []) (Hr := (b9, _) :: (b8, _) :: (b3, _) :: Hr) rfl Try.call26 (List.Perm.refl _) (past_CommonK _ _ (ordE l) e1.id e0.id (hp2.mono hle3) ho he1H he0H hall2 hall1) ?_
        rintro _ σ4 _ ⟨⟨sv4, rfl, hD4⟩, rfl⟩ hle4
        rw [List.nil_append]
        have hC4 := hC3.mono eHash_mono hle4
        rw [topsN_congr (p := bothP (ordE l) e1.id e0.id) (q := bothP (ordE l) e0.id e1.id) (fun j => And.comm)] at hD4
        have hle24 := View.le_trans hle3 hle4
        have hp4 := hp2.mono hle24
        have hdd := hD4
        obtain ⟨da, dc, rfl, _, _⟩ := hdd.shape
        obtain ⟨ca, cc, rfl, hcc1, hcb⟩ := hC4.shape
        obtain ⟨cb, coff, hec⟩ := addr_of hC4
        have hris := sortN_rises (topsN_nodup ho (bothP (ordE l) e0.id e1.id))
        have hCl : (sortN (topsN (ordE l) (bothP (ordE l) e0.id e1.id) (ordE l).length)).length ≤ (ordE l).length := by rw [(sortN_perm _).length_eq]; exact topsN_len _ _ _
        refine WL.pur (Pur.move rfl) ?_
        first | refine WL.pur (Pur.ex2_0 rfl) ?_ | refine WL.pur (Pur.ex3_0 rfl) ?_ | refine WL.pur (Pur.extractNext rfl) ?_ | refine WL.pur (Pur.extract rfl rfl) ?_
        first | refine WL.pur (Pur.ex2_1 rfl) ?_ | refine WL.pur (Pur.ex3_1 rfl) ?_ | refine WL.pur (Pur.extract rfl rfl) ?_
        refine WL.pur (Pur.assign rfl) ?_
        refine WL.pur (Pur.assign rfl) ?_
        refine WL.nil ?_
        refine WQ.thn ?_
        refine WC.seq ?_
        refine WC.seq ?_
        refine WC.region ?_
        refine WL.pur (Pur.move rfl) ?_
        refine' WL.pur (Pur.bin rfl rfl ?h40_0) ?k40
        case h40_0 => first | exact Bin.ltN (b := 0) | exact Bin.ltI | exact Bin.ltS
        refine WL.pur (Pur.move rfl) ?_
        refine' WL.orp (u := 97) (t := 100) rfl ?h41_0 ?h41_1 ?h41_2 rfl ?k41
        case h41_0 =>
          intro hg97 K97
          refine WL.gpur (u := 97) rfl rfl (gF hg97) (Pur.move rfl) ?_
          refine' WL.gpur (u := 97) rfl rfl (gF hg97) (Pur.bin rfl rfl ?h42_0) ?k42
          case h42_0 => first | exact Bin.ltN (b := 0) | exact Bin.ltI | exact Bin.ltS
          exact K97 _ zcR rfl
        case h41_1 =>
          intro hg97 K97
          refine WL.gskip (u := 97) rfl rfl (sF hg97) ?_
          refine WL.gskip (u := 97) rfl rfl (sF hg97) ?_
          exact K97 _ zcR
        case h41_2 => exact Wanted.plain rfl
        refine WL.pur (Pur.move rfl) ?_
        refine' WL.orp (u := 101) (t := 104) rfl ?h43_0 ?h43_1 ?h43_2 rfl ?k43
        case h43_0 =>
          intro hg101 K101
          refine WL.gpur (u := 101) rfl rfl (gF hg101) (Pur.move rfl) ?_
          refine' WL.gpur (u := 101) rfl rfl (gF hg101) (Pur.bin rfl rfl ?h44_0) ?k44
          case h44_0 => first | exact Bin.neN (b := 0) | exact Bin.neI
          exact K101 _ zcR rfl
        case h43_1 =>
          intro hg101 K101
          refine WL.gskip (u := 101) rfl rfl (sF hg101) ?_
          refine WL.gskip (u := 101) rfl rfl (sF hg101) ?_
          exact K101 _ zcR
        case h43_2 => exact Wanted.plain rfl
        refine WL.pur (Pur.move rfl) ?_
        refine' WL.orp (u := 105) (t := 108) rfl ?h45_0 ?h45_1 ?h45_2 rfl ?k45
        case h45_0 =>
          intro hg105 K105
          refine WL.gpur (u := 105) rfl rfl (gF hg105) (Pur.move rfl) ?_
          refine' WL.gpur (u := 105) rfl rfl (gF hg105) (Pur.bin rfl rfl ?h46_0) ?k46
          case h46_0 => first | exact Bin.neN (b := 0) | exact Bin.neI
          exact K105 _ zcR rfl
        case h45_1 =>
          intro hg105 K105
          refine WL.gskip (u := 105) rfl rfl (sF hg105) ?_
          refine WL.gskip (u := 105) rfl rfl (sF hg105) ?_
          exact K105 _ zcR
        case h45_2 => exact Wanted.plain rfl
        refine WL.pur (Pur.move rfl) ?_
        refine' WL.orp (u := 109) (t := 114) rfl ?h47_0 ?h47_1 ?h47_2 rfl ?k47
        case h47_0 =>
          intro hg109 K109
          refine WL.gpur (u := 109) rfl rfl (gF hg109) (Pur.move rfl) ?_
          refine WL.gpur (u := 109) rfl rfl (gF hg109) (Pur.move rfl) ?_
          refine WL.gcallP (u := 109) rfl rfl (gF hg109) rfl Try.call27 ((r1_Same _ _ _ _ _ hC4 hD4)) ?_
          first | refine WL.gpur (u := 109) rfl rfl (gF hg109) (Pur.not rfl) ?_ | refine WL.gpur (u := 109) rfl rfl (gF hg109) (Pur.notB rfl) ?_
          exact K109 _ zcR rfl
        case h47_1 =>
          intro hg109 K109
          refine WL.gskip (u := 109) rfl rfl (sF hg109) ?_
          refine WL.gskip (u := 109) rfl rfl (sF hg109) ?_
          refine WL.gskip (u := 109) rfl rfl (sF hg109) ?_
          refine WL.gskip (u := 109) rfl rfl (sF hg109) ?_
          exact K109 _ zcR
        case h47_2 => exact Wanted.plain rfl
        refine WL.pur (Pur.move rfl) ?_
        refine' WL.orp (u := 115) (t := 119) rfl ?h48_0 ?h48_1 ?h48_2 rfl ?k48
        case h48_0 =>
          intro hg115 K115
          refine WL.gpur (u := 115) rfl rfl (gF hg115) (Pur.move rfl) ?_
          refine WL.gcallP (u := 115) rfl rfl (gF hg115) rfl Try.call28 ((r1_Rising _ _ _ hC4)) ?_
          first | refine WL.gpur (u := 115) rfl rfl (gF hg115) (Pur.not rfl) ?_ | refine WL.gpur (u := 115) rfl rfl (gF hg115) (Pur.notB rfl) ?_
          exact K115 _ zcR rfl
        case h48_1 =>
          intro hg115 K115
          refine WL.gskip (u := 115) rfl rfl (sF hg115) ?_
          refine WL.gskip (u := 115) rfl rfl (sF hg115) ?_
          refine WL.gskip (u := 115) rfl rfl (sF hg115) ?_
          exact K115 _ zcR
        case h48_2 => exact Wanted.plain rfl
        refine WL.nil ?_
        refine WQ.thn ?_
        first | refine WC.cond rfl (fun hc3 => ?_) (fun hc3 => ?_) | refine WC.condB rfl (fun hc3 => ?_) (fun hc3 => ?_)
        · rcases hc3 with ((((hc | hc) | hc) | hc) | hc) | hc
          · omega
          · omega
          · exact absurd rfl hc
          · exact absurd rfl hc
          · exact absurd rfl hc
          · exact absurd hris hc
        · refine WC.skip ?_
          refine WQ.thn ?_
          refine WC.seq ?_
          refine WC.seq ?_
          refine WC.draw 22 22 ([(b9, rowO 31 (hashCells e1.id)), (b8, rowO 31 (hashCells e0.id)), (b3, rowO 64 [.int .i64 T0, .int .i64 T1])]) mixed (by kernel_rfl) rfl ?_
          refine SA.take 0 (by kernel_rfl) rfl rfl rfl (Wanted.plain rfl) zsL (by first | exact View.le_refl _ | assumption) (Pur.move rfl) ?_
          refine SA.take 1 (by kernel_rfl) rfl rfl rfl (Wanted.plain rfl) zsL (by first | exact View.le_refl _ | assumption) (Pur.move rfl) ?_
          refine' SA.take 2 (by kernel_rfl) rfl rfl rfl (Wanted.plain rfl) zsL (by first | exact View.le_refl _ | assumption) (Pur.bin rfl rfl ?h49_0) ?k49
          case h49_0 => first | exact Bin.eqN | exact Bin.eqI
          refine SA.take 3 (by kernel_rfl) rfl rfl rfl (Wanted.plain rfl) zsL (by first | exact View.le_refl _ | assumption) (Pur.move rfl) ?_
          refine' SA.orp 8 (u := 123) rfl ?h50_0 ?h50_1 ?h50_2 rfl zsL (View.le_refl _) ?h50_3 rfl ?k50
          case h50_0 =>
            intro hg123 K123
            refine SA.take 4 (by kernel_rfl) rfl rfl rfl (Wanted.guard (u := 123) rfl rfl rfl (gF hg123)) zsL (by first | exact View.le_refl _ | assumption) (Pur.move rfl) ?_
            refine SA.take 5 (by kernel_rfl) rfl rfl rfl (Wanted.guard (u := 123) rfl rfl rfl (gF hg123)) zsL (by first | exact View.le_refl _ | assumption) (Pur.move rfl) ?_
            refine SA.take 6 (by kernel_rfl) rfl rfl rfl (Wanted.guard (u := 123) rfl rfl rfl (gF hg123)) zsL (by first | exact View.le_refl _ | assumption) (Pur.move rfl) ?_
            refine SA.callP 7 rfl rfl (Wanted.guard (u := 123) rfl rfl rfl (gF hg123)) (by kernel_rfl) rfl Try.call25 zsL (by first | exact View.le_refl _ | assumption) ((past_Sees _ _ (ordE l) k1 k2 hp4 ho hk2l (by omega))) ?_
            exact K123 _ zcR rfl
          case h50_1 =>
            intro hg123 K123
            refine SA.gskip 4 (u := 123) (by kernel_rfl) rfl rfl rfl rfl rfl rfl (sF hg123) zsL (by first | exact View.le_refl _ | assumption) ?_
            refine SA.gskip 5 (u := 123) (by kernel_rfl) rfl rfl rfl rfl rfl rfl (sF hg123) zsL (by first | exact View.le_refl _ | assumption) ?_
            refine SA.gskip 6 (u := 123) (by kernel_rfl) rfl rfl rfl rfl rfl rfl (sF hg123) zsL (by first | exact View.le_refl _ | assumption) ?_
            refine SA.gskip 7 (u := 123) (by kernel_rfl) rfl rfl rfl rfl rfl rfl (sF hg123) zsL (by first | exact View.le_refl _ | assumption) ?_
            exact K123 _ zcR
          case h50_2 => kernel_rfl
          case h50_3 => exact Wanted.plain rfl
          refine SA.take 9 (by kernel_rfl) rfl rfl rfl (Wanted.plain rfl) zsL (by first | exact View.le_refl _ | assumption) (Pur.move rfl) ?_
          refine' SA.andp 21 (u := 129) rfl ?h51_0 ?h51_1 ?h51_2 rfl zsL (View.le_refl _) ?h51_3 rfl ?k51
          case h51_0 =>
            intro hg129 K129
            have hcc := common_one ho hk1 hk2 (hg129.imp (fun h => by omega) id)
            refine SA.take 10 (by kernel_rfl) rfl rfl rfl (Wanted.guard (u := 129) rfl rfl rfl (gT hg129)) zsL (by first | exact View.le_refl _ | assumption) (Pur.move rfl) ?_
            refine SA.take 11 (by kernel_rfl) rfl rfl rfl (Wanted.guard (u := 129) rfl rfl rfl (gT hg129)) zsL (by first | exact View.le_refl _ | assumption) (Pur.len rfl isSlice_32) ?_
            refine' SA.take 12 (by kernel_rfl) rfl rfl rfl (Wanted.guard (u := 129) rfl rfl rfl (gT hg129)) zsL (by first | exact View.le_refl _ | assumption) (Pur.bin rfl rfl ?h52_0) ?k52
            case h52_0 => first | exact Bin.eqN (b := 1) | exact Bin.eqI
            refine SA.take 13 (by kernel_rfl) rfl rfl rfl (Wanted.guard (u := 129) rfl rfl rfl (gT hg129)) zsL (by first | exact View.le_refl _ | assumption) (Pur.move rfl) ?_
            refine' SA.andp 19 (u := 133) rfl ?h53_0 ?h53_1 ?h53_2 rfl zsL (View.le_refl _) ?h53_3 rfl ?k53
            case h53_0 =>
              intro hg133 K133
              obtain ⟨hzH, hzr, hzg⟩ := hash_rdD hC4 hec (i := 0) (by omega)
              refine SA.take 14 (by kernel_rfl) rfl rfl rfl (Wanted.guard (u := 133) rfl rfl rfl (gT hg133)) zsL (by first | exact View.le_refl _ | assumption) (Pur.move rfl) ?_
              refine' SA.take 15 (by kernel_rfl) rfl rfl rfl (Wanted.guard (u := 133) rfl rfl rfl (gT hg133)) zsL (by first | exact View.le_refl _ | assumption) (Pur.indexAddr (i := 0) (eqA (hec (by omega))) rfl sl_32 ?h54_0) ?k54
              case h54_0 => omega
              refine' SA.take 16 (by kernel_rfl) rfl rfl rfl (Wanted.guard (u := 133) rfl rfl rfl (gT hg133)) zsL (by first | exact View.le_refl _ | assumption) (Pur.loadN rfl ty_31 ?h55_0 ?h55_1) ?k55
              case h55_0 => exact RdV.rd hzr
              case h55_1 => first | rfl | assumption
              refine' SA.take 17 (by kernel_rfl) rfl rfl rfl (Wanted.guard (u := 133) rfl rfl rfl (gT hg133)) zsL (by first | exact View.le_refl _ | assumption) (Pur.loadN rfl ty_31 ?h56_0 ?h56_1) ?k56
              case h56_0 => first | (apply Rd.own_sub; exact zmE; exact Sub.refl _) | (apply RdV.rd; assumption)
              case h56_1 => first | rfl | assumption
              refine' SA.take 18 (by kernel_rfl) rfl rfl rfl (Wanted.guard (u := 133) rfl rfl rfl (gT hg133)) zsL (by first | exact View.le_refl _ | assumption) (Pur.bin rfl rfl ?h57_0) ?k57
              case h57_0 => exact Bin.eqH isHash_31 hzH he0H
              exact K133 _ zcR rfl
            case h53_1 =>
              intro hg133 K133
              refine SA.gskip 14 (u := 133) (by kernel_rfl) rfl rfl rfl rfl rfl rfl (sT hg133) zsL (by first | exact View.le_refl _ | assumption) ?_
              refine SA.gskip 15 (u := 133) (by kernel_rfl) rfl rfl rfl rfl rfl rfl (sT hg133) zsL (by first | exact View.le_refl _ | assumption) ?_
              refine SA.gskip 16 (u := 133) (by kernel_rfl) rfl rfl rfl rfl rfl rfl (sT hg133) zsL (by first | exact View.le_refl _ | assumption) ?_
              refine SA.gskip 17 (u := 133) (by kernel_rfl) rfl rfl rfl rfl rfl rfl (sT hg133) zsL (by first | exact View.le_refl _ | assumption) ?_
              refine SA.gskip 18 (u := 133) (by kernel_rfl) rfl rfl rfl rfl rfl rfl (sT hg133) zsL (by first | exact View.le_refl _ | assumption) ?_
              exact K133 _ zcR
            case h53_2 => kernel_rfl
            case h53_3 => exact Wanted.guard (u := 129) rfl rfl rfl (gT hg129)
            first | refine SA.take 20 (by kernel_rfl) rfl rfl rfl (Wanted.guard (u := 129) rfl rfl rfl (gT hg129)) zsL (by first | exact View.le_refl _ | assumption) (Pur.not rfl) ?_ | refine SA.take 20 (by kernel_rfl) rfl rfl rfl (Wanted.guard (u := 129) rfl rfl rfl (gT hg129)) zsL (by first | exact View.le_refl _ | assumption) (Pur.notB rfl) ?_
            exact K129 _ zcR rfl
          case h51_1 =>
            intro hg129 K129
            refine SA.gskip 10 (u := 129) (by kernel_rfl) rfl rfl rfl rfl rfl rfl (sT hg129) zsL (by first | exact View.le_refl _ | assumption) ?_
            refine SA.gskip 11 (u := 129) (by kernel_rfl) rfl rfl rfl rfl rfl rfl (sT hg129) zsL (by first | exact View.le_refl _ | assumption) ?_
            refine SA.gskip 12 (u := 129) (by kernel_rfl) rfl rfl rfl rfl rfl rfl (sT hg129) zsL (by first | exact View.le_refl _ | assumption) ?_
            refine SA.gskip 13 (u := 129) (by kernel_rfl) rfl rfl rfl rfl rfl rfl (sT hg129) zsL (by first | exact View.le_refl _ | assumption) ?_
            refine SA.gskipU 14 (u := 133) (by kernel_rfl) rfl rfl rfl rfl rfl rfl zsL (by first | exact View.le_refl _ | assumption) ?_
            refine SA.gskipU 15 (u := 133) (by kernel_rfl) rfl rfl rfl rfl rfl rfl zsL (by first | exact View.le_refl _ | assumption) ?_
            refine SA.gskipU 16 (u := 133) (by kernel_rfl) rfl rfl rfl rfl rfl rfl zsL (by first | exact View.le_refl _ | assumption) ?_
            refine SA.gskipU 17 (u := 133) (by kernel_rfl) rfl rfl rfl rfl rfl rfl zsL (by first | exact View.le_refl _ | assumption) ?_
            refine SA.gskipU 18 (u := 133) (by kernel_rfl) rfl rfl rfl rfl rfl rfl zsL (by first | exact View.le_refl _ | assumption) ?_
            refine SA.gskip 19 (u := 129) (by kernel_rfl) rfl rfl rfl rfl rfl rfl (sT hg129) zsL (by first | exact View.le_refl _ | assumption) ?_
            refine SA.gskip 20 (u := 129) (by kernel_rfl) rfl rfl rfl rfl rfl rfl (sT hg129) zsL (by first | exact View.le_refl _ | assumption) ?_
            exact K129 _ zcR
          case h51_2 => kernel_rfl
          case h51_3 => exact Wanted.plain rfl
          refine SA.done (by kernel_rfl) ?_
          refine WQ.thn ?_
          first | refine WC.cond rfl (fun hc4 => ?_) (fun hc4 => ?_) | refine WC.condB rfl (fun hc4 => ?_) (fun hc4 => ?_)
          · have hcc := common_one ho hk1 hk2 (hc4.1.imp (fun h => by omega) id)
            refine absurd ?_ hc4.2
            rw [hcc]
            exact ⟨rfl, rfl⟩
          · refine WC.skip ?_
            refine WQ.thn ?_
            refine WC.seq ?_
            refine WC.seq ?_
            refine WC.region ?_
            refine WL.pur (Pur.move rfl) ?_
            refine WL.pur (Pur.len rfl isSlice_32) ?_
            refine WL.pur (Pur.move rfl) ?_
            refine WL.nil ?_
            refine WQ.thn ?_
            refine WC.block ?_
            refine WC.loop (fun j m σ' H' => ∃ i : Nat, j = (sortN (topsN (ordE l) (bothP (ordE l) e0.id e1.id) (ordE l).length)).length - i ∧ i ≤ (sortN (topsN (ordE l) (bothP (ordE l) e0.id e1.id) (ordE l).length)).length ∧ m = [(5, .pointer (some ⟨pb, 0, none⟩)), (8, .pointer (some ⟨b8, 0, none⟩)), (9, .pointer (some ⟨b9, 0, none⟩)), (10, .int .i64 (k1 : Int)), (11, .int .i64 (k2 : Int)), (12, .slice ca (sortN (topsN (ordE l) (bothP (ordE l) e0.id e1.id) (ordE l).length)).length cc), (142, .slice ca (sortN (topsN (ordE l) (bothP (ordE l) e0.id e1.id) (ordE l).length)).length cc), (143, .int .i64 ((sortN (topsN (ordE l) (bothP (ordE l) e0.id e1.id) (ordE l).length)).length : Int)), (144, .int .i64 (i : Int))] ∧ σ' = σ4 ∧ H' = (b9, rowO 31 (hashCells e1.id)) :: (b8, rowO 31 (hashCells e0.id)) :: (b3, rowO 64 [.int .i64 T0, .int .i64 T1]) :: Hr) ⟨0, rfl, by omega, rfl, rfl, rfl⟩ zcV zsL ?_
            rintro _ _ σ Hr ⟨i, rfl, hi, rfl, rfl, rfl⟩
            refine WC.seq ?_
            refine WC.region ?_
            refine' WL.pur (Pur.bin rfl rfl ?h58_0) ?k58
            case h58_0 => first | exact Bin.ltN | exact Bin.ltI | exact Bin.ltS
            refine WL.nil ?_
            refine WQ.thn ?_
            refine WC.seq ?_
            first | refine WC.cond rfl (fun hc5 => ?_) (fun hc5 => ?_) | refine WC.condB rfl (fun hc5 => ?_) (fun hc5 => ?_)
            · obtain ⟨hxH, hxr, hxg⟩ := hash_rdD hC4 hec (i := i) hc5
              have hxm := List.mem_of_getElem? hxg
              rw [(sortN_perm _).mem_iff, mem_topsN] at hxm
              obtain ⟨kx, hkxl, hkt, hkid⟩ := hxm
              have hkx := idx_idAt ho hkxl
              rw [hkid] at hkx
              have hkb := (bothP_iff hk1 hk2 kx).1 hkt.1
              refine WC.skip ?_
              refine WQ.thn ?_
              refine WC.seq ?_
              refine WC.block ?_
              refine WC.seq ?_
              refine WC.region ?_
              refine' WL.pur (Pur.indexAddr (eqA (hec (by omega))) rfl sl_32 ?h59_0) ?k59
              case h59_0 => omega
              refine' WL.pur (Pur.loadN rfl ty_31 ?h60_0 ?h60_1) ?k60
              case h60_0 => exact RdV.rd hxr
              case h60_1 => first | rfl | assumption
              refine WL.new (New.alloc zc_31) (fun b17 => ?_)
              refine' WL.run0 (Run.storeAll rfl rfl ty_31 ?h61_0 (by first | rfl | assumption) ?h61_1 (by first | rfl | assumption)) ?k61
              case h61_0 => repeat (first | exact Part.one | exact Part.here | apply Part.cons | apply Part.app)
              case h61_1 => first | rfl | assumption
              refine WL.nil ?_
              refine WQ.thn ?_
              refine WC.seq ?_
              refine WC.region ?_
              refine WL.pur (Pur.move rfl) ?_
              refine' WL.pur (Pur.loadN rfl ty_31 ?h62_0 ?h62_1) ?k62
              case h62_0 => first | (apply Rd.own_sub; exact zmE; exact Sub.refl _) | (apply RdV.rd; assumption)
              case h62_1 => first | rfl | assumption
              refine WL.callP rfl Try.call23 ((past_NumberK _ _ (ordE l) _ kx hp4 hxH hkx)) ?_
              refine WL.pur (Pur.assign rfl) ?_
              refine WL.nil ?_
              refine WQ.thn ?_
              refine WC.seq ?_
              refine WC.seq ?_
              refine WC.region ?_
              refine WL.pur (Pur.move rfl) ?_
              refine' WL.pur (Pur.bin rfl rfl ?h63_0) ?k63
              case h63_0 => first | exact Bin.ltN (b := 0) | exact Bin.ltI | exact Bin.ltS
              refine WL.pur (Pur.move rfl) ?_
              refine' WL.orp (u := 153) (t := 164) rfl ?h64_0 ?h64_1 ?h64_2 rfl ?k64
              case h64_0 =>
                intro hg153 K153
                refine WL.gpur (u := 153) rfl rfl (gF hg153) (Pur.move rfl) ?_
                refine WL.gpur (u := 153) rfl rfl (gF hg153) (Pur.move rfl) ?_
                refine' WL.gpur (u := 153) rfl rfl (gF hg153) (Pur.bin rfl rfl ?h65_0) ?k65
                case h65_0 => first | exact Bin.neN | exact Bin.neI
                refine WL.gpur (u := 153) rfl rfl (gF hg153) (Pur.move rfl) ?_
                refine' WL.andp (u := 157) (t := 163) rfl ?h66_0 ?h66_1 ?h66_2 rfl ?k66
                case h66_0 =>
                  intro hg157 K157
                  refine WL.gpur (u := 157) rfl rfl (gT hg157) (Pur.move rfl) ?_
                  refine WL.gpur (u := 157) rfl rfl (gT hg157) (Pur.move rfl) ?_
                  refine WL.gpur (u := 157) rfl rfl (gT hg157) (Pur.move rfl) ?_
                  refine WL.gcallP (u := 157) rfl rfl (gT hg157) rfl Try.call25 ((past_Sees _ _ (ordE l) kx k1 hp4 ho hk1l (by omega))) ?_
                  first | refine WL.gpur (u := 157) rfl rfl (gT hg157) (Pur.not rfl) ?_ | refine WL.gpur (u := 157) rfl rfl (gT hg157) (Pur.notB rfl) ?_
                  exact K157 _ zcR rfl
                case h66_1 =>
                  intro hg157 K157
                  refine WL.gskip (u := 157) rfl rfl (sT hg157) ?_
                  refine WL.gskip (u := 157) rfl rfl (sT hg157) ?_
                  refine WL.gskip (u := 157) rfl rfl (sT hg157) ?_
                  refine WL.gskip (u := 157) rfl rfl (sT hg157) ?_
                  refine WL.gskip (u := 157) rfl rfl (sT hg157) ?_
                  exact K157 _ zcR
                case h66_2 => exact Wanted.guard (u := 153) rfl rfl rfl (gF hg153)
                exact K153 _ zcR rfl
              case h64_1 =>
                intro hg153 K153
                refine WL.gskip (u := 153) rfl rfl (sF hg153) ?_
                refine WL.gskip (u := 153) rfl rfl (sF hg153) ?_
                refine WL.gskip (u := 153) rfl rfl (sF hg153) ?_
                refine WL.gskip (u := 153) rfl rfl (sF hg153) ?_
                refine WL.gskipU (u := 157) rfl rfl ?_
                refine WL.gskipU (u := 157) rfl rfl ?_
                refine WL.gskipU (u := 157) rfl rfl ?_
                refine WL.gskipU (u := 157) rfl rfl ?_
                refine WL.gskipU (u := 157) rfl rfl ?_
                refine WL.gskip (u := 153) rfl rfl (sF hg153) ?_
                exact K153 _ zcR
              case h64_2 => exact Wanted.plain rfl
              refine WL.pur (Pur.move rfl) ?_
              refine' WL.orp (u := 165) (t := 176) rfl ?h67_0 ?h67_1 ?h67_2 rfl ?k67
              case h67_0 =>
                intro hg165 K165
                refine WL.gpur (u := 165) rfl rfl (gF hg165) (Pur.move rfl) ?_
                refine WL.gpur (u := 165) rfl rfl (gF hg165) (Pur.move rfl) ?_
                refine' WL.gpur (u := 165) rfl rfl (gF hg165) (Pur.bin rfl rfl ?h68_0) ?k68
                case h68_0 => first | exact Bin.neN | exact Bin.neI
                refine WL.gpur (u := 165) rfl rfl (gF hg165) (Pur.move rfl) ?_
                refine' WL.andp (u := 169) (t := 175) rfl ?h69_0 ?h69_1 ?h69_2 rfl ?k69
                case h69_0 =>
                  intro hg169 K169
                  refine WL.gpur (u := 169) rfl rfl (gT hg169) (Pur.move rfl) ?_
                  refine WL.gpur (u := 169) rfl rfl (gT hg169) (Pur.move rfl) ?_
                  refine WL.gpur (u := 169) rfl rfl (gT hg169) (Pur.move rfl) ?_
                  refine WL.gcallP (u := 169) rfl rfl (gT hg169) rfl Try.call25 ((past_Sees _ _ (ordE l) kx k2 hp4 ho hk2l (by omega))) ?_
                  first | refine WL.gpur (u := 169) rfl rfl (gT hg169) (Pur.not rfl) ?_ | refine WL.gpur (u := 169) rfl rfl (gT hg169) (Pur.notB rfl) ?_
                  exact K169 _ zcR rfl
                case h69_1 =>
                  intro hg169 K169
                  refine WL.gskip (u := 169) rfl rfl (sT hg169) ?_
                  refine WL.gskip (u := 169) rfl rfl (sT hg169) ?_
                  refine WL.gskip (u := 169) rfl rfl (sT hg169) ?_
                  refine WL.gskip (u := 169) rfl rfl (sT hg169) ?_
                  refine WL.gskip (u := 169) rfl rfl (sT hg169) ?_
                  exact K169 _ zcR
                case h69_2 => exact Wanted.guard (u := 165) rfl rfl rfl (gF hg165)
                exact K165 _ zcR rfl
              case h67_1 =>
                intro hg165 K165
                refine WL.gskip (u := 165) rfl rfl (sF hg165) ?_
                refine WL.gskip (u := 165) rfl rfl (sF hg165) ?_
                refine WL.gskip (u := 165) rfl rfl (sF hg165) ?_
                refine WL.gskip (u := 165) rfl rfl (sF hg165) ?_
                refine WL.gskipU (u := 169) rfl rfl ?_
                refine WL.gskipU (u := 169) rfl rfl ?_
                refine WL.gskipU (u := 169) rfl rfl ?_
                refine WL.gskipU (u := 169) rfl rfl ?_
                refine WL.gskipU (u := 169) rfl rfl ?_
                refine WL.gskip (u := 165) rfl rfl (sF hg165) ?_
                exact K165 _ zcR
              case h67_2 => exact Wanted.plain rfl
              refine WL.nil ?_
              refine WQ.thn ?_
              first | refine WC.cond rfl (fun hc6 => ?_) (fun hc6 => ?_) | refine WC.condB rfl (fun hc6 => ?_) (fun hc6 => ?_)
              · rcases hc6 with (hc | hc) | hc
                · omega
                · exact (hkb.1.elim (fun h => hc.1 (by omega)) (fun h => hc.2 h)).elim
                · exact (hkb.2.elim (fun h => hc.1 (by omega)) (fun h => hc.2 h)).elim
              · refine WC.skip ?_
                refine WQ.thn ?_
                refine WC.seq ?_
                refine WC.region ?_
                refine WL.pur (Pur.move rfl) ?_
                refine WL.pur (Pur.len rfl isSlice_32) ?_
                refine WL.pur (Pur.move rfl) ?_
                refine WL.nil ?_
                refine WQ.thn ?_
                refine WC.block ?_
                refine WC.loop (fun j m σ' H' => ∃ i2 : Nat, j = (sortN (topsN (ordE l) (bothP (ordE l) e0.id e1.id) (ordE l).length)).length - i2 ∧ i2 ≤ (sortN (topsN (ordE l) (bothP (ordE l) e0.id e1.id) (ordE l).length)).length ∧ m = [(5, .pointer (some ⟨pb, 0, none⟩)), (8, .pointer (some ⟨b8, 0, none⟩)), (9, .pointer (some ⟨b9, 0, none⟩)), (10, .int .i64 (k1 : Int)), (11, .int .i64 (k2 : Int)), (12, .slice ca (sortN (topsN (ordE l) (bothP (ordE l) e0.id e1.id) (ordE l).length)).length cc), (142, .slice ca (sortN (topsN (ordE l) (bothP (ordE l) e0.id e1.id) (ordE l).length)).length cc), (143, .int .i64 ((sortN (topsN (ordE l) (bothP (ordE l) e0.id e1.id) (ordE l).length)).length : Int)), (144, .int .i64 (i : Int)), (18, .int .i64 (kx : Int)), (177, .slice ca (sortN (topsN (ordE l) (bothP (ordE l) e0.id e1.id) (ordE l).length)).length cc), (178, .int .i64 ((sortN (topsN (ordE l) (bothP (ordE l) e0.id e1.id) (ordE l).length)).length : Int)), (179, .int .i64 (i2 : Int))] ∧ σ' = σ ∧ H' = (b9, rowO 31 (hashCells e1.id)) :: (b8, rowO 31 (hashCells e0.id)) :: (b3, rowO 64 [.int .i64 T0, .int .i64 T1]) :: Hr) ⟨0, rfl, by omega, rfl, rfl, rfl⟩ zcV zsL ?_
                rintro _ _ σ Hr ⟨i2, rfl, hi2, rfl, rfl, rfl⟩
                refine WC.seq ?_
                refine WC.region ?_
                refine' WL.pur (Pur.bin rfl rfl ?h70_0) ?k70
                case h70_0 => first | exact Bin.ltN | exact Bin.ltI | exact Bin.ltS
                refine WL.nil ?_
                refine WQ.thn ?_
                refine WC.seq ?_
                first | refine WC.cond rfl (fun hc7 => ?_) (fun hc7 => ?_) | refine WC.condB rfl (fun hc7 => ?_) (fun hc7 => ?_)
                · obtain ⟨hyH, hyr, hyg⟩ := hash_rdD hC4 hec (i := i2) hc7
                  have hym := List.mem_of_getElem? hyg
                  rw [(sortN_perm _).mem_iff, mem_topsN] at hym
                  obtain ⟨ky, hkyl, hkyt, hkyid⟩ := hym
                  have hky := idx_idAt ho hkyl
                  rw [hkyid] at hky
                  refine WC.skip ?_
                  refine WQ.thn ?_
                  refine WC.seq ?_
                  refine WC.block ?_
                  refine WC.seq ?_
                  refine WC.region ?_
                  refine' WL.pur (Pur.indexAddr (eqA (hec (by omega))) rfl sl_32 ?h71_0) ?k71
                  case h71_0 => omega
                  refine' WL.pur (Pur.loadN rfl ty_31 ?h72_0 ?h72_1) ?k72
                  case h72_0 => exact RdV.rd hyr
                  case h72_1 => first | rfl | assumption
                  refine WL.new (New.alloc zc_31) (fun b20 => ?_)
                  refine' WL.run0 (Run.storeAll rfl rfl ty_31 ?h73_0 (by first | rfl | assumption) ?h73_1 (by first | rfl | assumption)) ?k73
                  case h73_0 => repeat (first | exact Part.one | exact Part.here | apply Part.cons | apply Part.app)
                  case h73_1 => first | rfl | assumption
                  refine WL.nil ?_
                  refine WQ.thn ?_
                  refine WC.seq ?_
                  refine WC.region ?_
                  refine WL.pur (Pur.move rfl) ?_
                  refine WL.pur (Pur.move rfl) ?_
                  refine WL.pur (Pur.move rfl) ?_
                  refine' WL.pur (Pur.loadN rfl ty_31 ?h74_0 ?h74_1) ?k74
                  case h74_0 => first | (apply Rd.own_sub; exact zmE; exact Sub.refl _) | (apply RdV.rd; assumption)
                  case h74_1 => first | rfl | assumption
                  refine WL.callP rfl Try.call23 ((past_NumberK _ _ (ordE l) _ ky hp4 hyH hky)) ?_
                  refine WL.callP rfl Try.call25 ((past_Sees _ _ (ordE l) kx ky hp4 ho hkyl (by omega))) ?_
                  refine WL.nil ?_
                  refine WQ.thn ?_
                  first | refine WC.cond rfl (fun hc8 => ?_) (fun hc8 => ?_) | refine WC.condB rfl (fun hc8 => ?_) (fun hc8 => ?_)
                  · exact absurd ⟨hkyt.1, hc8⟩ (hkt.2 ky hkyl)
                  · refine WC.skip ?_
                    refine WQ.blk ?_
                    refine WQ.thn ?_
                    refine WC.region ?_
                    refine' WL.pur (Pur.bin rfl rfl ?h75_0) ?k75
                    case h75_0 => first | (refine Bin.addN (b := 1) ?_; omega) | (refine Bin.addI ?_; omega)
                    refine WL.pur (Pur.move rfl) ?_
                    refine WL.nil ?_
                    refine WQ.back _ ⟨i2 + 1, rfl, by omega, rfl, rfl, rfl⟩ (by omega) zcV zsL
                · refine WC.exit ?_
                  refine WQ.thn_exit ?_
                  refine WQ.back_exit ?_
                  refine WQ.blk_here ?_
                  refine WQ.blk ?_
                  refine WQ.thn ?_
                  refine WC.region ?_
                  refine' WL.pur (Pur.bin rfl rfl ?h76_0) ?k76
                  case h76_0 => first | (refine Bin.addN (b := 1) ?_; omega) | (refine Bin.addI ?_; omega)
                  refine WL.pur (Pur.move rfl) ?_
                  refine WL.nil ?_
                  refine WQ.back _ ⟨i + 1, rfl, by omega, rfl, rfl, rfl⟩ (by omega) zcV zsL
            · refine WC.exit ?_
              refine WQ.thn_exit ?_
              refine WQ.back_exit ?_
              refine WQ.blk_here ?_
              refine WQ.thn ?_
              refine WC.seq ?_
              refine WC.region ?_
              refine WL.pur (Pur.move rfl) ?_
              refine' WL.pur (Pur.loadN rfl ty_31 ?h77_0 ?h77_1) ?k77
              case h77_0 => first | (apply Rd.own_sub; exact zmE; exact Sub.refl _) | (apply RdV.rd; assumption)
              case h77_1 => first | rfl | assumption
              refine' WL.pur (Pur.loadN rfl ty_31 ?h78_0 ?h78_1) ?k78
              case h78_0 => first | (apply Rd.own_sub; exact zmE; exact Sub.refl _) | (apply RdV.rd; assumption)
              case h78_1 => first | rfl | assumption
              refine WL.call (H0 := []) (Hr := (b9, _) :: (b8, _) :: (b3, _) :: Hr) rfl Try.call29 (List.Perm.refl _) (law11_since _ _ (ordE l) e0.id e1.id k1 k2 hp4 hone he0H he1H hk1 hk2) ?_
              rintro _ σ5 _ ⟨rfl, rfl⟩ hle5
              rw [List.nil_append]
              refine WL.pur (Pur.assign rfl) ?_
              refine WL.nil ?_
              refine WQ.thn ?_
              refine WC.ret ?_
              refine WQ.ret1 Try.results7 rfl [] zsL (View.le_trans hle1 (View.le_trans hle2 (View.le_trans hle24 hle5))) ?_
              rfl

end Go.Proofs.Ytgoooilgmabkmaa
