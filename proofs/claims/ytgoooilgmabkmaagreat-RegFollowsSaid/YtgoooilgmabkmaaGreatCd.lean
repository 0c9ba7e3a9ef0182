/-
  Contracts of the functions of the program and of its references: what each call hands back, from what is known and owned.
-/
import Derived.Test.YtgoooilgmabkmaaGreatCc
import Derived.Shelf.SortM.Plain
import Derived.Shelf.SortM.SortNone
import Derived.Test.YtgoooilgmabkmaaGreatRows
import Derived.WalkKit
import Derived.ProofKit
import Derived.OpenShut
import Derived.ShutString
import Derived.ChangeOld
import Derived.Below
set_option linter.unusedVariables false
set_option linter.unusedSimpArgs false
set_option linter.unusedSectionVars false
namespace Go.Proofs.YtgoooilgmabkmaaGreat
open Go Go.Sl
set_option linter.unusedVariables false
set_option linter.unusedSimpArgs false
set_option maxRecDepth 100000

theorem r11_opsOk {σ : View} {pv : Value} {L : List EntD} (h : R11V σ pv L) : ∀ i, ∀ o ∈ opsAt L i, o.ok := by
  intro i o ho
  obtain ⟨b, plv, psv, pqv, rfl, hr, hE, hS, hQ⟩ := h
  obtain ⟨ea, ec, rfl, _, _⟩ := hE.shape
  obtain ⟨b, off, _, hat⟩ := hE.rds
  unfold opsAt at ho
  split at ho
  · rename_i e he
    obtain ⟨vs, _, _, ⟨qv, ov, rfl, _, hNR⟩, _⟩ := hat i e he
    have hops := hNR.2.1
    obtain ⟨oa, oc, rfl, _, _⟩ := hops.shape
    obtain ⟨b2, off2, _, hat2⟩ := hops.rds
    obtain ⟨j, hj⟩ := List.getElem?_of_mem ho
    obtain ⟨_, _, _, ⟨_, h3⟩, _⟩ := hat2 j o hj
    exact h3
  · simp at ho

theorem r11_texts (n : Nat) :
    ∀ (l : List ByteArray) (σ : View) (lv : Value), l.length = n → Strs σ lv l → Tri Tryz.prog 119 #[lv] σ [] (fun v σ' H' => Strs σ' v (textsL l) ∧ H' = []) := by
  induction n using Nat.strongRecOn with
  | _ n ih =>
    intro l σ0 lv hn h
    have h' := h
    obtain ⟨la, lc, rfl, hlc, hlb⟩ := h.shape
    refine Tri.of_body [(0, .slice la l.length lc)] Tryz.func119 rfl Tryz.ntmps119 (by simp) rfl (fun Hr => ?_)
    rw [List.nil_append]
    refine WC.seq ?_
    refine WC.region ?_
    refine WL.pur (Pur.assign rfl) ?_
    refine WL.nil ?_
    refine WQ.thn ?_
    refine WC.seq ?_
    refine WC.seq ?_
    refine WC.region ?_
    refine WL.pur (Pur.move rfl) ?_
    refine WL.pur (Pur.len rfl isSlice_23) ?_
    refine' WL.pur (Pur.bin rfl rfl ?h1_0) ?k1
    case h1_0 => first | exact Bin.ltN (b := 2) | exact Bin.ltI | exact Bin.ltS
    refine WL.nil ?_
    refine WQ.thn ?_
    first | refine WC.cond rfl (fun hc0 => ?_) (fun hc0 => ?_) | refine WC.condB rfl (fun hc0 => ?_) (fun hc0 => ?_)
    · refine WC.seq ?_
      refine WC.region ?_
      refine WL.pur (Pur.move rfl) ?_
      refine WL.pur (Pur.assign rfl) ?_
      refine WL.nil ?_
      refine WQ.thn ?_
      refine WC.ret ?_
      refine WQ.thn_ret ?_
      refine WQ.ret1 Tryz.results119 rfl [] (by repeat (first | exact List.Sublist.refl _ | exact List.nil_sublist _ | apply List.Sublist.cons_cons | apply List.Sublist.cons | apply List.Sublist.append_left | exact List.sublist_append_right _ _)) (View.le_refl _) ?_
      exact ⟨by rw [textsL_one hc0]; exact h', rfl⟩
    · refine WC.skip ?_
      refine WQ.thn ?_
      refine WC.seq ?_
      refine WC.drawH 14 14 mixed (by kernel_rfl) rfl ?_
      refine SA.take 0 (by kernel_rfl) rfl rfl rfl (Wanted.plain rfl) (by repeat (first | exact List.Sublist.refl _ | exact List.nil_sublist _ | apply List.Sublist.cons_cons | apply List.Sublist.cons | apply List.Sublist.append_left | exact List.sublist_append_right _ _)) (by first | exact View.le_refl _ | assumption | exact View.le_trans hle1 hle2) (Pur.move rfl) ?_
      refine SA.take 1 (by kernel_rfl) rfl rfl rfl (Wanted.plain rfl) (by repeat (first | exact List.Sublist.refl _ | exact List.nil_sublist _ | apply List.Sublist.cons_cons | apply List.Sublist.cons | apply List.Sublist.append_left | exact List.sublist_append_right _ _)) (by first | exact View.le_refl _ | assumption | exact View.le_trans hle1 hle2) (Pur.move rfl) ?_
      refine SA.take 2 (by kernel_rfl) rfl rfl rfl (Wanted.plain rfl) (by repeat (first | exact List.Sublist.refl _ | exact List.nil_sublist _ | apply List.Sublist.cons_cons | apply List.Sublist.cons | apply List.Sublist.append_left | exact List.sublist_append_right _ _)) (by first | exact View.le_refl _ | assumption | exact View.le_trans hle1 hle2) (Pur.len rfl isSlice_23) ?_
      refine' SA.take 3 (by kernel_rfl) rfl rfl rfl (Wanted.plain rfl) (by repeat (first | exact List.Sublist.refl _ | exact List.nil_sublist _ | apply List.Sublist.cons_cons | apply List.Sublist.cons | apply List.Sublist.append_left | exact List.sublist_append_right _ _)) (by first | exact View.le_refl _ | assumption | exact View.le_trans hle1 hle2) (Pur.bin rfl rfl ?h2_0) ?k2
      case h2_0 => first | (refine Bin.quoN (b := 2) ?_ ?_ <;> omega)
      refine SA.take 4 (by kernel_rfl) rfl rfl rfl (Wanted.plain rfl) (by repeat (first | exact List.Sublist.refl _ | exact List.nil_sublist _ | apply List.Sublist.cons_cons | apply List.Sublist.cons | apply List.Sublist.append_left | exact List.sublist_append_right _ _)) (by first | exact View.le_refl _ | assumption | exact View.le_trans hle1 hle2) (Pur.sliceT rfl rfl sl_23 (by omega)) ?_
      refine SA.take 6 (by kernel_rfl) rfl rfl rfl (Wanted.plain rfl) (by repeat (first | exact List.Sublist.refl _ | exact List.nil_sublist _ | apply List.Sublist.cons_cons | apply List.Sublist.cons | apply List.Sublist.append_left | exact List.sublist_append_right _ _)) (by first | exact View.le_refl _ | assumption | exact View.le_trans hle1 hle2) (Pur.move rfl) ?_
      refine SA.take 7 (by kernel_rfl) rfl rfl rfl (Wanted.plain rfl) (by repeat (first | exact List.Sublist.refl _ | exact List.nil_sublist _ | apply List.Sublist.cons_cons | apply List.Sublist.cons | apply List.Sublist.append_left | exact List.sublist_append_right _ _)) (by first | exact View.le_refl _ | assumption | exact View.le_trans hle1 hle2) (Pur.move rfl) ?_
      refine SA.take 8 (by kernel_rfl) rfl rfl rfl (Wanted.plain rfl) (by repeat (first | exact List.Sublist.refl _ | exact List.nil_sublist _ | apply List.Sublist.cons_cons | apply List.Sublist.cons | apply List.Sublist.append_left | exact List.sublist_append_right _ _)) (by first | exact View.le_refl _ | assumption | exact View.le_trans hle1 hle2) (Pur.len rfl isSlice_23) ?_
      refine' SA.take 9 (by kernel_rfl) rfl rfl rfl (Wanted.plain rfl) (by repeat (first | exact List.Sublist.refl _ | exact List.nil_sublist _ | apply List.Sublist.cons_cons | apply List.Sublist.cons | apply List.Sublist.append_left | exact List.sublist_append_right _ _)) (by first | exact View.le_refl _ | assumption | exact View.le_trans hle1 hle2) (Pur.bin rfl rfl ?h3_0) ?k3
      case h3_0 => first | (refine Bin.quoN (b := 2) ?_ ?_ <;> omega)
      refine SA.take 10 (by kernel_rfl) rfl rfl rfl (Wanted.plain rfl) (by repeat (first | exact List.Sublist.refl _ | exact List.nil_sublist _ | apply List.Sublist.cons_cons | apply List.Sublist.cons | apply List.Sublist.append_left | exact List.sublist_append_right _ _)) (by first | exact View.le_refl _ | assumption | exact View.le_trans hle1 hle2) ((Pur.sliceX rfl rfl sl_23 (by omega) (by omega))) ?_
      refine SA.callR 5 (H1 := []) rfl rfl (Wanted.plain rfl) (by kernel_rfl) rfl Tryz.call119 (List.Perm.refl _) (.inr ⟨(by repeat (first | exact List.Sublist.refl _ | exact List.nil_sublist _ | apply List.Sublist.cons_cons | apply List.Sublist.cons | apply List.Sublist.append_left | exact List.sublist_append_right _ _)), View.le_refl _⟩) (ih (l.length / 2) (by omega) (l.take (l.length / 2)) _ _ (by rw [List.length_take]; omega) (h'.take (l.length / 2) (by omega))) ?_
      rintro v17 σ1 _ ⟨hA, rfl⟩ hle1
      rw [List.nil_append]
      refine SA.callR 11 (H1 := []) rfl rfl (Wanted.plain rfl) (by kernel_rfl) rfl Tryz.call119 (List.Perm.refl _) (.inr ⟨(by repeat (first | exact List.Sublist.refl _ | exact List.nil_sublist _ | apply List.Sublist.cons_cons | apply List.Sublist.cons | apply List.Sublist.append_left | exact List.sublist_append_right _ _)), hle1⟩) (ih (l.length - l.length / 2) (by omega) (l.drop (l.length / 2)) _ _ (by rw [List.length_drop]) ((h'.mono eStr_mono hle1).drop (l.length / 2) (by omega))) ?_
      rintro v23 σ2 _ ⟨hB, rfl⟩ hle2
      rw [List.nil_append]
      have hA2 := hA.mono eStr_mono hle2
      refine SA.take 12 (by kernel_rfl) rfl rfl rfl (Wanted.plain rfl) (by repeat (first | exact List.Sublist.refl _ | exact List.nil_sublist _ | apply List.Sublist.cons_cons | apply List.Sublist.cons | apply List.Sublist.append_left | exact List.sublist_append_right _ _)) (by first | exact View.le_refl _ | assumption | exact View.le_trans hle1 hle2) (Pur.assign rfl) ?_
      refine SA.take 13 (by kernel_rfl) rfl rfl rfl (Wanted.plain rfl) (by repeat (first | exact List.Sublist.refl _ | exact List.nil_sublist _ | apply List.Sublist.cons_cons | apply List.Sublist.cons | apply List.Sublist.append_left | exact List.sublist_append_right _ _)) (by first | exact View.le_refl _ | assumption | exact View.le_trans hle1 hle2) (Pur.assign rfl) ?_
      refine SA.done (by kernel_rfl) ?_
      refine WQ.thn ?_
      refine WC.seq ?_
      refine WC.region ?_
      refine WL.new (New.buildSlice0 sl_23) (fun b24 => ?_)
      refine WL.pur (Pur.assign rfl) ?_
      refine WL.nil ?_
      refine WQ.thn ?_
      refine WC.seq ?_
      refine WC.region ?_
      refine WL.pur (Pur.assign rfl) ?_
      refine WL.pur (Pur.assign rfl) ?_
      refine WL.nil ?_
      refine WQ.thn ?_
      refine WC.seq ?_
      refine WC.block ?_
      obtain ⟨aa, ac, rfl, hac, hab⟩ := hA2.shape
      obtain ⟨ba, bc, rfl, hbc, hbb⟩ := hB.shape
      obtain ⟨ab, aoff, hea⟩ := addr_of hA2
      obtain ⟨bb, boff, heb⟩ := addr_of hB
      have hAl : (textsL (l.take (l.length / 2))).length = l.length / 2 := by rw [textsL_len, List.length_take]; omega
      have hBl : (textsL (l.drop (l.length / 2))).length = l.length - l.length / 2 := by rw [textsL_len, List.length_drop]
      refine WC.loop (fun j m σ' H' => ∃ (i k : Nat) (out : List ByteArray) (sv : Value) (h : HList), j = (textsL (l.take (l.length / 2))).length + (textsL (l.drop (l.length / 2))).length - (i + k) ∧ i ≤ (textsL (l.take (l.length / 2))).length ∧ k ≤ (textsL (l.drop (l.length / 2))).length ∧ out.length = i + k ∧ SlO σ2 eStr 9 1 sv out h ∧ out ++ List.merge ((textsL (l.take (l.length / 2))).drop i) ((textsL (l.drop (l.length / 2))).drop k) leB = List.merge (textsL (l.take (l.length / 2))) (textsL (l.drop (l.length / 2))) leB ∧ m = [(3, .slice aa (textsL (l.take (l.length / 2))).length ac), (4, .slice ba (textsL (l.drop (l.length / 2))).length bc), (5, sv), (6, .int .i64 (i : Int)), (7, .int .i64 (k : Int))] ∧ σ' = σ2 ∧ H' = h ++ Hr) ⟨0, 0, [], _, [(b24, rowO 9 [])], rfl, by omega, by omega, rfl, row_nilS _ b24, by simp, rfl, rfl, rfl⟩ (by repeat (first | exact Covers.nil _ | refine Covers.cons rfl ?_)) (by repeat (first | exact List.Sublist.refl _ | exact List.nil_sublist _ | apply List.Sublist.cons_cons | apply List.Sublist.cons | apply List.Sublist.append_left | exact List.sublist_append_right _ _)) ?_
      rintro _ _ σ Hr ⟨i, k, out, sv, ho, rfl, hi, hk, hlen, hso, hout, rfl, rfl, rfl⟩
      refine WC.seq ?_
      refine WC.seq ?_
      refine WC.region ?_
      refine WL.pur (Pur.move rfl) ?_
      refine WL.pur (Pur.move rfl) ?_
      refine WL.pur (Pur.len rfl isSlice_23) ?_
      refine' WL.pur (Pur.bin rfl rfl ?h4_0) ?k4
      case h4_0 => first | exact Bin.ltN | exact Bin.ltI | exact Bin.ltS
      refine WL.pur (Pur.move rfl) ?_
      refine' WL.orp (u := 29) (t := 34) rfl ?h5_0 ?h5_1 ?h5_2 rfl ?k5
      case h5_0 =>
        intro hg29 K29
        refine WL.gpur (u := 29) rfl rfl (gF hg29) (Pur.move rfl) ?_
        refine WL.gpur (u := 29) rfl rfl (gF hg29) (Pur.move rfl) ?_
        refine WL.gpur (u := 29) rfl rfl (gF hg29) (Pur.len rfl isSlice_23) ?_
        refine' WL.gpur (u := 29) rfl rfl (gF hg29) (Pur.bin rfl rfl ?h6_0) ?k6
        case h6_0 => first | exact Bin.ltN | exact Bin.ltI | exact Bin.ltS
        exact K29 _ (by repeat (first | exact Covers.refl _ | refine Covers.push ?_ rfl)) rfl
      case h5_1 =>
        intro hg29 K29
        refine WL.gskip (u := 29) rfl rfl (sF hg29) ?_
        refine WL.gskip (u := 29) rfl rfl (sF hg29) ?_
        refine WL.gskip (u := 29) rfl rfl (sF hg29) ?_
        refine WL.gskip (u := 29) rfl rfl (sF hg29) ?_
        exact K29 _ (by repeat (first | exact Covers.refl _ | refine Covers.push ?_ rfl))
      case h5_2 => exact Wanted.plain rfl
      refine WL.nil ?_
      refine WQ.thn ?_
      first | refine WC.cond rfl (fun hc1 => ?_) (fun hc1 => ?_) | refine WC.condB rfl (fun hc1 => ?_) (fun hc1 => ?_)
      · refine WC.skip ?_
        refine WQ.thn ?_
        refine WC.block ?_
        refine WC.seq ?_
        refine WC.drawH 21 21 mixed (by kernel_rfl) rfl ?_
        refine SA.take 0 (by kernel_rfl) rfl rfl rfl (Wanted.plain rfl) (by repeat (first | exact List.Sublist.refl _ | exact List.nil_sublist _ | apply List.Sublist.cons_cons | apply List.Sublist.cons | apply List.Sublist.append_left | exact List.sublist_append_right _ _)) (by first | exact View.le_refl _ | assumption | exact View.le_trans hle1 hle2) (Pur.move rfl) ?_
        refine SA.take 1 (by kernel_rfl) rfl rfl rfl (Wanted.plain rfl) (by repeat (first | exact List.Sublist.refl _ | exact List.nil_sublist _ | apply List.Sublist.cons_cons | apply List.Sublist.cons | apply List.Sublist.append_left | exact List.sublist_append_right _ _)) (by first | exact View.le_refl _ | assumption | exact View.le_trans hle1 hle2) (Pur.move rfl) ?_
        refine SA.take 2 (by kernel_rfl) rfl rfl rfl (Wanted.plain rfl) (by repeat (first | exact List.Sublist.refl _ | exact List.nil_sublist _ | apply List.Sublist.cons_cons | apply List.Sublist.cons | apply List.Sublist.append_left | exact List.sublist_append_right _ _)) (by first | exact View.le_refl _ | assumption | exact View.le_trans hle1 hle2) (Pur.len rfl isSlice_23) ?_
        refine' SA.take 3 (by kernel_rfl) rfl rfl rfl (Wanted.plain rfl) (by repeat (first | exact List.Sublist.refl _ | exact List.nil_sublist _ | apply List.Sublist.cons_cons | apply List.Sublist.cons | apply List.Sublist.append_left | exact List.sublist_append_right _ _)) (by first | exact View.le_refl _ | assumption | exact View.le_trans hle1 hle2) (Pur.bin rfl rfl ?h7_0) ?k7
        case h7_0 => first | exact Bin.eqN | exact Bin.eqI
        refine SA.take 4 (by kernel_rfl) rfl rfl rfl (Wanted.plain rfl) (by repeat (first | exact List.Sublist.refl _ | exact List.nil_sublist _ | apply List.Sublist.cons_cons | apply List.Sublist.cons | apply List.Sublist.append_left | exact List.sublist_append_right _ _)) (by first | exact View.le_refl _ | assumption | exact View.le_trans hle1 hle2) (Pur.move rfl) ?_
        refine' SA.orp 20 (u := 39) rfl ?h8_0 ?h8_1 ?h8_2 rfl (by repeat (first | exact List.Sublist.refl _ | exact List.nil_sublist _ | apply List.Sublist.cons_cons | apply List.Sublist.cons | apply List.Sublist.append_left | exact List.sublist_append_right _ _)) (View.le_refl _) ?h8_3 rfl ?k8
        case h8_0 =>
          intro hg39 K39
          refine SA.take 5 (by kernel_rfl) rfl rfl rfl (Wanted.guard (u := 39) rfl rfl rfl (gF hg39)) (by repeat (first | exact List.Sublist.refl _ | exact List.nil_sublist _ | apply List.Sublist.cons_cons | apply List.Sublist.cons | apply List.Sublist.append_left | exact List.sublist_append_right _ _)) (by first | exact View.le_refl _ | assumption | exact View.le_trans hle1 hle2) (Pur.move rfl) ?_
          refine SA.take 6 (by kernel_rfl) rfl rfl rfl (Wanted.guard (u := 39) rfl rfl rfl (gF hg39)) (by repeat (first | exact List.Sublist.refl _ | exact List.nil_sublist _ | apply List.Sublist.cons_cons | apply List.Sublist.cons | apply List.Sublist.append_left | exact List.sublist_append_right _ _)) (by first | exact View.le_refl _ | assumption | exact View.le_trans hle1 hle2) (Pur.move rfl) ?_
          refine SA.take 7 (by kernel_rfl) rfl rfl rfl (Wanted.guard (u := 39) rfl rfl rfl (gF hg39)) (by repeat (first | exact List.Sublist.refl _ | exact List.nil_sublist _ | apply List.Sublist.cons_cons | apply List.Sublist.cons | apply List.Sublist.append_left | exact List.sublist_append_right _ _)) (by first | exact View.le_refl _ | assumption | exact View.le_trans hle1 hle2) (Pur.len rfl isSlice_23) ?_
          refine' SA.take 8 (by kernel_rfl) rfl rfl rfl (Wanted.guard (u := 39) rfl rfl rfl (gF hg39)) (by repeat (first | exact List.Sublist.refl _ | exact List.nil_sublist _ | apply List.Sublist.cons_cons | apply List.Sublist.cons | apply List.Sublist.append_left | exact List.sublist_append_right _ _)) (by first | exact View.le_refl _ | assumption | exact View.le_trans hle1 hle2) (Pur.bin rfl rfl ?h9_0) ?k9
          case h9_0 => first | exact Bin.ltN | exact Bin.ltI | exact Bin.ltS
          refine SA.take 9 (by kernel_rfl) rfl rfl rfl (Wanted.guard (u := 39) rfl rfl rfl (gF hg39)) (by repeat (first | exact List.Sublist.refl _ | exact List.nil_sublist _ | apply List.Sublist.cons_cons | apply List.Sublist.cons | apply List.Sublist.append_left | exact List.sublist_append_right _ _)) (by first | exact View.le_refl _ | assumption | exact View.le_trans hle1 hle2) (Pur.move rfl) ?_
          refine' SA.andp 19 (u := 44) rfl ?h10_0 ?h10_1 ?h10_2 rfl (by repeat (first | exact List.Sublist.refl _ | exact List.nil_sublist _ | apply List.Sublist.cons_cons | apply List.Sublist.cons | apply List.Sublist.append_left | exact List.sublist_append_right _ _)) (View.le_refl _) ?h10_3 rfl ?k10
          case h10_0 =>
            intro hg44 K44
            have hra := str_rd hA2 hea hg44
            have hrb := str_rd hB heb (show k < (textsL (l.drop (l.length / 2))).length by omega)
            refine SA.take 10 (by kernel_rfl) rfl rfl rfl (Wanted.guard (u := 44) rfl rfl rfl (gT hg44)) (by repeat (first | exact List.Sublist.refl _ | exact List.nil_sublist _ | apply List.Sublist.cons_cons | apply List.Sublist.cons | apply List.Sublist.append_left | exact List.sublist_append_right _ _)) (by first | exact View.le_refl _ | assumption | exact View.le_trans hle1 hle2) (Pur.move rfl) ?_
            refine SA.take 11 (by kernel_rfl) rfl rfl rfl (Wanted.guard (u := 44) rfl rfl rfl (gT hg44)) (by repeat (first | exact List.Sublist.refl _ | exact List.nil_sublist _ | apply List.Sublist.cons_cons | apply List.Sublist.cons | apply List.Sublist.append_left | exact List.sublist_append_right _ _)) (by first | exact View.le_refl _ | assumption | exact View.le_trans hle1 hle2) (Pur.move rfl) ?_
            refine' SA.take 12 (by kernel_rfl) rfl rfl rfl (Wanted.guard (u := 44) rfl rfl rfl (gT hg44)) (by repeat (first | exact List.Sublist.refl _ | exact List.nil_sublist _ | apply List.Sublist.cons_cons | apply List.Sublist.cons | apply List.Sublist.append_left | exact List.sublist_append_right _ _)) (by first | exact View.le_refl _ | assumption | exact View.le_trans hle1 hle2) (Pur.indexAddr (eqA (hea (by omega))) rfl sl_23 ?h11_0) ?k11
            case h11_0 => omega
            refine' SA.take 13 (by kernel_rfl) rfl rfl rfl (Wanted.guard (u := 44) rfl rfl rfl (gT hg44)) (by repeat (first | exact List.Sublist.refl _ | exact List.nil_sublist _ | apply List.Sublist.cons_cons | apply List.Sublist.cons | apply List.Sublist.append_left | exact List.sublist_append_right _ _)) (by first | exact View.le_refl _ | assumption | exact View.le_trans hle1 hle2) (Pur.load1 rfl ty_9 ?h12_0) ?k12
            case h12_0 => exact RdV.rd hra.1
            refine SA.take 14 (by kernel_rfl) rfl rfl rfl (Wanted.guard (u := 44) rfl rfl rfl (gT hg44)) (by repeat (first | exact List.Sublist.refl _ | exact List.nil_sublist _ | apply List.Sublist.cons_cons | apply List.Sublist.cons | apply List.Sublist.append_left | exact List.sublist_append_right _ _)) (by first | exact View.le_refl _ | assumption | exact View.le_trans hle1 hle2) (Pur.move rfl) ?_
            refine SA.take 15 (by kernel_rfl) rfl rfl rfl (Wanted.guard (u := 44) rfl rfl rfl (gT hg44)) (by repeat (first | exact List.Sublist.refl _ | exact List.nil_sublist _ | apply List.Sublist.cons_cons | apply List.Sublist.cons | apply List.Sublist.append_left | exact List.sublist_append_right _ _)) (by first | exact View.le_refl _ | assumption | exact View.le_trans hle1 hle2) (Pur.move rfl) ?_
            refine' SA.take 16 (by kernel_rfl) rfl rfl rfl (Wanted.guard (u := 44) rfl rfl rfl (gT hg44)) (by repeat (first | exact List.Sublist.refl _ | exact List.nil_sublist _ | apply List.Sublist.cons_cons | apply List.Sublist.cons | apply List.Sublist.append_left | exact List.sublist_append_right _ _)) (by first | exact View.le_refl _ | assumption | exact View.le_trans hle1 hle2) (Pur.indexAddr (eqA (heb (by omega))) rfl sl_23 ?h13_0) ?k13
            case h13_0 => omega
            refine' SA.take 17 (by kernel_rfl) rfl rfl rfl (Wanted.guard (u := 44) rfl rfl rfl (gT hg44)) (by repeat (first | exact List.Sublist.refl _ | exact List.nil_sublist _ | apply List.Sublist.cons_cons | apply List.Sublist.cons | apply List.Sublist.append_left | exact List.sublist_append_right _ _)) (by first | exact View.le_refl _ | assumption | exact View.le_trans hle1 hle2) (Pur.load1 rfl ty_9 ?h14_0) ?k14
            case h14_0 => exact RdV.rd hrb.1
            refine' SA.take 18 (by kernel_rfl) rfl rfl rfl (Wanted.guard (u := 44) rfl rfl rfl (gT hg44)) (by repeat (first | exact List.Sublist.refl _ | exact List.nil_sublist _ | apply List.Sublist.cons_cons | apply List.Sublist.cons | apply List.Sublist.append_left | exact List.sublist_append_right _ _)) (by first | exact View.le_refl _ | assumption | exact View.le_trans hle1 hle2) (Pur.bin rfl rfl ?h15_0) ?k15
            case h15_0 => first | exact Bin.leN | exact Bin.leI | exact Bin.leS
            exact K44 _ (by repeat (first | exact Covers.refl _ | refine Covers.push ?_ rfl)) rfl
          case h10_1 =>
            intro hg44 K44
            refine SA.gskip 10 (u := 44) (by kernel_rfl) rfl rfl rfl rfl rfl rfl (sT hg44) (by repeat (first | exact List.Sublist.refl _ | exact List.nil_sublist _ | apply List.Sublist.cons_cons | apply List.Sublist.cons | apply List.Sublist.append_left | exact List.sublist_append_right _ _)) (by first | exact View.le_refl _ | assumption | exact View.le_trans hle1 hle2) ?_
            refine SA.gskip 11 (u := 44) (by kernel_rfl) rfl rfl rfl rfl rfl rfl (sT hg44) (by repeat (first | exact List.Sublist.refl _ | exact List.nil_sublist _ | apply List.Sublist.cons_cons | apply List.Sublist.cons | apply List.Sublist.append_left | exact List.sublist_append_right _ _)) (by first | exact View.le_refl _ | assumption | exact View.le_trans hle1 hle2) ?_
            refine SA.gskip 12 (u := 44) (by kernel_rfl) rfl rfl rfl rfl rfl rfl (sT hg44) (by repeat (first | exact List.Sublist.refl _ | exact List.nil_sublist _ | apply List.Sublist.cons_cons | apply List.Sublist.cons | apply List.Sublist.append_left | exact List.sublist_append_right _ _)) (by first | exact View.le_refl _ | assumption | exact View.le_trans hle1 hle2) ?_
            refine SA.gskip 13 (u := 44) (by kernel_rfl) rfl rfl rfl rfl rfl rfl (sT hg44) (by repeat (first | exact List.Sublist.refl _ | exact List.nil_sublist _ | apply List.Sublist.cons_cons | apply List.Sublist.cons | apply List.Sublist.append_left | exact List.sublist_append_right _ _)) (by first | exact View.le_refl _ | assumption | exact View.le_trans hle1 hle2) ?_
            refine SA.gskip 14 (u := 44) (by kernel_rfl) rfl rfl rfl rfl rfl rfl (sT hg44) (by repeat (first | exact List.Sublist.refl _ | exact List.nil_sublist _ | apply List.Sublist.cons_cons | apply List.Sublist.cons | apply List.Sublist.append_left | exact List.sublist_append_right _ _)) (by first | exact View.le_refl _ | assumption | exact View.le_trans hle1 hle2) ?_
            refine SA.gskip 15 (u := 44) (by kernel_rfl) rfl rfl rfl rfl rfl rfl (sT hg44) (by repeat (first | exact List.Sublist.refl _ | exact List.nil_sublist _ | apply List.Sublist.cons_cons | apply List.Sublist.cons | apply List.Sublist.append_left | exact List.sublist_append_right _ _)) (by first | exact View.le_refl _ | assumption | exact View.le_trans hle1 hle2) ?_
            refine SA.gskip 16 (u := 44) (by kernel_rfl) rfl rfl rfl rfl rfl rfl (sT hg44) (by repeat (first | exact List.Sublist.refl _ | exact List.nil_sublist _ | apply List.Sublist.cons_cons | apply List.Sublist.cons | apply List.Sublist.append_left | exact List.sublist_append_right _ _)) (by first | exact View.le_refl _ | assumption | exact View.le_trans hle1 hle2) ?_
            refine SA.gskip 17 (u := 44) (by kernel_rfl) rfl rfl rfl rfl rfl rfl (sT hg44) (by repeat (first | exact List.Sublist.refl _ | exact List.nil_sublist _ | apply List.Sublist.cons_cons | apply List.Sublist.cons | apply List.Sublist.append_left | exact List.sublist_append_right _ _)) (by first | exact View.le_refl _ | assumption | exact View.le_trans hle1 hle2) ?_
            refine SA.gskip 18 (u := 44) (by kernel_rfl) rfl rfl rfl rfl rfl rfl (sT hg44) (by repeat (first | exact List.Sublist.refl _ | exact List.nil_sublist _ | apply List.Sublist.cons_cons | apply List.Sublist.cons | apply List.Sublist.append_left | exact List.sublist_append_right _ _)) (by first | exact View.le_refl _ | assumption | exact View.le_trans hle1 hle2) ?_
            exact K44 _ (by repeat (first | exact Covers.refl _ | refine Covers.push ?_ rfl))
          case h10_2 => kernel_rfl
          case h10_3 => exact Wanted.guard (u := 39) rfl rfl rfl (gF hg39)
          exact K39 _ (by repeat (first | exact Covers.refl _ | refine Covers.push ?_ rfl)) rfl
        case h8_1 =>
          intro hg39 K39
          refine SA.gskip 5 (u := 39) (by kernel_rfl) rfl rfl rfl rfl rfl rfl (sF hg39) (by repeat (first | exact List.Sublist.refl _ | exact List.nil_sublist _ | apply List.Sublist.cons_cons | apply List.Sublist.cons | apply List.Sublist.append_left | exact List.sublist_append_right _ _)) (by first | exact View.le_refl _ | assumption | exact View.le_trans hle1 hle2) ?_
          refine SA.gskip 6 (u := 39) (by kernel_rfl) rfl rfl rfl rfl rfl rfl (sF hg39) (by repeat (first | exact List.Sublist.refl _ | exact List.nil_sublist _ | apply List.Sublist.cons_cons | apply List.Sublist.cons | apply List.Sublist.append_left | exact List.sublist_append_right _ _)) (by first | exact View.le_refl _ | assumption | exact View.le_trans hle1 hle2) ?_
          refine SA.gskip 7 (u := 39) (by kernel_rfl) rfl rfl rfl rfl rfl rfl (sF hg39) (by repeat (first | exact List.Sublist.refl _ | exact List.nil_sublist _ | apply List.Sublist.cons_cons | apply List.Sublist.cons | apply List.Sublist.append_left | exact List.sublist_append_right _ _)) (by first | exact View.le_refl _ | assumption | exact View.le_trans hle1 hle2) ?_
          refine SA.gskip 8 (u := 39) (by kernel_rfl) rfl rfl rfl rfl rfl rfl (sF hg39) (by repeat (first | exact List.Sublist.refl _ | exact List.nil_sublist _ | apply List.Sublist.cons_cons | apply List.Sublist.cons | apply List.Sublist.append_left | exact List.sublist_append_right _ _)) (by first | exact View.le_refl _ | assumption | exact View.le_trans hle1 hle2) ?_
          refine SA.gskip 9 (u := 39) (by kernel_rfl) rfl rfl rfl rfl rfl rfl (sF hg39) (by repeat (first | exact List.Sublist.refl _ | exact List.nil_sublist _ | apply List.Sublist.cons_cons | apply List.Sublist.cons | apply List.Sublist.append_left | exact List.sublist_append_right _ _)) (by first | exact View.le_refl _ | assumption | exact View.le_trans hle1 hle2) ?_
          refine SA.gskipU 10 (u := 44) (by kernel_rfl) rfl rfl rfl rfl rfl rfl (by repeat (first | exact List.Sublist.refl _ | exact List.nil_sublist _ | apply List.Sublist.cons_cons | apply List.Sublist.cons | apply List.Sublist.append_left | exact List.sublist_append_right _ _)) (by first | exact View.le_refl _ | assumption | exact View.le_trans hle1 hle2) ?_
          refine SA.gskipU 11 (u := 44) (by kernel_rfl) rfl rfl rfl rfl rfl rfl (by repeat (first | exact List.Sublist.refl _ | exact List.nil_sublist _ | apply List.Sublist.cons_cons | apply List.Sublist.cons | apply List.Sublist.append_left | exact List.sublist_append_right _ _)) (by first | exact View.le_refl _ | assumption | exact View.le_trans hle1 hle2) ?_
          refine SA.gskipU 12 (u := 44) (by kernel_rfl) rfl rfl rfl rfl rfl rfl (by repeat (first | exact List.Sublist.refl _ | exact List.nil_sublist _ | apply List.Sublist.cons_cons | apply List.Sublist.cons | apply List.Sublist.append_left | exact List.sublist_append_right _ _)) (by first | exact View.le_refl _ | assumption | exact View.le_trans hle1 hle2) ?_
          refine SA.gskipU 13 (u := 44) (by kernel_rfl) rfl rfl rfl rfl rfl rfl (by repeat (first | exact List.Sublist.refl _ | exact List.nil_sublist _ | apply List.Sublist.cons_cons | apply List.Sublist.cons | apply List.Sublist.append_left | exact List.sublist_append_right _ _)) (by first | exact View.le_refl _ | assumption | exact View.le_trans hle1 hle2) ?_
          refine SA.gskipU 14 (u := 44) (by kernel_rfl) rfl rfl rfl rfl rfl rfl (by repeat (first | exact List.Sublist.refl _ | exact List.nil_sublist _ | apply List.Sublist.cons_cons | apply List.Sublist.cons | apply List.Sublist.append_left | exact List.sublist_append_right _ _)) (by first | exact View.le_refl _ | assumption | exact View.le_trans hle1 hle2) ?_
          refine SA.gskipU 15 (u := 44) (by kernel_rfl) rfl rfl rfl rfl rfl rfl (by repeat (first | exact List.Sublist.refl _ | exact List.nil_sublist _ | apply List.Sublist.cons_cons | apply List.Sublist.cons | apply List.Sublist.append_left | exact List.sublist_append_right _ _)) (by first | exact View.le_refl _ | assumption | exact View.le_trans hle1 hle2) ?_
          refine SA.gskipU 16 (u := 44) (by kernel_rfl) rfl rfl rfl rfl rfl rfl (by repeat (first | exact List.Sublist.refl _ | exact List.nil_sublist _ | apply List.Sublist.cons_cons | apply List.Sublist.cons | apply List.Sublist.append_left | exact List.sublist_append_right _ _)) (by first | exact View.le_refl _ | assumption | exact View.le_trans hle1 hle2) ?_
          refine SA.gskipU 17 (u := 44) (by kernel_rfl) rfl rfl rfl rfl rfl rfl (by repeat (first | exact List.Sublist.refl _ | exact List.nil_sublist _ | apply List.Sublist.cons_cons | apply List.Sublist.cons | apply List.Sublist.append_left | exact List.sublist_append_right _ _)) (by first | exact View.le_refl _ | assumption | exact View.le_trans hle1 hle2) ?_
          refine SA.gskipU 18 (u := 44) (by kernel_rfl) rfl rfl rfl rfl rfl rfl (by repeat (first | exact List.Sublist.refl _ | exact List.nil_sublist _ | apply List.Sublist.cons_cons | apply List.Sublist.cons | apply List.Sublist.append_left | exact List.sublist_append_right _ _)) (by first | exact View.le_refl _ | assumption | exact View.le_trans hle1 hle2) ?_
          refine SA.gskip 19 (u := 39) (by kernel_rfl) rfl rfl rfl rfl rfl rfl (sF hg39) (by repeat (first | exact List.Sublist.refl _ | exact List.nil_sublist _ | apply List.Sublist.cons_cons | apply List.Sublist.cons | apply List.Sublist.append_left | exact List.sublist_append_right _ _)) (by first | exact View.le_refl _ | assumption | exact View.le_trans hle1 hle2) ?_
          exact K39 _ (by repeat (first | exact Covers.refl _ | refine Covers.push ?_ rfl))
        case h8_2 => kernel_rfl
        case h8_3 => exact Wanted.plain rfl
        refine SA.done (by kernel_rfl) ?_
        refine WQ.thn ?_
        first | refine WC.cond rfl (fun hc2 => ?_) (fun hc2 => ?_) | refine WC.condB rfl (fun hc2 => ?_) (fun hc2 => ?_)
        · have hx' : i < (textsL (l.take (l.length / 2))).length := by omega
          have hra2 := str_rd hA2 hea hx'
          have hok2 := hra2.2
          have hmerge : List.merge ((textsL (l.take (l.length / 2))).drop i) ((textsL (l.drop (l.length / 2))).drop k) leB = sD (textsL (l.take (l.length / 2))) i :: List.merge ((textsL (l.take (l.length / 2))).drop (i + 1)) ((textsL (l.drop (l.length / 2))).drop k) leB := by
            by_cases hkb : k < (textsL (l.drop (l.length / 2))).length
            · rw [mergeS_drop hx' hkb, if_pos]
              have := hc2.resolve_left (by omega)
              simp only [leB, decide_eq_true_eq]
              exact this.2
            · exact mergeS_left hx' (by omega)
          refine WC.seq ?_
          refine WC.region ?_
          refine WL.pur (Pur.move rfl) ?_
          refine WL.pur (Pur.move rfl) ?_
          refine WL.pur (Pur.move rfl) ?_
          refine' WL.pur (Pur.indexAddr (eqA (hea (by omega))) rfl sl_23 ?h16_0) ?k16
          case h16_0 => omega
          refine' WL.pur (Pur.load1 rfl ty_9 ?h17_0) ?k17
          case h17_0 => exact RdV.rd hra2.1
          refine WL.new (New.buildSliceS (xs := [.tmp 60]) sl_23 zc_9 rfl rfl rfl (by rfl) (by rfl)) (fun b61 => ?_)
          refine' WL.any (Any.push (H1 := [(b61, _)]) (H2 := Hr) sl_23 zc_9 rfl by_9 rfl rfl hso ?h18_0 ?h18_1 ?h18_2 ?h18_3 rfl (by omega) (by omega)) ?k18
          case h18_0 => apply Rd.own_sub; (focus repeat (first | exact List.Mem.head _ | apply List.Mem.tail | apply List.mem_append_right)); exact Sub.refl _
          case h18_1 => first | rfl | assumption
          case h18_2 => first | rfl | assumption
          case h18_3 => exact ⟨rfl, hok2⟩
          rintro v62 σ _ ⟨ho', hso', rfl, rfl⟩ _
          refine WL.pur (Pur.assign rfl) ?_
          refine WL.nil ?_
          refine WQ.thn ?_
          refine WC.region ?_
          refine WL.pur (Pur.move rfl) ?_
          refine' WL.pur (Pur.bin rfl rfl ?h19_0) ?k19
          case h19_0 => first | (refine Bin.addN (b := 1) ?_; omega) | (refine Bin.addI ?_; omega)
          refine WL.pur (Pur.assign rfl) ?_
          refine WL.nil ?_
          refine WQ.blk ?_
          refine WQ.back _ ⟨i + 1, k, out ++ [sD (textsL (l.take (l.length / 2))) i], _, ho', rfl, by omega, by omega, by simp; omega, hso', by rw [List.append_assoc, List.singleton_append, ← hout, hmerge], rfl, rfl, rfl⟩ (by omega) (by repeat (first | exact Covers.nil _ | refine Covers.cons rfl ?_)) (by repeat (first | exact List.Sublist.refl _ | exact List.nil_sublist _ | apply List.Sublist.cons_cons | apply List.Sublist.cons | apply List.Sublist.append_left | exact List.sublist_append_right _ _))
        · have hy' : k < (textsL (l.drop (l.length / 2))).length := by omega
          have hrb2 := str_rd hB heb hy'
          have hok2 := hrb2.2
          have hmerge : List.merge ((textsL (l.take (l.length / 2))).drop i) ((textsL (l.drop (l.length / 2))).drop k) leB = sD (textsL (l.drop (l.length / 2))) k :: List.merge ((textsL (l.take (l.length / 2))).drop i) ((textsL (l.drop (l.length / 2))).drop (k + 1)) leB := by
            by_cases hia : i < (textsL (l.take (l.length / 2))).length
            · rw [mergeS_drop hia hy', if_neg]
              intro hle
              simp only [leB, decide_eq_true_eq] at hle
              exact hc2 (.inr ⟨hia, hle⟩)
            · exact mergeS_right hy' (by omega)
          refine WC.seq ?_
          refine WC.region ?_
          refine WL.pur (Pur.move rfl) ?_
          refine WL.pur (Pur.move rfl) ?_
          refine WL.pur (Pur.move rfl) ?_
          refine' WL.pur (Pur.indexAddr (eqA (heb (by omega))) rfl sl_23 ?h20_0) ?k20
          case h20_0 => omega
          refine' WL.pur (Pur.load1 rfl ty_9 ?h21_0) ?k21
          case h21_0 => exact RdV.rd hrb2.1
          refine WL.new (New.buildSliceS (xs := [.tmp 69]) sl_23 zc_9 rfl rfl rfl (by rfl) (by rfl)) (fun b70 => ?_)
          refine' WL.any (Any.push (H1 := [(b70, _)]) (H2 := Hr) sl_23 zc_9 rfl by_9 rfl rfl hso ?h22_0 ?h22_1 ?h22_2 ?h22_3 rfl (by omega) (by omega)) ?k22
          case h22_0 => apply Rd.own_sub; (focus repeat (first | exact List.Mem.head _ | apply List.Mem.tail | apply List.mem_append_right)); exact Sub.refl _
          case h22_1 => first | rfl | assumption
          case h22_2 => first | rfl | assumption
          case h22_3 => exact ⟨rfl, hok2⟩
          rintro v71 σ _ ⟨ho', hso', rfl, rfl⟩ _
          refine WL.pur (Pur.assign rfl) ?_
          refine WL.nil ?_
          refine WQ.thn ?_
          refine WC.region ?_
          refine WL.pur (Pur.move rfl) ?_
          refine' WL.pur (Pur.bin rfl rfl ?h23_0) ?k23
          case h23_0 => first | (refine Bin.addN (b := 1) ?_; omega) | (refine Bin.addI ?_; omega)
          refine WL.pur (Pur.assign rfl) ?_
          refine WL.nil ?_
          refine WQ.blk ?_
          refine WQ.back _ ⟨i, k + 1, out ++ [sD (textsL (l.drop (l.length / 2))) k], _, ho', rfl, by omega, by omega, by simp; omega, hso', by rw [List.append_assoc, List.singleton_append, ← hout, hmerge], rfl, rfl, rfl⟩ (by omega) (by repeat (first | exact Covers.nil _ | refine Covers.cons rfl ?_)) (by repeat (first | exact List.Sublist.refl _ | exact List.nil_sublist _ | apply List.Sublist.cons_cons | apply List.Sublist.cons | apply List.Sublist.append_left | exact List.sublist_append_right _ _))
      · refine WC.exit ?_
        refine WQ.thn_exit ?_
        refine WQ.back_exit ?_
        refine WQ.blk_here ?_
        refine WQ.thn ?_
        refine WC.seq ?_
        refine WC.region ?_
        refine WL.pur (Pur.move rfl) ?_
        refine WL.pur (Pur.assign rfl) ?_
        refine WL.nil ?_
        refine WQ.thn ?_
        refine WC.ret ?_
        have h0 : List.merge ((textsL (l.take (l.length / 2))).drop i) ((textsL (l.drop (l.length / 2))).drop k) leB = [] := by rw [List.drop_eq_nil_of_le (by omega), List.drop_eq_nil_of_le (by omega)]; simp
        rw [h0, List.append_nil] at hout
        refine WQ.giveS (byt := 16) (H1 := []) (H2 := Hr) eStr_mono hso (by omega) rfl (fun σ3 hle3 hsl3 => ?_)
        rw [List.nil_append]
        refine WQ.ret1 Tryz.results119 rfl [] (by repeat (first | exact List.Sublist.refl _ | exact List.nil_sublist _ | apply List.Sublist.cons_cons | apply List.Sublist.cons | apply List.Sublist.append_left | exact List.sublist_append_right _ _)) (View.le_trans hle1 (View.le_trans hle2 hle3)) ?_
        exact ⟨by rw [textsL_more hc0, ← hout]; exact hsl3, rfl⟩

theorem r11_Keys (σ : View) (pv : Value) (L : List EntD) (kl kh : Int) (h : R11V σ pv L) (ho : OrdOk L) :
    Tri Tryz.prog 47 #[pv, .int .i64 kl, .int .i64 kh] σ [] (fun v σ' H' => ∃ h, SlO σ' eStr 9 1 v (keysR L (isKind kl kh)) h ∧ H' = h) := by
  obtain ⟨b, plv, psv, pqv, rfl, hr, hE, hS, hQ⟩ := h
  obtain ⟨pla, plc, rfl, hplc, hplb⟩ := hE.shape
  obtain ⟨plb, ploff, hel⟩ := addr_of hE
  have hmost := ho.most
  refine Tri.of_body [(0, .pointer (some ⟨b, 0, none⟩)), (1, .int .i64 kl), (2, .int .i64 kh)] Tryz.func47 rfl Tryz.ntmps47 (by simp) rfl (fun Hr => ?_)
  rw [List.nil_append]
  refine WC.seq ?_
  refine WC.region ?_
  refine WL.pur (Pur.assign rfl) ?_
  refine WL.nil ?_
  refine WQ.thn ?_
  refine WC.seq ?_
  refine WC.region ?_
  refine WL.new (New.buildSlice0 sl_23) (fun b13 => ?_)
  refine WL.pur (Pur.assign rfl) ?_
  refine WL.nil ?_
  refine WQ.thn ?_
  refine WC.seq ?_
  refine WC.seq ?_
  refine WC.region ?_
  refine WL.pur (Pur.assign rfl) ?_
  refine WL.nil ?_
  refine WQ.thn ?_
  refine WC.block ?_
  refine WC.loop (fun j m σ' H' => ∃ (i : Nat) (sv : Value) (hl : HList), j = L.length - i ∧ i ≤ L.length ∧ SlO σ eStr 9 1 sv (keysOf (opsN L (isKind kl kh) i)) hl ∧ m = [(0, .pointer (some ⟨b, 0, none⟩)), (1, .int .i64 kl), (2, .int .i64 kh), (7, sv), (8, .int .i64 (i : Int))] ∧ σ' = σ ∧ H' = hl ++ Hr) ⟨0, _, [(b13, rowO 9 [])], rfl, by omega, row_nilS _ b13, rfl, rfl, rfl⟩ (by repeat (first | exact Covers.nil _ | refine Covers.cons rfl ?_)) (by repeat (first | exact List.Sublist.refl _ | exact List.nil_sublist _ | apply List.Sublist.cons_cons | apply List.Sublist.cons | apply List.Sublist.append_left | exact List.sublist_append_right _ _)) ?_
  rintro _ _ σ Hr ⟨i, sv, hl, rfl, hi, hso, rfl, rfl, rfl⟩
  refine WC.seq ?_
  refine WC.seq ?_
  refine WC.region ?_
  refine WL.pur (Pur.move rfl) ?_
  refine WL.pur (Pur.move rfl) ?_
  refine WL.pur (Pur.nilCheck rfl) ?_
  refine WL.pur (Pur.fieldAddr rfl fo_74_0) ?_
  refine' WL.pur (Pur.load1 rfl ty_22 ?h1_0) ?k1
  case h1_0 => first | (apply Rd.own1; (focus repeat (first | exact List.Mem.head _ | apply List.Mem.tail | apply List.mem_append_right)); rfl) | (apply RdV.rd; apply RdV.idx (i := 0); assumption; rfl)
  refine WL.pur (Pur.len rfl isSlice_22) ?_
  refine' WL.pur (Pur.bin rfl rfl ?h2_0) ?k2
  case h2_0 => first | exact Bin.ltN | exact Bin.ltI | exact Bin.ltS
  refine WL.nil ?_
  refine WQ.thn ?_
  first | refine WC.cond rfl (fun hc0 => ?_) (fun hc0 => ?_) | refine WC.condB rfl (fun hc0 => ?_) (fun hc0 => ?_)
  · obtain ⟨e, he⟩ : ∃ e, L[i]? = some e := ⟨_, List.getElem?_eq_getElem (by omega)⟩
    obtain ⟨qv, ov, hrd, heH, hNR⟩ := ent_rd hE hel he
    have hops := hNR.2.1
    obtain ⟨pa, pc, rfl, hpc, hpb⟩ := hNR.1.shape
    obtain ⟨oa, oc, rfl, hoc, hob⟩ := hops.shape
    obtain ⟨ob, ooff, heo, hoat⟩ := hops.rds
    have hop := opsAt_of he
    have hol : e.node.ops.length ≤ 1024 := by rw [← hop]; exact opsAt_len ho i
    refine WC.skip ?_
    refine WQ.thn ?_
    refine WC.seq ?_
    refine WC.block ?_
    refine WC.seq ?_
    refine WC.region ?_
    refine WL.pur (Pur.assign rfl) ?_
    refine WL.nil ?_
    refine WQ.thn ?_
    refine WC.block ?_
    refine WC.loop (fun j m σ' H' => ∃ (q : Nat) (sv2 : Value) (hl2 : HList), j = e.node.ops.length - q ∧ q ≤ e.node.ops.length ∧ SlO σ eStr 9 1 sv2 (keysOf (opsN L (isKind kl kh) i ++ pickOps i (isKind kl kh) (e.node.ops.take q))) hl2 ∧ m = [(0, .pointer (some ⟨b, 0, none⟩)), (1, .int .i64 kl), (2, .int .i64 kh), (7, sv2), (8, .int .i64 (i : Int)), (9, .int .i64 (q : Int))] ∧ σ' = σ ∧ H' = hl2 ++ Hr) ⟨0, sv, hl, rfl, by omega, by simpa [pickOps] using hso, rfl, rfl, rfl⟩ (by repeat (first | exact Covers.nil _ | refine Covers.cons rfl ?_)) (by repeat (first | exact List.Sublist.refl _ | exact List.nil_sublist _ | apply List.Sublist.cons_cons | apply List.Sublist.cons | apply List.Sublist.append_left | exact List.sublist_append_right _ _)) ?_
    rintro _ _ σ Hr ⟨q, sv2, hl2, rfl, hq, hso2, rfl, rfl, rfl⟩
    refine WC.seq ?_
    refine WC.seq ?_
    refine WC.region ?_
    refine WL.pur (Pur.move rfl) ?_
    refine WL.pur (Pur.move rfl) ?_
    refine WL.pur (Pur.nilCheck rfl) ?_
    refine WL.pur (Pur.fieldAddr rfl fo_74_0) ?_
    refine' WL.pur (Pur.load1 rfl ty_22 ?h3_0) ?k3
    case h3_0 => first | (apply Rd.own1; (focus repeat (first | exact List.Mem.head _ | apply List.Mem.tail | apply List.mem_append_right)); rfl) | (apply RdV.rd; apply RdV.idx (i := 0); assumption; rfl)
    refine WL.pur (Pur.move rfl) ?_
    refine' WL.pur (Pur.indexAddr (eqA (hel (by omega))) rfl sl_22 ?h4_0) ?k4
    case h4_0 => omega
    refine WL.pur (Pur.fieldAddr rfl fo_45_1) ?_
    refine WL.pur (Pur.fieldAddr rfl fo_43_3) ?_
    refine' WL.pur (Pur.load1 rfl ty_40 ?h5_0) ?k5
    case h5_0 => first | (apply Rd.own1; (focus repeat (first | exact List.Mem.head _ | apply List.Mem.tail | apply List.mem_append_right)); rfl) | (apply RdV.rd; apply RdV.idx (i := 35); assumption; rfl) | (apply RdV.rd; apply RdV.idx (off := 0) (i := 35); assumption; rfl)
    refine WL.pur (Pur.len rfl isSlice_40) ?_
    refine' WL.pur (Pur.bin rfl rfl ?h6_0) ?k6
    case h6_0 => first | exact Bin.ltN | exact Bin.ltI | exact Bin.ltS
    refine WL.nil ?_
    refine WQ.thn ?_
    first | refine WC.cond rfl (fun hc1 => ?_) (fun hc1 => ?_) | refine WC.condB rfl (fun hc1 => ?_) (fun hc1 => ?_)
    · obtain ⟨o, hoq⟩ : ∃ o, e.node.ops[q]? = some o := ⟨_, List.getElem?_eq_getElem (by omega)⟩
      obtain ⟨vs, _, _, ⟨rfl, hook⟩, hord⟩ := hoat q o hoq
      have hkok : StrOk o.key := hook.2.1
      have htl : (keysOf (opsN L (isKind kl kh) i ++ pickOps i (isKind kl kh) (e.node.ops.take q))).length ≤ i * 1024 + 1024 := by
        have h1 := opsN_len ho (isKind kl kh) i
        have h2 : (pickOps i (isKind kl kh) (e.node.ops.take q)).length ≤ 1024 := by
          unfold pickOps; rw [List.length_map]
          exact Nat.le_trans (List.length_filter_le _ _) (by rw [List.length_take]; omega)
        unfold keysOf; rw [List.length_map, List.length_append]; omega
      refine WC.skip ?_
      refine WQ.thn ?_
      refine WC.seq ?_
      refine WC.block ?_
      refine WC.seq ?_
      refine WC.region ?_
      refine WL.pur (Pur.move rfl) ?_
      refine WL.pur (Pur.nilCheck rfl) ?_
      refine WL.pur (Pur.fieldAddr rfl fo_74_0) ?_
      refine' WL.pur (Pur.load1 rfl ty_22 ?h7_0) ?k7
      case h7_0 => first | (apply Rd.own1; (focus repeat (first | exact List.Mem.head _ | apply List.Mem.tail | apply List.mem_append_right)); rfl) | (apply RdV.rd; apply RdV.idx (i := 0); assumption; rfl)
      refine WL.pur (Pur.move rfl) ?_
      refine' WL.pur (Pur.indexAddr (eqA (hel (by omega))) rfl sl_22 ?h8_0) ?k8
      case h8_0 => omega
      refine WL.pur (Pur.fieldAddr rfl fo_45_1) ?_
      refine WL.pur (Pur.fieldAddr rfl fo_43_3) ?_
      refine' WL.pur (Pur.load1 rfl ty_40 ?h9_0) ?k9
      case h9_0 => first | (apply Rd.own1; (focus repeat (first | exact List.Mem.head _ | apply List.Mem.tail | apply List.mem_append_right)); rfl) | (apply RdV.rd; apply RdV.idx (i := 35); assumption; rfl) | (apply RdV.rd; apply RdV.idx (off := 0) (i := 35); assumption; rfl)
      refine WL.pur (Pur.move rfl) ?_
      refine' WL.pur (Pur.indexAddr (eqA (heo (by omega))) rfl sl_40 ?h10_0) ?k10
      case h10_0 => omega
      refine' WL.pur (Pur.loadN rfl ty_51 ?h11_0 ?h11_1) ?k11
      case h11_0 => exact RdV.rd hord
      case h11_1 => first | rfl | assumption
      refine WL.new (New.alloc zc_51) (fun b10 => ?_)
      refine' WL.run0 (Run.storeAll rfl rfl ty_51 ?h12_0 (by first | rfl | assumption) ?h12_1 (by first | rfl | assumption)) ?k12
      case h12_0 => repeat (first | exact Part.one | exact Part.here | apply Part.cons | apply Part.app)
      case h12_1 => first | rfl | assumption
      refine WL.nil ?_
      refine WQ.thn ?_
      refine WC.seq ?_
      refine WC.region ?_
      refine WL.pur (Pur.fieldAddr rfl fo_51_0) ?_
      refine' WL.pur (Pur.load1 rfl ty_3 ?h13_0) ?k13
      case h13_0 => first | (apply Rd.own1; (focus repeat (first | exact List.Mem.head _ | apply List.Mem.tail | apply List.mem_append_right)); rfl) | (apply RdV.rd; apply RdV.idx (i := 0); assumption; rfl)
      refine WL.pur (Pur.move rfl) ?_
      refine' WL.pur (Pur.bin rfl rfl ?h14_0) ?k14
      case h14_0 => first | exact Bin.geN | exact Bin.geI
      refine WL.pur (Pur.move rfl) ?_
      refine' WL.andp (u := 53) (t := 58) rfl ?h15_0 ?h15_1 ?h15_2 rfl ?k15
      case h15_0 =>
        intro hg53 K53
        refine WL.gpur (u := 53) rfl rfl (gT hg53) (Pur.fieldAddr rfl fo_51_0) ?_
        refine' WL.gpur (u := 53) rfl rfl (gT hg53) (Pur.load1 rfl ty_3 ?h16_0) ?k16
        case h16_0 => first | (apply Rd.own1; (focus repeat (first | exact List.Mem.head _ | apply List.Mem.tail | apply List.mem_append_right)); rfl) | (apply RdV.rd; apply RdV.idx (i := 0); assumption; rfl)
        refine WL.gpur (u := 53) rfl rfl (gT hg53) (Pur.move rfl) ?_
        refine' WL.gpur (u := 53) rfl rfl (gT hg53) (Pur.bin rfl rfl ?h17_0) ?k17
        case h17_0 => first | exact Bin.leN | exact Bin.leI | exact Bin.leS
        exact K53 _ (by repeat (first | exact Covers.refl _ | refine Covers.push ?_ rfl)) rfl
      case h15_1 =>
        intro hg53 K53
        refine WL.gskip (u := 53) rfl rfl (sT hg53) ?_
        refine WL.gskip (u := 53) rfl rfl (sT hg53) ?_
        refine WL.gskip (u := 53) rfl rfl (sT hg53) ?_
        refine WL.gskip (u := 53) rfl rfl (sT hg53) ?_
        exact K53 _ (by repeat (first | exact Covers.refl _ | refine Covers.push ?_ rfl))
      case h15_2 => exact Wanted.plain rfl
      refine WL.nil ?_
      refine WQ.thn ?_
      first | refine WC.cond rfl (fun hc2 => ?_) (fun hc2 => ?_) | refine WC.condB rfl (fun hc2 => ?_) (fun hc2 => ?_)
      · have hreg : isKind kl kh o = true := by simp only [isKind, decide_eq_true_eq]; exact hc2
        refine WC.region ?_
        refine WL.pur (Pur.move rfl) ?_
        refine WL.pur (Pur.fieldAddr rfl fo_51_1) ?_
        refine' WL.pur (Pur.load1 rfl ty_9 ?h18_0) ?k18
        case h18_0 => first | (apply Rd.own1; (focus repeat (first | exact List.Mem.head _ | apply List.Mem.tail | apply List.mem_append_right)); rfl) | (apply RdV.rd; apply RdV.idx (i := 1); assumption; rfl) | (apply RdV.rd; apply RdV.idx (off := 0) (i := 1); assumption; rfl)
        refine WL.new (New.buildSliceS (xs := [.tmp 61]) sl_23 zc_9 rfl rfl rfl (by rfl) (by rfl)) (fun b62 => ?_)
        refine' WL.any (Any.push (H1 := [(b62, _), (b10, _)]) (H2 := Hr) sl_23 zc_9 rfl by_9 rfl rfl hso2 ?h19_0 ?h19_1 ?h19_2 ?h19_3 rfl (by omega) (by omega)) ?k19
        case h19_0 => apply Rd.own_sub; (focus repeat (first | exact List.Mem.head _ | apply List.Mem.tail | apply List.mem_append_right)); exact Sub.refl _
        case h19_1 => first | rfl | assumption
        case h19_2 => first | rfl | assumption
        case h19_3 => exact ⟨rfl, hkok⟩
        rintro v63 σ _ ⟨hl3, hso3, rfl, rfl⟩ _
        refine WL.pur (Pur.assign rfl) ?_
        refine WL.nil ?_
        refine WQ.blk ?_
        refine WQ.thn ?_
        refine WC.region ?_
        refine WL.pur (Pur.move rfl) ?_
        refine' WL.pur (Pur.bin rfl rfl ?h20_0) ?k20
        case h20_0 => first | (refine Bin.addN (b := 1) ?_; omega) | (refine Bin.addI ?_; omega)
        refine WL.pur (Pur.assign rfl) ?_
        refine WL.nil ?_
        refine WQ.back _ ⟨q + 1, _, _, rfl, by omega, by rw [pickOps_step hoq, if_pos hreg, ← List.append_assoc, keysOf_app]; exact hso3, rfl, rfl, rfl⟩ (by omega) (by repeat (first | exact Covers.nil _ | refine Covers.cons rfl ?_)) (by repeat (first | exact List.Sublist.refl _ | exact List.nil_sublist _ | apply List.Sublist.cons_cons | apply List.Sublist.cons | apply List.Sublist.append_left | exact List.sublist_append_right _ _))
      · have hreg : ¬ isKind kl kh o = true := by simp only [isKind, decide_eq_true_eq]; exact hc2
        refine WC.skip ?_
        refine WQ.blk ?_
        refine WQ.thn ?_
        refine WC.region ?_
        refine WL.pur (Pur.move rfl) ?_
        refine' WL.pur (Pur.bin rfl rfl ?h21_0) ?k21
        case h21_0 => first | (refine Bin.addN (b := 1) ?_; omega) | (refine Bin.addI ?_; omega)
        refine WL.pur (Pur.assign rfl) ?_
        refine WL.nil ?_
        refine WQ.back _ ⟨q + 1, sv2, hl2, rfl, by omega, by rw [pickOps_step hoq, if_neg hreg, List.append_nil]; exact hso2, rfl, rfl, rfl⟩ (by omega) (by repeat (first | exact Covers.nil _ | refine Covers.cons rfl ?_)) (by repeat (first | exact List.Sublist.refl _ | exact List.nil_sublist _ | apply List.Sublist.cons_cons | apply List.Sublist.cons | apply List.Sublist.append_left | exact List.sublist_append_right _ _))
    · refine WC.exit ?_
      refine WQ.thn_exit ?_
      refine WQ.back_exit ?_
      refine WQ.blk_here ?_
      refine WQ.blk ?_
      refine WQ.thn ?_
      refine WC.region ?_
      refine WL.pur (Pur.move rfl) ?_
      refine' WL.pur (Pur.bin rfl rfl ?h22_0) ?k22
      case h22_0 => first | (refine Bin.addN (b := 1) ?_; omega) | (refine Bin.addI ?_; omega)
      refine WL.pur (Pur.assign rfl) ?_
      refine WL.nil ?_
      refine WQ.back _ ⟨i + 1, sv2, hl2, rfl, by omega, by rw [opsN_succ, hop]; rw [List.take_of_length_le (show e.node.ops.length ≤ q by omega)] at hso2; exact hso2, rfl, rfl, rfl⟩ (by omega) (by repeat (first | exact Covers.nil _ | refine Covers.cons rfl ?_)) (by repeat (first | exact List.Sublist.refl _ | exact List.nil_sublist _ | apply List.Sublist.cons_cons | apply List.Sublist.cons | apply List.Sublist.append_left | exact List.sublist_append_right _ _))
  · have hil : i = L.length := by omega
    subst hil
    have hkl := opsN_len ho (isKind kl kh) L.length
    have hkl2 : (keysOf (opsN L (isKind kl kh) L.length)).length ≤ L.length * 1024 := by unfold keysOf; rw [List.length_map]; exact hkl
    refine WC.giveS (byt := 16) (H1 := []) (H2 := Hr) eStr_mono hso (by omega) rfl (fun σ1 hle1 hsl1 => ?_)
    rw [List.nil_append]
    refine WC.exit ?_
    refine WQ.thn_exit ?_
    refine WQ.back_exit ?_
    refine WQ.blk_here ?_
    refine WQ.thn ?_
    refine WC.seq ?_
    refine WC.region ?_
    refine WL.pur (Pur.move rfl) ?_
    refine WL.call (H0 := []) (Hr := Hr) rfl Tryz.call119 (List.Perm.refl _) (r11_texts _ (keysOf (opsN L (isKind kl kh) L.length)) _ _ rfl hsl1) ?_
    rintro v65 σ2 _ ⟨hT, rfl⟩ hle2
    rw [List.nil_append]
    obtain ⟨ta, tc, rfl, htc, htb⟩ := hT.shape
    obtain ⟨tb, toff, het⟩ := addr_of hT
    refine WL.pur (Pur.assign rfl) ?_
    refine WL.nil ?_
    refine WQ.thn ?_
    refine WC.seq ?_
    refine WC.region ?_
    refine WL.new (New.buildSlice0 sl_23) (fun b66 => ?_)
    refine WL.pur (Pur.assign rfl) ?_
    refine WL.nil ?_
    refine WQ.thn ?_
    refine WC.seq ?_
    refine WC.seq ?_
    refine WC.region ?_
    refine WL.pur (Pur.assign rfl) ?_
    refine WL.nil ?_
    refine WQ.thn ?_
    refine WC.block ?_
    refine WC.loop (fun j m σ' H' => ∃ (i : Nat) (sv : Value) (hl : HList), j = (textsL (keysOf (opsN L (isKind kl kh) L.length))).length - i ∧ i ≤ (textsL (keysOf (opsN L (isKind kl kh) L.length))).length ∧ SlO σ2 eStr 9 1 sv (dedup ((textsL (keysOf (opsN L (isKind kl kh) L.length))).take i)) hl ∧ m = [(7, .slice ta (textsL (keysOf (opsN L (isKind kl kh) L.length))).length tc), (11, sv), (12, .int .i64 (i : Int))] ∧ σ' = σ2 ∧ H' = hl ++ Hr) ⟨0, _, [(b66, rowO 9 [])], rfl, by omega, by rw [List.take_zero]; exact row_nilS _ b66, rfl, rfl, rfl⟩ (by repeat (first | exact Covers.nil _ | refine Covers.cons rfl ?_)) (by repeat (first | exact List.Sublist.refl _ | exact List.nil_sublist _ | apply List.Sublist.cons_cons | apply List.Sublist.cons | apply List.Sublist.append_left | exact List.sublist_append_right _ _)) ?_
    rintro _ _ σ Hr ⟨i, sv, hl, rfl, hi, hso, rfl, rfl, rfl⟩
    refine WC.seq ?_
    refine WC.seq ?_
    refine WC.region ?_
    refine WL.pur (Pur.move rfl) ?_
    refine WL.pur (Pur.move rfl) ?_
    refine WL.pur (Pur.len rfl isSlice_23) ?_
    refine' WL.pur (Pur.bin rfl rfl ?h23_0) ?k23
    case h23_0 => first | exact Bin.ltN | exact Bin.ltI | exact Bin.ltS
    refine WL.nil ?_
    refine WQ.thn ?_
    first | refine WC.cond rfl (fun hc3 => ?_) (fun hc3 => ?_) | refine WC.condB rfl (fun hc3 => ?_) (fun hc3 => ?_)
    · have hrs := str_rd hT het hc3
      have hok3 := hrs.2
      have hdl := dedup_len ((textsL (keysOf (opsN L (isKind kl kh) L.length))).take i)
      rw [List.length_take] at hdl
      have htxl := textsL_len (keysOf (opsN L (isKind kl kh) L.length))
      refine WC.skip ?_
      refine WQ.thn ?_
      refine WC.seq ?_
      refine WC.block ?_
      refine WC.seq ?_
      refine WC.drawH 14 14 mixed (by kernel_rfl) rfl ?_
      refine SA.take 0 (by kernel_rfl) rfl rfl rfl (Wanted.plain rfl) (by repeat (first | exact List.Sublist.refl _ | exact List.nil_sublist _ | apply List.Sublist.cons_cons | apply List.Sublist.cons | apply List.Sublist.append_left | exact List.sublist_append_right _ _)) (View.le_refl _) (Pur.move rfl) ?_
      refine' SA.take 1 (by kernel_rfl) rfl rfl rfl (Wanted.plain rfl) (by repeat (first | exact List.Sublist.refl _ | exact List.nil_sublist _ | apply List.Sublist.cons_cons | apply List.Sublist.cons | apply List.Sublist.append_left | exact List.sublist_append_right _ _)) (View.le_refl _) (Pur.bin rfl rfl ?h24_0) ?k24
      case h24_0 => first | exact Bin.eqN (b := 0) | exact Bin.eqI
      refine SA.take 2 (by kernel_rfl) rfl rfl rfl (Wanted.plain rfl) (by repeat (first | exact List.Sublist.refl _ | exact List.nil_sublist _ | apply List.Sublist.cons_cons | apply List.Sublist.cons | apply List.Sublist.append_left | exact List.sublist_append_right _ _)) (View.le_refl _) (Pur.move rfl) ?_
      refine' SA.orp 13 (u := 75) rfl ?h25_0 ?h25_1 ?h25_2 rfl (by repeat (first | exact List.Sublist.refl _ | exact List.nil_sublist _ | apply List.Sublist.cons_cons | apply List.Sublist.cons | apply List.Sublist.append_left | exact List.sublist_append_right _ _)) (View.le_refl _) ?h25_3 rfl ?k25
      case h25_0 =>
        intro hg75 K75
        have hrs1 := str_rd hT het (show i - 1 < (textsL (keysOf (opsN L (isKind kl kh) L.length))).length by omega)
        refine SA.take 3 (by kernel_rfl) rfl rfl rfl (Wanted.guard (u := 75) rfl rfl rfl (gF hg75)) (by repeat (first | exact List.Sublist.refl _ | exact List.nil_sublist _ | apply List.Sublist.cons_cons | apply List.Sublist.cons | apply List.Sublist.append_left | exact List.sublist_append_right _ _)) (View.le_refl _) (Pur.move rfl) ?_
        refine SA.take 4 (by kernel_rfl) rfl rfl rfl (Wanted.guard (u := 75) rfl rfl rfl (gF hg75)) (by repeat (first | exact List.Sublist.refl _ | exact List.nil_sublist _ | apply List.Sublist.cons_cons | apply List.Sublist.cons | apply List.Sublist.append_left | exact List.sublist_append_right _ _)) (View.le_refl _) (Pur.move rfl) ?_
        refine' SA.take 5 (by kernel_rfl) rfl rfl rfl (Wanted.guard (u := 75) rfl rfl rfl (gF hg75)) (by repeat (first | exact List.Sublist.refl _ | exact List.nil_sublist _ | apply List.Sublist.cons_cons | apply List.Sublist.cons | apply List.Sublist.append_left | exact List.sublist_append_right _ _)) (View.le_refl _) (Pur.indexAddr (eqA (het (by omega))) rfl sl_23 ?h26_0) ?k26
        case h26_0 => omega
        refine' SA.take 6 (by kernel_rfl) rfl rfl rfl (Wanted.guard (u := 75) rfl rfl rfl (gF hg75)) (by repeat (first | exact List.Sublist.refl _ | exact List.nil_sublist _ | apply List.Sublist.cons_cons | apply List.Sublist.cons | apply List.Sublist.append_left | exact List.sublist_append_right _ _)) (View.le_refl _) (Pur.load1 rfl ty_9 ?h27_0) ?k27
        case h27_0 => exact RdV.rd hrs.1
        refine SA.take 7 (by kernel_rfl) rfl rfl rfl (Wanted.guard (u := 75) rfl rfl rfl (gF hg75)) (by repeat (first | exact List.Sublist.refl _ | exact List.nil_sublist _ | apply List.Sublist.cons_cons | apply List.Sublist.cons | apply List.Sublist.append_left | exact List.sublist_append_right _ _)) (View.le_refl _) (Pur.move rfl) ?_
        refine SA.take 8 (by kernel_rfl) rfl rfl rfl (Wanted.guard (u := 75) rfl rfl rfl (gF hg75)) (by repeat (first | exact List.Sublist.refl _ | exact List.nil_sublist _ | apply List.Sublist.cons_cons | apply List.Sublist.cons | apply List.Sublist.append_left | exact List.sublist_append_right _ _)) (View.le_refl _) (Pur.move rfl) ?_
        refine' SA.take 9 (by kernel_rfl) rfl rfl rfl (Wanted.guard (u := 75) rfl rfl rfl (gF hg75)) (by repeat (first | exact List.Sublist.refl _ | exact List.nil_sublist _ | apply List.Sublist.cons_cons | apply List.Sublist.cons | apply List.Sublist.append_left | exact List.sublist_append_right _ _)) (View.le_refl _) (Pur.bin rfl rfl ?h28_0) ?k28
        case h28_0 => exact Bin.subN (a := i) (b := 1) (by omega) (by omega)
        refine' SA.take 10 (by kernel_rfl) rfl rfl rfl (Wanted.guard (u := 75) rfl rfl rfl (gF hg75)) (by repeat (first | exact List.Sublist.refl _ | exact List.nil_sublist _ | apply List.Sublist.cons_cons | apply List.Sublist.cons | apply List.Sublist.append_left | exact List.sublist_append_right _ _)) (View.le_refl _) (Pur.indexAddr (eqA (het (by omega))) rfl sl_23 ?h29_0) ?k29
        case h29_0 => omega
        refine' SA.take 11 (by kernel_rfl) rfl rfl rfl (Wanted.guard (u := 75) rfl rfl rfl (gF hg75)) (by repeat (first | exact List.Sublist.refl _ | exact List.nil_sublist _ | apply List.Sublist.cons_cons | apply List.Sublist.cons | apply List.Sublist.append_left | exact List.sublist_append_right _ _)) (View.le_refl _) (Pur.load1 rfl ty_9 ?h30_0) ?k30
        case h30_0 => exact RdV.rd hrs1.1
        refine' SA.take 12 (by kernel_rfl) rfl rfl rfl (Wanted.guard (u := 75) rfl rfl rfl (gF hg75)) (by repeat (first | exact List.Sublist.refl _ | exact List.nil_sublist _ | apply List.Sublist.cons_cons | apply List.Sublist.cons | apply List.Sublist.append_left | exact List.sublist_append_right _ _)) (View.le_refl _) (Pur.bin rfl rfl ?h31_0) ?k31
        case h31_0 => exact Bin.neS
        exact K75 _ (by repeat (first | exact Covers.refl _ | refine Covers.push ?_ rfl)) rfl
      case h25_1 =>
        intro hg75 K75
        refine SA.gskip 3 (u := 75) (by kernel_rfl) rfl rfl rfl rfl rfl rfl (sF hg75) (by repeat (first | exact List.Sublist.refl _ | exact List.nil_sublist _ | apply List.Sublist.cons_cons | apply List.Sublist.cons | apply List.Sublist.append_left | exact List.sublist_append_right _ _)) (View.le_refl _) ?_
        refine SA.gskip 4 (u := 75) (by kernel_rfl) rfl rfl rfl rfl rfl rfl (sF hg75) (by repeat (first | exact List.Sublist.refl _ | exact List.nil_sublist _ | apply List.Sublist.cons_cons | apply List.Sublist.cons | apply List.Sublist.append_left | exact List.sublist_append_right _ _)) (View.le_refl _) ?_
        refine SA.gskip 5 (u := 75) (by kernel_rfl) rfl rfl rfl rfl rfl rfl (sF hg75) (by repeat (first | exact List.Sublist.refl _ | exact List.nil_sublist _ | apply List.Sublist.cons_cons | apply List.Sublist.cons | apply List.Sublist.append_left | exact List.sublist_append_right _ _)) (View.le_refl _) ?_
        refine SA.gskip 6 (u := 75) (by kernel_rfl) rfl rfl rfl rfl rfl rfl (sF hg75) (by repeat (first | exact List.Sublist.refl _ | exact List.nil_sublist _ | apply List.Sublist.cons_cons | apply List.Sublist.cons | apply List.Sublist.append_left | exact List.sublist_append_right _ _)) (View.le_refl _) ?_
        refine SA.gskip 7 (u := 75) (by kernel_rfl) rfl rfl rfl rfl rfl rfl (sF hg75) (by repeat (first | exact List.Sublist.refl _ | exact List.nil_sublist _ | apply List.Sublist.cons_cons | apply List.Sublist.cons | apply List.Sublist.append_left | exact List.sublist_append_right _ _)) (View.le_refl _) ?_
        refine SA.gskip 8 (u := 75) (by kernel_rfl) rfl rfl rfl rfl rfl rfl (sF hg75) (by repeat (first | exact List.Sublist.refl _ | exact List.nil_sublist _ | apply List.Sublist.cons_cons | apply List.Sublist.cons | apply List.Sublist.append_left | exact List.sublist_append_right _ _)) (View.le_refl _) ?_
        refine SA.gskip 9 (u := 75) (by kernel_rfl) rfl rfl rfl rfl rfl rfl (sF hg75) (by repeat (first | exact List.Sublist.refl _ | exact List.nil_sublist _ | apply List.Sublist.cons_cons | apply List.Sublist.cons | apply List.Sublist.append_left | exact List.sublist_append_right _ _)) (View.le_refl _) ?_
        refine SA.gskip 10 (u := 75) (by kernel_rfl) rfl rfl rfl rfl rfl rfl (sF hg75) (by repeat (first | exact List.Sublist.refl _ | exact List.nil_sublist _ | apply List.Sublist.cons_cons | apply List.Sublist.cons | apply List.Sublist.append_left | exact List.sublist_append_right _ _)) (View.le_refl _) ?_
        refine SA.gskip 11 (u := 75) (by kernel_rfl) rfl rfl rfl rfl rfl rfl (sF hg75) (by repeat (first | exact List.Sublist.refl _ | exact List.nil_sublist _ | apply List.Sublist.cons_cons | apply List.Sublist.cons | apply List.Sublist.append_left | exact List.sublist_append_right _ _)) (View.le_refl _) ?_
        refine SA.gskip 12 (u := 75) (by kernel_rfl) rfl rfl rfl rfl rfl rfl (sF hg75) (by repeat (first | exact List.Sublist.refl _ | exact List.nil_sublist _ | apply List.Sublist.cons_cons | apply List.Sublist.cons | apply List.Sublist.append_left | exact List.sublist_append_right _ _)) (View.le_refl _) ?_
        exact K75 _ (by repeat (first | exact Covers.refl _ | refine Covers.push ?_ rfl))
      case h25_2 => kernel_rfl
      case h25_3 => exact Wanted.plain rfl
      refine SA.done (by kernel_rfl) ?_
      refine WQ.thn ?_
      first | refine WC.cond rfl (fun hc4 => ?_) (fun hc4 => ?_) | refine WC.condB rfl (fun hc4 => ?_) (fun hc4 => ?_)
      · refine WC.region ?_
        refine WL.pur (Pur.move rfl) ?_
        refine WL.pur (Pur.move rfl) ?_
        refine WL.pur (Pur.move rfl) ?_
        refine' WL.pur (Pur.indexAddr (eqA (het (by omega))) rfl sl_23 ?h32_0) ?k32
        case h32_0 => omega
        refine' WL.pur (Pur.load1 rfl ty_9 ?h33_0) ?k33
        case h33_0 => exact RdV.rd hrs.1
        refine WL.new (New.buildSliceS (xs := [.tmp 91]) sl_23 zc_9 rfl rfl rfl (by rfl) (by rfl)) (fun b92 => ?_)
        refine' WL.any (Any.push (H1 := [(b92, _)]) (H2 := Hr) sl_23 zc_9 rfl by_9 rfl rfl hso ?h34_0 ?h34_1 ?h34_2 ?h34_3 rfl (by omega) (by omega)) ?k34
        case h34_0 => apply Rd.own_sub; (focus repeat (first | exact List.Mem.head _ | apply List.Mem.tail | apply List.mem_append_right)); exact Sub.refl _
        case h34_1 => first | rfl | assumption
        case h34_2 => first | rfl | assumption
        case h34_3 => exact ⟨rfl, hok3⟩
        rintro v93 σ _ ⟨hl4, hso4, rfl, rfl⟩ _
        refine WL.pur (Pur.assign rfl) ?_
        refine WL.nil ?_
        refine WQ.blk ?_
        refine WQ.thn ?_
        refine WC.region ?_
        refine WL.pur (Pur.move rfl) ?_
        refine' WL.pur (Pur.bin rfl rfl ?h35_0) ?k35
        case h35_0 => first | (refine Bin.addN (b := 1) ?_; omega) | (refine Bin.addI ?_; omega)
        refine WL.pur (Pur.assign rfl) ?_
        refine WL.nil ?_
        refine WQ.back _ ⟨i + 1, _, _, rfl, by omega, by rw [dedup_take hc3, if_pos hc4]; exact hso4, rfl, rfl, rfl⟩ (by omega) (by repeat (first | exact Covers.nil _ | refine Covers.cons rfl ?_)) (by repeat (first | exact List.Sublist.refl _ | exact List.nil_sublist _ | apply List.Sublist.cons_cons | apply List.Sublist.cons | apply List.Sublist.append_left | exact List.sublist_append_right _ _))
      · refine WC.skip ?_
        refine WQ.blk ?_
        refine WQ.thn ?_
        refine WC.region ?_
        refine WL.pur (Pur.move rfl) ?_
        refine' WL.pur (Pur.bin rfl rfl ?h36_0) ?k36
        case h36_0 => first | (refine Bin.addN (b := 1) ?_; omega) | (refine Bin.addI ?_; omega)
        refine WL.pur (Pur.assign rfl) ?_
        refine WL.nil ?_
        refine WQ.back _ ⟨i + 1, sv, hl, rfl, by omega, by rw [dedup_take hc3, if_neg hc4]; exact hso, rfl, rfl, rfl⟩ (by omega) (by repeat (first | exact Covers.nil _ | refine Covers.cons rfl ?_)) (by repeat (first | exact List.Sublist.refl _ | exact List.nil_sublist _ | apply List.Sublist.cons_cons | apply List.Sublist.cons | apply List.Sublist.append_left | exact List.sublist_append_right _ _))
    · refine WC.exit ?_
      refine WQ.thn_exit ?_
      refine WQ.back_exit ?_
      refine WQ.blk_here ?_
      refine WQ.thn ?_
      refine WC.seq ?_
      refine WC.region ?_
      refine WL.pur (Pur.move rfl) ?_
      refine WL.pur (Pur.assign rfl) ?_
      refine WL.nil ?_
      refine WQ.thn ?_
      refine WC.ret ?_
      refine WQ.ret1 Tryz.results47 rfl hl (List.Sublist.refl _) (View.le_trans hle1 hle2) ?_
      exact ⟨_, by rw [keysR_eq]; rw [List.take_of_length_le (by omega)] at hso; exact hso, rfl⟩

theorem r14_Read (σ0 : View) (pv : Value) (L : List EntD) (key : ByteArray) (h : R11V σ0 pv L) (ho : OrdOk L) :
    Tri Tryz.prog 29 #[pv, .string key] σ0 [] (fun v σ' H' => ∃ h, SlO σ' eStr 9 1 v (regHeld L key) h ∧ H' = h) := by
  have hmost := ho.most
  have hopsok : ∀ i, ∀ o ∈ opsAt L i, o.ok := r11_opsOk h
  refine Tri.of_body [(0, pv), (1, .string key)] Tryz.func29 rfl Tryz.ntmps29 (by simp) rfl (fun Hr => ?_)
  rw [List.nil_append]
  refine WC.seq ?_
  refine WC.region ?_
  refine WL.pur (Pur.assign rfl) ?_
  refine WL.nil ?_
  refine WQ.thn ?_
  refine WC.seq ?_
  refine WC.region ?_
  refine WL.pur (Pur.move rfl) ?_
  refine WL.pur (Pur.move rfl) ?_
  refine WL.call (H0 := []) (Hr := Hr) rfl Tryz.call104 (List.Perm.refl _) (r11_Spots _ _ L key 1 2 h ho) ?_
  rintro v13 σ _ ⟨⟨hh, hso0, rfl⟩, rfl⟩ _
  have htn := tripsN_len ho (isKey key 1 2) L.length
  refine WL.giveS (byt := 16) (H1 := []) (H2 := Hr) eSpot_mono hso0 (by omega) rfl (fun σ1 hle1 hsl1 => ?_)
  rw [List.nil_append]
  have h1 := h.mono hle1
  obtain ⟨sa, sc, rfl, hsc, hsb⟩ := hsl1.shape
  obtain ⟨sb, soff, hes, hsat⟩ := hsl1.rds
  refine WL.pur (Pur.assign rfl) ?_
  refine WL.nil ?_
  refine WQ.thn ?_
  refine WC.seq ?_
  refine WC.region ?_
  refine WL.new (New.buildSlice0 sl_23) (fun b14 => ?_)
  refine WL.pur (Pur.assign rfl) ?_
  refine WL.nil ?_
  refine WQ.thn ?_
  refine WC.seq ?_
  refine WC.seq ?_
  refine WC.region ?_
  refine WL.pur (Pur.assign rfl) ?_
  refine WL.nil ?_
  refine WQ.thn ?_
  refine WC.block ?_
  refine WC.loop (fun j m σ' H' => ∃ (i : Nat) (sv : Value) (acc : List ByteArray) (hl : HList), j = (tripsN L (isKey key 1 2) L.length).length - i ∧ i ≤ (tripsN L (isKey key 1 2) L.length).length ∧ acc.length ≤ i ∧ SlO σ1 eStr 9 1 sv acc hl ∧ acc ++ heldS L (((tripsN L (isKey key 1 2) L.length).map tOp).drop i) = regHeld L key ∧ m = [(0, pv), (5, .slice sa (tripsN L (isKey key 1 2) L.length).length sc), (6, sv), (7, .int .i64 (i : Int))] ∧ σ' = σ1 ∧ H' = hl ++ Hr) ⟨0, _, [], [(b14, rowO 9 [])], rfl, by omega, by simp, row_nilS _ b14, by rw [List.drop_zero, regHeld_trips]; rfl, rfl, rfl, rfl⟩ (by repeat (first | exact Covers.nil _ | refine Covers.cons rfl ?_)) (by repeat (first | exact List.Sublist.refl _ | exact List.nil_sublist _ | apply List.Sublist.cons_cons | apply List.Sublist.cons | apply List.Sublist.append_left | exact List.sublist_append_right _ _)) ?_
  rintro _ _ σ Hr ⟨i, sv, acc, hl, rfl, hi, hal, hso, hacc, rfl, rfl, rfl⟩
  refine WC.seq ?_
  refine WC.seq ?_
  refine WC.region ?_
  refine WL.pur (Pur.move rfl) ?_
  refine WL.pur (Pur.move rfl) ?_
  refine WL.pur (Pur.len rfl isSlice_160) ?_
  refine' WL.pur (Pur.bin rfl rfl ?h1_0) ?k1
  case h1_0 => first | exact Bin.ltN | exact Bin.ltI | exact Bin.ltS
  refine WL.nil ?_
  refine WQ.thn ?_
  first | refine WC.cond rfl (fun hc0 => ?_) (fun hc0 => ?_) | refine WC.condB rfl (fun hc0 => ?_) (fun hc0 => ?_)
  · obtain ⟨t, ht⟩ : ∃ t, (tripsN L (isKey key 1 2) L.length)[i]? = some t := ⟨_, List.getElem?_eq_getElem (by omega)⟩
    obtain ⟨hti, ht1, ht2, ht3⟩ := tripsN_mem (List.mem_of_getElem? ht)
    obtain ⟨vs, _, _, rfl, htr⟩ := hsat i t ht
    have hok := hopsok t.1 t.2.2 (List.mem_of_getElem? ht2)
    refine WC.skip ?_
    refine WQ.thn ?_
    refine WC.seq ?_
    refine WC.block ?_
    refine WC.seq ?_
    refine WC.region ?_
    refine WL.pur (Pur.move rfl) ?_
    refine WL.pur (Pur.move rfl) ?_
    refine WL.pur (Pur.move rfl) ?_
    refine' WL.pur (Pur.indexAddr (eqA (hes (by omega))) rfl sl_160 ?h2_0) ?k2
    case h2_0 => omega
    refine' WL.pur (Pur.loadN rfl ty_164 ?h3_0 ?h3_1) ?k3
    case h3_0 => exact RdV.rd htr
    case h3_1 => first | rfl | assumption
    refine WL.callP rfl Tryz.call105 ((r11_Operation _ _ L t h1 ho hti ht1 ht2)) ?_
    refine WL.new (New.alloc zc_51) (fun b8 => ?_)
    refine' WL.run0 (Run.storeAll rfl rfl ty_51 ?h4_0 (by first | rfl | assumption) ?h4_1 (by first | rfl | assumption)) ?k4
    case h4_0 => repeat (first | exact Part.one | exact Part.here | apply Part.cons | apply Part.app)
    case h4_1 => first | rfl | assumption
    refine WL.nil ?_
    refine WQ.thn ?_
    refine WC.seq ?_
    refine WC.region ?_
    refine WL.pur (Pur.assign rfl) ?_
    refine WL.nil ?_
    refine WQ.thn ?_
    refine WC.seq ?_
    refine WC.seq ?_
    refine WC.region ?_
    refine WL.pur (Pur.move rfl) ?_
    refine' WL.pur (Pur.bin rfl rfl ?h5_0) ?k5
    case h5_0 => first | (refine Bin.addN (b := 1) ?_; omega) | (refine Bin.addI ?_; omega)
    refine WL.pur (Pur.assign rfl) ?_
    refine WL.nil ?_
    refine WQ.thn ?_
    refine WC.block ?_
    refine WC.loop (fun j m σ' H' => ∃ (q : Nat) (ovp : Prop) (_ : Decidable ovp), j = (tripsN L (isKey key 1 2) L.length).length - (i + 1 + q) ∧ i + 1 + q ≤ (tripsN L (isKey key 1 2) L.length).length ∧ (ovp ↔ overB L t.1 ((((tripsN L (isKey key 1 2) L.length).map tOp).drop (i + 1)).take q) = true) ∧ m = [(0, pv), (5, .slice sa (tripsN L (isKey key 1 2) L.length).length sc), (6, sv), (7, .int .i64 (i : Int)), (8, .pointer (some ⟨b8, 0, none⟩)), (9, .bool (decide ovp)), (10, .int .i64 ((i + 1 + q : Nat) : Int))] ∧ σ' = σ ∧ H' = (b8, rowO 51 t.2.2.cells) :: (hl ++ Hr)) ⟨0, False, inferInstance, rfl, by omega, by simp [overB], rfl, rfl, rfl⟩ (by repeat (first | exact Covers.nil _ | refine Covers.cons rfl ?_)) (by repeat (first | exact List.Sublist.refl _ | exact List.nil_sublist _ | apply List.Sublist.cons_cons | apply List.Sublist.cons | apply List.Sublist.append_left | exact List.sublist_append_right _ _)) ?_
    rintro _ _ σ Hr ⟨q, ovp, hdec, rfl, hq, hovq, rfl, rfl, rfl⟩
    refine WC.seq ?_
    refine WC.seq ?_
    refine WC.region ?_
    refine WL.pur (Pur.move rfl) ?_
    refine WL.pur (Pur.move rfl) ?_
    refine WL.pur (Pur.len rfl isSlice_160) ?_
    refine' WL.pur (Pur.bin rfl rfl ?h6_0) ?k6
    case h6_0 => first | exact Bin.ltN | exact Bin.ltI | exact Bin.ltS
    refine WL.pur (Pur.move rfl) ?_
    refine' WL.andp (u := 33) (t := 36) rfl ?h7_0 ?h7_1 ?h7_2 rfl ?k7
    case h7_0 =>
      intro hg33 K33
      refine WL.gpur (u := 33) rfl rfl (gT hg33) (Pur.move rfl) ?_
      first | refine WL.gpur (u := 33) rfl rfl (gT hg33) (Pur.not rfl) ?_ | refine WL.gpur (u := 33) rfl rfl (gT hg33) (Pur.notB rfl) ?_
      exact K33 _ (by repeat (first | exact Covers.refl _ | refine Covers.push ?_ rfl)) rfl
    case h7_1 =>
      intro hg33 K33
      refine WL.gskip (u := 33) rfl rfl (sT hg33) ?_
      refine WL.gskip (u := 33) rfl rfl (sT hg33) ?_
      exact K33 _ (by repeat (first | exact Covers.refl _ | refine Covers.push ?_ rfl))
    case h7_2 => exact Wanted.plain rfl
    refine WL.nil ?_
    refine WQ.thn ?_
    first | refine WC.cond rfl (fun hc1 => ?_) (fun hc1 => ?_) | refine WC.condB rfl (fun hc1 => ?_) (fun hc1 => ?_)
    · obtain ⟨c, hc⟩ : ∃ c, (tripsN L (isKey key 1 2) L.length)[i + 1 + q]? = some c := ⟨_, List.getElem?_eq_getElem hc1.1⟩
      obtain ⟨hci, hc1_, hc2_, hc3_⟩ := tripsN_mem (List.mem_of_getElem? hc)
      obtain ⟨vs2, _, _, rfl, hcr⟩ := hsat _ c hc
      have hkn := knows_iff (L := L) (tripsN_up L (isKey key 1 2) L.length) (show i < i + 1 + q by omega) ht hc
      have hrx : (((tripsN L (isKey key 1 2) L.length).map tOp).drop (i + 1))[q]? = some (tOp c) := by rw [List.getElem?_drop]; simp [hc]
      have hnew : (t.1 = c.1 ∨ seesN L t.1 c.1 = true) ↔ overB L t.1 ((((tripsN L (isKey key 1 2) L.length).map tOp).drop (i + 1)).take (q + 1)) = true := by
        rw [overB_step hrx]
        have h0 : overB L t.1 ((((tripsN L (isKey key 1 2) L.length).map tOp).drop (i + 1)).take q) = false := by
          cases hx : overB L t.1 ((((tripsN L (isKey key 1 2) L.length).map tOp).drop (i + 1)).take q) with
          | false => rfl
          | true => exact absurd (hovq.2 hx) hc1.2
        rw [h0]
        simp only [Bool.false_or, Bool.or_eq_true, decide_eq_true_eq]
        exact ⟨fun h => h.imp Eq.symm id, fun h => h.imp Eq.symm id⟩
      refine WC.skip ?_
      refine WQ.thn ?_
      refine WC.seq ?_
      refine WC.block ?_
      refine WC.drawH 11 11 mixed (by kernel_rfl) rfl ?_
      refine SA.take 0 (by kernel_rfl) rfl rfl rfl (Wanted.plain rfl) (by repeat (first | exact List.Sublist.refl _ | exact List.nil_sublist _ | apply List.Sublist.cons_cons | apply List.Sublist.cons | apply List.Sublist.append_left | exact List.sublist_append_right _ _)) (View.le_refl _) (Pur.move rfl) ?_
      refine SA.take 1 (by kernel_rfl) rfl rfl rfl (Wanted.plain rfl) (by repeat (first | exact List.Sublist.refl _ | exact List.nil_sublist _ | apply List.Sublist.cons_cons | apply List.Sublist.cons | apply List.Sublist.append_left | exact List.sublist_append_right _ _)) (View.le_refl _) (Pur.move rfl) ?_
      refine SA.take 2 (by kernel_rfl) rfl rfl rfl (Wanted.plain rfl) (by repeat (first | exact List.Sublist.refl _ | exact List.nil_sublist _ | apply List.Sublist.cons_cons | apply List.Sublist.cons | apply List.Sublist.append_left | exact List.sublist_append_right _ _)) (View.le_refl _) (Pur.move rfl) ?_
      refine' SA.take 3 (by kernel_rfl) rfl rfl rfl (Wanted.plain rfl) (by repeat (first | exact List.Sublist.refl _ | exact List.nil_sublist _ | apply List.Sublist.cons_cons | apply List.Sublist.cons | apply List.Sublist.append_left | exact List.sublist_append_right _ _)) (View.le_refl _) (Pur.indexAddr (eqA (hes (by omega))) rfl sl_160 ?h8_0) ?k8
      case h8_0 => omega
      refine' SA.take 4 (by kernel_rfl) rfl rfl rfl (Wanted.plain rfl) (by repeat (first | exact List.Sublist.refl _ | exact List.nil_sublist _ | apply List.Sublist.cons_cons | apply List.Sublist.cons | apply List.Sublist.append_left | exact List.sublist_append_right _ _)) (View.le_refl _) (Pur.loadN rfl ty_164 ?h9_0 ?h9_1) ?k9
      case h9_0 => exact RdV.rd htr
      case h9_1 => first | rfl | assumption
      refine SA.take 5 (by kernel_rfl) rfl rfl rfl (Wanted.plain rfl) (by repeat (first | exact List.Sublist.refl _ | exact List.nil_sublist _ | apply List.Sublist.cons_cons | apply List.Sublist.cons | apply List.Sublist.append_left | exact List.sublist_append_right _ _)) (View.le_refl _) (Pur.move rfl) ?_
      refine SA.take 6 (by kernel_rfl) rfl rfl rfl (Wanted.plain rfl) (by repeat (first | exact List.Sublist.refl _ | exact List.nil_sublist _ | apply List.Sublist.cons_cons | apply List.Sublist.cons | apply List.Sublist.append_left | exact List.sublist_append_right _ _)) (View.le_refl _) (Pur.move rfl) ?_
      refine' SA.take 7 (by kernel_rfl) rfl rfl rfl (Wanted.plain rfl) (by repeat (first | exact List.Sublist.refl _ | exact List.nil_sublist _ | apply List.Sublist.cons_cons | apply List.Sublist.cons | apply List.Sublist.append_left | exact List.sublist_append_right _ _)) (View.le_refl _) (Pur.indexAddr (eqA (hes (by omega))) rfl sl_160 ?h10_0) ?k10
      case h10_0 => omega
      refine' SA.take 8 (by kernel_rfl) rfl rfl rfl (Wanted.plain rfl) (by repeat (first | exact List.Sublist.refl _ | exact List.nil_sublist _ | apply List.Sublist.cons_cons | apply List.Sublist.cons | apply List.Sublist.append_left | exact List.sublist_append_right _ _)) (View.le_refl _) (Pur.loadN rfl ty_164 ?h11_0 ?h11_1) ?k11
      case h11_0 => exact RdV.rd hcr
      case h11_1 => first | rfl | assumption
      refine SA.callP 9 rfl rfl (Wanted.plain rfl) (by kernel_rfl) rfl Tryz.call106 (by repeat (first | exact List.Sublist.refl _ | exact List.nil_sublist _ | apply List.Sublist.cons_cons | apply List.Sublist.cons | apply List.Sublist.append_left | exact List.sublist_append_right _ _)) (View.le_refl _) ((r11_Knows _ _ L t c h1 ho hti hci hkn)) ?_
      refine SA.take 10 (by kernel_rfl) rfl rfl rfl (Wanted.plain rfl) (by repeat (first | exact List.Sublist.refl _ | exact List.nil_sublist _ | apply List.Sublist.cons_cons | apply List.Sublist.cons | apply List.Sublist.append_left | exact List.sublist_append_right _ _)) (View.le_refl _) (Pur.assign rfl) ?_
      refine SA.done (by kernel_rfl) ?_
      refine WQ.blk ?_
      refine WQ.thn ?_
      refine WC.region ?_
      refine WL.pur (Pur.move rfl) ?_
      refine' WL.pur (Pur.bin rfl rfl ?h12_0) ?k12
      case h12_0 => first | (refine Bin.addN (b := 1) ?_; omega) | (refine Bin.addI ?_; omega)
      refine WL.pur (Pur.assign rfl) ?_
      refine WL.nil ?_
      refine WQ.back _ ⟨q + 1, _, inferInstance, rfl, by omega, hnew, rfl, rfl, rfl⟩ (by omega) (by repeat (first | exact Covers.nil _ | refine Covers.cons rfl ?_)) (by repeat (first | exact List.Sublist.refl _ | exact List.nil_sublist _ | apply List.Sublist.cons_cons | apply List.Sublist.cons | apply List.Sublist.append_left | exact List.sublist_append_right _ _))
    · have hov : ¬ ovp ↔ overB L t.1 (((tripsN L (isKey key 1 2) L.length).map tOp).drop (i + 1)) = false := by
        rw [hovq]
        constructor
        · intro hx
          by_cases hlt : i + 1 + q < (tripsN L (isKey key 1 2) L.length).length
          · exact absurd ⟨hlt, fun hp => hx (hovq.1 hp)⟩ hc1
          · rw [List.take_of_length_le (by rw [List.length_drop, List.length_map]; omega)] at hx
            simpa using hx
        · intro hx hy
          rw [overB_mono hy] at hx; cases hx
      refine WC.exit ?_
      refine WQ.thn_exit ?_
      refine WQ.back_exit ?_
      refine WQ.blk_here ?_
      refine WQ.thn ?_
      refine WC.seq ?_
      refine WC.region ?_
      refine WL.pur (Pur.fieldAddr rfl fo_51_0) ?_
      refine' WL.pur (Pur.load1 rfl ty_3 ?h13_0) ?k13
      case h13_0 => first | (apply Rd.own1; (focus repeat (first | exact List.Mem.head _ | apply List.Mem.tail | apply List.mem_append_right)); rfl) | (apply RdV.rd; apply RdV.idx (i := 0); assumption; rfl)
      refine' WL.pur (Pur.bin rfl rfl ?h14_0) ?k14
      case h14_0 => first | exact Bin.eqN (b := 1) | exact Bin.eqI
      refine WL.pur (Pur.move rfl) ?_
      refine' WL.andp (u := 52) (t := 55) rfl ?h15_0 ?h15_1 ?h15_2 rfl ?k15
      case h15_0 =>
        intro hg52 K52
        refine WL.gpur (u := 52) rfl rfl (gT hg52) (Pur.move rfl) ?_
        first | refine WL.gpur (u := 52) rfl rfl (gT hg52) (Pur.not rfl) ?_ | refine WL.gpur (u := 52) rfl rfl (gT hg52) (Pur.notB rfl) ?_
        exact K52 _ (by repeat (first | exact Covers.refl _ | refine Covers.push ?_ rfl)) rfl
      case h15_1 =>
        intro hg52 K52
        refine WL.gskip (u := 52) rfl rfl (sT hg52) ?_
        refine WL.gskip (u := 52) rfl rfl (sT hg52) ?_
        exact K52 _ (by repeat (first | exact Covers.refl _ | refine Covers.push ?_ rfl))
      case h15_2 => exact Wanted.plain rfl
      refine WL.nil ?_
      refine WQ.thn ?_
      first | refine WC.cond rfl (fun hc2 => ?_) (fun hc2 => ?_) | refine WC.condB rfl (fun hc2 => ?_) (fun hc2 => ?_)
      · have htok : StrOk t.2.2.text := hok.2.2.1
        refine WC.region ?_
        refine WL.pur (Pur.move rfl) ?_
        refine WL.pur (Pur.fieldAddr rfl fo_51_2) ?_
        refine' WL.pur (Pur.load1 rfl ty_9 ?h16_0) ?k16
        case h16_0 => first | (apply Rd.own1; (focus repeat (first | exact List.Mem.head _ | apply List.Mem.tail | apply List.mem_append_right)); rfl) | (apply RdV.rd; apply RdV.idx (i := 2); assumption; rfl) | (apply RdV.rd; apply RdV.idx (off := 0) (i := 2); assumption; rfl)
        refine WL.new (New.buildSliceS (xs := [.tmp 58]) sl_23 zc_9 rfl rfl rfl (by rfl) (by rfl)) (fun b59 => ?_)
        refine' WL.any (Any.push (H1 := [(b59, _), (b8, _)]) (H2 := Hr) sl_23 zc_9 rfl by_9 rfl rfl hso ?h17_0 ?h17_1 ?h17_2 ?h17_3 rfl (by omega) (by omega)) ?k17
        case h17_0 => apply Rd.own_sub; (focus repeat (first | exact List.Mem.head _ | apply List.Mem.tail | apply List.mem_append_right)); exact Sub.refl _
        case h17_1 => first | rfl | assumption
        case h17_2 => first | rfl | assumption
        case h17_3 => exact ⟨rfl, htok⟩
        rintro v60 σ _ ⟨hl3, hso3, rfl, rfl⟩ _
        refine WL.pur (Pur.assign rfl) ?_
        refine WL.nil ?_
        refine WQ.blk ?_
        refine WQ.thn ?_
        refine WC.region ?_
        refine WL.pur (Pur.move rfl) ?_
        refine' WL.pur (Pur.bin rfl rfl ?h18_0) ?k18
        case h18_0 => first | (refine Bin.addN (b := 1) ?_; omega) | (refine Bin.addI ?_; omega)
        refine WL.pur (Pur.assign rfl) ?_
        refine WL.nil ?_
        refine WQ.back _ ⟨i + 1, _, _, _, rfl, by omega, by simp; omega, hso3, by rw [← hacc, heldS_drop ht, if_pos ⟨hc2.1, hov.1 hc2.2⟩, List.append_assoc], rfl, rfl, rfl⟩ (by omega) (by repeat (first | exact Covers.nil _ | refine Covers.cons rfl ?_)) (by repeat (first | exact List.Sublist.refl _ | exact List.nil_sublist _ | apply List.Sublist.cons_cons | apply List.Sublist.cons | apply List.Sublist.append_left | exact List.sublist_append_right _ _))
      · refine WC.skip ?_
        refine WQ.blk ?_
        refine WQ.thn ?_
        refine WC.region ?_
        refine WL.pur (Pur.move rfl) ?_
        refine' WL.pur (Pur.bin rfl rfl ?h19_0) ?k19
        case h19_0 => first | (refine Bin.addN (b := 1) ?_; omega) | (refine Bin.addI ?_; omega)
        refine WL.pur (Pur.assign rfl) ?_
        refine WL.nil ?_
        refine WQ.back _ ⟨i + 1, sv, acc, hl, rfl, by omega, by omega, hso, by rw [← hacc, heldS_drop ht, if_neg (fun h => hc2 ⟨h.1, hov.2 h.2⟩), List.nil_append], rfl, rfl, rfl⟩ (by omega) (by repeat (first | exact Covers.nil _ | refine Covers.cons rfl ?_)) (by repeat (first | exact List.Sublist.refl _ | exact List.nil_sublist _ | apply List.Sublist.cons_cons | apply List.Sublist.cons | apply List.Sublist.append_left | exact List.sublist_append_right _ _))
  · refine WC.exit ?_
    refine WQ.thn_exit ?_
    refine WQ.back_exit ?_
    refine WQ.blk_here ?_
    refine WQ.thn ?_
    refine WC.seq ?_
    refine WC.region ?_
    refine WL.pur (Pur.move rfl) ?_
    refine WL.pur (Pur.assign rfl) ?_
    refine WL.nil ?_
    refine WQ.thn ?_
    refine WC.ret ?_
    refine WQ.ret1 Tryz.results29 rfl hl (List.Sublist.refl _) hle1 ?_
    exact ⟨_, by rw [heldS_done (show (tripsN L (isKey key 1 2) L.length).length ≤ i by omega), List.append_nil] at hacc; rw [← hacc]; exact hso, rfl⟩

theorem r14_Keys (σ0 : View) (pv : Value) (L : List EntD) (h : R11V σ0 pv L) (ho : OrdOk L) :
    Tri Tryz.prog 25 #[pv] σ0 [] (fun v σ' H' => ∃ h, SlO σ' eStr 9 1 v (regKeys L) h ∧ H' = h) := by
  have hmost := ho.most
  refine Tri.of_body [(0, pv)] Tryz.func25 rfl Tryz.ntmps25 (by simp) rfl (fun Hr => ?_)
  rw [List.nil_append]
  refine WC.seq ?_
  refine WC.region ?_
  refine WL.pur (Pur.assign rfl) ?_
  refine WL.nil ?_
  refine WQ.thn ?_
  refine WC.seq ?_
  refine WC.region ?_
  refine WL.pur (Pur.move rfl) ?_
  refine WL.call (H0 := []) (Hr := Hr) rfl Tryz.call47 (List.Perm.refl _) (r11_Keys _ _ L 1 2 h ho) ?_
  rintro v7 σ _ ⟨hh, hso0, rfl⟩ hle0
  have hkn : (keysR L (isKind 1 2)).length ≤ L.length * 1024 := by
    have h1 := dedup_len (textsL (keysOf (opsN L (isKind 1 2) L.length)))
    rw [textsL_len] at h1
    have h2 := opsN_len ho (isKind 1 2) L.length
    unfold keysOf at h1
    rw [List.length_map] at h1
    rw [keysR_eq]; unfold keysOf; omega
  refine WL.giveS (byt := 16) (H1 := []) (H2 := Hr) eStr_mono hso0 (by omega) rfl (fun σ1 hle1 hK => ?_)
  rw [List.nil_append]
  obtain ⟨ka, kc, rfl, hkc, hkb⟩ := hK.shape
  obtain ⟨kb, koff, hek⟩ := addr_of hK
  refine WL.pur (Pur.assign rfl) ?_
  refine WL.nil ?_
  refine WQ.thn ?_
  refine WC.seq ?_
  refine WC.region ?_
  refine WL.new (New.buildSlice0 sl_23) (fun b8 => ?_)
  refine WL.pur (Pur.assign rfl) ?_
  refine WL.nil ?_
  refine WQ.thn ?_
  refine WC.seq ?_
  refine WC.seq ?_
  refine WC.region ?_
  refine WL.pur (Pur.assign rfl) ?_
  refine WL.nil ?_
  refine WQ.thn ?_
  refine WC.block ?_
  refine WC.loop (fun j m σ' H' => ∃ (i : Nat) (sv : Value) (hl : HList), j = (keysR L (isKind 1 2)).length - i ∧ i ≤ (keysR L (isKind 1 2)).length ∧ SlO σ' eStr 9 1 sv (((keysR L (isKind 1 2)).take i).filter (fun k => decide (0 < (regHeld L k).length))) hl ∧ σ1.le σ' ∧ m = [(0, pv), (3, .slice ka (keysR L (isKind 1 2)).length kc), (4, sv), (5, .int .i64 (i : Int))] ∧ H' = hl ++ Hr) ⟨0, _, [(b8, rowO 9 [])], rfl, by omega, by rw [List.take_zero]; exact row_nilS _ b8, View.le_refl _, rfl, rfl⟩ (by repeat (first | exact Covers.nil _ | refine Covers.cons rfl ?_)) (by repeat (first | exact List.Sublist.refl _ | exact List.nil_sublist _ | apply List.Sublist.cons_cons | apply List.Sublist.cons | apply List.Sublist.append_left | exact List.sublist_append_right _ _)) ?_
  rintro _ _ σ Hr ⟨i, sv, hl, rfl, hi, hso, hle9, rfl, rfl⟩
  have hK9 := hK.mono eStr_mono hle9
  refine WC.seq ?_
  refine WC.seq ?_
  refine WC.region ?_
  refine WL.pur (Pur.move rfl) ?_
  refine WL.pur (Pur.move rfl) ?_
  refine WL.pur (Pur.len rfl isSlice_23) ?_
  refine' WL.pur (Pur.bin rfl rfl ?h1_0) ?k1
  case h1_0 => first | exact Bin.ltN | exact Bin.ltI | exact Bin.ltS
  refine WL.nil ?_
  refine WQ.thn ?_
  first | refine WC.cond rfl (fun hc0 => ?_) (fun hc0 => ?_) | refine WC.condB rfl (fun hc0 => ?_) (fun hc0 => ?_)
  · have hks := str_rd hK9 hek hc0
    have hok3 := hks.2
    refine WC.skip ?_
    refine WQ.thn ?_
    refine WC.seq ?_
    refine WC.block ?_
    refine WC.seq ?_
    refine WC.region ?_
    refine WL.pur (Pur.move rfl) ?_
    refine WL.pur (Pur.move rfl) ?_
    refine WL.pur (Pur.move rfl) ?_
    refine' WL.pur (Pur.indexAddr (eqA (hek (by omega))) rfl sl_23 ?h2_0) ?k2
    case h2_0 => omega
    refine' WL.pur (Pur.load1 rfl ty_9 ?h3_0) ?k3
    case h3_0 => exact RdV.rd hks.1
    refine WL.call (H0 := []) (Hr := hl ++ Hr) rfl Tryz.call29 (List.Perm.refl _) (r14_Read _ _ L (sD (keysR L (isKind 1 2)) i) (h.mono (View.le_trans hle0 (View.le_trans hle1 hle9))) ho) ?_
    rintro v20 σ2 hR ⟨_, hsoR, rfl⟩ hle2
    obtain ⟨ra, rc, rfl, hrc⟩ := hsoR.shape
    refine WL.pur (Pur.len rfl isSlice_23) ?_
    refine' WL.pur (Pur.bin rfl rfl ?h4_0) ?k4
    case h4_0 => first | exact Bin.gtN (b := 0) | exact Bin.gtI
    refine WL.nil ?_
    refine WQ.thn ?_
    first | refine WC.cond rfl (fun hc1 => ?_) (fun hc1 => ?_) | refine WC.condB rfl (fun hc1 => ?_) (fun hc1 => ?_)
    · have hks2 := str_rd (hK9.mono eStr_mono hle2) hek hc0
      have hfl : (((keysR L (isKind 1 2)).take i).filter (fun k => decide (0 < (regHeld L k).length))).length ≤ i := Nat.le_trans (List.length_filter_le _ _) (by rw [List.length_take]; omega)
      refine WC.region ?_
      refine WL.pur (Pur.move rfl) ?_
      refine WL.pur (Pur.move rfl) ?_
      refine WL.pur (Pur.move rfl) ?_
      refine' WL.pur (Pur.indexAddr (eqA (hek (by omega))) rfl sl_23 ?h5_0) ?k5
      case h5_0 => omega
      refine' WL.pur (Pur.load1 rfl ty_9 ?h6_0) ?k6
      case h6_0 => exact RdV.rd hks2.1
      refine WL.new (New.buildSliceS (xs := [.tmp 27]) sl_23 zc_9 rfl rfl rfl (by rfl) (by rfl)) (fun b28 => ?_)
      refine' WL.any (Any.push (H1 := (b28, _) :: hR) (H2 := Hr) sl_23 zc_9 rfl by_9 rfl rfl (hso.mono eStr_mono hle2) ?h7_0 ?h7_1 ?h7_2 ?h7_3 rfl (by omega) (by omega)) ?k7
      case h7_0 => apply Rd.own_sub; (focus repeat (first | exact List.Mem.head _ | apply List.Mem.tail | apply List.mem_append_right)); exact Sub.refl _
      case h7_1 => first | rfl | assumption
      case h7_2 => first | rfl | assumption
      case h7_3 => exact ⟨rfl, hok3⟩
      rintro v29 σ _ ⟨hl3, hso3, rfl, rfl⟩ _
      refine WL.pur (Pur.assign rfl) ?_
      refine WL.nil ?_
      refine WQ.blk ?_
      refine WQ.thn ?_
      refine WC.region ?_
      refine WL.pur (Pur.move rfl) ?_
      refine' WL.pur (Pur.bin rfl rfl ?h8_0) ?k8
      case h8_0 => first | (refine Bin.addN (b := 1) ?_; omega) | (refine Bin.addI ?_; omega)
      refine WL.pur (Pur.assign rfl) ?_
      refine WL.nil ?_
      refine WQ.back _ ⟨i + 1, _, _, rfl, by omega, by rw [filter_take_step hc0, if_pos (by simpa using hc1)]; exact hso3, View.le_trans hle9 hle2, rfl, rfl⟩ (by omega) (by repeat (first | exact Covers.nil _ | refine Covers.cons rfl ?_)) (by repeat (first | exact List.Sublist.refl _ | exact List.nil_sublist _ | apply List.Sublist.cons_cons | apply List.Sublist.cons | apply List.Sublist.append_left | exact List.sublist_append_right _ _))
    · refine WC.skip ?_
      refine WQ.blk ?_
      refine WQ.thn ?_
      refine WC.region ?_
      refine WL.pur (Pur.move rfl) ?_
      refine' WL.pur (Pur.bin rfl rfl ?h9_0) ?k9
      case h9_0 => first | (refine Bin.addN (b := 1) ?_; omega) | (refine Bin.addI ?_; omega)
      refine WL.pur (Pur.assign rfl) ?_
      refine WL.nil ?_
      refine WQ.back _ ⟨i + 1, sv, hl, rfl, by omega, by rw [filter_take_step hc0, if_neg (by simpa using hc1), List.append_nil]; exact hso.mono eStr_mono hle2, View.le_trans hle9 hle2, rfl, rfl⟩ (by omega) (by repeat (first | exact Covers.nil _ | refine Covers.cons rfl ?_)) (by repeat (first | exact List.Sublist.refl _ | exact List.nil_sublist _ | apply List.Sublist.cons_cons | apply List.Sublist.cons | apply List.Sublist.append_left | exact List.sublist_append_right _ _))
  · refine WC.exit ?_
    refine WQ.thn_exit ?_
    refine WQ.back_exit ?_
    refine WQ.blk_here ?_
    refine WQ.thn ?_
    refine WC.seq ?_
    refine WC.region ?_
    refine WL.pur (Pur.move rfl) ?_
    refine WL.pur (Pur.assign rfl) ?_
    refine WL.nil ?_
    refine WQ.thn ?_
    refine WC.ret ?_
    refine WQ.ret1 Tryz.results25 rfl hl (List.Sublist.refl _) (View.le_trans hle0 (View.le_trans hle1 hle9)) ?_
    exact ⟨_, by rw [List.take_of_length_le (by omega), keysR_reg] at hso; exact hso, rfl⟩

end Go.Proofs.YtgoooilgmabkmaaGreat
namespace Go.Proofs.YtgoooilgmabkmaaGreat
open Go Go.Sl
set_option linter.unusedVariables false
set_option linter.unusedSimpArgs false
set_option maxRecDepth 100000

theorem perm_3 {hh R : HList} {x y : Nat × Obj} : (hh ++ (x :: y :: R)).Perm (x :: y :: (hh ++ R)) := by
  have := List.perm_append_comm_assoc hh [x, y] R
  simpa using this

theorem reg_add (σ : View) (sv : Value) (M : List (Nat × OpD)) (hm : HList) (i : Nat) (o : OpD) (hso : SlO σ eMark 235 3 sv M hm) (hok : o.ok) (hb : M.length ≤ 4194304) :
    Tri Tryz.prog 100 #[sv, .int .i64 (i : Int), .agg o.cells.toArray] σ hm (fun v σ' H' => SlO σ eMark 235 3 v (addM M (i, o)) H' ∧ σ' = σ) := by
  obtain ⟨sa, sc, rfl, hsc⟩ := hso.shape
  obtain ⟨bs, hsa, hsat⟩ := hso.rds
  refine Tri.of_body [(0, .slice sa M.length sc), (1, .int .i64 (i : Int)), (2, .agg o.cells.toArray)] Tryz.func100 rfl Tryz.ntmps100 (by simp) rfl (fun Hr => ?_)
  skip
  refine WC.seq ?_
  refine WC.region ?_
  refine WL.new (New.boxN rfl) (fun b5 => ?_)
  refine WL.pur (Pur.assign rfl) ?_
  refine WL.nil ?_
  refine WQ.thn ?_
  refine WC.seq ?_
  refine WC.region ?_
  refine WL.pur (Pur.move rfl) ?_
  refine WL.pur (Pur.fieldAddr rfl fo_51_0) ?_
  refine' WL.pur (Pur.load1 rfl ty_3 ?h1_0) ?k1
  case h1_0 => first | (apply Rd.own1; (focus repeat (first | exact List.Mem.head _ | apply List.Mem.tail | apply List.mem_append_right)); rfl) | (apply RdV.rd; apply RdV.idx (i := 0); assumption; rfl)
  refine' WL.pur (Pur.bin rfl rfl ?h2_0) ?k2
  case h2_0 => first | exact Bin.eqN (b := 1) | exact Bin.eqI
  refine WL.pur (Pur.fieldAddr rfl fo_51_2) ?_
  refine' WL.pur (Pur.load1 rfl ty_9 ?h3_0) ?k3
  case h3_0 => first | (apply Rd.own1; (focus repeat (first | exact List.Mem.head _ | apply List.Mem.tail | apply List.mem_append_right)); rfl) | (apply RdV.rd; apply RdV.idx (i := 2); assumption; rfl) | (apply RdV.rd; apply RdV.idx (off := 0) (i := 2); assumption; rfl)
  refine WL.pur (Pur.build (l := [_, _, _]) pl_235 zc_235 rfl rfl) ?_
  refine WL.new (New.alloc zc_235) (fun b7 => ?_)
  refine' WL.run0 (Run.storeAll rfl rfl ty_235 ?h4_0 (by first | rfl | assumption) ?h4_1 (by first | rfl | assumption)) ?k4
  case h4_0 => repeat (first | exact Part.one | exact Part.here | apply Part.cons | apply Part.app)
  case h4_1 => first | rfl | assumption
  refine WL.nil ?_
  refine WQ.thn ?_
  refine WC.seq ?_
  refine WC.seq ?_
  refine WC.region ?_
  refine WL.pur (Pur.move rfl) ?_
  refine WL.pur (Pur.len rfl isSlice_155) ?_
  refine WL.pur (Pur.assign rfl) ?_
  refine WL.nil ?_
  refine WQ.thn ?_
  refine WC.seq ?_
  refine WC.region ?_
  refine WL.pur (Pur.move rfl) ?_
  refine' WL.pur (Pur.bin rfl rfl ?h5_0) ?k5
  case h5_0 => first | exact Bin.gtN (b := 0) | exact Bin.gtI
  refine WL.pur (Pur.move rfl) ?_
  refine' WL.andp (u := 20) (t := 29) rfl ?h6_0 ?h6_1 ?h6_2 rfl ?k6
  case h6_0 =>
    intro hg20 K20
    refine WL.gpur (u := 20) rfl rfl (gT hg20) (Pur.move rfl) ?_
    refine WL.gpur (u := 20) rfl rfl (gT hg20) (Pur.move rfl) ?_
    refine' WL.gpur (u := 20) rfl rfl (gT hg20) (Pur.bin rfl rfl ?h7_0) ?k7
    case h7_0 => first | (refine Bin.subN (b := 1) ?_ ?_ <;> omega) | (refine Bin.subI ?_; omega)
    refine' WL.gpur (u := 20) rfl rfl (gT hg20) (Pur.indexAddr (eqA (hsa hg20)) rfl sl_155 ?h8_0) ?k8
    case h8_0 => omega
    refine WL.gpur (u := 20) rfl rfl (gT hg20) (Pur.fieldAddr rfl fo_235_0) ?_
    refine' WL.gpur (u := 20) rfl rfl (gT hg20) (Pur.load1 rfl ty_3 ?h9_0) ?k9
    case h9_0 => exact rd_last hg20 hsat (fun p hp => by repeat (first | exact List.mem_append_left _ hp | apply List.Mem.tail | apply List.mem_append_right))
    refine WL.gpur (u := 20) rfl rfl (gT hg20) (Pur.move rfl) ?_
    refine' WL.gpur (u := 20) rfl rfl (gT hg20) (Pur.bin rfl rfl ?h10_0) ?k10
    case h10_0 => first | exact Bin.eqN | exact Bin.eqI
    exact K20 _ (by repeat (first | exact Covers.refl _ | refine Covers.push ?_ rfl)) rfl
  case h6_1 =>
    intro hg20 K20
    refine WL.gskip (u := 20) rfl rfl (sT hg20) ?_
    refine WL.gskip (u := 20) rfl rfl (sT hg20) ?_
    refine WL.gskip (u := 20) rfl rfl (sT hg20) ?_
    refine WL.gskip (u := 20) rfl rfl (sT hg20) ?_
    refine WL.gskip (u := 20) rfl rfl (sT hg20) ?_
    refine WL.gskip (u := 20) rfl rfl (sT hg20) ?_
    refine WL.gskip (u := 20) rfl rfl (sT hg20) ?_
    refine WL.gskip (u := 20) rfl rfl (sT hg20) ?_
    exact K20 _ (by repeat (first | exact Covers.refl _ | refine Covers.push ?_ rfl))
  case h6_2 => exact Wanted.plain rfl
  refine WL.nil ?_
  refine WQ.thn ?_
  first | refine WC.cond rfl (fun hc0 => ?_) (fun hc0 => ?_) | refine WC.condB rfl (fun hc0 => ?_) (fun hc0 => ?_)
  · obtain ⟨b, cap, junk, vss, e1, rfl, hcap, hjl, hel⟩ := hso.at hc0.1
    cases e1
    refine WC.seq ?_
    refine WC.region ?_
    refine WL.pur (Pur.move rfl) ?_
    refine WL.pur (Pur.move rfl) ?_
    refine' WL.pur (Pur.bin rfl rfl ?h11_0) ?k11
    case h11_0 => first | (refine Bin.subN (b := 1) ?_ ?_ <;> omega) | (refine Bin.subI ?_; omega)
    refine' WL.pur (Pur.loadN rfl ty_235 ?h12_0 ?h12_1) ?k12
    case h12_0 => first | (apply Rd.own_sub; (focus repeat (first | exact List.Mem.head _ | apply List.Mem.tail | apply List.mem_append_right)); exact Sub.refl _) | (apply RdV.rd; assumption)
    case h12_1 => first | rfl | assumption
    refine' WL.pur (Pur.indexAddr rfl rfl sl_155 ?h13_0) ?k13
    case h13_0 => omega
    refine' WL.run0 (Run.storeN rfl rfl ty_235 rfl rfl (by repeat (first | exact Part.one | exact Part.here | apply Part.cons | apply Part.app)) (by rw [List.length_append, hel.flat]; simp only [List.length_cons, List.length_nil]; omega)) ?k14
    refine WL.nil ?_
    refine WQ.thn ?_
    refine WC.seq ?_
    refine WC.region ?_
    refine WL.pur (Pur.move rfl) ?_
    refine WL.pur (Pur.assign rfl) ?_
    refine WL.nil ?_
    refine WQ.thn ?_
    refine WC.ret ?_
    refine WQ.thn_ret ?_
    refine WQ.ret1 Tryz.results100 rfl [(b, rowO 235 (lput (vss.flatten ++ junk) (0 + (M.length - 1) * 3) [.int .i64 (i : Int), .bool (decide (o.kind = 1)), .string o.text]))] (by repeat (first | exact List.Sublist.refl _ | exact List.nil_sublist _ | apply List.Sublist.cons_cons | apply List.Sublist.cons | apply List.Sublist.append_left | exact List.sublist_append_right _ _)) (View.le_refl _) ?_
    exact ⟨by rw [addM_set hc0]; exact SlO.put hel hcap hjl (by omega) rfl rfl ⟨rfl, hok.2.2.1⟩, rfl⟩
  · refine WC.skip ?_
    refine WQ.thn ?_
    refine WC.seq ?_
    refine WC.region ?_
    refine WL.pur (Pur.move rfl) ?_
    refine' WL.pur (Pur.loadN rfl ty_235 ?h15_0 ?h15_1) ?k15
    case h15_0 => first | (apply Rd.own_sub; (focus repeat (first | exact List.Mem.head _ | apply List.Mem.tail | apply List.mem_append_right)); exact Sub.refl _) | (apply RdV.rd; assumption)
    case h15_1 => first | rfl | assumption
    refine WL.new (New.buildSliceN (xs := [.tmp 37]) (vss := [[.int .i64 (i : Int), .bool (decide (o.kind = 1)), .string o.text]]) sl_155 zc_235 rfl rfl rfl (by rfl) (by rfl)) (fun b38 => ?_)
    refine' WL.any (Any.push (H1 := [(b38, _), (b7, _), (b5, _)]) (H2 := Hr) sl_155 zc_235 rfl by_235 rfl rfl hso ?h16_0 ?h16_1 ?h16_2 ?h16_3 rfl (by omega) (by omega)) ?k16
    case h16_0 => apply Rd.own_sub; (focus repeat (first | exact List.Mem.head _ | apply List.Mem.tail | apply List.mem_append_right)); exact Sub.refl _
    case h16_1 => first | rfl | assumption
    case h16_2 => first | rfl | assumption
    case h16_3 => exact (show eMark _ (i, o) _ from ⟨rfl, hok.2.2.1⟩)
    rintro v39 σ _ ⟨ho', hso', rfl, rfl⟩ _
    refine WL.pur (Pur.assign rfl) ?_
    refine WL.nil ?_
    refine WQ.thn ?_
    refine WC.ret ?_
    refine WQ.ret1 Tryz.results100 rfl ho' (by repeat (first | exact List.Sublist.refl _ | exact List.nil_sublist _ | apply List.Sublist.cons_cons | apply List.Sublist.cons | apply List.Sublist.append_left | exact List.sublist_append_right _ _)) (View.le_refl _) ?_
    exact ⟨by rw [addM_push hc0]; exact hso', rfl⟩

theorem reg_held (σ : View) (pv lv : Value) (L : List EntD) (M : List (Nat × OpD)) (h : PastV σ pv L) (ho : OrdOk L) (hl : SlE σ eMark 3 32 lv M) (hM : ∀ x ∈ M, x.1 < L.length) (hb : M.length ≤ 4194304) :
    Tri Tryz.prog 101 #[pv, lv] σ [] (fun v σ' H' => (∃ h, SlO σ eStr 9 1 v (heldM L M) h ∧ H' = h) ∧ σ' = σ) := by
  have hmost := ho.most
  obtain ⟨la, lc, rfl, hlc, hlb⟩ := hl.shape
  obtain ⟨lb, loff, hla, hlat⟩ := hl.rds
  refine Tri.of_body [(0, pv), (1, .slice la M.length lc)] Tryz.func101 rfl Tryz.ntmps101 (by simp) rfl (fun Hr => ?_)
  rw [List.nil_append]
  refine WC.seq ?_
  refine WC.region ?_
  refine WL.pur (Pur.assign rfl) ?_
  refine WL.nil ?_
  refine WQ.thn ?_
  refine WC.seq ?_
  refine WC.region ?_
  refine WL.pur (Pur.assign rfl) ?_
  refine WL.nil ?_
  refine WQ.thn ?_
  refine WC.seq ?_
  refine WC.seq ?_
  refine WC.region ?_
  refine WL.pur (Pur.move rfl) ?_
  refine WL.pur (Pur.len rfl isSlice_155) ?_
  refine WL.pur (Pur.move rfl) ?_
  refine WL.nil ?_
  refine WQ.thn ?_
  refine WC.block ?_
  refine WC.loop (fun j m σ' H' => ∃ (k : Nat) (sv : Value) (acc : List ByteArray) (hh : HList), j = M.length - k ∧ k ≤ M.length ∧ acc.length ≤ k ∧ SlO σ eStr 9 1 sv acc hh ∧ acc ++ heldM L (M.drop k) = heldM L M ∧ m = [(0, pv), (1, .slice la M.length lc), (5, sv), (11, .slice la M.length lc), (12, .int .i64 (M.length : Int)), (13, .int .i64 (k : Int))] ∧ σ' = σ ∧ H' = hh ++ Hr) ⟨0, .slice none 0 0, [], [], rfl, by omega, by simp, SlO.nil, rfl, rfl, rfl, rfl⟩ (by repeat (first | exact Covers.nil _ | refine Covers.cons rfl ?_)) (by repeat (first | exact List.Sublist.refl _ | exact List.nil_sublist _ | apply List.Sublist.cons_cons | apply List.Sublist.cons | apply List.Sublist.append_left | exact List.sublist_append_right _ _)) ?_
  rintro _ _ σ Hr ⟨k, sv, acc, hh, rfl, hk, hal, hso, hacc, rfl, rfl, rfl⟩
  refine WC.seq ?_
  refine WC.region ?_
  refine' WL.pur (Pur.bin rfl rfl ?h1_0) ?k1
  case h1_0 => first | exact Bin.ltN | exact Bin.ltI | exact Bin.ltS
  refine WL.nil ?_
  refine WQ.thn ?_
  refine WC.seq ?_
  first | refine WC.cond rfl (fun hc0 => ?_) (fun hc0 => ?_) | refine WC.condB rfl (fun hc0 => ?_) (fun hc0 => ?_)
  · obtain ⟨x, hx⟩ : ∃ x, M[k]? = some x := ⟨_, List.getElem?_eq_getElem hc0⟩
    obtain ⟨vs, _, _, ⟨rfl, hxt⟩, hxr⟩ := hlat k x hx
    have hxl := hM x (List.mem_of_getElem? hx)
    have hD := hl.drop (k + 1) (by omega)
    obtain ⟨db, doff, hda, hdat⟩ := hD.rds
    rw [List.length_drop] at hda
    refine WC.skip ?_
    refine WQ.thn ?_
    refine WC.seq ?_
    refine WC.block ?_
    refine WC.seq ?_
    refine WC.region ?_
    refine WL.pur (Pur.move rfl) ?_
    refine' WL.pur (Pur.indexAddr (eqA (hla (by omega))) rfl sl_155 ?h2_0) ?k2
    case h2_0 => omega
    refine' WL.pur (Pur.loadN rfl ty_235 ?h3_0 ?h3_1) ?k3
    case h3_0 => exact RdV.rd hxr
    case h3_1 => first | rfl | assumption
    refine WL.new (New.alloc zc_235) (fun b7 => ?_)
    refine WL.pur (Pur.assign rfl) ?_
    refine' WL.run0 (Run.storeAll rfl rfl ty_235 ?h4_0 (by first | rfl | assumption) ?h4_1 (by first | rfl | assumption)) ?k4
    case h4_0 => repeat (first | exact Part.one | exact Part.here | apply Part.cons | apply Part.app)
    case h4_1 => first | rfl | assumption
    refine WL.nil ?_
    refine WQ.thn ?_
    refine WC.seq ?_
    refine WC.region ?_
    refine WL.pur (Pur.fieldAddr rfl fo_235_1) ?_
    refine' WL.pur (Pur.load1 rfl ty_4 ?h5_0) ?k5
    case h5_0 => first | (apply Rd.own1; (focus repeat (first | exact List.Mem.head _ | apply List.Mem.tail | apply List.mem_append_right)); rfl) | (apply RdV.rd; apply RdV.idx (i := 1); assumption; rfl) | (apply RdV.rd; apply RdV.idx (off := 0) (i := 1); assumption; rfl)
    first | refine WL.pur (Pur.not rfl) ?_ | refine WL.pur (Pur.notB rfl) ?_
    refine WL.pur (Pur.assign rfl) ?_
    refine WL.nil ?_
    refine WQ.thn ?_
    refine WC.seq ?_
    refine WC.seq ?_
    refine WC.region ?_
    refine WL.pur (Pur.move rfl) ?_
    refine WL.pur (Pur.move rfl) ?_
    refine' WL.pur (Pur.bin rfl rfl ?h6_0) ?k6
    case h6_0 => first | (refine Bin.addN (b := 1) ?_; omega) | (refine Bin.addI ?_; omega)
    refine WL.pur ((Pur.sliceX rfl rfl sl_155 (by omega) (by omega))) ?_
    refine WL.pur (Pur.len rfl isSlice_155) ?_
    refine WL.pur (Pur.move rfl) ?_
    refine WL.nil ?_
    refine WQ.thn ?_
    refine WC.block ?_
    refine WC.loop (fun j m σ' H' => ∃ (u : Nat) (ovp : Prop) (_ : Decidable ovp), j = (M.length - (k + 1)) - u ∧ u ≤ M.length - (k + 1) ∧ (ovp ↔ (¬ x.2.kind = 1 ∨ overM L x.1 ((M.drop (k + 1)).take u) = true)) ∧ m = [(0, pv), (1, .slice la M.length lc), (5, sv), (11, .slice la M.length lc), (12, .int .i64 (M.length : Int)), (13, .int .i64 (k : Int)), (6, .int .i64 (k : Int)), (7, .pointer (some ⟨b7, 0, none⟩)), (8, .bool (decide ovp)), (24, .slice (dropA la (k + 1) 3 lc) (M.length - (k + 1)) (lc - (k + 1))), (25, .int .i64 ((M.length - (k + 1) : Nat) : Int)), (26, .int .i64 (u : Int))] ∧ σ' = σ ∧ H' = (b7, rowO 235 [.int .i64 (x.1 : Int), .bool (decide (x.2.kind = 1)), .string x.2.text]) :: (hh ++ Hr)) ⟨0, ¬ x.2.kind = 1, inferInstance, rfl, by omega, by simp [overM], rfl, rfl, rfl⟩ (by repeat (first | exact Covers.nil _ | refine Covers.cons rfl ?_)) (by repeat (first | exact List.Sublist.refl _ | exact List.nil_sublist _ | apply List.Sublist.cons_cons | apply List.Sublist.cons | apply List.Sublist.append_left | exact List.sublist_append_right _ _)) ?_
    rintro _ _ σ Hr ⟨u, ovp, hdec, rfl, hu, hovq, rfl, rfl, rfl⟩
    refine WC.seq ?_
    refine WC.region ?_
    refine' WL.pur (Pur.bin rfl rfl ?h7_0) ?k7
    case h7_0 => first | exact Bin.ltN | exact Bin.ltI | exact Bin.ltS
    refine WL.nil ?_
    refine WQ.thn ?_
    refine WC.seq ?_
    first | refine WC.cond rfl (fun hc1 => ?_) (fun hc1 => ?_) | refine WC.condB rfl (fun hc1 => ?_) (fun hc1 => ?_)
    · obtain ⟨y, hy⟩ : ∃ y, (M.drop (k + 1))[u]? = some y := ⟨_, List.getElem?_eq_getElem (by rw [List.length_drop]; omega)⟩
      obtain ⟨vs2, _, _, ⟨rfl, hyt⟩, hyr⟩ := hdat u y hy
      have hyl := hM y (List.mem_of_mem_drop (List.mem_of_getElem? hy))
      have hnew : (ovp ∨ seesN L x.1 y.1 = true) ↔ (¬ x.2.kind = 1 ∨ overM L x.1 ((M.drop (k + 1)).take (u + 1)) = true) := by
        rw [hovq, overM_step hy, Bool.or_eq_true]
        exact or_assoc
      refine WC.skip ?_
      refine WQ.thn ?_
      refine WC.seq ?_
      refine WC.block ?_
      refine WC.seq ?_
      refine WC.region ?_
      refine' WL.pur (Pur.indexAddr (eqA (hda (by omega))) rfl sl_155 ?h8_0) ?k8
      case h8_0 => omega
      refine' WL.pur (Pur.loadN rfl ty_235 ?h9_0 ?h9_1) ?k9
      case h9_0 => exact RdV.rd hyr
      case h9_1 => first | rfl | assumption
      refine WL.new (New.alloc zc_235) (fun b10 => ?_)
      refine' WL.run0 (Run.storeAll rfl rfl ty_235 ?h10_0 (by first | rfl | assumption) ?h10_1 (by first | rfl | assumption)) ?k10
      case h10_0 => repeat (first | exact Part.one | exact Part.here | apply Part.cons | apply Part.app)
      case h10_1 => first | rfl | assumption
      refine WL.nil ?_
      refine WQ.thn ?_
      refine WC.region ?_
      refine WL.pur (Pur.move rfl) ?_
      refine WL.pur (Pur.move rfl) ?_
      refine' WL.orp (u := 31) (t := 38) rfl ?h11_0 ?h11_1 ?h11_2 rfl ?k11
      case h11_0 =>
        intro hg31 K31
        refine WL.gpur (u := 31) rfl rfl (gF hg31) (Pur.move rfl) ?_
        refine WL.gpur (u := 31) rfl rfl (gF hg31) (Pur.fieldAddr rfl fo_235_0) ?_
        refine' WL.gpur (u := 31) rfl rfl (gF hg31) (Pur.load1 rfl ty_3 ?h12_0) ?k12
        case h12_0 => first | (apply Rd.own1; (focus repeat (first | exact List.Mem.head _ | apply List.Mem.tail | apply List.mem_append_right)); rfl) | (apply RdV.rd; apply RdV.idx (i := 0); assumption; rfl)
        refine WL.gpur (u := 31) rfl rfl (gF hg31) (Pur.fieldAddr rfl fo_235_0) ?_
        refine' WL.gpur (u := 31) rfl rfl (gF hg31) (Pur.load1 rfl ty_3 ?h13_0) ?k13
        case h13_0 => first | (apply Rd.own1; (focus repeat (first | exact List.Mem.head _ | apply List.Mem.tail | apply List.mem_append_right)); rfl) | (apply RdV.rd; apply RdV.idx (i := 0); assumption; rfl)
        refine WL.gcallP (u := 31) rfl rfl (gF hg31) rfl Tryz.call113 (past_Sees _ _ L x.1 y.1 h ho hyl (by omega)) ?_
        exact K31 _ (by repeat (first | exact Covers.refl _ | refine Covers.push ?_ rfl)) rfl
      case h11_1 =>
        intro hg31 K31
        refine WL.gskip (u := 31) rfl rfl (sF hg31) ?_
        refine WL.gskip (u := 31) rfl rfl (sF hg31) ?_
        refine WL.gskip (u := 31) rfl rfl (sF hg31) ?_
        refine WL.gskip (u := 31) rfl rfl (sF hg31) ?_
        refine WL.gskip (u := 31) rfl rfl (sF hg31) ?_
        refine WL.gskip (u := 31) rfl rfl (sF hg31) ?_
        exact K31 _ (by repeat (first | exact Covers.refl _ | refine Covers.push ?_ rfl))
      case h11_2 => exact Wanted.plain rfl
      refine WL.pur (Pur.assign rfl) ?_
      refine WL.nil ?_
      refine WQ.blk ?_
      refine WQ.thn ?_
      refine WC.region ?_
      refine' WL.pur (Pur.bin rfl rfl ?h14_0) ?k14
      case h14_0 => first | (refine Bin.addN (b := 1) ?_; omega) | (refine Bin.addI ?_; omega)
      refine WL.pur (Pur.move rfl) ?_
      refine WL.nil ?_
      refine WQ.back _ ⟨u + 1, _, inferInstance, rfl, by omega, hnew, rfl, rfl, rfl⟩ (by omega) (by repeat (first | exact Covers.nil _ | refine Covers.cons rfl ?_)) (by repeat (first | exact List.Sublist.refl _ | exact List.nil_sublist _ | apply List.Sublist.cons_cons | apply List.Sublist.cons | apply List.Sublist.append_left | exact List.sublist_append_right _ _))
    · have hov : ¬ ovp ↔ (x.2.kind = 1 ∧ overM L x.1 (M.drop (k + 1)) = false) := by
        rw [hovq, List.take_of_length_le (by rw [List.length_drop]; omega)]
        constructor
        · intro h
          exact ⟨Decidable.not_not.1 fun h1 => h (.inl h1), by simpa using fun h1 => h (.inr h1)⟩
        · rintro ⟨h1, h2⟩ (h3 | h3)
          · exact h3 h1
          · rw [h2] at h3; cases h3
      refine WC.exit ?_
      refine WQ.thn_exit ?_
      refine WQ.back_exit ?_
      refine WQ.blk_here ?_
      refine WQ.thn ?_
      refine WC.seq ?_
      refine WC.region ?_
      refine WL.pur (Pur.move rfl) ?_
      first | refine WL.pur (Pur.not rfl) ?_ | refine WL.pur (Pur.notB rfl) ?_
      refine WL.nil ?_
      refine WQ.thn ?_
      first | refine WC.cond rfl (fun hc2 => ?_) (fun hc2 => ?_) | refine WC.condB rfl (fun hc2 => ?_) (fun hc2 => ?_)
      · refine WC.region ?_
        refine WL.pur (Pur.move rfl) ?_
        refine WL.pur (Pur.fieldAddr rfl fo_235_2) ?_
        refine' WL.pur (Pur.load1 rfl ty_9 ?h15_0) ?k15
        case h15_0 => first | (apply Rd.own1; (focus repeat (first | exact List.Mem.head _ | apply List.Mem.tail | apply List.mem_append_right)); rfl) | (apply RdV.rd; apply RdV.idx (i := 2); assumption; rfl) | (apply RdV.rd; apply RdV.idx (off := 0) (i := 2); assumption; rfl)
        refine WL.new (New.buildSliceS (xs := [.tmp 44]) sl_23 zc_9 rfl rfl rfl (by rfl) (by rfl)) (fun b45 => ?_)
        refine' WL.any (Any.push (H1 := [(b45, _), (b7, _)]) (H2 := Hr) sl_23 zc_9 rfl by_9 rfl rfl hso ?h16_0 ?h16_1 ?h16_2 ?h16_3 rfl (by omega) (by omega)) ?k16
        case h16_0 => apply Rd.own_sub; (focus repeat (first | exact List.Mem.head _ | apply List.Mem.tail | apply List.mem_append_right)); exact Sub.refl _
        case h16_1 => first | rfl | assumption
        case h16_2 => first | rfl | assumption
        case h16_3 => exact ⟨rfl, hxt⟩
        rintro v46 σ _ ⟨hl3, hso3, rfl, rfl⟩ _
        refine WL.pur (Pur.assign rfl) ?_
        refine WL.nil ?_
        refine WQ.blk ?_
        refine WQ.thn ?_
        refine WC.region ?_
        refine' WL.pur (Pur.bin rfl rfl ?h17_0) ?k17
        case h17_0 => first | (refine Bin.addN (b := 1) ?_; omega) | (refine Bin.addI ?_; omega)
        refine WL.pur (Pur.move rfl) ?_
        refine WL.nil ?_
        refine WQ.back _ ⟨k + 1, _, _, _, rfl, by omega, by simp; omega, hso3, by rw [← hacc, heldM_drop hx, if_pos (hov.1 hc2), List.append_assoc], rfl, rfl, rfl⟩ (by omega) (by repeat (first | exact Covers.nil _ | refine Covers.cons rfl ?_)) (by repeat (first | exact List.Sublist.refl _ | exact List.nil_sublist _ | apply List.Sublist.cons_cons | apply List.Sublist.cons | apply List.Sublist.append_left | exact List.sublist_append_right _ _))
      · refine WC.skip ?_
        refine WQ.blk ?_
        refine WQ.thn ?_
        refine WC.region ?_
        refine' WL.pur (Pur.bin rfl rfl ?h18_0) ?k18
        case h18_0 => first | (refine Bin.addN (b := 1) ?_; omega) | (refine Bin.addI ?_; omega)
        refine WL.pur (Pur.move rfl) ?_
        refine WL.nil ?_
        refine WQ.back _ ⟨k + 1, sv, acc, hh, rfl, by omega, by omega, hso, by rw [← hacc, heldM_drop hx, if_neg (fun h => hc2 (hov.2 h)), List.nil_append], rfl, rfl, rfl⟩ (by omega) (by repeat (first | exact Covers.nil _ | refine Covers.cons rfl ?_)) (by repeat (first | exact List.Sublist.refl _ | exact List.nil_sublist _ | apply List.Sublist.cons_cons | apply List.Sublist.cons | apply List.Sublist.append_left | exact List.sublist_append_right _ _))
  · refine WC.exit ?_
    refine WQ.thn_exit ?_
    refine WQ.back_exit ?_
    refine WQ.blk_here ?_
    refine WQ.thn ?_
    refine WC.seq ?_
    refine WC.region ?_
    refine WL.pur (Pur.move rfl) ?_
    refine WL.pur (Pur.assign rfl) ?_
    refine WL.nil ?_
    refine WQ.thn ?_
    refine WC.ret ?_
    refine WQ.ret1 Tryz.results101 rfl hh (List.Sublist.refl _) (View.le_refl _) ?_
    exact ⟨⟨_, by rw [heldM_done (by omega), List.append_nil] at hacc; rw [← hacc]; exact hso, rfl⟩, rfl⟩

theorem reg_Read1 (σ : View) (bk bl : Nat) (key : ByteArray) (sv : Value) (hm : HList) (i : Nat) (o : OpD) (M : List (Nat × OpD)) (hso : SlO σ eMark 235 3 sv M hm) (hok : o.ok) (hb : M.length ≤ 4194304) (hk : RdV σ bk 0 [.string key]) :
    Tri Tryz.prog 103 #[.int .i64 (i : Int), .agg o.cells.toArray, .pointer (some ⟨bk, 0, none⟩), .pointer (some ⟨bl, 0, none⟩)] σ ((bl, rowO 155 [sv]) :: hm) (fun v σ' H' => (∃ sv' hm', H' = (bl, rowO 155 [sv']) :: hm' ∧ SlO σ eMark 235 3 sv' (if o.key = key then addM M (i, o) else M) hm') ∧ σ' = σ) := by
  have h1c := hso.one_cell
  refine Tri.of_body [(0, .int .i64 (i : Int)), (1, .agg o.cells.toArray), (2, .pointer (some ⟨bk, 0, none⟩)), (3, .pointer (some ⟨bl, 0, none⟩))] Tryz.func103 rfl Tryz.ntmps103 (by simp) rfl (fun Hr => ?_)
  rw [List.cons_append]
  refine WC.seq ?_
  refine WC.region ?_
  refine WL.new (New.boxN rfl) (fun b5 => ?_)
  refine WL.nil ?_
  refine WQ.thn ?_
  refine WC.seq ?_
  refine WC.region ?_
  refine WL.pur (Pur.fieldAddr rfl fo_51_1) ?_
  refine' WL.pur (Pur.load1 rfl ty_9 ?h1_0) ?k1
  case h1_0 => first | (apply Rd.own1; (focus repeat (first | exact List.Mem.head _ | apply List.Mem.tail | apply List.mem_append_right)); rfl) | (apply RdV.rd; apply RdV.idx (i := 1); assumption; rfl) | (apply RdV.rd; apply RdV.idx (off := 0) (i := 1); assumption; rfl)
  refine' WL.pur (Pur.load1 rfl ty_9 ?h2_0) ?k2
  case h2_0 => exact RdV.rd hk
  refine' WL.pur (Pur.bin rfl rfl ?h3_0) ?k3
  case h3_0 => exact Bin.eqS
  refine WL.nil ?_
  refine WQ.thn ?_
  first | refine WC.cond rfl (fun hc0 => ?_) (fun hc0 => ?_) | refine WC.condB rfl (fun hc0 => ?_) (fun hc0 => ?_)
  · refine WC.region ?_
    refine' WL.pur (Pur.load1 rfl ty_155 ?h4_0) ?k4
    case h4_0 => first | (apply Rd.own1; (focus repeat (first | exact List.Mem.head _ | apply List.Mem.tail | apply List.mem_append_right)); rfl) | exact RdV.rd (by assumption)
    refine WL.pur (Pur.move rfl) ?_
    refine' WL.pur (Pur.loadN rfl ty_51 ?h5_0 ?h5_1) ?k5
    case h5_0 => first | (apply Rd.own_sub; (focus repeat (first | exact List.Mem.head _ | apply List.Mem.tail | apply List.mem_append_right)); exact Sub.refl _) | (apply RdV.rd; assumption)
    case h5_1 => first | rfl | assumption
    refine WL.call (H0 := hm) (Hr := (b5, rowO 51 o.cells) :: (bl, rowO 155 [sv]) :: Hr) rfl Tryz.call100 perm_3 (reg_add _ sv M hm i o hso hok hb) ?_
    rintro v13 _ hm2 ⟨hso2, rfl⟩ _
    have h1c2 := hso2.one_cell
    refine WL.perm (H0 := (b5, rowO 51 o.cells) :: (bl, rowO 155 [sv]) :: (hm2 ++ Hr)) ?_ perm_3.symm
    refine' WL.run0 (Run.store1 rfl rfl ty_155 (by first | rfl | assumption) ?h6_0 ?h6_1 sz_155) ?k6
    case h6_0 => repeat (first | exact Part.one | exact Part.here | apply Part.cons | apply Part.app)
    case h6_1 => first | exact Nat.le_of_ble_eq_true rfl | decide | (simp; done) | (simp; omega) | omega
    refine WL.nil ?_
    refine WQ.ret0 Tryz.results103 ((bl, rowO 155 [v13]) :: hm2) (.inr rfl) (by repeat (first | exact List.Sublist.refl _ | exact List.nil_sublist _ | apply List.Sublist.cons_cons | apply List.Sublist.cons | apply List.Sublist.append_left | exact List.sublist_append_right _ _)) (View.le_refl _) ?_
    exact ⟨⟨_, _, rfl, by rw [if_pos hc0]; exact hso2⟩, rfl⟩
  · refine WC.skip ?_
    refine WQ.ret0 Tryz.results103 ((bl, rowO 155 [sv]) :: hm) (.inr rfl) (by repeat (first | exact List.Sublist.refl _ | exact List.nil_sublist _ | apply List.Sublist.cons_cons | apply List.Sublist.cons | apply List.Sublist.append_left | exact List.sublist_append_right _ _)) (View.le_refl _) ?_
    exact ⟨⟨_, _, rfl, by rw [if_neg hc0]; exact hso⟩, rfl⟩

end Go.Proofs.YtgoooilgmabkmaaGreat
namespace Go.Proofs.YtgoooilgmabkmaaGreat
open Go Go.Sl
set_option linter.unusedVariables false
set_option linter.unusedSimpArgs false
set_option maxRecDepth 100000

def TryzSort_ren : Go.Shelf.Ren := ⟨fun | 6 => 102 | 8 => 156 | 9 => 155 | 19 => 192 | 20 => 193 | 21 => 183 | 22 => 184 | 23 => 185 | 24 => 186 | 25 => 187 | 26 => 188 | 27 => 189 | 28 => 190 | 29 => 191 | 36 => 220 | 31 => 221 | 32 => 222 | 37 => 223 | 38 => 224 | 39 => 225 | 41 => 239 | n => n, fun | 27 => 23 | 29 => 9 | 3 => 3 | 32 => 238 | 26 => 23 | 0 => 0 | 44 => 282 | 46 => 60 | 4 => 4 | 36 => 275 | 35 => 274 | 41 => 176 | 5 => 5 | 9 => 9 | 53 => 300 | 57 => 304 | 63 => 322 | 64 => 323 | n => n, fun | n => n⟩
theorem TryzSort : Go.Proofs.SlLaysM.n6 Tryz.prog TryzSort_ren :=
  { mixed := by kernel_rfl,
    f6 := ⟨Tryz.f102.name, by decide, Tryz.func102.trans (congrArg some (by kernel_rfl))⟩,
    f8 := Tryz.func156.trans (congrArg some (by kernel_rfl)),
    f9 := ⟨Tryz.f155.name, by decide, Tryz.func155.trans (congrArg some (by kernel_rfl))⟩,
    f19 := Tryz.func192.trans (congrArg some (by kernel_rfl)),
    f20 := Tryz.func193.trans (congrArg some (by kernel_rfl)),
    f21 := ⟨Tryz.f183.name, by decide, Tryz.func183.trans (congrArg some (by kernel_rfl))⟩,
    f22 := ⟨Tryz.f184.name, by decide, Tryz.func184.trans (congrArg some (by kernel_rfl))⟩,
    f23 := ⟨Tryz.f185.name, by decide, Tryz.func185.trans (congrArg some (by kernel_rfl))⟩,
    f24 := ⟨Tryz.f186.name, by decide, Tryz.func186.trans (congrArg some (by kernel_rfl))⟩,
    f25 := ⟨Tryz.f187.name, by decide, Tryz.func187.trans (congrArg some (by kernel_rfl))⟩,
    f26 := ⟨Tryz.f188.name, by decide, Tryz.func188.trans (congrArg some (by kernel_rfl))⟩,
    f27 := ⟨Tryz.f189.name, by decide, Tryz.func189.trans (congrArg some (by kernel_rfl))⟩,
    f28 := ⟨Tryz.f190.name, by decide, Tryz.func190.trans (congrArg some (by kernel_rfl))⟩,
    f29 := ⟨Tryz.f191.name, by decide, Tryz.func191.trans (congrArg some (by kernel_rfl))⟩,
    f31 := Tryz.func221.trans (congrArg some (by kernel_rfl)),
    f32 := Tryz.func222.trans (congrArg some (by kernel_rfl)),
    f36 := ⟨Tryz.f220.name, by decide, Tryz.func220.trans (congrArg some (by kernel_rfl))⟩,
    f37 := ⟨Tryz.f223.name, by decide, Tryz.func223.trans (congrArg some (by kernel_rfl))⟩,
    f38 := ⟨Tryz.f224.name, by decide, Tryz.func224.trans (congrArg some (by kernel_rfl))⟩,
    f39 := ⟨Tryz.f225.name, by decide, Tryz.func225.trans (congrArg some (by kernel_rfl))⟩,
    f41 := ⟨Tryz.f239.name, by decide, Tryz.func239.trans (congrArg some (by kernel_rfl))⟩,
    t0 := Tryz.underlying0,
    a0 := Tryz.isAgg0,
    z0 := Tryz.sizeOf0,
    v0 := Tryz.zeroValue0,
    t3 := Tryz.underlying3,
    a3 := Tryz.isAgg3,
    z3 := Tryz.sizeOf3,
    v3 := Tryz.zeroValue3,
    t4 := Tryz.underlying4,
    a4 := Tryz.isAgg4,
    z4 := Tryz.sizeOf4,
    v4 := Tryz.zeroValue4,
    t5 := Tryz.underlying5,
    a5 := Tryz.isAgg5,
    z5 := Tryz.sizeOf5,
    v5 := Tryz.zeroValue5,
    t9 := Tryz.underlying9,
    a9 := Tryz.isAgg9,
    z9 := Tryz.sizeOf9,
    v9 := Tryz.zeroValue9,
    t26 := Tryz.underlying23,
    a26 := Tryz.isAgg23,
    z26 := Tryz.sizeOf23,
    v26 := Tryz.zeroValue23,
    t27 := Tryz.underlying23,
    a27 := Tryz.isAgg23,
    z27 := Tryz.sizeOf23,
    v27 := Tryz.zeroValue23,
    t29 := Tryz.underlying9,
    a29 := Tryz.isAgg9,
    z29 := Tryz.sizeOf9,
    v29 := Tryz.zeroValue9,
    t32 := Tryz.underlying238,
    a32 := Tryz.isAgg238,
    z32 := Tryz.sizeOf238,
    v32 := Tryz.zeroValue238,
    t35 := Tryz.underlying274,
    a35 := Tryz.isAgg274,
    z35 := Tryz.sizeOf274,
    v35 := Tryz.zeroValue274,
    t36 := Tryz.underlying275,
    a36 := Tryz.isAgg275,
    z36 := Tryz.sizeOf275,
    v36 := Tryz.zeroValue275,
    t41 := Tryz.underlying176,
    a41 := Tryz.isAgg176,
    z41 := Tryz.sizeOf176,
    v41 := Tryz.zeroValue176,
    t44 := Tryz.underlying282,
    a44 := Tryz.isAgg282,
    z44 := Tryz.sizeOf282,
    v44 := Tryz.zeroValue282,
    t46 := Tryz.underlying60,
    a46 := Tryz.isAgg60,
    z46 := Tryz.sizeOf60,
    v46 := Tryz.zeroValue60,
    t53 := Tryz.underlying300,
    a53 := Tryz.isAgg300,
    z53 := Tryz.sizeOf300,
    v53 := Tryz.zeroValue300,
    t57 := Tryz.underlying304,
    a57 := Tryz.isAgg304,
    z57 := Tryz.sizeOf304,
    v57 := Tryz.zeroValue304,
    t63 := Tryz.underlying322,
    a63 := Tryz.isAgg322,
    z63 := Tryz.sizeOf322,
    v63 := Tryz.zeroValue322,
    t64 := Tryz.underlying323,
    a64 := Tryz.isAgg323,
    z64 := Tryz.sizeOf323,
    v64 := Tryz.zeroValue323 }
/-- texts in order -/
def sortB (l : List ByteArray) : List ByteArray := ((l.map fun s => s.data.toList).mergeSort fun x y => decide (x ≤ y)).map fun x => ⟨x.toArray⟩
theorem ba_back (s : ByteArray) : (⟨s.data.toList.toArray⟩ : ByteArray) = s := by cases s; simp
theorem sortB_perm (l : List ByteArray) : (sortB l).Perm l := by
  unfold sortB
  have h1 := (List.mergeSort_perm (l.map fun s => s.data.toList) (fun x y => decide (x ≤ y))).map fun x : List UInt8 => (⟨x.toArray⟩ : ByteArray)
  refine h1.trans ?_
  rw [List.map_map]
  have : (l.map ((fun x : List UInt8 => (⟨x.toArray⟩ : ByteArray)) ∘ fun s : ByteArray => s.data.toList)) = l := by
    conv => rhs; rw [← List.map_id l]
    exact List.map_congr_left fun s _ => ba_back s
  rw [this]
theorem sortB_len (l : List ByteArray) : (sortB l).length = l.length := (sortB_perm l).length_eq
theorem lt_bl : ∀ (x y : List UInt8), (x < y) ↔ Op.bytesLess x y = true
  | [], [] => by simp [Op.bytesLess]
  | _ :: _, [] => by simp [Op.bytesLess]
  | [], _ :: _ => by simp [Op.bytesLess]
  | a :: x, b :: y => by
    rw [List.cons_lt_cons_iff, lt_bl x y]
    simp [Op.bytesLess]
theorem le_bl {x y : List UInt8} : (x ≤ y) ↔ (Op.bytesLess x y = true ∨ x = y) := by
  have h : (x ≤ y) ↔ ¬ (y < x) := Iff.rfl
  rw [h, lt_bl]
  constructor
  · intro hn
    rcases bl_total x y with h1 | h1 | h1
    · exact .inl h1
    · exact .inr h1
    · exact absurd h1 hn
  · rintro (h1 | rfl) h2
    · have := bl_trans _ _ _ h1 h2
      rw [bl_irrefl] at this; cases this
    · rw [bl_irrefl] at h2; cases h2
theorem ba_le {x y : List UInt8} (h : x ≤ y) : leB ⟨x.toArray⟩ ⟨y.toArray⟩ = true := by
  unfold leB
  rw [decide_eq_true_eq]
  rcases le_bl.1 h with h | rfl
  · refine .inl ?_
    unfold ltB
    rw [bytes_toList, bytes_toList]
    exact h
  · exact .inr rfl
theorem sortB_sorted (l : List ByteArray) : (sortB l).Pairwise (fun a b => leB a b = true) := by
  unfold sortB
  rw [List.pairwise_map]
  refine List.Pairwise.imp (fun h => ba_le (of_decide_eq_true h)) (List.pairwise_mergeSort (le := fun x y : List UInt8 => decide (x ≤ y)) ?_ ?_ _)
  · intro a b c h1 h2
    have h1 := le_bl.1 (of_decide_eq_true h1)
    have h2 := le_bl.1 (of_decide_eq_true h2)
    refine decide_eq_true (le_bl.2 ?_)
    rcases h1 with h1 | rfl
    · rcases h2 with h2 | rfl
      · exact .inl (bl_trans _ _ _ h1 h2)
      · exact .inl h1
    · exact h2
  · intro a b
    rw [Bool.or_eq_true]
    rcases bl_total a b with h | h | h
    · exact .inl (decide_eq_true (le_bl.2 (.inl h)))
    · exact .inl (decide_eq_true (le_bl.2 (.inr h)))
    · exact .inr (decide_eq_true (le_bl.2 (.inl h)))
theorem nodup_sorted : ∀ {l : List ByteArray}, l.Nodup → l.Pairwise (fun a b => leB a b = true) → SortedB l
  | [], _, _ => List.Pairwise.nil
  | a :: l, hn, h => by
    rw [List.nodup_cons] at hn
    rw [List.pairwise_cons] at h
    refine List.pairwise_cons.2 ⟨fun b hb => ?_, nodup_sorted hn.2 h.2⟩
    have := h.1 b hb
    unfold leB at this
    rw [decide_eq_true_eq] at this
    rcases this with h1 | rfl
    · exact h1
    · exact absurd hb hn.1
theorem St.growH {σ : View} {H : HList} {w w' : World} {os : Array Obj} (h : St σ H w) (hw : w'.heap = w.heap ++ os) (he : Env w w') : St σ H w' := by
  have key : ∀ b o, w.heap[b]? = some o → w'.heap[b]? = some o := fun b o hb => by
    rw [hw, Array.getElem?_append_left (Array.getElem?_eq_some_iff.1 hb).1]; exact hb
  exact ⟨h.envOf he, fun b o ho => key _ _ (h.view b o ho), fun p hp => key _ _ (h.own p hp), h.apart, h.nodup⟩
/-- slices.Sort of texts -/
theorem slices_Sort (σ : View) (sv : Value) (acc : List ByteArray) (hl : HList) (hso : SlO σ eStr 9 1 sv acc hl) (hb : acc.length ≤ 4194304) :
    Tri Tryz.prog 102 #[sv] σ hl (fun v σ' H' => SlO σ eStr 9 1 sv (sortB acc) H' ∧ σ' = σ) := by
  intro Hr w hs
  by_cases h0 : acc.length = 0
  · obtain ⟨p, cap, rfl, _⟩ := hso.shape
    have ha := List.eq_nil_of_length_eq_zero h0
    subst ha
    refine (Go.Proofs.AnyM.slices_Sort_string_none TryzSort p cap w).mono ?_
    rintro e w' ⟨rfl, rfl⟩
    exact ⟨_, σ, hl, rfl, ⟨by rw [show sortB [] = [] from List.eq_nil_of_length_eq_zero (by rw [sortB_len]; rfl)]; exact hso, rfl⟩, View.le_refl _, hs⟩
  · obtain ⟨b, cap, junk, vss, rfl, rfl, hcap, hjl, hel⟩ := hso.at (by omega)
    have hvs : vss.flatten = acc.map Value.string := by
      have : vss = acc.map fun s => [Value.string s] := by
        apply List.ext_getElem?
        intro i
        rw [List.getElem?_map]
        by_cases hi : i < acc.length
        · have hx : acc[i]? = some acc[i] := List.getElem?_eq_getElem hi
          obtain ⟨vs, h1, _, _, rfl, _⟩ := hel.2 i _ hx
          rw [h1, hx]; rfl
        · rw [List.getElem?_eq_none (by rw [hel.1]; omega), List.getElem?_eq_none (by omega)]; rfl
      rw [this, flat_one]
    have hok : ∀ s ∈ acc, StrOk s := fun s hsm => by
      obtain ⟨i, hi⟩ := List.getElem?_of_mem hsm
      obtain ⟨vs, _, _, _, _, h⟩ := hel.2 i s hi
      exact h
    have hown := hs.own (b, rowO 9 (vss.flatten ++ junk)) (by simp)
    have hss : ((acc.map fun s => s.data.toList)).length = acc.length := by simp
    have hH : Go.Sort.Holds Go.Proofs.encStr w b 0 (acc.map fun s => s.data.toList).toArray := by
      intro j hj
      have hj' : j < acc.length := by simpa using hj
      refine ⟨?_, ?_⟩
      · have hx : acc[j]? = some acc[j] := List.getElem?_eq_getElem hj'
        have h1 : w.cell? ⟨b, 0 + j, none⟩ = some (.string acc[j]) := by
          have := (Rd.own1 (σ := σ) (off := 0 + j) (v := .string acc[j]) (T := 9) (l := vss.flatten ++ junk) (H := [(b, rowO 9 (vss.flatten ++ junk))] ++ Hr) (b := b) (by simp) (by rw [Nat.zero_add, List.getElem?_append_left (by rw [hvs, List.length_map]; exact hj'), hvs, List.getElem?_map, hx]; rfl)).cell hs 0 _ rfl
          simpa using this
        rw [h1]
        have h2 : (acc.map fun s => s.data.toList).toArray[j]! = acc[j].data.toList := by
          rw [getElem!_pos _ j hj]; simp
        rw [h2]
      · simp [World.frozen?, hown, rowO]
    have hlt : b < w.heap.size := (Array.getElem?_eq_some_iff.1 hown).1
    have := Go.Proofs.AnyM.slices_Sort_string TryzSort b 0 cap (acc.map fun s => s.data.toList) w hH hlt (by rw [hss]; omega)
    rw [hss] at this
    refine this.mono ?_
    rintro e w' ⟨rfl, n, os, rfl⟩
    obtain ⟨srt, hsrt⟩ : ∃ srt, srt = (acc.map fun s => s.data.toList).mergeSort fun x y => decide (x ≤ y) := ⟨_, rfl⟩
    rw [← hsrt]
    have hsl : srt.length = acc.length := by rw [hsrt, List.length_mergeSort]; simp
    have hsB : sortB acc = srt.map fun x => ⟨x.toArray⟩ := by rw [hsrt]; rfl
    have hnew : SlO σ eStr 9 1 (.slice (some ⟨b, 0, none⟩) acc.length cap) (sortB acc) [(b, rowO 9 ((sortB acc).map Value.string ++ junk))] := by
      refine ⟨(sortB acc).map fun s => [Value.string s], ⟨by rw [flat_one, List.length_map]; omega, .inr ⟨b, cap, junk, by rw [sortB_len], by rw [flat_one], by rw [sortB_len]; exact hjl, by rw [sortB_len]; exact hcap⟩⟩, by simp, fun i x hx => ⟨[.string x], by simp [hx], rfl, rfl, rfl, hok x ((sortB_perm acc).mem_iff.1 (List.mem_of_getElem? hx))⟩⟩
    refine ⟨_, σ, _, rfl, ⟨hnew, rfl⟩, View.le_refl _, ?_⟩
    have h1 : St σ ([(b, rowO 9 ((sortB acc).map Value.string ++ junk))] ++ Hr) (Go.Sort.putRow Go.Proofs.encStr (Go.Sort.ahead w n) b 0 srt.toArray) := by
      have hwo : (Go.Sort.ahead w n).heap = w.heap := rfl
      refine hs.part (b := b) (o := rowO 9 (vss.flatten ++ junk)) (o' := rowO 9 ((sortB acc).map Value.string ++ junk)) Part.one ?_ ?_ ⟨rfl, rfl, rfl⟩
      · show ((Go.Sort.ahead w n).heap.modify b _)[b]? = _
        rw [hwo, Array.getElem?_modify, if_pos rfl, hown]
        simp only [Option.map_some, rowO, Go.Sort.onCells]
        congr 2
        apply Array.ext'
        simp only [Go.Sort.putCells, Array.toList_mapIdx]
        apply List.ext_getElem?
        intro k
        simp only [List.getElem?_mapIdx, Nat.zero_le, true_and, Nat.zero_add, Nat.sub_zero]
        by_cases hk : k < acc.length
        · have hk2 : k < srt.length := by omega
          rw [List.getElem?_append_left (by rw [hvs, List.length_map]; exact hk), List.getElem?_append_left (by rw [List.length_map, sortB_len]; exact hk), hvs]
          rw [List.getElem?_map, List.getElem?_eq_getElem hk]
          simp only [Option.map_some]
          rw [if_pos (by simpa using hk2)]
          have h2 : srt.toArray[k]! = srt[k] := by rw [getElem!_pos _ k (by simpa using hk2)]; simp
          rw [h2, hsB, List.getElem?_map, List.getElem?_map, List.getElem?_eq_getElem hk2]
          rfl
        · rw [List.getElem?_append_right (by rw [hvs, List.length_map]; omega), List.getElem?_append_right (by rw [List.length_map, sortB_len]; omega), hvs, List.length_map, List.length_map, sortB_len]
          cases junk[k - acc.length]? with
          | none => rfl
          | some y => simp only [Option.map_some]; rw [if_neg (by simp; omega)]
      · intro c hc
        show ((Go.Sort.ahead w n).heap.modify b _)[c]? = _
        rw [hwo, Array.getElem?_modify, if_neg (Ne.symm hc)]
    exact St.growH h1 rfl ⟨rfl, rfl, rfl⟩
end Go.Proofs.YtgoooilgmabkmaaGreat
namespace Go.Proofs.YtgoooilgmabkmaaGreat
open Go Go.Sl
set_option linter.unusedVariables false
set_option linter.unusedSimpArgs false
set_option maxRecDepth 100000

theorem past_opsOk {σ : View} {pv : Value} {L : List EntD} (h : PastV σ pv L) : ∀ i, ∀ o ∈ opsAt L i, o.ok := by
  intro i o ho
  obtain ⟨b, mb, lv, sv, rfl, hr, hE, hm, hS⟩ := h
  obtain ⟨ea, ec, rfl, _, _⟩ := hE.shape
  obtain ⟨b, off, _, hat⟩ := hE.rds
  unfold opsAt at ho
  split at ho
  · rename_i e he
    obtain ⟨vs, _, _, ⟨qv, ov, rfl, _, hNR⟩, _⟩ := hat i e he
    have hops := hNR.2.1
    obtain ⟨oa, oc, rfl, _, _⟩ := hops.shape
    obtain ⟨b2, off2, _, hat2⟩ := hops.rds
    obtain ⟨j, hj⟩ := List.getElem?_of_mem ho
    obtain ⟨_, _, _, ⟨_, h3⟩, _⟩ := hat2 j o hj
    exact h3
  · simp at ho
theorem marks_lt {L : List EntD} {key : ByteArray} : ∀ x ∈ (marks ((opsN L isReg L.length).filter (onKey key))), x.1 < L.length := fun x hx =>
  (opsN_fst (List.mem_filter.1 ((marks_sub _).subset hx)).1).1
theorem reg_len {L : List EntD} (ho : OrdOk L) : (opsN L isReg L.length).length ≤ 4194304 := by
  have h1 := opsN_len ho isReg L.length
  have h2 := ho.most
  omega
theorem keys_final {L : List EntD} {seen : List Nat} (hn : seen.Nodup) (hall : ∀ i, i < (keysF (opsN L isReg L.length)).length → i ∈ seen) : sortB ((seenK (keysF (opsN L isReg L.length)) seen).filter (fun k => decide (0 < (regHeld L k).length))) = regKeys L := by
  refine sortedB_ext _ _ (nodup_sorted ((sortB_perm _).nodup_iff.2 ((seenK_nodup (keysF_nodup _) hn).sublist List.filter_sublist)) (sortB_sorted _)) (regKeys_sorted L) fun x => ?_
  rw [(sortB_perm _).mem_iff, List.mem_filter, regKeys_mem]
  simp only [decide_eq_true_eq]
  constructor
  · exact fun h => h.2
  · intro h
    refine ⟨?_, h⟩
    have hk : x ∈ (keysF (opsN L isReg L.length)) := by
      apply Classical.byContradiction
      intro hc
      rw [regHeld_none (fun y hy he => hc ((keysF_mem x _).2 ⟨y, hy, he⟩))] at h
      simp at h
    obtain ⟨i, hi⟩ := List.getElem?_of_mem hk
    exact seenK_mem.2 ⟨i, hall i (List.getElem?_eq_some_iff.1 hi).1, hi⟩

theorem reg_Read (σ : View) (pv : Value) (L : List EntD) (key : ByteArray) (h : PastV σ pv L) (ho : OrdOk L) :
    Tri Tryz.prog 28 #[pv, .string key] σ [] (fun v σ' H' => ∃ h, SlO σ' eStr 9 1 v (regHeld L key) h ∧ H' = h) := by
  refine Tri.of_body [(0, pv), (1, .string key)] Tryz.func28 rfl Tryz.ntmps28 (by simp) rfl (fun Hr => ?_)
  rw [List.nil_append]
  refine WC.seq ?_
  refine WC.region ?_
  refine WL.new (New.box1 rfl (by first | rfl | assumption)) (fun b3 => ?_)
  refine WL.pur (Pur.assign rfl) ?_
  refine WL.nil ?_
  refine WQ.thn ?_
  refine WC.seq ?_
  refine WC.region ?_
  refine WL.new (New.alloc zc_155) (fun b5 => ?_)
  refine WL.nil ?_
  refine WQ.thn ?_
  refine WC.seq ?_
  refine WC.region ?_
  refine WL.give (H1 := [(b5, _)]) (H2 := Hr) (fun hb3 => ?_)
  rw [List.singleton_append]
  have hle0 := View.le_add (rowO 9 [.string key]) hb3
  have hk : RdV (σ.add b3 (rowO 9 [.string key])) b3 0 [.string key] := RdV.row (View.add_same _ _ _)
  refine WL.pur (Pur.move rfl) ?_
  refine WL.pur (Pur.makeFunc rfl rfl) ?_
  refine WL.call (H0 := [(b5, rowO 155 [.slice none 0 0])]) (Hr := Hr) rfl Tryz.call98 (List.Perm.refl _) (reg_each _ pv L (h.mono hle0) ho 103 [.pointer (some ⟨b3, 0, none⟩), .pointer (some ⟨b5, 0, none⟩)] Tryz.call103 (fun dn σ' H' => ∃ sv hm, H' = (b5, rowO 155 [sv]) :: hm ∧ SlO σ' eMark 235 3 sv (marks (dn.filter (onKey key))) hm ∧ RdV σ' b3 0 [.string key]) _ ⟨_, _, rfl, SlO.nil, hk⟩ (fun dn i o σ1 H1 ⟨sv, hm, e, hso, hk1⟩ hle hi hdn hok hreg => by
      subst e
      refine (reg_Read1 σ1 b3 b5 key sv hm i o _ hso hok (Nat.le_trans (marksF_len _ _) hdn) hk1).mono ?_
      rintro v σ' H' ⟨⟨sv', hm', rfl, hso'⟩, rfl⟩
      exact ⟨sv', hm', rfl, by rw [marks_key]; exact hso', hk1⟩) (fun dn σ1 σ2 H1 ⟨sv, hm, e, hso, hk1⟩ hle => ⟨sv, hm, e, hso.mono eMark_mono hle, hk1.mono hle⟩)) ?_
  rintro v8 σ2 _ ⟨sv, hm, rfl, hso, _⟩ hle2
  rw [List.cons_append]
  refine WL.nil ?_
  refine WQ.thn ?_
  refine WC.seq ?_
  refine WC.region ?_
  refine WL.giveS (byt := 32) (H1 := [(b5, _)]) (H2 := Hr) eMark_mono hso (by have := reg_len ho; have h2 := marksF_len key (opsN L isReg L.length); omega) rfl (fun σ3 hle3 hsl => ?_)
  rw [List.singleton_append]
  have h3 := h.mono (View.le_trans hle0 (View.le_trans hle2 hle3))
  refine WL.pur (Pur.move rfl) ?_
  refine' WL.pur (Pur.load1 rfl ty_155 ?h1_0) ?k1
  case h1_0 => first | (apply Rd.own1; (focus repeat (first | exact List.Mem.head _ | apply List.Mem.tail | apply List.mem_append_right)); rfl) | (apply RdV.rd; apply RdV.idx (i := 0); assumption; rfl)
  refine WL.call (H0 := []) (Hr := (b5, rowO 155 [sv]) :: Hr) rfl Tryz.call101 (List.Perm.refl _) (reg_held _ pv sv L (marks ((opsN L isReg L.length).filter (onKey key))) h3 ho hsl marks_lt (Nat.le_trans (marksF_len _ _) (reg_len ho))) ?_
  rintro v11 σ4 hh ⟨⟨_, hsoh, rfl⟩, rfl⟩ _
  refine WL.pur (Pur.assign rfl) ?_
  refine WL.nil ?_
  refine WQ.thn ?_
  refine WC.ret ?_
  refine WQ.ret1 Tryz.results28 rfl hh (List.Sublist.append_left (List.Sublist.cons _ (List.Sublist.refl _)) _) (View.le_trans hle0 (View.le_trans hle2 hle3)) ?_
  exact ⟨_, by rw [← regHeld_marks]; exact hsoh, rfl⟩

theorem reg_Keys1 (σ : View) (bk bm : Nat) (dn : List (Nat × OpD)) (i : Nat) (o : OpD) (H1 : HList) (hK : KK bm dn σ H1) (hok : o.ok) (hb : dn.length ≤ 4194304) (hk : RdV σ bk 0 [.map (some bm)]) :
    Tri Tryz.prog 99 #[.int .i64 (i : Int), .agg o.cells.toArray, .pointer (some ⟨bk, 0, none⟩)] σ H1 (fun v σ' H' => KK bm (dn ++ [(i, o)]) σ' H' ∧ σ' = σ) := by
  obtain ⟨ents, sv, hk0, rest, hperm, hso, hget, hput⟩ := hK.open o.key
  have h1c := hso.one_cell
  refine Tri.of_body [(0, .int .i64 (i : Int)), (1, .agg o.cells.toArray), (2, .pointer (some ⟨bk, 0, none⟩))] Tryz.func99 rfl Tryz.ntmps99 (by simp) rfl (fun Hr => ?_)
  refine WC.perm (H0 := (bm, mapO Value.string ents) :: (hk0 ++ (rest ++ Hr))) ?_ (by have := (hperm.append_right Hr).symm; simpa using this)
  refine WC.seq ?_
  refine WC.region ?_
  refine WL.new (New.boxN rfl) (fun b4 => ?_)
  refine WL.nil ?_
  refine WQ.thn ?_
  refine WC.draw 10 11 ((b4, rowO 51 o.cells) :: (bm, mapO Value.string ents) :: []) mixed (by kernel_rfl) rfl ?_
  refine' SA.take 0 (by kernel_rfl) rfl rfl rfl (Wanted.plain rfl) (by repeat (first | exact List.Sublist.refl _ | exact List.nil_sublist _ | apply List.Sublist.cons_cons | apply List.Sublist.cons | apply List.Sublist.append_left | exact List.sublist_append_right _ _)) (View.le_refl _) (Pur.load1 rfl ty_153 ?h1_0) ?k1
  case h1_0 => exact RdV.rd hk
  refine SA.takeP 1 (by kernel_rfl) rfl rfl rfl (Wanted.plain rfl) (fun _ _ => Pur.fieldAddr rfl fo_51_1) ?_
  refine' SA.take 2 (by kernel_rfl) rfl rfl rfl (Wanted.plain rfl) (by repeat (first | exact List.Sublist.refl _ | exact List.nil_sublist _ | apply List.Sublist.cons_cons | apply List.Sublist.cons | apply List.Sublist.append_left | exact List.sublist_append_right _ _)) (View.le_refl _) (Pur.load1 rfl ty_9 ?h2_0) ?k2
  case h2_0 => first | (apply Rd.own1; (focus repeat (first | exact List.Mem.head _ | apply List.Mem.tail | apply List.mem_append_right)); rfl) | (apply RdV.rd; apply RdV.idx (i := 1); assumption; rfl) | (apply RdV.rd; apply RdV.idx (off := 0) (i := 1); assumption; rfl)
  refine' SA.take 3 (by kernel_rfl) rfl rfl rfl (Wanted.plain rfl) (by repeat (first | exact List.Sublist.refl _ | exact List.nil_sublist _ | apply List.Sublist.cons_cons | apply List.Sublist.cons | apply List.Sublist.append_left | exact List.sublist_append_right _ _)) (View.le_refl _) (Pur.load1 rfl ty_153 ?h3_0) ?k3
  case h3_0 => exact RdV.rd hk
  refine SA.takeP 4 (by kernel_rfl) rfl rfl rfl (Wanted.plain rfl) (fun _ _ => Pur.fieldAddr rfl fo_51_1) ?_
  refine' SA.take 5 (by kernel_rfl) rfl rfl rfl (Wanted.plain rfl) (by repeat (first | exact List.Sublist.refl _ | exact List.nil_sublist _ | apply List.Sublist.cons_cons | apply List.Sublist.cons | apply List.Sublist.append_left | exact List.sublist_append_right _ _)) (View.le_refl _) (Pur.load1 rfl ty_9 ?h4_0) ?k4
  case h4_0 => first | (apply Rd.own1; (focus repeat (first | exact List.Mem.head _ | apply List.Mem.tail | apply List.mem_append_right)); rfl) | (apply RdV.rd; apply RdV.idx (i := 1); assumption; rfl) | (apply RdV.rd; apply RdV.idx (off := 0) (i := 1); assumption; rfl)
  refine SA.take 6 (by kernel_rfl) rfl rfl rfl (Wanted.plain rfl) (by repeat (first | exact List.Sublist.refl _ | exact List.nil_sublist _ | apply List.Sublist.cons_cons | apply List.Sublist.cons | apply List.Sublist.append_left | exact List.sublist_append_right _ _)) (View.le_refl _) ((pur_look hget (Pur.lookup (K := Value.string) rfl rfl mt_153 (keyC_string isString_9) zv_155 (Or.inl (by repeat (first | exact List.Mem.head _ | apply List.Mem.tail | apply List.mem_append_right))) (fun _ _ => trivial) trivial))) ?_
  refine SA.takeW 7 (by kernel_rfl) rfl rfl rfl (Wanted.plain rfl) (tells_move rfl) ?_
  refine' SA.take 8 (by kernel_rfl) rfl rfl rfl (Wanted.plain rfl) (by repeat (first | exact List.Sublist.refl _ | exact List.nil_sublist _ | apply List.Sublist.cons_cons | apply List.Sublist.cons | apply List.Sublist.append_left | exact List.sublist_append_right _ _)) (View.le_refl _) (Pur.loadN rfl ty_51 ?h5_0 ?h5_1) ?k5
  case h5_0 => first | (apply Rd.own_sub; (focus repeat (first | exact List.Mem.head _ | apply List.Mem.tail | apply List.mem_append_right)); exact Sub.refl _) | (apply RdV.rd; assumption)
  case h5_1 => first | rfl | assumption
  refine SA.callR 9 (H1 := hk0) (Hr := (b4, rowO 51 o.cells) :: (bm, mapO Value.string ents) :: (rest ++ Hr)) rfl rfl (Wanted.plain rfl) (by kernel_rfl) rfl Tryz.call100 perm_3 (.inr ⟨(by repeat (first | exact List.Sublist.refl _ | exact List.nil_sublist _ | apply List.Sublist.cons_cons | apply List.Sublist.cons | apply List.Sublist.append_left | exact List.sublist_append_right _ _)), View.le_refl _⟩) (reg_add _ sv _ hk0 i o hso hok (Nat.le_trans (marksF_len _ _) hb)) ?_
  rintro v14 _ hk2 ⟨hso2, rfl⟩ _
  have h1c2 := hso2.one_cell
  refine' SA.run 10 rfl (fun _ e => by cases e) (Wanted.plain rfl) (by kernel_rfl) (Run.mapUpdate rfl rfl rfl mt_153 (K := Value.string) (keyC_string isString_9) ?h6_0 ?h6_1 ?h6_2) (.inl (by decide)) ?k6
  case h6_0 => repeat (first | exact Part.one | exact Part.here | apply Part.cons | apply Part.app)
  case h6_1 => first | assumption | exact fun _ _ => trivial
  case h6_2 => first | assumption | trivial
  refine SA.done (by kernel_rfl) ?_
  refine WQ.ret0 Tryz.results99 (hk2 ++ (bm, mapO Value.string (mput ents o.key v14)) :: rest) (.inr rfl) (by rw [List.append_assoc]; exact List.Sublist.append_left (List.Sublist.cons _ (List.Sublist.refl _)) _) (View.le_refl _) ?_
  exact ⟨(hput (i, o) v14 hk2 rfl (by rw [marks_key, if_pos rfl]; exact hso2)).perm List.perm_middle, rfl⟩

theorem reg_Keys (σ : View) (pv : Value) (L : List EntD) (h : PastV σ pv L) (ho : OrdOk L) :
    Tri Tryz.prog 27 #[pv] σ [] (fun v σ' H' => ∃ h, SlO σ' eStr 9 1 v (regKeys L) h ∧ H' = h) := by
  have hN := reg_len ho
  have hkl := keysF_len (opsN L isReg L.length)
  refine Tri.of_body [(0, pv)] Tryz.func27 rfl Tryz.ntmps27 (by simp) rfl (fun Hr => ?_)
  rw [List.nil_append]
  refine WC.seq ?_
  refine WC.region ?_
  refine WL.pur (Pur.assign rfl) ?_
  refine WL.nil ?_
  refine WQ.thn ?_
  refine WC.seq ?_
  refine WC.region ?_
  refine WL.new (New.makeMap) (fun b7 => ?_)
  refine WL.new (New.alloc zc_153) (fun b3 => ?_)
  refine' WL.run0 (Run.store1 rfl rfl ty_153 (by first | rfl | assumption) ?h1_0 ?h1_1 sz_153) ?k1
  case h1_0 => repeat (first | exact Part.one | exact Part.here | apply Part.cons | apply Part.app)
  case h1_1 => first | exact Nat.le_of_ble_eq_true rfl | decide | (simp; done) | (simp; omega) | omega
  refine WL.nil ?_
  refine WQ.thn ?_
  refine WC.seq ?_
  refine WC.region ?_
  refine WL.give (H1 := []) (H2 := (b7, _) :: Hr) (fun hb3 => ?_)
  rw [List.nil_append]
  have hle0 := View.le_add (rowO 153 [.map (some b7)]) hb3
  have hk : RdV (σ.add b3 (rowO 153 [.map (some b7)])) b3 0 [.map (some b7)] := RdV.row (View.add_same _ _ _)
  refine WL.pur (Pur.move rfl) ?_
  refine WL.pur (Pur.makeFunc rfl rfl) ?_
  refine WL.call (H0 := [(b7, .map #[] 0)]) (Hr := Hr) rfl Tryz.call98 (List.Perm.refl _) (reg_each _ pv L (h.mono hle0) ho 99 [.pointer (some ⟨b3, 0, none⟩)] Tryz.call99 (fun dn σ' H' => KK b7 dn σ' H' ∧ RdV σ' b3 0 [.map (some b7)]) _ ⟨KK.nil _ _, hk⟩ (fun dn i o σ1 H1 hKr hle hi hdn hok hreg => (reg_Keys1 σ1 b3 b7 dn i o H1 hKr.1 hok hdn hKr.2).mono (by rintro v σ' H' ⟨hK', rfl⟩; exact ⟨hK', hKr.2⟩)) (fun dn σ1 σ2 H1 hKr hle => ⟨hKr.1.mono hle, hKr.2.mono hle⟩)) ?_
  rintro v10 σ2 _ ⟨⟨svs, hs, hperm, hsos⟩, hr2⟩ hle2
  refine WL.perm (H0 := (b7, mapO Value.string ((keysF (opsN L isReg L.length)).map fun k => (k, svs k))) :: ((keysF (opsN L isReg L.length)).flatMap hs ++ Hr)) ?_ (by have := (hperm.append_right Hr).symm; simpa using this)
  refine WL.giveL (byt := 32) (H1 := [(b7, _)]) (H2 := Hr) eMark_mono (fun k _ => by have := marksF_len k (opsN L isReg L.length); omega) hsos rfl (fun σ3 hle3 hsl3 => ?_)
  refine WL.give (H1 := []) (H2 := Hr) (fun hb7 => ?_)
  rw [List.nil_append]
  have hle4 := View.le_add (mapO Value.string ((keysF (opsN L isReg L.length)).map fun k => (k, svs k))) hb7
  have hmap : (σ3.add b7 (mapO Value.string ((keysF (opsN L isReg L.length)).map fun k => (k, svs k)))) b7 = some (mapO Value.string ((keysF (opsN L isReg L.length)).map fun k => (k, svs k))) := View.add_same _ _ _
  generalize σ3.add b7 (mapO Value.string ((keysF (opsN L isReg L.length)).map fun k => (k, svs k))) = σ4 at hle4 hmap ⊢
  have hr4 := hr2.mono (View.le_trans hle3 hle4)
  have h4 := h.mono (View.le_trans hle0 (View.le_trans hle2 (View.le_trans hle3 hle4)))
  have hsl4 := fun k hk => (hsl3 k hk).mono eMark_mono hle4
  refine WL.nil ?_
  refine WQ.thn ?_
  refine WC.seq ?_
  refine WC.region ?_
  refine WL.pur (Pur.assign rfl) ?_
  refine WL.nil ?_
  refine WQ.thn ?_
  refine WC.seq ?_
  refine WC.seq ?_
  refine WC.region ?_
  refine' WL.pur (Pur.load1 rfl ty_153 ?h2_0) ?k2
  case h2_0 => exact RdV.rd hr4
  refine WL.new (New.range (K := Value.string) (l := ((keysF (opsN L isReg L.length)).map fun k => (k, svs k))) rfl mt_153 (.inr hmap)) (fun b12 => ?_)
  refine WL.nil ?_
  refine WQ.thn ?_
  refine WC.block ?_
  refine WC.loop (fun j m σ' H' => ∃ (seen : List Nat) (sv : Value) (hl : HList), j = ((keysF (opsN L isReg L.length)).map fun k => (k, svs k)).length - seen.length ∧ seen.Nodup ∧ (∀ i ∈ seen, i < ((keysF (opsN L isReg L.length)).map fun k => (k, svs k)).length) ∧ SlO σ4 eStr 9 1 sv ((seenK (keysF (opsN L isReg L.length)) seen).filter (fun k => decide (0 < (regHeld L k).length))) hl ∧ m = [(0, pv), (4, sv), (12, .pointer (some ⟨b12, 0, none⟩))] ∧ σ' = σ4 ∧ H' = (b12, iterO b7 ((keysF (opsN L isReg L.length)).map fun k => (k, svs k)).length seen) :: (hl ++ Hr)) ⟨[], .slice none 0 0, [], rfl, List.nodup_nil, by simp, SlO.nil, rfl, rfl, rfl⟩ (by repeat (first | exact Covers.nil _ | refine Covers.cons rfl ?_)) (by repeat (first | exact List.Sublist.refl _ | exact List.nil_sublist _ | apply List.Sublist.cons_cons | apply List.Sublist.cons | apply List.Sublist.append_left | exact List.sublist_append_right _ _)) ?_
  rintro _ _ σ Hr ⟨seen, sv, hl, rfl, hnd, hbd, hso, rfl, rfl, rfl⟩
  refine WC.seq ?_
  refine WC.region ?_
  refine WL.any (Any.next (K := Value.string) (b := b7) (l := ((keysF (opsN L isReg L.length)).map fun k => (k, svs k))) (Hf := fun s => (b12, iterO b7 ((keysF (opsN L isReg L.length)).map fun k => (k, svs k)).length s) :: (hl ++ Hr)) rfl (fun s => Part.one) (.inr hmap)) ?_
  rintro _ _ _ ⟨more, seen', key, x, hnx, rfl, rfl, rfl⟩ _
  first | refine WL.pur (Pur.ex2_0 rfl) ?_ | refine WL.pur (Pur.ex3_0 rfl) ?_ | refine WL.pur (Pur.extractNext rfl) ?_ | refine WL.pur (Pur.extract rfl rfl) ?_
  refine WL.nil ?_
  refine WQ.thn ?_
  refine WC.seq ?_
  first | refine WC.cond rfl (fun hc0 => ?_) (fun hc0 => ?_) | refine WC.condB rfl (fun hc0 => ?_) (fun hc0 => ?_)
  · obtain ⟨i, hi1, hi2, rfl⟩ := hnx.1 hc0
    have hi3 : i < ((keysF (opsN L isReg L.length)).map fun k => (k, svs k)).length := (List.getElem?_eq_some_iff.1 hi2).1
    have hi4 : (keysF (opsN L isReg L.length))[i]? = some key ∧ svs key = x := by
      have hi5 := hi2
      rw [List.getElem?_map] at hi5
      cases hk : (keysF (opsN L isReg L.length))[i]? with
      | none => rw [hk] at hi5; cases hi5
      | some k' =>
        rw [hk] at hi5
        simp only [Option.map_some, Option.some.injEq, Prod.mk.injEq] at hi5
        exact ⟨by rw [hi5.1], by rw [← hi5.1]; exact hi5.2⟩
    obtain ⟨hik, rfl⟩ := hi4
    have hkm := List.mem_of_getElem? hik
    have hlt := seen_lt hnd hbd hi1 hi3
    have hkok : StrOk key := by
      obtain ⟨y, hy, rfl⟩ := (keysF_mem key _).1 hkm
      exact (past_opsOk h _ _ (opsN_fst hy).2.2).2.1
    have hnd2 : (seen ++ [i]).Nodup := List.nodup_append.2 ⟨hnd, by simp, fun a ha b hb he => by simp at hb; subst hb; subst he; exact hi1 ha⟩
    have hbd2 : ∀ k ∈ seen ++ [i], k < ((keysF (opsN L isReg L.length)).map fun k => (k, svs k)).length := fun k hk => by
      rcases List.mem_append.1 hk with hk | hk
      · exact hbd k hk
      · simp at hk; subst hk; exact hi3
    have hKl : ((keysF (opsN L isReg L.length)).map fun k => (k, svs k)).length = (keysF (opsN L isReg L.length)).length := List.length_map _
    have hfl : ((seenK (keysF (opsN L isReg L.length)) seen).filter (fun k => decide (0 < (regHeld L k).length))).length ≤ seen.length := Nat.le_trans (List.length_filter_le _ _) seenK_len
    refine WC.skip ?_
    refine WQ.thn ?_
    refine WC.block ?_
    refine WC.seq ?_
    refine WC.region ?_
    refine WL.pur (Pur.entry (K := Value.string) (b := b7) (seen := seen) rfl (by repeat (first | exact List.Mem.head _ | apply List.Mem.tail | apply List.mem_append_right)) (.inr hmap) hi2) ?_
    first | refine WL.pur (Pur.ex2_0 rfl) ?_ | refine WL.pur (Pur.ex3_0 rfl) ?_ | refine WL.pur (Pur.extractNext rfl) ?_ | refine WL.pur (Pur.extract rfl rfl) ?_
    first | refine WL.pur (Pur.ex2_1 rfl) ?_ | refine WL.pur (Pur.ex3_1 rfl) ?_ | refine WL.pur (Pur.extract rfl rfl) ?_
    refine WL.pur (Pur.assign rfl) ?_
    refine WL.pur (Pur.assign rfl) ?_
    refine WL.nil ?_
    refine WQ.thn ?_
    refine WC.seq ?_
    refine WC.region ?_
    refine WL.pur (Pur.move rfl) ?_
    refine WL.pur (Pur.move rfl) ?_
    refine WL.call (H0 := []) (Hr := (b12, iterO b7 ((keysF (opsN L isReg L.length)).map fun k => (k, svs k)).length (seen ++ [i])) :: (hl ++ Hr)) rfl Tryz.call101 (List.Perm.refl _) (reg_held _ pv (svs key) L (marks ((opsN L isReg L.length).filter (onKey key))) h4 ho (hsl4 key hkm) marks_lt (Nat.le_trans (marksF_len _ _) hN)) ?_
    rintro v20 _ hR ⟨⟨_, hsoR, rfl⟩, rfl⟩ _
    rw [regHeld_marks] at hsoR
    obtain ⟨ra, rc, rfl, hrc⟩ := hsoR.shape
    refine WL.pur (Pur.len rfl isSlice_23) ?_
    refine' WL.pur (Pur.bin rfl rfl ?h3_0) ?k3
    case h3_0 => first | exact Bin.gtN (b := 0) | exact Bin.gtI
    refine WL.nil ?_
    refine WQ.thn ?_
    first | refine WC.cond rfl (fun hc1 => ?_) (fun hc1 => ?_) | refine WC.condB rfl (fun hc1 => ?_) (fun hc1 => ?_)
    · refine WC.weak (H0 := (b12, iterO b7 ((keysF (opsN L isReg L.length)).map fun k => (k, svs k)).length (seen ++ [i])) :: (hl ++ Hr)) ?_ (Covers.refl _) (List.sublist_append_right _ _)
      refine WC.region ?_
      refine WL.pur (Pur.move rfl) ?_
      refine WL.pur (Pur.move rfl) ?_
      refine WL.new (New.buildSliceS (xs := [.tmp 24]) sl_23 zc_9 rfl rfl rfl (by rfl) (by rfl)) (fun b25 => ?_)
      refine' WL.any (Any.push (H1 := [(b25, _), (b12, _)]) (H2 := Hr) sl_23 zc_9 rfl by_9 rfl rfl hso ?h4_0 ?h4_1 ?h4_2 ?h4_3 rfl (by omega) (by omega)) ?k4
      case h4_0 => apply Rd.own_sub; (focus repeat (first | exact List.Mem.head _ | apply List.Mem.tail | apply List.mem_append_right)); exact Sub.refl _
      case h4_1 => first | rfl | assumption
      case h4_2 => first | rfl | assumption
      case h4_3 => exact ⟨rfl, hkok⟩
      rintro v26 σ _ ⟨hl3, hso3, rfl, rfl⟩ _
      refine WL.pur (Pur.assign rfl) ?_
      refine WL.nil ?_
      refine WQ.blk ?_
      refine WQ.back _ ⟨seen ++ [i], _, _, rfl, hnd2, hbd2, by rw [seenK_snoc hik, List.filter_append, show [key].filter (fun k => decide (0 < (regHeld L k).length)) = [key] from by simp [hc1]]; exact hso3, rfl, rfl, rfl⟩ (by rw [List.length_append]; simp only [List.length_cons, List.length_nil]; omega) (by repeat (first | exact Covers.nil _ | refine Covers.cons rfl ?_)) (by repeat (first | exact List.Sublist.refl _ | exact List.nil_sublist _ | apply List.Sublist.cons_cons | apply List.Sublist.cons | apply List.Sublist.append_left | exact List.sublist_append_right _ _))
    · refine WC.weak (H0 := (b12, iterO b7 ((keysF (opsN L isReg L.length)).map fun k => (k, svs k)).length (seen ++ [i])) :: (hl ++ Hr)) ?_ (Covers.refl _) (List.sublist_append_right _ _)
      refine WC.skip ?_
      refine WQ.blk ?_
      refine WQ.back _ ⟨seen ++ [i], sv, hl, rfl, hnd2, hbd2, by rw [seenK_snoc hik, List.filter_append, show [key].filter (fun k => decide (0 < (regHeld L k).length)) = [] from by simpa using hc1, List.append_nil]; exact hso, rfl, rfl, rfl⟩ (by rw [List.length_append]; simp only [List.length_cons, List.length_nil]; omega) (by repeat (first | exact Covers.nil _ | refine Covers.cons rfl ?_)) (by repeat (first | exact List.Sublist.refl _ | exact List.nil_sublist _ | apply List.Sublist.cons_cons | apply List.Sublist.cons | apply List.Sublist.append_left | exact List.sublist_append_right _ _))
  · obtain ⟨hall, hse⟩ := hnx.2 hc0
    have hse := hse.symm
    subst hse
    have hKl : ((keysF (opsN L isReg L.length)).map fun k => (k, svs k)).length = (keysF (opsN L isReg L.length)).length := List.length_map _
    have hsl0 := seen_len hnd hbd
    have hfl : ((seenK (keysF (opsN L isReg L.length)) seen).filter (fun k => decide (0 < (regHeld L k).length))).length ≤ seen.length := Nat.le_trans (List.length_filter_le _ _) seenK_len
    have hfin := keys_final (L := L) hnd (fun i hi => hall i (by rw [hKl]; exact hi))
    refine WC.exit ?_
    refine WQ.thn_exit ?_
    refine WQ.back_exit ?_
    refine WQ.blk_here ?_
    refine WQ.thn ?_
    refine WC.seq ?_
    refine WC.region ?_
    refine WL.pur (Pur.move rfl) ?_
    refine WL.call (H0 := hl) (Hr := (b12, iterO b7 ((keysF (opsN L isReg L.length)).map fun k => (k, svs k)).length seen) :: Hr) rfl Tryz.call102 List.perm_middle (slices_Sort _ sv _ hl hso (by omega)) ?_
    rintro v28 _ hl2 ⟨hso2, rfl⟩ _
    refine WL.nil ?_
    refine WQ.thn ?_
    refine WC.seq ?_
    refine WC.region ?_
    refine WL.pur (Pur.move rfl) ?_
    refine WL.pur (Pur.assign rfl) ?_
    refine WL.nil ?_
    refine WQ.thn ?_
    refine WC.ret ?_
    refine WQ.ret1 Tryz.results27 rfl hl2 (List.Sublist.append_left (List.Sublist.cons _ (List.Sublist.refl _)) _) (View.le_trans hle0 (View.le_trans hle2 (View.le_trans hle3 hle4))) ?_
    exact ⟨_, by rw [← hfin]; exact hso2, rfl⟩

end Go.Proofs.YtgoooilgmabkmaaGreat
namespace Go.Proofs.YtgoooilgmabkmaaGreat
open Go Go.Sl
set_option linter.unusedVariables false
set_option linter.unusedSimpArgs false
set_option maxRecDepth 100000

theorem op0_ok : op0.ok := ⟨by unfold I64; decide, by unfold StrOk; decide, by unfold StrOk; decide, by unfold I64; decide, isH0, by unfold I64; decide⟩
theorem e0_isH : IsH (2 ^ 248) := by unfold IsH HashMax; exact Nat.pow_lt_pow_right (by decide) (by decide)
theorem ord0 : OrdOk [e0] := by have := ordE_ok good0; rwa [ordE_single good0] at this
theorem past_Of2 (σ : View) (lv : Value) (l : List EntD) (h : Ents σ lv l) : Tri Tryz.prog 23 #[lv] σ [] (fun v σ' H' => (∃ pa n3, v = .tuple #[.pointer pa, .int .i64 (rightErr l).1, n3] ∧ ((rightErr l).1 = 0 → PastV σ' (.pointer pa) (ordE l)) ∧ ((rightErr l).1 ≠ 0 → pa = none)) ∧ H' = []) := by
  refine (past_Of σ lv l h).mono ?_
  rintro v σ' H' ⟨⟨h0, pv, rfl, hp⟩ | ⟨h0, rfl⟩, rfl⟩
  · have hp2 := hp
    obtain ⟨b, _, _, _, rfl, _⟩ := hp2
    exact ⟨⟨_, _, by rw [h0], fun _ => hp, fun h => absurd h0 h⟩, rfl⟩
  · exact ⟨⟨_, _, rfl, fun h => absurd h h0, fun _ => rfl⟩, rfl⟩
theorem r11_Of2 (σ : View) (lv : Value) (l : List EntD) (h : Ents σ lv l) : Tri Tryz.prog 24 #[lv] σ [] (fun v σ' H' => (∃ pa n3, v = .tuple #[.pointer pa, .int .i64 (rightErr l).1, n3] ∧ ((rightErr l).1 = 0 → R11V σ' (.pointer pa) (ordE l)) ∧ ((rightErr l).1 ≠ 0 → pa = none)) ∧ H' = []) := by
  refine (r11_Of σ lv l h).mono ?_
  rintro v σ' H' ⟨⟨h0, pv, rfl, hp⟩ | ⟨h0, rfl⟩, rfl⟩
  · have hp2 := hp
    obtain ⟨b, _, _, _, rfl, _⟩ := hp2
    exact ⟨⟨_, _, by rw [h0], fun _ => hp, fun h => absurd h0 h⟩, rfl⟩
  · exact ⟨⟨_, _, rfl, fun h => absurd h h0, fun _ => rfl⟩, rfl⟩
theorem regHeld_len {L : List EntD} (ho : OrdOk L) (key : ByteArray) : (regHeld L key).length ≤ 4194304 := by
  unfold regHeld keyOps
  exact Nat.le_trans (heldS_len _ _) (Nat.le_trans (List.length_filter_le _ _) (reg_len ho))
theorem regKeys_len {L : List EntD} (ho : OrdOk L) : (regKeys L).length ≤ 4194304 := by
  unfold regKeys
  refine Nat.le_trans (List.length_filter_le _ _) ?_
  rw [keysR_eq]
  refine Nat.le_trans (dedup_len _) ?_
  rw [textsL_len]
  unfold keysOf
  rw [List.length_map]
  exact reg_len ho

theorem law14_awake (σ : View) :
    Tri Tryz.prog 22 #[] σ [] (fun v σ' H' => v = .bool true ∧ H' = []) := by
  refine Tri.of_body [] Tryz.func22 rfl Tryz.ntmps22 (by simp) rfl (fun Hr => ?_)
  rw [List.nil_append]
  refine WC.seq ?_
  refine WC.region ?_
  refine WL.pur (Pur.assign rfl) ?_
  refine WL.nil ?_
  refine WQ.thn ?_
  refine WC.seq ?_
  refine WC.region ?_
  refine WL.pur (Pur.build (l := (opCells 1 kB oneB 0 0 0)) pl_51 zc_51 rfl rfl) ?_
  refine WL.new (New.alloc zc_51) (fun b1 => ?_)
  refine' WL.run0 (Run.storeAll rfl rfl ty_51 ?h1_0 (by first | rfl | assumption) ?h1_1 (by first | rfl | assumption)) ?k1
  case h1_0 => repeat (first | exact Part.one | exact Part.here | apply Part.cons | apply Part.app)
  case h1_1 => first | rfl | assumption
  refine WL.nil ?_
  refine WQ.thn ?_
  refine WC.seq ?_
  refine WC.region ?_
  refine WL.pur (Pur.buildA (us := (hashCells (2 ^ 248))) zc_39 ar_39 rfl rfl rfl) ?_
  refine' WL.pur (Pur.loadN rfl ty_51 ?h2_0 ?h2_1) ?k2
  case h2_0 => first | (apply Rd.own_sub; (focus repeat (first | exact List.Mem.head _ | apply List.Mem.tail | apply List.mem_append_right)); exact Sub.refl _) | (apply RdV.rd; assumption)
  case h2_1 => first | rfl | assumption
  refine WL.new (New.buildSliceN (xs := [.tmp 10]) (vss := [opCells 1 kB oneB 0 0 0]) sl_40 zc_51 rfl rfl rfl (by rfl) (by rfl)) (fun b11 => ?_)
  refine WL.pur (Pur.build (l := nodeCells _ _ _ _) pl_43 zc_43 rfl rfl) ?_
  refine WL.pur (Pur.build (l := entCells _ _ _ _ _) pl_45 zc_45 rfl rfl) ?_
  refine WL.new (New.buildSliceN (xs := [.tmp 13]) (vss := [entCells (2 ^ 248) 1 1 (.slice none 0 0) (.slice (some ⟨b11, 0, none⟩) 1 1)]) sl_22 zc_45 rfl rfl rfl (by rfl) (by rfl)) (fun b14 => ?_)
  refine WL.giveS (E := eOp) (byt := 88) (H1 := [(b14, _)]) (H2 := (b1, _) :: Hr) eOp_mono (SlO.row (T := 51) (b := b11) (ElR.single (σ := σ) (sz := 37) (x := op0) rfl rfl ⟨rfl, op0_ok⟩)) (by decide) rfl (fun σ1 hle1 hsl1 => ?_)
  rw [List.singleton_append]
  refine WL.giveS (E := eEnt) (byt := 96) (H1 := []) (H2 := (b1, _) :: Hr) eEnt_mono (SlO.row (T := 45) (b := b14) (ElR.single (σ := σ1) (sz := 36) (x := e0) rfl rfl ⟨_, _, rfl, e0_isH, SlE.nilS, hsl1, by unfold I64; decide, by unfold I64; decide⟩)) (by decide) rfl (fun σ2 hle2 hsl2 => ?_)
  rw [List.nil_append]
  refine WL.call (H0 := []) (Hr := (b1, _) :: Hr) rfl Tryz.call23 (List.Perm.refl _) (past_Of _ _ [e0] hsl2) ?_
  rintro v15 σ3 _ ⟨hd, rfl⟩ hle3
  rw [List.nil_append]
  obtain ⟨_, pv, rfl, hpv⟩ := hd.resolve_right (fun h => h.1 right0)
  rw [ordE_single good0] at hpv
  have hp2 := hpv
  obtain ⟨pb, _, _, _, rfl, _⟩ := hp2
  refine WL.pur (Pur.move rfl) ?_
  first | refine WL.pur (Pur.ex2_0 rfl) ?_ | refine WL.pur (Pur.ex3_0 rfl) ?_ | refine WL.pur (Pur.extractNext rfl) ?_ | refine WL.pur (Pur.extract rfl rfl) ?_
  first | refine WL.pur (Pur.ex2_1 rfl) ?_ | refine WL.pur (Pur.ex3_1 rfl) ?_ | refine WL.pur (Pur.extract rfl rfl) ?_
  first | refine WL.pur (Pur.ex3_2 rfl) ?_ | refine WL.pur (Pur.extract rfl rfl) ?_
  refine WL.pur (Pur.assign rfl) ?_
  refine WL.pur (Pur.assign rfl) ?_
  refine WL.pur (Pur.assign rfl) ?_
  refine WL.nil ?_
  refine WQ.thn ?_
  refine WC.seq ?_
  refine WC.seq ?_
  refine WC.region ?_
  refine WL.pur (Pur.move rfl) ?_
  refine' WL.pur (Pur.bin rfl rfl ?h3_0) ?k3
  case h3_0 => first | exact Bin.neN (b := 0) | exact Bin.neI
  refine WL.pur (Pur.move rfl) ?_
  refine' WL.orp (u := 21) (t := 24) rfl ?h4_0 ?h4_1 ?h4_2 rfl ?k4
  case h4_0 =>
    intro hg21 K21
    refine WL.gpur (u := 21) rfl rfl (gF hg21) (Pur.move rfl) ?_
    refine' WL.gpur (u := 21) rfl rfl (gF hg21) (Pur.bin rfl rfl ?h5_0) ?k5
    case h5_0 => exact Bin.eqP isPtr_25
    exact K21 _ (by repeat (first | exact Covers.refl _ | refine Covers.push ?_ rfl)) rfl
  case h4_1 =>
    intro hg21 K21
    refine WL.gskip (u := 21) rfl rfl (sF hg21) ?_
    refine WL.gskip (u := 21) rfl rfl (sF hg21) ?_
    exact K21 _ (by repeat (first | exact Covers.refl _ | refine Covers.push ?_ rfl))
  case h4_2 => exact Wanted.plain rfl
  refine WL.nil ?_
  refine WQ.thn ?_
  first | refine WC.cond rfl (fun hc0 => ?_) (fun hc0 => ?_) | refine WC.condB rfl (fun hc0 => ?_) (fun hc0 => ?_)
  · exact absurd hc0 (by simp)
  · refine WC.skip ?_
    refine WQ.thn ?_
    refine WC.seq ?_
    refine WC.region ?_
    refine WL.pur (Pur.move rfl) ?_
    refine WL.call (H0 := []) (Hr := (b1, _) :: Hr) rfl Tryz.call28 (List.Perm.refl _) (reg_Read _ _ [e0] kB hpv ord0) ?_
    rintro v26 σ4 _ ⟨_, hso4, rfl⟩ hle4
    rw [held_k] at hso4
    refine WL.giveS (byt := 16) (H1 := []) (H2 := (b1, _) :: Hr) eStr_mono hso4 (by decide) rfl (fun σ5 hle5 hsl5 => ?_)
    rw [List.nil_append]
    have hpv5 := hpv.mono (View.le_trans hle4 hle5)
    obtain ⟨ra, rc, rfl, hrc, _⟩ := hsl5.shape
    obtain ⟨rb, roff, her⟩ := addr_of hsl5
    refine WL.pur (Pur.move rfl) ?_
    refine WL.call (H0 := []) (Hr := (b1, _) :: Hr) rfl Tryz.call27 (List.Perm.refl _) (reg_Keys _ _ [e0] hpv5 ord0) ?_
    rintro v28 σ6 _ ⟨_, hso6, rfl⟩ hle6
    rw [keys_0] at hso6
    refine WL.giveS (byt := 16) (H1 := []) (H2 := (b1, _) :: Hr) eStr_mono hso6 (by decide) rfl (fun σ7 hle7 hK => ?_)
    rw [List.nil_append]
    have hpv7 := hpv5.mono (View.le_trans hle6 hle7)
    have hA := hsl5.mono eStr_mono (View.le_trans hle6 hle7)
    obtain ⟨ka, kc, rfl, hkc, _⟩ := hK.shape
    obtain ⟨kb, koff, hek⟩ := addr_of hK
    refine WL.pur (Pur.assign rfl) ?_
    refine WL.pur (Pur.assign rfl) ?_
    refine WL.nil ?_
    refine WQ.thn ?_
    refine WC.seq ?_
    refine WC.region ?_
    refine WL.pur (Pur.move rfl) ?_
    refine WL.pur (Pur.len rfl isSlice_23) ?_
    refine' WL.pur (Pur.bin rfl rfl ?h6_0) ?k6
    case h6_0 => first | exact Bin.eqN (b := 1) | exact Bin.eqI
    refine WL.pur (Pur.move rfl) ?_
    refine' WL.andp (u := 32) (t := 37) rfl ?h7_0 ?h7_1 ?h7_2 rfl ?k7
    case h7_0 =>
      intro hg32 K32
      have hr1 := str_rd hA her (show 0 < [oneB].length by decide)
      refine WL.gpur (u := 32) rfl rfl (gT hg32) (Pur.move rfl) ?_
      refine' WL.gpur (u := 32) rfl rfl (gT hg32) (Pur.indexAddr (i := 0) (eqA (her (by decide))) rfl sl_23 ?h8_0) ?k8
      case h8_0 => decide
      refine' WL.gpur (u := 32) rfl rfl (gT hg32) (Pur.load1 rfl ty_9 ?h9_0) ?k9
      case h9_0 => exact RdV.rd hr1.1
      refine' WL.gpur (u := 32) rfl rfl (gT hg32) (Pur.bin rfl rfl ?h10_0) ?k10
      case h10_0 => exact Bin.eqS
      exact K32 _ (by repeat (first | exact Covers.refl _ | refine Covers.push ?_ rfl)) rfl
    case h7_1 =>
      intro hg32 K32
      refine WL.gskip (u := 32) rfl rfl (sT hg32) ?_
      refine WL.gskip (u := 32) rfl rfl (sT hg32) ?_
      refine WL.gskip (u := 32) rfl rfl (sT hg32) ?_
      refine WL.gskip (u := 32) rfl rfl (sT hg32) ?_
      exact K32 _ (by repeat (first | exact Covers.refl _ | refine Covers.push ?_ rfl))
    case h7_2 => exact Wanted.plain rfl
    refine WL.pur (Pur.move rfl) ?_
    refine' WL.andp (u := 38) (t := 42) rfl ?h11_0 ?h11_1 ?h11_2 rfl ?k11
    case h11_0 =>
      intro hg38 K38
      refine WL.gpur (u := 38) rfl rfl (gT hg38) (Pur.move rfl) ?_
      refine WL.gpur (u := 38) rfl rfl (gT hg38) (Pur.len rfl isSlice_23) ?_
      refine' WL.gpur (u := 38) rfl rfl (gT hg38) (Pur.bin rfl rfl ?h12_0) ?k12
      case h12_0 => first | exact Bin.eqN (b := 1) | exact Bin.eqI
      exact K38 _ (by repeat (first | exact Covers.refl _ | refine Covers.push ?_ rfl)) rfl
    case h11_1 =>
      intro hg38 K38
      refine WL.gskip (u := 38) rfl rfl (sT hg38) ?_
      refine WL.gskip (u := 38) rfl rfl (sT hg38) ?_
      refine WL.gskip (u := 38) rfl rfl (sT hg38) ?_
      exact K38 _ (by repeat (first | exact Covers.refl _ | refine Covers.push ?_ rfl))
    case h11_2 => exact Wanted.plain rfl
    refine WL.pur (Pur.move rfl) ?_
    refine' WL.andp (u := 43) (t := 48) rfl ?h13_0 ?h13_1 ?h13_2 rfl ?k13
    case h13_0 =>
      intro hg43 K43
      have hk1 := str_rd hK hek (show 0 < [kB].length by decide)
      refine WL.gpur (u := 43) rfl rfl (gT hg43) (Pur.move rfl) ?_
      refine' WL.gpur (u := 43) rfl rfl (gT hg43) (Pur.indexAddr (i := 0) (eqA (hek (by decide))) rfl sl_23 ?h14_0) ?k14
      case h14_0 => decide
      refine' WL.gpur (u := 43) rfl rfl (gT hg43) (Pur.load1 rfl ty_9 ?h15_0) ?k15
      case h15_0 => exact RdV.rd hk1.1
      refine' WL.gpur (u := 43) rfl rfl (gT hg43) (Pur.bin rfl rfl ?h16_0) ?k16
      case h16_0 => exact Bin.eqS
      exact K43 _ (by repeat (first | exact Covers.refl _ | refine Covers.push ?_ rfl)) rfl
    case h13_1 =>
      intro hg43 K43
      refine WL.gskip (u := 43) rfl rfl (sT hg43) ?_
      refine WL.gskip (u := 43) rfl rfl (sT hg43) ?_
      refine WL.gskip (u := 43) rfl rfl (sT hg43) ?_
      refine WL.gskip (u := 43) rfl rfl (sT hg43) ?_
      exact K43 _ (by repeat (first | exact Covers.refl _ | refine Covers.push ?_ rfl))
    case h13_2 => exact Wanted.plain rfl
    refine WL.pur (Pur.move rfl) ?_
    refine' WL.andp (u := 49) (t := 54) rfl ?h17_0 ?h17_1 ?h17_2 rfl ?k17
    case h17_0 =>
      intro hg49 K49
      refine WL.gpur (u := 49) rfl rfl (gT hg49) (Pur.move rfl) ?_
      refine WL.gcallR (H0 := []) (u := 49) rfl rfl (gT hg49) rfl Tryz.call28 (List.Perm.refl _) (reg_Read _ _ [e0] lB hpv7 ord0) ?_
      rintro v51 σ8 _ ⟨_, hso8, rfl⟩ hle8
      rw [held_l] at hso8
      obtain ⟨za, zc, rfl, _⟩ := hso8.shape
      refine WL.gpur (u := 49) rfl rfl (gT hg49) (Pur.len rfl isSlice_23) ?_
      refine' WL.gpur (u := 49) rfl rfl (gT hg49) (Pur.bin rfl rfl ?h18_0) ?k18
      case h18_0 => first | exact Bin.eqN (b := 0) | exact Bin.eqI
      refine WL.le hle8 (WL.sub ?_ (List.sublist_append_right _ _))
      exact K49 _ (by repeat (first | exact Covers.refl _ | refine Covers.push ?_ rfl)) rfl
    case h17_1 =>
      intro hg49 K49
      refine WL.gskip (u := 49) rfl rfl (sT hg49) ?_
      refine WL.gskip (u := 49) rfl rfl (sT hg49) ?_
      refine WL.gskip (u := 49) rfl rfl (sT hg49) ?_
      refine WL.gskip (u := 49) rfl rfl (sT hg49) ?_
      exact K49 _ (by repeat (first | exact Covers.refl _ | refine Covers.push ?_ rfl))
    case h17_2 => exact Wanted.plain rfl
    refine WL.pur (Pur.assign rfl) ?_
    refine WL.nil ?_
    refine WQ.thn ?_
    refine WC.ret ?_
    refine WQ.ret1 Tryz.results22 rfl [] (by repeat (first | exact List.Sublist.refl _ | exact List.nil_sublist _ | apply List.Sublist.cons_cons | apply List.Sublist.cons | apply List.Sublist.append_left | exact List.sublist_append_right _ _)) (View.le_trans hle1 (View.le_trans hle2 (View.le_trans hle3 (View.le_trans hle4 (View.le_trans hle5 (View.le_trans hle6 hle7)))))) ?_
    exact ⟨(boolT (by decide)).symm, rfl⟩

theorem law14_RegReads (σ : View) (lv kv : Value) (l : List EntD) (keys : List ByteArray) (h : Ents σ lv l) (hk : Strs σ kv keys) :
    Tri Tryz.prog 3 #[lv, kv] σ [] (fun v σ' H' => v = .bool true) := by
  refine Tri.of_body [(0, lv), (1, kv)] Tryz.func3 rfl Tryz.ntmps3 (by simp) rfl (fun Hr => ?_)
  rw [List.nil_append]
  refine WC.seq ?_
  refine WC.region ?_
  refine WL.pur (Pur.assign rfl) ?_
  refine WL.nil ?_
  refine WQ.thn ?_
  refine WC.seq ?_
  refine WC.seq ?_
  refine WC.region ?_
  refine WL.call (H0 := []) (Hr := Hr) rfl Tryz.call22 (List.Perm.refl _) (law14_awake σ) ?_
  rintro _ σ1 _ ⟨rfl, rfl⟩ hle1
  rw [List.nil_append]
  first | refine WL.pur (Pur.not rfl) ?_ | refine WL.pur (Pur.notB rfl) ?_
  refine WL.nil ?_
  refine WQ.thn ?_
  refine WC.condF rfl ?_
  refine WC.skip ?_
  refine WQ.thn ?_
  refine WC.seq ?_
  refine WC.region ?_
  refine WL.pur (Pur.move rfl) ?_
  refine WL.call (H0 := []) (Hr := Hr) rfl Tryz.call23 (List.Perm.refl _) (past_Of2 _ _ l (h.mono eEnt_mono hle1)) ?_
  rintro _ σ2 _ ⟨⟨pa, n3, rfl, hpp, hpn⟩, rfl⟩ hle2
  rw [List.nil_append]
  refine WL.pur (Pur.move rfl) ?_
  first | refine WL.pur (Pur.ex2_0 rfl) ?_ | refine WL.pur (Pur.ex3_0 rfl) ?_ | refine WL.pur (Pur.extractNext rfl) ?_ | refine WL.pur (Pur.extract rfl rfl) ?_
  first | refine WL.pur (Pur.ex2_1 rfl) ?_ | refine WL.pur (Pur.ex3_1 rfl) ?_ | refine WL.pur (Pur.extract rfl rfl) ?_
  first | refine WL.pur (Pur.ex3_2 rfl) ?_ | refine WL.pur (Pur.extract rfl rfl) ?_
  refine WL.pur (Pur.assign rfl) ?_
  refine WL.pur (Pur.assign rfl) ?_
  refine WL.pur (Pur.assign rfl) ?_
  refine WL.nil ?_
  refine WQ.thn ?_
  refine WC.seq ?_
  refine WC.region ?_
  refine WL.pur (Pur.move rfl) ?_
  refine WL.call (H0 := []) (Hr := Hr) rfl Tryz.call24 (List.Perm.refl _) (r11_Of2 _ _ l (h.mono eEnt_mono (View.le_trans hle1 hle2))) ?_
  rintro _ σ3 _ ⟨⟨qa, m3, rfl, hqq, hqn⟩, rfl⟩ hle3
  rw [List.nil_append]
  refine WL.pur (Pur.move rfl) ?_
  first | refine WL.pur (Pur.ex2_0 rfl) ?_ | refine WL.pur (Pur.ex3_0 rfl) ?_ | refine WL.pur (Pur.extractNext rfl) ?_ | refine WL.pur (Pur.extract rfl rfl) ?_
  first | refine WL.pur (Pur.ex2_1 rfl) ?_ | refine WL.pur (Pur.ex3_1 rfl) ?_ | refine WL.pur (Pur.extract rfl rfl) ?_
  first | refine WL.pur (Pur.ex3_2 rfl) ?_ | refine WL.pur (Pur.extract rfl rfl) ?_
  refine WL.pur (Pur.assign rfl) ?_
  refine WL.pur (Pur.assign rfl) ?_
  refine WL.pur (Pur.assign rfl) ?_
  refine WL.nil ?_
  refine WQ.thn ?_
  refine WC.seq ?_
  refine WC.seq ?_
  refine WC.region ?_
  refine WL.pur (Pur.move rfl) ?_
  refine' WL.pur (Pur.bin rfl rfl ?h1_0) ?k1
  case h1_0 => first | exact Bin.neN (b := 0) | exact Bin.neI
  refine WL.pur (Pur.move rfl) ?_
  refine' WL.orp (u := 30) (t := 33) rfl ?h2_0 ?h2_1 ?h2_2 rfl ?k2
  case h2_0 =>
    intro hg30 K30
    refine WL.gpur (u := 30) rfl rfl (gF hg30) (Pur.move rfl) ?_
    refine' WL.gpur (u := 30) rfl rfl (gF hg30) (Pur.bin rfl rfl ?h3_0) ?k3
    case h3_0 => first | exact Bin.neN (b := 0) | exact Bin.neI
    exact K30 _ (by repeat (first | exact Covers.refl _ | refine Covers.push ?_ rfl)) rfl
  case h2_1 =>
    intro hg30 K30
    refine WL.gskip (u := 30) rfl rfl (sF hg30) ?_
    refine WL.gskip (u := 30) rfl rfl (sF hg30) ?_
    exact K30 _ (by repeat (first | exact Covers.refl _ | refine Covers.push ?_ rfl))
  case h2_2 => exact Wanted.plain rfl
  refine WL.pur (Pur.move rfl) ?_
  refine' WL.orp (u := 34) (t := 37) rfl ?h4_0 ?h4_1 ?h4_2 rfl ?k4
  case h4_0 =>
    intro hg34 K34
    refine WL.gpur (u := 34) rfl rfl (gF hg34) (Pur.move rfl) ?_
    refine' WL.gpur (u := 34) rfl rfl (gF hg34) (Pur.bin rfl rfl ?h5_0) ?k5
    case h5_0 => exact Bin.eqP isPtr_25
    exact K34 _ (by repeat (first | exact Covers.refl _ | refine Covers.push ?_ rfl)) rfl
  case h4_1 =>
    intro hg34 K34
    refine WL.gskip (u := 34) rfl rfl (sF hg34) ?_
    refine WL.gskip (u := 34) rfl rfl (sF hg34) ?_
    exact K34 _ (by repeat (first | exact Covers.refl _ | refine Covers.push ?_ rfl))
  case h4_2 => exact Wanted.plain rfl
  refine WL.nil ?_
  refine WQ.thn ?_
  first | refine WC.cond rfl (fun hc1 => ?_) (fun hc1 => ?_) | refine WC.condB rfl (fun hc1 => ?_) (fun hc1 => ?_)
  · refine WC.seq ?_
    refine WC.region ?_
    refine WL.pur (Pur.move rfl) ?_
    refine WL.pur (Pur.move rfl) ?_
    refine' WL.pur (Pur.bin rfl rfl ?h6_0) ?k6
    case h6_0 => first | exact Bin.eqN | exact Bin.eqI
    refine WL.pur (Pur.move rfl) ?_
    refine' WL.andp (u := 41) (t := 44) rfl ?h7_0 ?h7_1 ?h7_2 rfl ?k7
    case h7_0 =>
      intro hg41 K41
      refine WL.gpur (u := 41) rfl rfl (gT hg41) (Pur.move rfl) ?_
      refine' WL.gpur (u := 41) rfl rfl (gT hg41) (Pur.bin rfl rfl ?h8_0) ?k8
      case h8_0 => exact Bin.eqP isPtr_25
      exact K41 _ (by repeat (first | exact Covers.refl _ | refine Covers.push ?_ rfl)) rfl
    case h7_1 =>
      intro hg41 K41
      refine WL.gskip (u := 41) rfl rfl (sT hg41) ?_
      refine WL.gskip (u := 41) rfl rfl (sT hg41) ?_
      exact K41 _ (by repeat (first | exact Covers.refl _ | refine Covers.push ?_ rfl))
    case h7_2 => exact Wanted.plain rfl
    refine WL.pur (Pur.assign rfl) ?_
    refine WL.nil ?_
    refine WQ.thn ?_
    refine WC.ret ?_
    refine WQ.thn_ret ?_
    refine WQ.ret1 Tryz.results3 rfl [] (by first | exact List.Sublist.refl _ | exact List.sublist_append_right _ _) (View.le_trans hle1 (View.le_trans hle2 hle3)) ?_
    exact (boolT ⟨rfl, hc1.elim (fun h => h.elim hpn hpn) id⟩).symm
  · have h0 : (rightErr l).1 = 0 := Decidable.not_not.1 fun h => hc1 (.inl (.inl h))
    have hg := good_of_right h0
    have ho := ordE_ok hg
    have hp3 := (hpp h0).mono hle3
    have hq3 := hqq h0
    obtain ⟨pb, _, _, _, hpe, _⟩ := hpp h0
    obtain ⟨qb, _, _, _, hqe, _⟩ := hqq h0
    have hml := regKeys_len ho
    have hk3 := hk.mono eStr_mono (View.le_trans hle1 (View.le_trans hle2 hle3))
    refine WC.skip ?_
    refine WQ.thn ?_
    refine WC.seq ?_
    refine WC.region ?_
    refine WL.pur (Pur.move rfl) ?_
    refine WL.call (H0 := []) (Hr := Hr) rfl Tryz.call25 (List.Perm.refl _) (r14_Keys _ _ (ordE l) hq3 ho) ?_
    rintro v46 σ4 hA ⟨_, hsoA, rfl⟩ hle4
    refine WL.pur (Pur.assign rfl) ?_
    refine WL.nil ?_
    refine WQ.thn ?_
    refine WC.seq ?_
    refine WC.seq ?_
    refine WC.region ?_
    refine WL.pur (Pur.move rfl) ?_
    refine WL.call (H0 := []) (Hr := hA ++ Hr) rfl Tryz.call27 (List.Perm.refl _) (reg_Keys _ _ (ordE l) (hp3.mono hle4) ho) ?_
    rintro v48 σ5 hB ⟨_, hsoB, rfl⟩ hle5
    refine WL.giveS (byt := 16) (H1 := []) (H2 := hA ++ Hr) eStr_mono hsoB (by omega) rfl (fun σ6 hle6 hB6 => ?_)
    rw [List.nil_append]
    have hsoA6 := hsoA.mono eStr_mono (View.le_trans hle5 hle6)
    have hp6 := hp3.mono (View.le_trans hle4 (View.le_trans hle5 hle6))
    have hq6 := hq3.mono (View.le_trans hle4 (View.le_trans hle5 hle6))
    have hk6 := hk3.mono eStr_mono (View.le_trans hle4 (View.le_trans hle5 hle6))
    refine WL.pur (Pur.move rfl) ?_
    refine WL.call (H0 := hA) (Hr := Hr) rfl Tryz.call26 (List.Perm.refl _) (hsoA6.borrow (byt := 16) eStr_mono (by omega) (fun σ' hl' hs' => r11_EqTexts σ' _ _ _ _ (hB6.mono eStr_mono hl') hs')) ?_
    rintro _ σ6 _ ⟨rfl, rfl, rfl⟩ _
    first | refine WL.pur (Pur.not rfl) ?_ | refine WL.pur (Pur.notB rfl) ?_
    refine WL.nil ?_
    refine WQ.thn ?_
    first | refine WC.cond rfl (fun hc2 => ?_) (fun hc2 => ?_) | refine WC.condB rfl (fun hc2 => ?_) (fun hc2 => ?_)
    · exact absurd rfl hc2
    · refine WC.skip ?_
      refine WQ.thn ?_
      refine WC.seq ?_
      refine WC.seq ?_
      refine WC.region ?_
      refine WL.pur (Pur.move rfl) ?_
      refine WL.pur (Pur.move rfl) ?_
      obtain ⟨ya, yc, rfl, hyc, hyb⟩ := hk6.shape
      have hyb2 : keys.length * 16 ≤ 140737488355328 := hyb
      refine WL.any (Any.pushAllF (H1 := []) (H2 := Hr) sl_23 zc_9 rfl by_9 rfl rfl hsoA6 hk6 rfl (fun old ho => grow_fits16 ho (by omega)) (by omega)) ?_
      rintro _ σ6 _ ⟨hA2, hsoK, rfl, rfl⟩ _
      rw [List.nil_append]
      obtain ⟨xa, xc, rfl, hxc⟩ := hsoK.shape
      obtain ⟨xb, hxa, hxat⟩ := hsoK.rds
      refine WL.pur (Pur.len rfl isSlice_23) ?_
      refine WL.pur (Pur.move rfl) ?_
      refine WL.nil ?_
      refine WQ.thn ?_
      refine WC.block ?_
      refine WC.loop (fun j m σ' H' => ∃ i : Nat, j = (regKeys (ordE l) ++ keys).length - i ∧ i ≤ (regKeys (ordE l) ++ keys).length ∧ σ6.le σ' ∧ m = [(5, .pointer pa), (8, .pointer qa), (54, .slice xa (regKeys (ordE l) ++ keys).length xc), (55, .int .i64 ((regKeys (ordE l) ++ keys).length : Int)), (56, .int .i64 (i : Int))] ∧ H' = hA2 ++ Hr) ⟨0, rfl, by omega, View.le_refl _, rfl, rfl⟩ (by repeat (first | exact Covers.nil _ | refine Covers.cons rfl ?_)) (by repeat (first | exact List.Sublist.refl _ | exact List.nil_sublist _ | apply List.Sublist.cons_cons | apply List.Sublist.cons | apply List.Sublist.append_left | exact List.sublist_append_right _ _)) ?_
      rintro _ _ σ Hr ⟨i, rfl, hi, hlei, rfl, rfl⟩
      have hAKl : (regKeys (ordE l) ++ keys).length = (regKeys (ordE l)).length + keys.length := List.length_append
      refine WC.seq ?_
      refine WC.region ?_
      refine' WL.pur (Pur.bin rfl rfl ?h9_0) ?k9
      case h9_0 => first | exact Bin.ltN | exact Bin.ltI | exact Bin.ltS
      refine WL.nil ?_
      refine WQ.thn ?_
      refine WC.seq ?_
      first | refine WC.cond rfl (fun hc3 => ?_) (fun hc3 => ?_) | refine WC.condB rfl (fun hc3 => ?_) (fun hc3 => ?_)
      · obtain ⟨x, hx⟩ : ∃ x, (regKeys (ordE l) ++ keys)[i]? = some x := ⟨_, List.getElem?_eq_getElem hc3⟩
        obtain ⟨vs, _, _, ⟨rfl, hxk⟩, hvr⟩ := hxat i x hx
        refine WC.skip ?_
        refine WQ.thn ?_
        refine WC.seq ?_
        refine WC.block ?_
        refine WC.seq ?_
        refine WC.region ?_
        refine' WL.pur (Pur.indexAddr (eqA (hxa (by omega))) rfl sl_23 ?h10_0) ?k10
        case h10_0 => omega
        refine' WL.pur (Pur.load1 rfl ty_9 ?h11_0) ?k11
        case h11_0 => exact hvr _ _ (fun p hp => by repeat (first | exact List.mem_append_left _ hp | apply List.Mem.tail | apply List.mem_append_right))
        refine WL.pur (Pur.assign rfl) ?_
        refine WL.nil ?_
        refine WQ.thn ?_
        refine WC.seq ?_
        refine WC.region ?_
        refine WL.pur (Pur.move rfl) ?_
        refine WL.pur (Pur.move rfl) ?_
        refine WL.call (H0 := []) (Hr := hA2 ++ Hr) rfl Tryz.call28 (List.Perm.refl _) (reg_Read _ _ (ordE l) x (hp6.mono hlei) ho) ?_
        rintro _ σ7 _ ⟨_, hso7, rfl⟩ hle7
        refine WL.giveS (byt := 16) (H1 := []) (H2 := hA2 ++ Hr) eStr_mono hso7 (by have := regHeld_len ho x; omega) rfl (fun σ8 hle8 hXa => ?_)
        rw [List.nil_append]
        refine WL.pur (Pur.move rfl) ?_
        refine WL.pur (Pur.move rfl) ?_
        refine WL.call (H0 := []) (Hr := hA2 ++ Hr) rfl Tryz.call29 (List.Perm.refl _) (r14_Read _ _ (ordE l) x (hq6.mono (View.le_trans hlei (View.le_trans hle7 hle8))) ho) ?_
        rintro _ σ9 _ ⟨_, hso9, rfl⟩ hle9
        refine WL.giveS (byt := 16) (H1 := []) (H2 := hA2 ++ Hr) eStr_mono hso9 (by have := regHeld_len ho x; omega) rfl (fun σ10 hle10 hXb => ?_)
        rw [List.nil_append]
        refine WL.callP rfl Tryz.call26 ((r11_EqTexts _ _ _ _ _ (hXa.mono eStr_mono (View.le_trans hle9 hle10)) hXb)) ?_
        first | refine WL.pur (Pur.not rfl) ?_ | refine WL.pur (Pur.notB rfl) ?_
        refine WL.nil ?_
        refine WQ.thn ?_
        first | refine WC.cond rfl (fun hc4 => ?_) (fun hc4 => ?_) | refine WC.condB rfl (fun hc4 => ?_) (fun hc4 => ?_)
        · exact absurd rfl hc4
        · refine WC.skip ?_
          refine WQ.blk ?_
          refine WQ.thn ?_
          refine WC.region ?_
          refine' WL.pur (Pur.bin rfl rfl ?h12_0) ?k12
          case h12_0 => first | (refine Bin.addN (b := 1) ?_; omega) | (refine Bin.addI ?_; omega)
          refine WL.pur (Pur.move rfl) ?_
          refine WL.nil ?_
          refine WQ.back _ ⟨i + 1, rfl, by omega, View.le_trans hlei (View.le_trans hle7 (View.le_trans hle8 (View.le_trans hle9 hle10))), rfl, rfl⟩ (by omega) (by repeat (first | exact Covers.nil _ | refine Covers.cons rfl ?_)) (by repeat (first | exact List.Sublist.refl _ | exact List.nil_sublist _ | apply List.Sublist.cons_cons | apply List.Sublist.cons | apply List.Sublist.append_left | exact List.sublist_append_right _ _))
      · refine WC.exit ?_
        refine WQ.thn_exit ?_
        refine WQ.back_exit ?_
        refine WQ.blk_here ?_
        refine WQ.thn ?_
        refine WC.seq ?_
        refine WC.region ?_
        refine WL.pur (Pur.assign rfl) ?_
        refine WL.nil ?_
        refine WQ.thn ?_
        refine WC.ret ?_
        refine WQ.ret1 Tryz.results3 rfl [] (by first | exact List.Sublist.refl _ | exact List.sublist_append_right _ _) (View.le_trans hle1 (View.le_trans hle2 (View.le_trans hle3 (View.le_trans hle4 (View.le_trans hle5 (View.le_trans hle6 hlei)))))) ?_
        rfl

end Go.Proofs.YtgoooilgmabkmaaGreat
namespace Go.Proofs.YtgoooilgmabkmaaGreat
open Go Go.Sl
set_option linter.unusedVariables false
set_option linter.unusedSimpArgs false
set_option maxRecDepth 100000

theorem own : ownKnob Tryz.prog.godebug = none := by kernel_rfl
theorem laidOut : laidOutB Tryz.prog = true := by kernel_rfl
theorem c39 : Tryz.prog.cellsOf 39 = 32 := by kernel_rfl
theorem c51 : Tryz.prog.cellsOf 51 = 37 := by kernel_rfl
theorem c45 : Tryz.prog.cellsOf 45 = 36 := by kernel_rfl
theorem c43 : Tryz.prog.cellsOf 43 = 4 := by kernel_rfl
theorem c49 : Tryz.prog.cellsOf 49 = 33 := by kernel_rfl
theorem c9 : Tryz.prog.cellsOf 9 = 1 := by kernel_rfl
theorem c3 : Tryz.prog.cellsOf 3 = 1 := by kernel_rfl
theorem c2 : Tryz.prog.cellsOf 2 = 1 := by kernel_rfl
theorem c41 : Tryz.prog.cellsOf 41 = 1 := by kernel_rfl
theorem c40 : Tryz.prog.cellsOf 40 = 1 := by kernel_rfl
theorem y39 : Tryz.prog.bytesOf 39 = 32 := by kernel_rfl
theorem y51 : Tryz.prog.bytesOf 51 = 88 := by kernel_rfl
theorem y45 : Tryz.prog.bytesOf 45 = 96 := by kernel_rfl
theorem y9 : Tryz.prog.bytesOf 9 = 16 := by kernel_rfl
theorem cutC {cs rest : List Value} {off sz : Nat} (h : cs.drop (off + sz) = rest) : cs.drop off = (cs.drop off).take sz ++ rest := by
  rw [← h, ← List.drop_drop]
  exact (List.take_append_drop sz (cs.drop off)).symm
section
variable {H : Type} {enc : TypeId × Value → H} {W : World}
theorem rd_hash : Reads enc Tryz.prog W 39 eHash := Reads.hash Tryz.underlying39 Tryz.underlying5 (by kernel_rfl) c39
theorem rd_str : Reads enc Tryz.prog W 9 eStr := Reads.string Tryz.underlying9
theorem rd_i64 : Reads enc Tryz.prog W 3 eInt := Reads.i64 Tryz.underlying3
theorem rd_i64b : Reads enc Tryz.prog W 2 eInt := Reads.i64 Tryz.underlying2
def eIdent : Enc (Nat × Int) := fun _ x vs => vs = identCells x.1 x.2 ∧ IsH x.1 ∧ I64 x.2
theorem rd_ident : Reads enc Tryz.prog W 49 eIdent := by
  intro fuel cs d ps h hl hlen
  rw [c49] at hlen
  obtain ⟨a, _, a2, a3⟩ := Reads.field (off := 0) Tryz.underlying49 h hl 0 rfl rfl c39 (by omega) rd_hash
  obtain ⟨b, _, b2, b3⟩ := Reads.field (off := 32) Tryz.underlying49 h hl 1 rfl rfl c3 (by omega) rd_i64
  have e := cutC (cs := cs) (off := 0) (sz := 32) (cutC (off := 0 + 32) (sz := 1) (List.drop_of_length_le (by omega)))
  rw [List.drop_zero] at e a2
  rw [a2, show 0 + 32 = 32 from rfl, b2] at e
  refine ⟨(a, b), ?_, e, a3, b3⟩
  rw [e]
  rfl
theorem rd_op : Reads enc Tryz.prog W 51 eOp := by
  intro fuel cs d ps h hl hlen
  rw [c51] at hlen
  obtain ⟨a, _, a2, a3⟩ := Reads.field (off := 0) Tryz.underlying51 h hl 0 rfl rfl c3 (by omega) rd_i64
  obtain ⟨b, _, b2, b3⟩ := Reads.field (off := 1) Tryz.underlying51 h hl 1 rfl rfl c9 (by omega) rd_str
  obtain ⟨c, _, c2', c3'⟩ := Reads.field (off := 2) Tryz.underlying51 h hl 2 rfl rfl c9 (by omega) rd_str
  obtain ⟨n, _, n2, n3⟩ := Reads.field (off := 3) Tryz.underlying51 h hl 3 rfl rfl c2 (by omega) rd_i64b
  obtain ⟨t, _, t2, t3, t4⟩ := Reads.field (off := 4) Tryz.underlying51 h hl 4 rfl rfl c49 (by omega) rd_ident
  have e := cutC (cs := cs) (off := 0) (sz := 1) (cutC (off := 1) (sz := 1) (cutC (off := 2) (sz := 1) (cutC (off := 3) (sz := 1) (cutC (off := 4) (sz := 33) (List.drop_of_length_le (by omega))))))
  rw [List.drop_zero] at e a2
  rw [a2, b2, c2', n2, t2] at e
  refine ⟨⟨a, b, c, n, t.1, t.2⟩, ?_, e, a3, b3, c3', n3, t3, t4⟩
  rw [e]
  rfl
theorem rd_hashes : Reads enc Tryz.prog W 41 (fun σ (l : List Nat) vs => ∃ sv, vs = [sv] ∧ SlE σ eHash 32 32 sv l) := by
  have h := Reads.slice (enc := enc) (W := W) (byt := 32) Tryz.underlying41 (by rw [c39]; decide) (by rw [y39]; decide) rd_hash
  rw [c39] at h
  exact h
theorem rd_ops : Reads enc Tryz.prog W 40 (fun σ (l : List OpD) vs => ∃ sv, vs = [sv] ∧ SlE σ eOp 37 88 sv l) := by
  have h := Reads.slice (enc := enc) (W := W) (byt := 88) Tryz.underlying40 (by rw [c51]; decide) (by rw [y51]; decide) rd_op
  rw [c51] at h
  exact h
def eNode : Enc NodeD := fun σ x vs => ∃ pv ov, vs = nodeCells x.au x.cl pv ov ∧ NodeR σ x pv ov
theorem rd_node : Reads enc Tryz.prog W 43 eNode := by
  intro fuel cs d ps h hl hlen
  rw [c43] at hlen
  obtain ⟨a, _, a2, a3⟩ := Reads.field (off := 0) Tryz.underlying43 h hl 0 rfl rfl c3 (by omega) rd_i64
  obtain ⟨b, _, b2, b3⟩ := Reads.field (off := 1) Tryz.underlying43 h hl 1 rfl rfl c3 (by omega) rd_i64
  obtain ⟨p, _, pv, p2, p3⟩ := Reads.field (off := 2) Tryz.underlying43 h hl 2 rfl rfl c41 (by omega) rd_hashes
  obtain ⟨o, _, ov, o2, o3⟩ := Reads.field (off := 3) Tryz.underlying43 h hl 3 rfl rfl c40 (by omega) rd_ops
  have e := cutC (cs := cs) (off := 0) (sz := 1) (cutC (off := 1) (sz := 1) (cutC (off := 2) (sz := 1) (cutC (off := 3) (sz := 1) (List.drop_of_length_le (by omega)))))
  rw [List.drop_zero] at e a2
  rw [a2, b2, p2, o2] at e
  refine ⟨⟨a, b, p, o⟩, ?_, pv, ov, e, p3, o3, a3, b3⟩
  obtain ⟨pa, pc, rfl, _⟩ := p3.shape
  obtain ⟨oa, oc, rfl, _⟩ := o3.shape
  rw [e]
  rfl
theorem rd_ent : Reads enc Tryz.prog W 45 eEnt := by
  intro fuel cs d ps h hl hlen
  rw [c45] at hlen
  obtain ⟨a, _, a2, a3⟩ := Reads.field (off := 0) Tryz.underlying45 h hl 0 rfl rfl c39 (by omega) rd_hash
  obtain ⟨x, _, pv, ov, x2, x3⟩ := Reads.field (off := 32) Tryz.underlying45 h hl 1 rfl rfl c43 (by omega) rd_node
  have e := cutC (cs := cs) (off := 0) (sz := 32) (cutC (off := 32) (sz := 4) (List.drop_of_length_le (by omega)))
  rw [List.drop_zero] at e a2
  rw [a2, x2] at e
  refine ⟨⟨a, x⟩, ?_, pv, ov, e, a3, x3⟩
  obtain ⟨pa, pc, rfl, _⟩ := x3.1.shape
  obtain ⟨oa, oc, rfl, _⟩ := x3.2.1.shape
  rw [e]
  rfl
theorem rd_ents : Reads enc Tryz.prog W 22 (fun σ (l : List EntD) vs => ∃ sv, vs = [sv] ∧ Ents σ sv l) := by
  have h := Reads.slice (enc := enc) (W := W) (byt := 96) Tryz.underlying22 (by rw [c45]; decide) (by rw [y45]; decide) rd_ent
  rw [c45] at h
  exact h
theorem rd_strs : Reads enc Tryz.prog W 23 (fun σ (l : List ByteArray) vs => ∃ sv, vs = [sv] ∧ Strs σ sv l) := by
  have h := Reads.slice (enc := enc) (W := W) (byt := 16) Tryz.underlying23 (by rw [c9]; decide) (by rw [y9]; decide) rd_str
  rw [c9] at h
  exact h
theorem ents_of {v : Value} {d : DataW H} {p : List MemPlace} (h : DataW.Trod enc Tryz.prog W 0 (fun _ => true) true 22 v d p) (hl : Lite Tryz.prog 22 d) (hv : v.cells = #[v]) : ∃ l, Ents (full W) v l := by
  obtain ⟨fuel, hf⟩ := h
  obtain ⟨l, _, sv, h1, h2⟩ := rd_ents fuel _ d p hf hl (by rw [hv]; kernel_rfl)
  rw [hv] at h1
  cases h1
  exact ⟨l, h2⟩
theorem strs_of {v : Value} {d : DataW H} {p : List MemPlace} (h : DataW.Trod enc Tryz.prog W 0 (fun _ => true) true 23 v d p) (hl : Lite Tryz.prog 23 d) (hv : v.cells = #[v]) : ∃ l, Strs (full W) v l := by
  obtain ⟨fuel, hf⟩ := h
  obtain ⟨l, _, sv, h1, h2⟩ := rd_strs fuel _ d p hf hl (by rw [hv]; kernel_rfl)
  rw [hv] at h1
  cases h1
  exact ⟨l, h2⟩
theorem lite2 {t0 t1 : TypeId} {d0 d1 : DataW H} {gt : List TypeId} {gs : List (DataW H)} (h : (DataW.weightsEach Tryz.prog (t0 :: t1 :: gt) (d0 :: d1 :: gs)).all (· ≤ reachBytes) = true) : Lite Tryz.prog t0 d0 ∧ Lite Tryz.prog t1 d1 := by
  rw [List.all_eq_true] at h
  simp only [DataW.weightsEach, List.mem_append] at h
  exact ⟨fun x hx => by simpa using h x (.inl hx), fun x hx => by simpa using h x (.inr (.inl hx))⟩
end
end Go.Proofs.YtgoooilgmabkmaaGreat
