/-
  Contracts of the functions of the program: what each call hands back, from what is known and owned.
-/
import Derived.Test.YtgoooilgmabkmaaCc
import Derived.Test.YtgoooilgmabkmaaRows
import Derived.WalkKit
import Derived.ProofKit
import Derived.OpenShut
import Derived.ShutString
import Derived.ChangeOld
import Derived.Below
import Derived.Shelf.SortM.Plain
import Derived.Shelf.SortM.SortNone
set_option linter.unusedVariables false
set_option linter.unusedSimpArgs false
set_option linter.unusedSectionVars false
namespace Go.Proofs.Ytgoooilgmabkmaa
open Go Go.Sl
set_option linter.unusedVariables false
set_option linter.unusedSimpArgs false
set_option maxRecDepth 100000

theorem own0 : ownKnob Try.prog.godebug = none := by kernel_rfl
theorem laidOut0 : laidOutB Try.prog = true := by kernel_rfl
theorem c39 : Try.prog.cellsOf 31 = 32 := by kernel_rfl
theorem c51 : Try.prog.cellsOf 53 = 37 := by kernel_rfl
theorem c45 : Try.prog.cellsOf 37 = 36 := by kernel_rfl
theorem c43 : Try.prog.cellsOf 35 = 4 := by kernel_rfl
theorem c49 : Try.prog.cellsOf 51 = 33 := by kernel_rfl
theorem c9 : Try.prog.cellsOf 9 = 1 := by kernel_rfl
theorem c3 : Try.prog.cellsOf 3 = 1 := by kernel_rfl
theorem c2 : Try.prog.cellsOf 2 = 1 := by kernel_rfl
theorem c41 : Try.prog.cellsOf 32 = 1 := by kernel_rfl
theorem c40 : Try.prog.cellsOf 33 = 1 := by kernel_rfl
theorem y39 : Try.prog.bytesOf 31 = 32 := by kernel_rfl
theorem y51 : Try.prog.bytesOf 53 = 88 := by kernel_rfl
theorem y45 : Try.prog.bytesOf 37 = 96 := by kernel_rfl
theorem y9 : Try.prog.bytesOf 9 = 16 := by kernel_rfl
theorem cutC {cs rest : List Value} {off sz : Nat} (h : cs.drop (off + sz) = rest) : cs.drop off = (cs.drop off).take sz ++ rest := by
  rw [← h, ← List.drop_drop]
  exact (List.take_append_drop sz (cs.drop off)).symm
section
variable {H : Type} {enc : TypeId × Value → H} {W : World}
theorem rd_hash : Reads enc Try.prog W 31 eHash := Reads.hash Try.underlying31 Try.underlying5 (by kernel_rfl) c39
theorem rd_str : Reads enc Try.prog W 9 eStr := Reads.string Try.underlying9
theorem rd_i64 : Reads enc Try.prog W 3 eInt := Reads.i64 Try.underlying3
theorem rd_i64b : Reads enc Try.prog W 2 eInt := Reads.i64 Try.underlying2
def eIdent : Enc (Nat × Int) := fun _ x vs => vs = identCells x.1 x.2 ∧ IsH x.1 ∧ I64 x.2
theorem rd_ident : Reads enc Try.prog W 51 eIdent := by
  intro fuel cs d ps h hl hlen
  rw [c49] at hlen
  obtain ⟨a, _, a2, a3⟩ := Reads.field (off := 0) Try.underlying51 h hl 0 rfl rfl c39 (by omega) rd_hash
  obtain ⟨b, _, b2, b3⟩ := Reads.field (off := 32) Try.underlying51 h hl 1 rfl rfl c3 (by omega) rd_i64
  have e := cutC (cs := cs) (off := 0) (sz := 32) (cutC (off := 0 + 32) (sz := 1) (List.drop_of_length_le (by omega)))
  rw [List.drop_zero] at e a2
  rw [a2, show 0 + 32 = 32 from rfl, b2] at e
  refine ⟨(a, b), ?_, e, a3, b3⟩
  rw [e]
  rfl
theorem rd_op : Reads enc Try.prog W 53 eOp := by
  intro fuel cs d ps h hl hlen
  rw [c51] at hlen
  obtain ⟨a, _, a2, a3⟩ := Reads.field (off := 0) Try.underlying53 h hl 0 rfl rfl c3 (by omega) rd_i64
  obtain ⟨b, _, b2, b3⟩ := Reads.field (off := 1) Try.underlying53 h hl 1 rfl rfl c9 (by omega) rd_str
  obtain ⟨c, _, c2', c3'⟩ := Reads.field (off := 2) Try.underlying53 h hl 2 rfl rfl c9 (by omega) rd_str
  obtain ⟨n, _, n2, n3⟩ := Reads.field (off := 3) Try.underlying53 h hl 3 rfl rfl c2 (by omega) rd_i64b
  obtain ⟨t, _, t2, t3, t4⟩ := Reads.field (off := 4) Try.underlying53 h hl 4 rfl rfl c49 (by omega) rd_ident
  have e := cutC (cs := cs) (off := 0) (sz := 1) (cutC (off := 1) (sz := 1) (cutC (off := 2) (sz := 1) (cutC (off := 3) (sz := 1) (cutC (off := 4) (sz := 33) (List.drop_of_length_le (by omega))))))
  rw [List.drop_zero] at e a2
  rw [a2, b2, c2', n2, t2] at e
  refine ⟨⟨a, b, c, n, t.1, t.2⟩, ?_, e, a3, b3, c3', n3, t3, t4⟩
  rw [e]
  rfl
theorem rd_hashes : Reads enc Try.prog W 32 (fun σ (l : List Nat) vs => ∃ sv, vs = [sv] ∧ SlE σ eHash 32 32 sv l) := by
  have h := Reads.slice (enc := enc) (W := W) (byt := 32) Try.underlying32 (by rw [c39]; decide) (by rw [y39]; decide) rd_hash
  rw [c39] at h
  exact h
theorem rd_ops : Reads enc Try.prog W 33 (fun σ (l : List OpD) vs => ∃ sv, vs = [sv] ∧ SlE σ eOp 37 88 sv l) := by
  have h := Reads.slice (enc := enc) (W := W) (byt := 88) Try.underlying33 (by rw [c51]; decide) (by rw [y51]; decide) rd_op
  rw [c51] at h
  exact h
def eNode : Enc NodeD := fun σ x vs => ∃ pv ov, vs = nodeCells x.au x.cl pv ov ∧ NodeR σ x pv ov
theorem rd_node : Reads enc Try.prog W 35 eNode := by
  intro fuel cs d ps h hl hlen
  rw [c43] at hlen
  obtain ⟨a, _, a2, a3⟩ := Reads.field (off := 0) Try.underlying35 h hl 0 rfl rfl c3 (by omega) rd_i64
  obtain ⟨b, _, b2, b3⟩ := Reads.field (off := 1) Try.underlying35 h hl 1 rfl rfl c3 (by omega) rd_i64
  obtain ⟨p, _, pv, p2, p3⟩ := Reads.field (off := 2) Try.underlying35 h hl 2 rfl rfl c41 (by omega) rd_hashes
  obtain ⟨o, _, ov, o2, o3⟩ := Reads.field (off := 3) Try.underlying35 h hl 3 rfl rfl c40 (by omega) rd_ops
  have e := cutC (cs := cs) (off := 0) (sz := 1) (cutC (off := 1) (sz := 1) (cutC (off := 2) (sz := 1) (cutC (off := 3) (sz := 1) (List.drop_of_length_le (by omega)))))
  rw [List.drop_zero] at e a2
  rw [a2, b2, p2, o2] at e
  refine ⟨⟨a, b, p, o⟩, ?_, pv, ov, e, p3, o3, a3, b3⟩
  obtain ⟨pa, pc, rfl, _⟩ := p3.shape
  obtain ⟨oa, oc, rfl, _⟩ := o3.shape
  rw [e]
  rfl
theorem rd_ent : Reads enc Try.prog W 37 eEnt := by
  intro fuel cs d ps h hl hlen
  rw [c45] at hlen
  obtain ⟨a, _, a2, a3⟩ := Reads.field (off := 0) Try.underlying37 h hl 0 rfl rfl c39 (by omega) rd_hash
  obtain ⟨x, _, pv, ov, x2, x3⟩ := Reads.field (off := 32) Try.underlying37 h hl 1 rfl rfl c43 (by omega) rd_node
  have e := cutC (cs := cs) (off := 0) (sz := 32) (cutC (off := 32) (sz := 4) (List.drop_of_length_le (by omega)))
  rw [List.drop_zero] at e a2
  rw [a2, x2] at e
  refine ⟨⟨a, x⟩, ?_, pv, ov, e, a3, x3⟩
  obtain ⟨pa, pc, rfl, _⟩ := x3.1.shape
  obtain ⟨oa, oc, rfl, _⟩ := x3.2.1.shape
  rw [e]
  rfl
theorem rd_ents : Reads enc Try.prog W 23 (fun σ (l : List EntD) vs => ∃ sv, vs = [sv] ∧ Ents σ sv l) := by
  have h := Reads.slice (enc := enc) (W := W) (byt := 96) Try.underlying23 (by rw [c45]; decide) (by rw [y45]; decide) rd_ent
  rw [c45] at h
  exact h
theorem rd_strs : Reads enc Try.prog W 54 (fun σ (l : List ByteArray) vs => ∃ sv, vs = [sv] ∧ Strs σ sv l) := by
  have h := Reads.slice (enc := enc) (W := W) (byt := 16) Try.underlying54 (by rw [c9]; decide) (by rw [y9]; decide) rd_str
  rw [c9] at h
  exact h
theorem ents_of {v : Value} {d : DataW H} {p : List MemPlace} (h : DataW.Trod enc Try.prog W 0 (fun _ => true) true 23 v d p) (hl : Lite Try.prog 23 d) (hv : v.cells = #[v]) : ∃ l, Ents (full W) v l := by
  obtain ⟨fuel, hf⟩ := h
  obtain ⟨l, _, sv, h1, h2⟩ := rd_ents fuel _ d p hf hl (by rw [hv]; kernel_rfl)
  rw [hv] at h1
  cases h1
  exact ⟨l, h2⟩
theorem strs_of {v : Value} {d : DataW H} {p : List MemPlace} (h : DataW.Trod enc Try.prog W 0 (fun _ => true) true 54 v d p) (hl : Lite Try.prog 54 d) (hv : v.cells = #[v]) : ∃ l, Strs (full W) v l := by
  obtain ⟨fuel, hf⟩ := h
  obtain ⟨l, _, sv, h1, h2⟩ := rd_strs fuel _ d p hf hl (by rw [hv]; kernel_rfl)
  rw [hv] at h1
  cases h1
  exact ⟨l, h2⟩
theorem lite2 {t0 t1 : TypeId} {d0 d1 : DataW H} {gt : List TypeId} {gs : List (DataW H)} (h : (DataW.weightsEach Try.prog (t0 :: t1 :: gt) (d0 :: d1 :: gs)).all (· ≤ reachBytes) = true) : Lite Try.prog t0 d0 ∧ Lite Try.prog t1 d1 := by
  rw [List.all_eq_true] at h
  simp only [DataW.weightsEach, List.mem_append] at h
  exact ⟨fun x hx => by simpa using h x (.inl hx), fun x hx => by simpa using h x (.inr (.inl hx))⟩
end
end Go.Proofs.Ytgoooilgmabkmaa
namespace Go.Proofs.Ytgoooilgmabkmaa
open Go Go.Sl
set_option linter.unusedVariables false
set_option linter.unusedSimpArgs false
set_option maxRecDepth 100000

/-- what a history hands out, one by one -/
def entG (L : List EntD) (i : Nat) (args : List Value) (σ : View) : Prop :=
  ∃ e pv ov, L[i]? = some e ∧ args = [.int .i64 (i : Int), .agg (entCells e.id e.node.au e.node.cl pv ov).toArray] ∧ IsH e.id ∧ NodeR σ e.node pv ov

theorem past_All1 (σ0 : View) (bx : Nat) (pv : Value) (L : List EntD) (h : PastV σ0 pv L) (hb : RdV σ0 bx 0 [pv]) (hmost : L.length ≤ 4096) :
    IterAll Try.prog 41 [.pointer (some ⟨bx, 0, none⟩)] L.length (entG L) σ0 := by
  intro ly J Jx σ H hle hround h0
  obtain ⟨b, mb, lv, sv, rfl, hr, hl, hm, hs⟩ := h
  obtain ⟨la, lc, rfl, hlc, hlb⟩ := hl.shape
  obtain ⟨lb, loff, hel⟩ := addr_of hl
  have hb1 := hb.mono hle
  have hr1 := hr.mono hle
  refine Tri.of_body [(0, .func (.yield ly) #[] #[]), (1, .pointer (some ⟨bx, 0, none⟩))] Try.func41 rfl Try.ntmps41 (by simp) rfl (fun Hr => ?_)
  skip
  refine WC.seq ?_
  refine WC.region ?_
  refine' WL.pur (Pur.load1 rfl ty_25 ?h1_0) ?k1
  case h1_0 => first | (apply Rd.own1; exact zmE; rfl) | exact RdV.rd (by assumption)
  refine WL.pur (Pur.nilCheck rfl) ?_
  refine WL.pur (Pur.fieldAddr rfl fo_84_0) ?_
  refine' WL.pur (Pur.load1 rfl ty_23 ?h2_0) ?k2
  case h2_0 => first | (apply Rd.own1; exact zmE; rfl) | (apply RdV.rd; apply RdV.idx (i := 0); assumption; rfl)
  refine WL.pur (Pur.len rfl isSlice_23) ?_
  refine WL.pur (Pur.move rfl) ?_
  refine WL.nil ?_
  refine WQ.thn ?_
  refine WC.block ?_
  refine WC.loop (fun j m σ' H' => ∃ (i : Nat) (Hi : HList), j = L.length - i ∧ i ≤ L.length ∧ J i σ' Hi ∧ σ.le σ' ∧ m = [(0, .func (.yield ly) #[] #[]), (1, .pointer (some ⟨bx, 0, none⟩)), (7, .slice la L.length lc), (8, .int .i64 (L.length : Int)), (9, .int .i64 (i : Int))] ∧ H' = Hi ++ Hr) ⟨0, H, rfl, by omega, h0, View.le_refl _, rfl, rfl⟩ zcV zsL ?_
  rintro _ _ σ Hr ⟨i, Hi, rfl, hi, hJ, hle1, rfl, rfl⟩
  refine WC.seq ?_
  refine WC.region ?_
  refine' WL.pur (Pur.bin rfl rfl ?h3_0) ?k3
  case h3_0 => first | exact Bin.ltN | exact Bin.ltI | exact Bin.ltS
  refine WL.nil ?_
  refine WQ.thn ?_
  refine WC.seq ?_
  first | refine WC.cond rfl (fun hc0 => ?_) (fun hc0 => ?_) | refine WC.condB rfl (fun hc0 => ?_) (fun hc0 => ?_)
  · have hb2 := hb.mono (View.le_trans hle hle1)
    have hr2 := hr.mono (View.le_trans hle hle1)
    have hl2 := hl.mono eEnt_mono (View.le_trans hle hle1)
    obtain ⟨e, he⟩ : ∃ e, L[i]? = some e := ⟨_, List.getElem?_eq_getElem hc0⟩
    obtain ⟨qv, ov, hrd, heH, hNR⟩ := ent_rd hl2 hel he
    refine WC.skip ?_
    refine WQ.thn ?_
    refine WC.seq ?_
    refine WC.block ?_
    refine WC.seq ?_
    refine WC.region ?_
    refine WL.pur (Pur.move rfl) ?_
    refine WL.pur (Pur.assign rfl) ?_
    refine WL.nil ?_
    refine WQ.thn ?_
    refine WC.seq ?_
    refine WC.region ?_
    refine WL.pur (Pur.move rfl) ?_
    refine WL.pur (Pur.move rfl) ?_
    refine' WL.pur (Pur.load1 rfl ty_25 ?h4_0) ?k4
    case h4_0 => first | (apply Rd.own1; exact zmE; rfl) | exact RdV.rd (by assumption)
    refine WL.pur (Pur.nilCheck rfl) ?_
    refine WL.pur (Pur.fieldAddr rfl fo_84_0) ?_
    refine' WL.pur (Pur.load1 rfl ty_23 ?h5_0) ?k5
    case h5_0 => first | (apply Rd.own1; exact zmE; rfl) | (apply RdV.rd; apply RdV.idx (i := 0); assumption; rfl)
    refine WL.pur (Pur.move rfl) ?_
    refine' WL.pur (Pur.indexAddr (eqA (hel (by omega))) rfl sl_23 ?h6_0) ?k6
    case h6_0 => omega
    refine' WL.pur (Pur.loadN rfl ty_37 ?h7_0 ?h7_1) ?k7
    case h7_0 => first | (apply Rd.own_sub; exact zmE; exact Sub.refl _) | (apply RdV.rd; assumption)
    case h7_1 => first | rfl | assumption
    refine WL.call (H0 := []) (Hr := Hi ++ Hr) rfl Try.call38 (List.Perm.refl _) (past_own _ e.id e.node qv ov hNR) ?_
    rintro v21 σ2 _ ⟨⟨pv', ov', rfl, hN2⟩, rfl⟩ hle2
    rw [List.nil_append]
    refine WL.callY (H0 := Hi) (Hr := Hr) rfl rfl (List.Perm.refl _) (hround i _ _ Hi σ2 hc0 hJ hle1 hle2 ⟨e, pv', ov', he, rfl, heH, hN2⟩) ?_
    intro v22 σ3 H3 hR3 hle3
    obtain ⟨bv, rfl, hJ3⟩ : ∃ bv : Bool, v22 = .bool bv ∧ (bv = true → J (i + 1) σ3 H3) ∧ (bv = false → Jx (i + 1) σ3 H3) := by
      rcases hR3 with ⟨h1, h2⟩ | ⟨h1, h2⟩
      · exact ⟨true, h1, fun _ => h2, fun h => by cases h⟩
      · exact ⟨false, h1, fun h => (by cases h), fun _ => h2⟩
    first | refine WL.pur (Pur.not rfl) ?_ | refine WL.pur (Pur.notB rfl) ?_
    refine WL.nil ?_
    refine WQ.thn ?_
    first | refine WC.cond rfl (fun hc1 => ?_) (fun hc1 => ?_) | refine WC.condB rfl (fun hc1 => ?_) (fun hc1 => ?_)
    · refine WC.ret ?_
      refine WQ.blk_ret ?_
      refine WQ.thn_ret ?_
      refine WQ.back_ret ?_
      refine WQ.blk_ret ?_
      refine WQ.ret0 Try.results41 H3 (.inl rfl) zsL (View.le_trans hle1 (View.le_trans hle2 hle3)) ?_
      exact .inr ⟨i + 1, by omega, hJ3.2 (by cases bv <;> simp_all)⟩
    · refine WC.skip ?_
      refine WQ.blk ?_
      refine WQ.thn ?_
      refine WC.region ?_
      refine' WL.pur (Pur.bin rfl rfl ?h8_0) ?k8
      case h8_0 => first | (refine Bin.addN (b := 1) ?_; omega) | (refine Bin.addI ?_; omega)
      refine WL.pur (Pur.move rfl) ?_
      refine WL.nil ?_
      refine WQ.back _ ⟨i + 1, H3, rfl, by omega, hJ3.1 (by cases bv <;> simp_all), View.le_trans hle1 (View.le_trans hle2 hle3), rfl, rfl⟩ (by omega) zcV zsL
  · refine WC.exit ?_
    refine WQ.thn_exit ?_
    refine WQ.back_exit ?_
    refine WQ.blk_here ?_
    refine WQ.ret0 Try.results41 Hi (.inr rfl) zsL hle1 ?_
    have : i = L.length := by omega
    subst this
    exact .inl hJ

end Go.Proofs.Ytgoooilgmabkmaa
namespace Go.Proofs.Ytgoooilgmabkmaa
open Go Go.Sl
set_option linter.unusedVariables false
set_option linter.unusedSimpArgs false
set_option maxRecDepth 100000

theorem past_All (σ : View) (pv : Value) (h1 : pv.oneCell' = true) :
    Tri Try.prog 18 #[pv] σ [] (fun v σ' H' => (∃ bx, v = .func (.func 41) #[] #[.pointer (some ⟨bx, 0, none⟩)] ∧ RdV σ' bx 0 [pv]) ∧ H' = []) := by
  refine Tri.of_body [(0, pv)] Try.func18 rfl Try.ntmps18 (by simp) rfl (fun Hr => ?_)
  rw [List.nil_append]
  refine WC.seq ?_
  refine WC.region ?_
  refine WL.new (New.box1 rfl (by first | rfl | assumption)) (fun b1 => ?_)
  refine WL.pur (Pur.assign rfl) ?_
  refine WL.nil ?_
  refine WQ.thn ?_
  refine WC.seq ?_
  refine WC.region ?_
  refine WL.pur (Pur.makeFunc rfl rfl) ?_
  refine WL.pur (Pur.assign rfl) ?_
  refine WL.nil ?_
  refine WQ.thn ?_
  refine WC.ret ?_
  refine WQ.give (H1 := []) (fun hb => ?_)
  refine WQ.ret1 Try.results18 rfl [] (by repeat (first | exact List.Sublist.refl _ | exact List.nil_sublist _ | apply List.Sublist.cons_cons | apply List.Sublist.cons)) (View.le_add _ hb) ?_
  exact ⟨⟨b1, rfl, RdV.row (View.add_same _ _ _)⟩, rfl⟩

end Go.Proofs.Ytgoooilgmabkmaa
namespace Go.Proofs.Ytgoooilgmabkmaa
open Go Go.Sl
set_option linter.unusedVariables false
set_option linter.unusedSimpArgs false
set_option maxRecDepth 100000

theorem reg_each (σ : View) (pv : Value) (L : List EntD) (h : PastV σ pv L) (hoL : OrdOk L) (fd : FuncId) (cs : List Value) (hen : ∀ args w, (callFunc fd args).run Try.prog w = .ok (.enter fd args) w) (K : List (Nat × OpD) → View → HList → Prop) (H : HList) (hK0 : K [] σ H)
    (hstep : ∀ dn i o σ1 H1, K dn σ1 H1 → σ.le σ1 → i < L.length → dn.length ≤ 4194304 → o.ok → isReg o = true → Tri Try.prog fd ([Value.int .i64 (i : Int), Value.agg o.cells.toArray] ++ cs).toArray σ1 H1 (fun v σ' H' => K (dn ++ [(i, o)]) σ' H'))
    (hmono : ∀ dn σ1 σ2 H1, K dn σ1 H1 → σ1.le σ2 → K dn σ2 H1) :
    Tri Try.prog 42 #[pv, .func (.func fd) #[] cs.toArray] σ H (fun v σ' H' => K (opsN L isReg L.length) σ' H') := by
  have h' := h
  have hmost := hoL.most
  obtain ⟨b, mb, lv, sv, rfl, hr, hl, hm, hs⟩ := h
  refine Tri.of_bodyM [(0, .pointer (some ⟨b, 0, none⟩)), (1, .func (.func fd) #[] cs.toArray)] Try.func42 rfl Try.ntmps42 (by simp) rfl (fun Hr => ?_)
  skip
  refine WC.seq ?_
  refine WC.region ?_
  refine WL.new (New.box1 rfl (by first | rfl | assumption)) (fun b3 => ?_)
  refine WL.nil ?_
  refine WQ.thn ?_
  refine WC.seq ?_
  refine WC.region ?_
  refine WL.pur (Pur.move rfl) ?_
  refine WL.call (H0 := []) (Hr := _) rfl Try.call18 (List.Perm.refl _) (past_All _ _ rfl) ?_
  rintro v9 σa _ ⟨⟨bx, rfl, hbx⟩, rfl⟩ hlea
  rw [List.nil_append]
  refine WL.nil ?_
  refine WQ.thn ?_
  refine WC.block ?_
  refine WC.rangeFunc (H0 := (b3, rowO 93 [.func (.func fd) #[] cs.toArray]) :: H) (Hr := Hr) rfl Try.call41 (past_All1 σa bx _ L (h'.mono hlea) hbx hmost) (View.le_refl _) (List.Perm.refl _) (fun i σ' H' => ∃ Hk, K (opsN L isReg i) σ' Hk ∧ H' = (b3, rowO 93 [.func (.func fd) #[] cs.toArray]) :: Hk ∧ σ.le σ') (fun _ _ _ => False) (fun i args σ2 hG => by obtain ⟨e, pv, ov, _, rfl, _⟩ := hG; rfl) (by decide) (⟨H, hmono _ _ _ _ hK0 hlea, rfl, hlea⟩) ?_ ?_ ?_
  · intro lq rec0 rec1 i args σ1 σ2 H1 Hq QA QB hi hJ hle1 hle2 hG hA hB hX
    obtain ⟨Hk, hK, rfl, hleK⟩ := hJ
    obtain ⟨e, qv, ov, he, rfl, heH, hNR⟩ := hG
    obtain ⟨qa, qc, rfl, hqc, hqb⟩ := hNR.1.shape
    have hops := hNR.2.1
    rw [List.cons_append]
    obtain ⟨oa, oc, rfl, hoc, hob⟩ := hops.shape
    obtain ⟨ob, ooff, heo⟩ := addr_of hops
    have hop := opsAt_of he
    have hK2 := hmono _ _ _ _ hK hle2
    have hilt := (List.getElem?_eq_some_iff.1 he).1
    refine WC.seq ?_
    refine WC.region ?_
    refine WL.pur (Pur.assign rfl) ?_
    refine WL.nil ?_
    refine WQ.thn ?_
    refine WC.region ?_
    refine WL.new (New.alloc zc_37) (fun b5 => ?_)
    refine' WL.run0 (Run.storeAll rfl rfl ty_37 ?h1_0 (by first | rfl | assumption) ?h1_1 (by first | rfl | assumption)) ?k1
    case h1_0 => repeat (first | exact Part.one | exact Part.here | apply Part.cons | apply Part.app)
    case h1_1 => first | rfl | assumption
    refine WL.nil ?_
    refine hA _ _ _ _ (by repeat (first | exact Part.one | exact Part.here | apply Part.cons | apply Part.app)) ?_
    refine WC.block ?_
    refine WC.seq ?_
    refine WC.region ?_
    refine WL.pur (Pur.fieldAddr rfl fo_37_1) ?_
    refine WL.pur (Pur.fieldAddr rfl fo_35_3) ?_
    refine' WL.pur (Pur.load1 rfl ty_33 ?h2_0) ?k2
    case h2_0 => first | (apply Rd.own1; exact zmE; rfl) | (apply RdV.rd; apply RdV.idx (i := 35); assumption; rfl) | (apply RdV.rd; apply RdV.idx (off := 0) (i := 35); assumption; rfl)
    refine WL.pur (Pur.len rfl isSlice_33) ?_
    refine WL.pur (Pur.move rfl) ?_
    refine WL.nil ?_
    refine WQ.thn ?_
    refine WC.block ?_
    refine WC.loop (fun j m σ' H' => ∃ (q : Nat) (Hk : HList), j = e.node.ops.length - q ∧ q ≤ e.node.ops.length ∧ K (opsN L isReg i ++ pickOps i isReg (e.node.ops.take q)) σ' Hk ∧ σ2.le σ' ∧ m = [(3, .pointer (some ⟨b3, 0, none⟩)), (4, .int .i64 (i : Int)), (5, .pointer (some ⟨b5, 0, none⟩)), (14, .slice oa e.node.ops.length oc), (15, .int .i64 (e.node.ops.length : Int)), (16, .int .i64 (q : Int))] ∧ H' = (b5, rowO 37 (entCells e.id e.node.au e.node.cl (.slice qa e.node.ps.length qc) (.slice oa e.node.ops.length oc))) :: (b3, rowO 93 [.func (.func fd) #[] cs.toArray]) :: (Hk ++ (lq, rec1) :: Hq)) ⟨0, Hk, rfl, by omega, by simpa [pickOps] using hK2, View.le_refl _, rfl, rfl⟩ zcV zsL ?_
    rintro _ _ σ Hr ⟨q, Hk, rfl, hq, hK3, hle3, rfl, rfl⟩
    refine WC.seq ?_
    refine WC.region ?_
    refine' WL.pur (Pur.bin rfl rfl ?h3_0) ?k3
    case h3_0 => first | exact Bin.ltN | exact Bin.ltI | exact Bin.ltS
    refine WL.nil ?_
    refine WQ.thn ?_
    refine WC.seq ?_
    first | refine WC.cond rfl (fun hc0 => ?_) (fun hc0 => ?_) | refine WC.condB rfl (fun hc0 => ?_) (fun hc0 => ?_)
    · obtain ⟨o, ho⟩ : ∃ o, e.node.ops[q]? = some o := ⟨_, List.getElem?_eq_getElem hc0⟩
      have hops3 := hops.mono eOp_mono hle3
      obtain ⟨ob2, oof2, oc2, e2, _, _, hoat⟩ := hops3.at (by omega)
      cases e2
      obtain ⟨vs, _, _, ⟨rfl, hook⟩, hord⟩ := hoat q o ho
      refine WC.skip ?_
      refine WQ.thn ?_
      refine WC.seq ?_
      refine WC.block ?_
      refine WC.seq ?_
      refine WC.region ?_
      refine' WL.pur (Pur.indexAddr rfl rfl sl_33 ?h4_0) ?k4
      case h4_0 => omega
      refine' WL.pur (Pur.loadN rfl ty_53 ?h5_0 ?h5_1) ?k5
      case h5_0 => first | (apply Rd.own_sub; exact zmE; exact Sub.refl _) | (apply RdV.rd; assumption)
      case h5_1 => first | rfl | assumption
      refine WL.new (New.alloc zc_53) (fun b7 => ?_)
      refine' WL.run0 (Run.storeAll rfl rfl ty_53 ?h6_0 (by first | rfl | assumption) ?h6_1 (by first | rfl | assumption)) ?k6
      case h6_0 => repeat (first | exact Part.one | exact Part.here | apply Part.cons | apply Part.app)
      case h6_1 => first | rfl | assumption
      refine WL.nil ?_
      refine WQ.thn ?_
      refine WC.seq ?_
      refine WC.region ?_
      refine WL.pur (Pur.fieldAddr rfl fo_53_0) ?_
      refine' WL.pur (Pur.load1 rfl ty_3 ?h7_0) ?k7
      case h7_0 => first | (apply Rd.own1; exact zmE; rfl) | (apply RdV.rd; apply RdV.idx (i := 0); assumption; rfl)
      refine' WL.pur (Pur.bin rfl rfl ?h8_0) ?k8
      case h8_0 => first | exact Bin.eqN (b := 1) | exact Bin.eqI
      refine WL.pur (Pur.move rfl) ?_
      refine' WL.orp (u := 23) (t := 27) rfl ?h9_0 ?h9_1 ?h9_2 rfl ?k9
      case h9_0 =>
        intro hg23 K23
        refine WL.gpur (u := 23) rfl rfl (gF hg23) (Pur.fieldAddr rfl fo_53_0) ?_
        refine' WL.gpur (u := 23) rfl rfl (gF hg23) (Pur.load1 rfl ty_3 ?h10_0) ?k10
        case h10_0 => first | (apply Rd.own1; exact zmE; rfl) | (apply RdV.rd; apply RdV.idx (i := 0); assumption; rfl)
        refine' WL.gpur (u := 23) rfl rfl (gF hg23) (Pur.bin rfl rfl ?h11_0) ?k11
        case h11_0 => first | exact Bin.eqN (b := 2) | exact Bin.eqI
        exact K23 _ zcR rfl
      case h9_1 =>
        intro hg23 K23
        refine WL.gskip (u := 23) rfl rfl (sF hg23) ?_
        refine WL.gskip (u := 23) rfl rfl (sF hg23) ?_
        refine WL.gskip (u := 23) rfl rfl (sF hg23) ?_
        exact K23 _ zcR
      case h9_2 => exact Wanted.plain rfl
      refine WL.nil ?_
      refine WQ.thn ?_
      first | refine WC.cond rfl (fun hc1 => ?_) (fun hc1 => ?_) | refine WC.condB rfl (fun hc1 => ?_) (fun hc1 => ?_)
      · have hreg : isReg o = true := by simpa [isReg] using hc1
        refine WC.region ?_
        refine' WL.pur (Pur.load1 rfl ty_93 ?h12_0) ?k12
        case h12_0 => first | (apply Rd.own1; exact zmE; rfl) | (apply RdV.rd; apply RdV.idx (i := 0); assumption; rfl)
        refine WL.pur (Pur.move rfl) ?_
        refine' WL.pur (Pur.loadN rfl ty_53 ?h13_0 ?h13_1) ?k13
        case h13_0 => first | (apply Rd.own_sub; exact zmE; exact Sub.refl _) | (apply RdV.rd; assumption)
        case h13_1 => first | rfl | assumption
        refine WL.callV (fs := []) (H0 := Hk) (Hr := (b7, rowO 53 o.cells) :: (b5, rowO 37 (entCells e.id e.node.au e.node.cl (.slice qa e.node.ps.length qc) (.slice (some ⟨ob2, oof2, none⟩) e.node.ops.length oc))) :: (b3, rowO 93 [.func (.func fd) #[] cs.toArray]) :: (lq, rec1) :: Hq) rfl rfl hen (by have := List.perm_append_comm_assoc Hk [(b7, rowO 53 o.cells), (b5, rowO 37 (entCells e.id e.node.au e.node.cl (.slice qa e.node.ps.length qc) (.slice (some ⟨ob2, oof2, none⟩) e.node.ops.length oc))), (b3, rowO 93 [.func (.func fd) #[] cs.toArray])] ((lq, rec1) :: Hq); simpa using this) (hstep _ i o _ Hk hK3 (View.le_trans hleK (View.le_trans hle2 hle3)) hilt (by have h1 := opsN_len hoL isReg i; have h2 : (pickOps i isReg (e.node.ops.take q)).length ≤ 1024 := (by unfold pickOps; rw [List.length_map]; have h3 := opsAt_len hoL i; rw [hop] at h3; exact Nat.le_trans (List.length_filter_le _ _) (by rw [List.length_take]; omega)); rw [List.length_append]; omega) hook hreg) ?_
        intro v31 σ4 Hk4 hK4 hle4
        refine WL.perm (H0 := (b7, rowO 53 o.cells) :: (b5, rowO 37 (entCells e.id e.node.au e.node.cl (.slice qa e.node.ps.length qc) (.slice (some ⟨ob2, oof2, none⟩) e.node.ops.length oc))) :: (b3, rowO 93 [.func (.func fd) #[] cs.toArray]) :: (Hk4 ++ (lq, rec1) :: Hq)) ?_ (by have := List.perm_append_comm_assoc [(b7, rowO 53 o.cells), (b5, rowO 37 (entCells e.id e.node.au e.node.cl (.slice qa e.node.ps.length qc) (.slice (some ⟨ob2, oof2, none⟩) e.node.ops.length oc))), (b3, rowO 93 [.func (.func fd) #[] cs.toArray])] Hk4 ((lq, rec1) :: Hq); simpa using this)
        refine WL.nil ?_
        refine WQ.blk ?_
        refine WQ.thn ?_
        refine WC.region ?_
        refine' WL.pur (Pur.bin rfl rfl ?h14_0) ?k14
        case h14_0 => first | (refine Bin.addN (b := 1) ?_; omega) | (refine Bin.addI ?_; omega)
        refine WL.pur (Pur.move rfl) ?_
        refine WL.nil ?_
        refine WQ.back _ ⟨q + 1, Hk4, rfl, by omega, by rw [pickOps_step ho, if_pos hreg, ← List.append_assoc]; exact hK4, View.le_trans hle3 hle4, rfl, rfl⟩ (by omega) zcV zsL
      · have hreg : ¬ isReg o = true := by simpa [isReg] using hc1
        refine WC.skip ?_
        refine WQ.blk ?_
        refine WQ.thn ?_
        refine WC.region ?_
        refine' WL.pur (Pur.bin rfl rfl ?h15_0) ?k15
        case h15_0 => first | (refine Bin.addN (b := 1) ?_; omega) | (refine Bin.addI ?_; omega)
        refine WL.pur (Pur.move rfl) ?_
        refine WL.nil ?_
        refine WQ.back _ ⟨q + 1, Hk, rfl, by omega, by rw [pickOps_step ho, if_neg hreg, List.append_nil]; exact hK3, hle3, rfl, rfl⟩ (by omega) zcV zsL
    · refine WC.exit ?_
      refine WQ.thn_exit ?_
      refine WQ.back_exit ?_
      refine WQ.blk_here ?_
      refine WQ.blk ?_
      exact hB _ _ _ _ (⟨Hk, by rw [opsN_succ, hop]; rw [List.take_of_length_le (show e.node.ops.length ≤ q by omega)] at hK3; exact hK3, rfl, View.le_trans hleK (View.le_trans hle2 hle3)⟩) hle3 (by simp only [List.cons_append]; repeat (first | exact List.Sublist.refl _ | apply List.Sublist.cons_cons | apply List.Sublist.cons))
  · intro D0 σ Hd hJ hled
    obtain ⟨Hk, hKd, rfl, hleKd⟩ := hJ
    refine WQ.blk ?_
    refine WQ.marks (.inr rfl) [D0] ((b3, rowO 93 [.func (.func fd) #[] cs.toArray]) :: (Hk ++ Hr)) (by have := List.perm_middle (a := (D0, Obj.deferred (some []))) (l₁ := (b3, rowO 93 [.func (.func fd) #[] cs.toArray]) :: Hk) (l₂ := Hr); simpa using this.symm) ?_
    refine WQ.ret0 Try.results42 Hk (.inr rfl) (List.Sublist.cons _ (List.Sublist.refl _)) hleKd ?_
    exact hKd
  · intro e D σ' H' _ hJ _; exact hJ.elim

end Go.Proofs.Ytgoooilgmabkmaa
namespace Go.Proofs.Ytgoooilgmabkmaa
open Go Go.Sl
set_option linter.unusedVariables false
set_option linter.unusedSimpArgs false
set_option maxRecDepth 100000

theorem past_Sees (σ : View) (pv : Value) (L : List EntD) (i j : Nat) (h : PastV σ pv L) (ho : OrdOk L) (hj : j < L.length) (hi : i ≤ 1000000) :
    TriP Try.prog 25 #[pv, .int .i64 (i : Int), .int .i64 (j : Int)] σ (.bool (decide (seesN L i j = true))) := by
  obtain ⟨b, mb, lv, sv, rfl, hr, hl, hm, hs⟩ := h
  obtain ⟨la, lc, rfl, hlc, hlb⟩ := hl.shape
  obtain ⟨sb, soff, sc, rfl, hsc, hsb, hat⟩ := hs.at (by simp; omega)
  have hlen : (List.range L.length).length = L.length := by simp
  obtain ⟨vs, _, _, ⟨wv, rfl, _, hw⟩, hwr⟩ := hat j j (by simp [hj])
  obtain ⟨wa, wc, rfl, hwc, hwb⟩ := hw.shape
  obtain ⟨wb, woff, hwe⟩ := addr_of hw
  have hwl := wordsOf_len L j
  have hask := wordN_ask ((rowsN L L.length).getD j 0) i
  rw [Nat.shiftRight_eq_div_pow] at hask
  have hdl := Nat.div_le_self (wordN ((rowsN L L.length).getD j 0) (i / 64)) (2 ^ (i % 64))
  refine Tri.of_body [(0, .pointer (some ⟨b, 0, none⟩)), (1, .int .i64 (i : Int)), (2, .int .i64 (j : Int))] Try.func25 rfl Try.ntmps25 (by simp) rfl (fun Hr => ?_)
  rw [List.nil_append]
  refine WC.seq ?_
  refine WC.region ?_
  refine WL.pur (Pur.assign rfl) ?_
  refine WL.nil ?_
  refine WQ.thn ?_
  refine WC.seq ?_
  refine WC.seq ?_
  refine WC.region ?_
  refine WL.pur (Pur.move rfl) ?_
  refine' WL.pur (Pur.bin rfl rfl ?h1_0) ?k1
  case h1_0 => first | exact Bin.ltN (b := 0) | exact Bin.ltI | exact Bin.ltS
  refine WL.pur (Pur.move rfl) ?_
  refine' WL.orp (u := 9) (t := 12) rfl ?h2_0 ?h2_1 ?h2_2 rfl ?k2
  case h2_0 =>
    intro hg9 K9
    refine WL.gpur (u := 9) rfl rfl (gF hg9) (Pur.move rfl) ?_
    refine' WL.gpur (u := 9) rfl rfl (gF hg9) (Pur.bin rfl rfl ?h3_0) ?k3
    case h3_0 => first | exact Bin.ltN (b := 0) | exact Bin.ltI | exact Bin.ltS
    exact K9 _ zcR rfl
  case h2_1 =>
    intro hg9 K9
    refine WL.gskip (u := 9) rfl rfl (sF hg9) ?_
    refine WL.gskip (u := 9) rfl rfl (sF hg9) ?_
    exact K9 _ zcR
  case h2_2 => exact Wanted.plain rfl
  refine WL.pur (Pur.move rfl) ?_
  refine' WL.orp (u := 13) (t := 21) rfl ?h4_0 ?h4_1 ?h4_2 rfl ?k4
  case h4_0 =>
    intro hg13 K13
    refine WL.gpur (u := 13) rfl rfl (gF hg13) (Pur.move rfl) ?_
    refine WL.gpur (u := 13) rfl rfl (gF hg13) (Pur.move rfl) ?_
    refine WL.gpur (u := 13) rfl rfl (gF hg13) (Pur.nilCheck rfl) ?_
    refine WL.gpur (u := 13) rfl rfl (gF hg13) (Pur.fieldAddr rfl fo_84_0) ?_
    refine' WL.gpur (u := 13) rfl rfl (gF hg13) (Pur.load1 rfl ty_23 ?h5_0) ?k5
    case h5_0 => first | (apply Rd.own1; exact zmE; rfl) | (apply RdV.rd; apply RdV.idx (i := 0); assumption; rfl)
    refine WL.gpur (u := 13) rfl rfl (gF hg13) (Pur.len rfl isSlice_23) ?_
    refine' WL.gpur (u := 13) rfl rfl (gF hg13) (Pur.bin rfl rfl ?h6_0) ?k6
    case h6_0 => first | exact Bin.geN | exact Bin.geI
    exact K13 _ zcR rfl
  case h4_1 =>
    intro hg13 K13
    refine WL.gskip (u := 13) rfl rfl (sF hg13) ?_
    refine WL.gskip (u := 13) rfl rfl (sF hg13) ?_
    refine WL.gskip (u := 13) rfl rfl (sF hg13) ?_
    refine WL.gskip (u := 13) rfl rfl (sF hg13) ?_
    refine WL.gskip (u := 13) rfl rfl (sF hg13) ?_
    refine WL.gskip (u := 13) rfl rfl (sF hg13) ?_
    refine WL.gskip (u := 13) rfl rfl (sF hg13) ?_
    exact K13 _ zcR
  case h4_2 => exact Wanted.plain rfl
  refine WL.pur (Pur.move rfl) ?_
  refine' WL.orp (u := 22) (t := 34) rfl ?h7_0 ?h7_1 ?h7_2 rfl ?k7
  case h7_0 =>
    intro hg22 K22
    refine WL.gpur (u := 22) rfl rfl (gF hg22) (Pur.move rfl) ?_
    refine' WL.gpur (u := 22) rfl rfl (gF hg22) (Pur.bin rfl rfl ?h8_0) ?k8
    case h8_0 => first | (refine Bin.quoN (b := 64) ?_ ?_ <;> omega)
    refine WL.gpur (u := 22) rfl rfl (gF hg22) (Pur.move rfl) ?_
    refine WL.gpur (u := 22) rfl rfl (gF hg22) (Pur.nilCheck rfl) ?_
    refine WL.gpur (u := 22) rfl rfl (gF hg22) (Pur.fieldAddr rfl fo_84_2) ?_
    refine' WL.gpur (u := 22) rfl rfl (gF hg22) (Pur.load1 rfl ty_82 ?h9_0) ?k9
    case h9_0 => first | (apply Rd.own1; exact zmE; rfl) | (apply RdV.rd; apply RdV.idx (i := 2); assumption; rfl) | (apply RdV.rd; apply RdV.idx (off := 0) (i := 2); assumption; rfl)
    refine WL.gpur (u := 22) rfl rfl (gF hg22) (Pur.move rfl) ?_
    refine' WL.gpur (u := 22) rfl rfl (gF hg22) (Pur.indexAddr rfl rfl sl_82 ?h10_0) ?k10
    case h10_0 => omega
    refine' WL.gpur (u := 22) rfl rfl (gF hg22) (Pur.load1 rfl ty_100 ?h11_0) ?k11
    case h11_0 => first | (apply Rd.own1; exact zmE; rfl) | (apply Rd.own1; exact zmE; assumption) | (apply Rd.own_map; exact zmE; assumption) | exact RdV.rd (by assumption) | (apply Rd.own1; exact zmE; exact get_row (by assumption) (by first | assumption | omega)) | (apply RdV.rd; apply RdV.idx (i := 0); assumption; rfl)
    refine WL.gpur (u := 22) rfl rfl (gF hg22) (Pur.len rfl isSlice_100) ?_
    refine' WL.gpur (u := 22) rfl rfl (gF hg22) (Pur.bin rfl rfl ?h12_0) ?k12
    case h12_0 => first | exact Bin.geN | exact Bin.geI
    exact K22 _ zcR rfl
  case h7_1 =>
    intro hg22 K22
    refine WL.gskip (u := 22) rfl rfl (sF hg22) ?_
    refine WL.gskip (u := 22) rfl rfl (sF hg22) ?_
    refine WL.gskip (u := 22) rfl rfl (sF hg22) ?_
    refine WL.gskip (u := 22) rfl rfl (sF hg22) ?_
    refine WL.gskip (u := 22) rfl rfl (sF hg22) ?_
    refine WL.gskip (u := 22) rfl rfl (sF hg22) ?_
    refine WL.gskip (u := 22) rfl rfl (sF hg22) ?_
    refine WL.gskip (u := 22) rfl rfl (sF hg22) ?_
    refine WL.gskip (u := 22) rfl rfl (sF hg22) ?_
    refine WL.gskip (u := 22) rfl rfl (sF hg22) ?_
    refine WL.gskip (u := 22) rfl rfl (sF hg22) ?_
    exact K22 _ zcR
  case h7_2 => exact Wanted.plain rfl
  refine WL.nil ?_
  refine WQ.thn ?_
  first | refine WC.cond rfl (fun hc0 => ?_) (fun hc0 => ?_) | refine WC.condB rfl (fun hc0 => ?_) (fun hc0 => ?_)
  · refine WC.seq ?_
    refine WC.region ?_
    refine WL.pur (Pur.assign rfl) ?_
    refine WL.nil ?_
    refine WQ.thn ?_
    refine WC.ret ?_
    refine WQ.thn_ret ?_
    refine WQ.ret1 Try.results25 rfl [] zsL (View.le_refl _) ?_
    refine ⟨?_, rfl, rfl⟩
    exact boolF (by rw [sees_hi ho hj (by omega)]; simp)
  · have hiw : i / 64 < (j + 63) / 64 := by omega
    have hww := wordsOf_get (L := L) hiw
    have hwlt := wordN_lt ((rowsN L L.length).getD j 0) (i / 64)
    obtain ⟨wb2, woff2, wc2, e2, _, _, hwat⟩ := hw.at (by omega)
    cases e2
    obtain ⟨ws, _, _, rfl, hwd⟩ := hwat _ _ hww
    refine WC.skip ?_
    refine WQ.thn ?_
    refine WC.seq ?_
    refine WC.region ?_
    refine WL.pur (Pur.move rfl) ?_
    refine WL.pur (Pur.nilCheck rfl) ?_
    refine WL.pur (Pur.fieldAddr rfl fo_84_2) ?_
    refine' WL.pur (Pur.load1 rfl ty_82 ?h13_0) ?k13
    case h13_0 => first | (apply Rd.own1; exact zmE; rfl) | (apply RdV.rd; apply RdV.idx (i := 2); assumption; rfl) | (apply RdV.rd; apply RdV.idx (off := 0) (i := 2); assumption; rfl)
    refine WL.pur (Pur.move rfl) ?_
    refine' WL.pur (Pur.indexAddr rfl rfl sl_82 ?h14_0) ?k14
    case h14_0 => omega
    refine' WL.pur (Pur.load1 rfl ty_100 ?h15_0) ?k15
    case h15_0 => first | (apply Rd.own1; exact zmE; rfl) | (apply Rd.own1; exact zmE; assumption) | (apply Rd.own_map; exact zmE; assumption) | exact RdV.rd (by assumption) | (apply Rd.own1; exact zmE; exact get_row (by assumption) (by first | assumption | omega)) | (apply RdV.rd; apply RdV.idx (i := 0); assumption; rfl)
    refine WL.pur (Pur.move rfl) ?_
    refine' WL.pur (Pur.bin rfl rfl ?h16_0) ?k16
    case h16_0 => first | (refine Bin.quoN (b := 64) ?_ ?_ <;> omega)
    refine' WL.pur (Pur.indexAddr rfl rfl sl_100 ?h17_0) ?k17
    case h17_0 => omega
    refine' WL.pur (Pur.load1 rfl ty_101 ?h18_0) ?k18
    case h18_0 => first | (apply Rd.own1; exact zmE; rfl) | (apply Rd.own1; exact zmE; assumption) | (apply Rd.own_map; exact zmE; assumption) | exact RdV.rd (by assumption) | (apply Rd.own1; exact zmE; exact get_row (by assumption) (by first | assumption | omega)) | (apply RdV.rd; apply RdV.idx (i := 0); assumption; rfl)
    refine WL.pur (Pur.move rfl) ?_
    refine' WL.pur (Pur.bin rfl rfl ?h19_0) ?k19
    case h19_0 => first | (refine Bin.remN (b := 64) ?_; omega)
    refine' WL.pur (Pur.bin rfl rfl ?h20_0) ?k20
    case h20_0 => first | (refine Bin.shrU ?_; omega)
    refine' WL.pur (Pur.bin rfl rfl ?h21_0) ?k21
    case h21_0 => first | (refine Bin.andU (b := 1) ?_ ?_ <;> omega)
    refine' WL.pur (Pur.bin rfl rfl ?h22_0) ?k22
    case h22_0 => first | exact Bin.eqN (b := 1) | exact Bin.eqI
    refine WL.pur (Pur.assign rfl) ?_
    refine WL.nil ?_
    refine WQ.thn ?_
    refine WC.ret ?_
    refine WQ.ret1 Try.results25 rfl [] zsL (View.le_refl _) ?_
    refine ⟨?_, rfl, rfl⟩
    exact decB hask

end Go.Proofs.Ytgoooilgmabkmaa
namespace Go.Proofs.Ytgoooilgmabkmaa
open Go Go.Sl
set_option linter.unusedVariables false
set_option linter.unusedSimpArgs false
set_option maxRecDepth 100000

theorem perm_3 {hh R : HList} {x y : Nat × Obj} : (hh ++ (x :: y :: R)).Perm (x :: y :: (hh ++ R)) := by
  have := List.perm_append_comm_assoc hh [x, y] R
  simpa using this

theorem reg_add (σ : View) (sv : Value) (M : List (Nat × OpD)) (hm : HList) (i : Nat) (o : OpD) (hso : SlO σ eMark 116 3 sv M hm) (hok : o.ok) (hb : M.length ≤ 4194304) :
    Tri Try.prog 44 #[sv, .int .i64 (i : Int), .agg o.cells.toArray] σ hm (fun v σ' H' => SlO σ eMark 116 3 v (addM M (i, o)) H' ∧ σ' = σ) := by
  obtain ⟨sa, sc, rfl, hsc⟩ := hso.shape
  obtain ⟨bs, hsa, hsat⟩ := hso.rds
  refine Tri.of_body [(0, .slice sa M.length sc), (1, .int .i64 (i : Int)), (2, .agg o.cells.toArray)] Try.func44 rfl Try.ntmps44 (by simp) rfl (fun Hr => ?_)
  skip
  refine WC.seq ?_
  refine WC.region ?_
  refine WL.new (New.boxN rfl) (fun b5 => ?_)
  refine WL.pur (Pur.assign rfl) ?_
  refine WL.nil ?_
  refine WQ.thn ?_
  refine WC.seq ?_
  refine WC.region ?_
  refine WL.pur (Pur.move rfl) ?_
  refine WL.pur (Pur.fieldAddr rfl fo_53_0) ?_
  refine' WL.pur (Pur.load1 rfl ty_3 ?h1_0) ?k1
  case h1_0 => first | (apply Rd.own1; exact zmE; rfl) | (apply RdV.rd; apply RdV.idx (i := 0); assumption; rfl)
  refine' WL.pur (Pur.bin rfl rfl ?h2_0) ?k2
  case h2_0 => first | exact Bin.eqN (b := 1) | exact Bin.eqI
  refine WL.pur (Pur.fieldAddr rfl fo_53_2) ?_
  refine' WL.pur (Pur.load1 rfl ty_9 ?h3_0) ?k3
  case h3_0 => first | (apply Rd.own1; exact zmE; rfl) | (apply RdV.rd; apply RdV.idx (i := 2); assumption; rfl) | (apply RdV.rd; apply RdV.idx (off := 0) (i := 2); assumption; rfl)
  refine WL.pur (Pur.build (l := [_, _, _]) pl_116 zc_116 rfl rfl) ?_
  refine WL.new (New.alloc zc_116) (fun b7 => ?_)
  refine' WL.run0 (Run.storeAll rfl rfl ty_116 ?h4_0 (by first | rfl | assumption) ?h4_1 (by first | rfl | assumption)) ?k4
  case h4_0 => repeat (first | exact Part.one | exact Part.here | apply Part.cons | apply Part.app)
  case h4_1 => first | rfl | assumption
  refine WL.nil ?_
  refine WQ.thn ?_
  refine WC.seq ?_
  refine WC.seq ?_
  refine WC.region ?_
  refine WL.pur (Pur.move rfl) ?_
  refine WL.pur (Pur.len rfl isSlice_90) ?_
  refine WL.pur (Pur.assign rfl) ?_
  refine WL.nil ?_
  refine WQ.thn ?_
  refine WC.seq ?_
  refine WC.region ?_
  refine WL.pur (Pur.move rfl) ?_
  refine' WL.pur (Pur.bin rfl rfl ?h5_0) ?k5
  case h5_0 => first | exact Bin.gtN (b := 0) | exact Bin.gtI
  refine WL.pur (Pur.move rfl) ?_
  refine' WL.andp (u := 20) (t := 29) rfl ?h6_0 ?h6_1 ?h6_2 rfl ?k6
  case h6_0 =>
    intro hg20 K20
    refine WL.gpur (u := 20) rfl rfl (gT hg20) (Pur.move rfl) ?_
    refine WL.gpur (u := 20) rfl rfl (gT hg20) (Pur.move rfl) ?_
    refine' WL.gpur (u := 20) rfl rfl (gT hg20) (Pur.bin rfl rfl ?h7_0) ?k7
    case h7_0 => first | (refine Bin.subN (b := 1) ?_ ?_ <;> omega) | (refine Bin.subI ?_; omega)
    refine' WL.gpur (u := 20) rfl rfl (gT hg20) (Pur.indexAddr (eqA (hsa hg20)) rfl sl_90 ?h8_0) ?k8
    case h8_0 => omega
    refine WL.gpur (u := 20) rfl rfl (gT hg20) (Pur.fieldAddr rfl fo_116_0) ?_
    refine' WL.gpur (u := 20) rfl rfl (gT hg20) (Pur.load1 rfl ty_3 ?h9_0) ?k9
    case h9_0 => exact rd_last hg20 hsat (fun p hp => by repeat (first | exact List.mem_append_left _ hp | apply List.Mem.tail | apply List.mem_append_right))
    refine WL.gpur (u := 20) rfl rfl (gT hg20) (Pur.move rfl) ?_
    refine' WL.gpur (u := 20) rfl rfl (gT hg20) (Pur.bin rfl rfl ?h10_0) ?k10
    case h10_0 => first | exact Bin.eqN | exact Bin.eqI
    exact K20 _ zcR rfl
  case h6_1 =>
    intro hg20 K20
    refine WL.gskip (u := 20) rfl rfl (sT hg20) ?_
    refine WL.gskip (u := 20) rfl rfl (sT hg20) ?_
    refine WL.gskip (u := 20) rfl rfl (sT hg20) ?_
    refine WL.gskip (u := 20) rfl rfl (sT hg20) ?_
    refine WL.gskip (u := 20) rfl rfl (sT hg20) ?_
    refine WL.gskip (u := 20) rfl rfl (sT hg20) ?_
    refine WL.gskip (u := 20) rfl rfl (sT hg20) ?_
    refine WL.gskip (u := 20) rfl rfl (sT hg20) ?_
    exact K20 _ zcR
  case h6_2 => exact Wanted.plain rfl
  refine WL.nil ?_
  refine WQ.thn ?_
  first | refine WC.cond rfl (fun hc0 => ?_) (fun hc0 => ?_) | refine WC.condB rfl (fun hc0 => ?_) (fun hc0 => ?_)
  · obtain ⟨b, cap, junk, vss, e1, rfl, hcap, hjl, hel⟩ := hso.at hc0.1
    cases e1
    refine WC.seq ?_
    refine WC.region ?_
    refine WL.pur (Pur.move rfl) ?_
    refine WL.pur (Pur.move rfl) ?_
    refine' WL.pur (Pur.bin rfl rfl ?h11_0) ?k11
    case h11_0 => first | (refine Bin.subN (b := 1) ?_ ?_ <;> omega) | (refine Bin.subI ?_; omega)
    refine' WL.pur (Pur.loadN rfl ty_116 ?h12_0 ?h12_1) ?k12
    case h12_0 => first | (apply Rd.own_sub; exact zmE; exact Sub.refl _) | (apply RdV.rd; assumption)
    case h12_1 => first | rfl | assumption
    refine' WL.pur (Pur.indexAddr rfl rfl sl_90 ?h13_0) ?k13
    case h13_0 => omega
    refine' WL.run0 (Run.storeN rfl rfl ty_116 rfl rfl (by repeat (first | exact Part.one | exact Part.here | apply Part.cons | apply Part.app)) (by rw [List.length_append, hel.flat]; simp only [List.length_cons, List.length_nil]; omega)) ?k14
    refine WL.nil ?_
    refine WQ.thn ?_
    refine WC.seq ?_
    refine WC.region ?_
    refine WL.pur (Pur.move rfl) ?_
    refine WL.pur (Pur.assign rfl) ?_
    refine WL.nil ?_
    refine WQ.thn ?_
    refine WC.ret ?_
    refine WQ.thn_ret ?_
    refine WQ.ret1 Try.results44 rfl [(b, rowO 116 (lput (vss.flatten ++ junk) (0 + (M.length - 1) * 3) [.int .i64 (i : Int), .bool (decide (o.kind = 1)), .string o.text]))] zsL (View.le_refl _) ?_
    exact ⟨by rw [addM_set hc0]; exact SlO.put hel hcap hjl (by omega) rfl rfl ⟨rfl, hok.2.2.1⟩, rfl⟩
  · refine WC.skip ?_
    refine WQ.thn ?_
    refine WC.seq ?_
    refine WC.region ?_
    refine WL.pur (Pur.move rfl) ?_
    refine' WL.pur (Pur.loadN rfl ty_116 ?h15_0 ?h15_1) ?k15
    case h15_0 => first | (apply Rd.own_sub; exact zmE; exact Sub.refl _) | (apply RdV.rd; assumption)
    case h15_1 => first | rfl | assumption
    refine WL.new (New.buildSliceN (xs := [.tmp 37]) (vss := [[.int .i64 (i : Int), .bool (decide (o.kind = 1)), .string o.text]]) sl_90 zc_116 rfl rfl rfl (by rfl) (by rfl)) (fun b38 => ?_)
    refine' WL.any (Any.push (H1 := [(b38, _), (b7, _), (b5, _)]) (H2 := Hr) sl_90 zc_116 rfl by_116 rfl rfl hso ?h16_0 ?h16_1 ?h16_2 ?h16_3 rfl (by omega) (by omega)) ?k16
    case h16_0 => apply Rd.own_sub; exact zmE; exact Sub.refl _
    case h16_1 => first | rfl | assumption
    case h16_2 => first | rfl | assumption
    case h16_3 => exact (show eMark _ (i, o) _ from ⟨rfl, hok.2.2.1⟩)
    rintro v39 σ _ ⟨ho', hso', rfl, rfl⟩ _
    refine WL.pur (Pur.assign rfl) ?_
    refine WL.nil ?_
    refine WQ.thn ?_
    refine WC.ret ?_
    refine WQ.ret1 Try.results44 rfl ho' zsL (View.le_refl _) ?_
    exact ⟨by rw [addM_push hc0]; exact hso', rfl⟩

theorem reg_held (σ : View) (pv lv : Value) (L : List EntD) (M : List (Nat × OpD)) (h : PastV σ pv L) (ho : OrdOk L) (hl : SlE σ eMark 3 32 lv M) (hM : ∀ x ∈ M, x.1 < L.length) (hb : M.length ≤ 4194304) :
    Tri Try.prog 45 #[pv, lv] σ [] (fun v σ' H' => (∃ h, SlO σ eStr 9 1 v (heldM L M) h ∧ H' = h) ∧ σ' = σ) := by
  have hmost := ho.most
  obtain ⟨la, lc, rfl, hlc, hlb⟩ := hl.shape
  obtain ⟨lb, loff, hla, hlat⟩ := hl.rds
  refine Tri.of_body [(0, pv), (1, .slice la M.length lc)] Try.func45 rfl Try.ntmps45 (by simp) rfl (fun Hr => ?_)
  rw [List.nil_append]
  refine WC.seq ?_
  refine WC.region ?_
  refine WL.pur (Pur.assign rfl) ?_
  refine WL.nil ?_
  refine WQ.thn ?_
  refine WC.seq ?_
  refine WC.region ?_
  refine WL.pur (Pur.assign rfl) ?_
  refine WL.nil ?_
  refine WQ.thn ?_
  refine WC.seq ?_
  refine WC.seq ?_
  refine WC.region ?_
  refine WL.pur (Pur.move rfl) ?_
  refine WL.pur (Pur.len rfl isSlice_90) ?_
  refine WL.pur (Pur.move rfl) ?_
  refine WL.nil ?_
  refine WQ.thn ?_
  refine WC.block ?_
  refine WC.loop (fun j m σ' H' => ∃ (k : Nat) (sv : Value) (acc : List ByteArray) (hh : HList), j = M.length - k ∧ k ≤ M.length ∧ acc.length ≤ k ∧ SlO σ eStr 9 1 sv acc hh ∧ acc ++ heldM L (M.drop k) = heldM L M ∧ m = [(0, pv), (1, .slice la M.length lc), (5, sv), (11, .slice la M.length lc), (12, .int .i64 (M.length : Int)), (13, .int .i64 (k : Int))] ∧ σ' = σ ∧ H' = hh ++ Hr) ⟨0, .slice none 0 0, [], [], rfl, by omega, by simp, SlO.nil, rfl, rfl, rfl, rfl⟩ zcV zsL ?_
  rintro _ _ σ Hr ⟨k, sv, acc, hh, rfl, hk, hal, hso, hacc, rfl, rfl, rfl⟩
  refine WC.seq ?_
  refine WC.region ?_
  refine' WL.pur (Pur.bin rfl rfl ?h1_0) ?k1
  case h1_0 => first | exact Bin.ltN | exact Bin.ltI | exact Bin.ltS
  refine WL.nil ?_
  refine WQ.thn ?_
  refine WC.seq ?_
  first | refine WC.cond rfl (fun hc0 => ?_) (fun hc0 => ?_) | refine WC.condB rfl (fun hc0 => ?_) (fun hc0 => ?_)
  · obtain ⟨x, hx⟩ : ∃ x, M[k]? = some x := ⟨_, List.getElem?_eq_getElem hc0⟩
    obtain ⟨vs, _, _, ⟨rfl, hxt⟩, hxr⟩ := hlat k x hx
    have hxl := hM x (List.mem_of_getElem? hx)
    have hD := hl.drop (k + 1) (by omega)
    obtain ⟨db, doff, hda, hdat⟩ := hD.rds
    rw [List.length_drop] at hda
    refine WC.skip ?_
    refine WQ.thn ?_
    refine WC.seq ?_
    refine WC.block ?_
    refine WC.seq ?_
    refine WC.region ?_
    refine WL.pur (Pur.move rfl) ?_
    refine' WL.pur (Pur.indexAddr (eqA (hla (by omega))) rfl sl_90 ?h2_0) ?k2
    case h2_0 => omega
    refine' WL.pur (Pur.loadN rfl ty_116 ?h3_0 ?h3_1) ?k3
    case h3_0 => exact RdV.rd hxr
    case h3_1 => first | rfl | assumption
    refine WL.new (New.alloc zc_116) (fun b7 => ?_)
    refine WL.pur (Pur.assign rfl) ?_
    refine' WL.run0 (Run.storeAll rfl rfl ty_116 ?h4_0 (by first | rfl | assumption) ?h4_1 (by first | rfl | assumption)) ?k4
    case h4_0 => repeat (first | exact Part.one | exact Part.here | apply Part.cons | apply Part.app)
    case h4_1 => first | rfl | assumption
    refine WL.nil ?_
    refine WQ.thn ?_
    refine WC.seq ?_
    refine WC.region ?_
    refine WL.pur (Pur.fieldAddr rfl fo_116_1) ?_
    refine' WL.pur (Pur.load1 rfl ty_4 ?h5_0) ?k5
    case h5_0 => first | (apply Rd.own1; exact zmE; rfl) | (apply RdV.rd; apply RdV.idx (i := 1); assumption; rfl) | (apply RdV.rd; apply RdV.idx (off := 0) (i := 1); assumption; rfl)
    first | refine WL.pur (Pur.not rfl) ?_ | refine WL.pur (Pur.notB rfl) ?_
    refine WL.pur (Pur.assign rfl) ?_
    refine WL.nil ?_
    refine WQ.thn ?_
    refine WC.seq ?_
    refine WC.seq ?_
    refine WC.region ?_
    refine WL.pur (Pur.move rfl) ?_
    refine WL.pur (Pur.move rfl) ?_
    refine' WL.pur (Pur.bin rfl rfl ?h6_0) ?k6
    case h6_0 => first | (refine Bin.addN (b := 1) ?_; omega) | (refine Bin.addI ?_; omega)
    refine WL.pur ((Pur.sliceX rfl rfl sl_90 (by omega) (by omega))) ?_
    refine WL.pur (Pur.len rfl isSlice_90) ?_
    refine WL.pur (Pur.move rfl) ?_
    refine WL.nil ?_
    refine WQ.thn ?_
    refine WC.block ?_
    refine WC.loop (fun j m σ' H' => ∃ (u : Nat) (ovp : Prop) (_ : Decidable ovp), j = (M.length - (k + 1)) - u ∧ u ≤ M.length - (k + 1) ∧ (ovp ↔ (¬ x.2.kind = 1 ∨ overM L x.1 ((M.drop (k + 1)).take u) = true)) ∧ m = [(0, pv), (1, .slice la M.length lc), (5, sv), (11, .slice la M.length lc), (12, .int .i64 (M.length : Int)), (13, .int .i64 (k : Int)), (6, .int .i64 (k : Int)), (7, .pointer (some ⟨b7, 0, none⟩)), (8, .bool (decide ovp)), (24, .slice (dropA la (k + 1) 3 lc) (M.length - (k + 1)) (lc - (k + 1))), (25, .int .i64 ((M.length - (k + 1) : Nat) : Int)), (26, .int .i64 (u : Int))] ∧ σ' = σ ∧ H' = (b7, rowO 116 [.int .i64 (x.1 : Int), .bool (decide (x.2.kind = 1)), .string x.2.text]) :: (hh ++ Hr)) ⟨0, ¬ x.2.kind = 1, inferInstance, rfl, by omega, by simp [overM], rfl, rfl, rfl⟩ zcV zsL ?_
    rintro _ _ σ Hr ⟨u, ovp, hdec, rfl, hu, hovq, rfl, rfl, rfl⟩
    refine WC.seq ?_
    refine WC.region ?_
    refine' WL.pur (Pur.bin rfl rfl ?h7_0) ?k7
    case h7_0 => first | exact Bin.ltN | exact Bin.ltI | exact Bin.ltS
    refine WL.nil ?_
    refine WQ.thn ?_
    refine WC.seq ?_
    first | refine WC.cond rfl (fun hc1 => ?_) (fun hc1 => ?_) | refine WC.condB rfl (fun hc1 => ?_) (fun hc1 => ?_)
    · obtain ⟨y, hy⟩ : ∃ y, (M.drop (k + 1))[u]? = some y := ⟨_, List.getElem?_eq_getElem (by rw [List.length_drop]; omega)⟩
      obtain ⟨vs2, _, _, ⟨rfl, hyt⟩, hyr⟩ := hdat u y hy
      have hyl := hM y (List.mem_of_mem_drop (List.mem_of_getElem? hy))
      have hnew : (ovp ∨ seesN L x.1 y.1 = true) ↔ (¬ x.2.kind = 1 ∨ overM L x.1 ((M.drop (k + 1)).take (u + 1)) = true) := by
        rw [hovq, overM_step hy, Bool.or_eq_true]
        exact or_assoc
      refine WC.skip ?_
      refine WQ.thn ?_
      refine WC.seq ?_
      refine WC.block ?_
      refine WC.seq ?_
      refine WC.region ?_
      refine' WL.pur (Pur.indexAddr (eqA (hda (by omega))) rfl sl_90 ?h8_0) ?k8
      case h8_0 => omega
      refine' WL.pur (Pur.loadN rfl ty_116 ?h9_0 ?h9_1) ?k9
      case h9_0 => exact RdV.rd hyr
      case h9_1 => first | rfl | assumption
      refine WL.new (New.alloc zc_116) (fun b10 => ?_)
      refine' WL.run0 (Run.storeAll rfl rfl ty_116 ?h10_0 (by first | rfl | assumption) ?h10_1 (by first | rfl | assumption)) ?k10
      case h10_0 => repeat (first | exact Part.one | exact Part.here | apply Part.cons | apply Part.app)
      case h10_1 => first | rfl | assumption
      refine WL.nil ?_
      refine WQ.thn ?_
      refine WC.region ?_
      refine WL.pur (Pur.move rfl) ?_
      refine WL.pur (Pur.move rfl) ?_
      refine' WL.orp (u := 31) (t := 38) rfl ?h11_0 ?h11_1 ?h11_2 rfl ?k11
      case h11_0 =>
        intro hg31 K31
        refine WL.gpur (u := 31) rfl rfl (gF hg31) (Pur.move rfl) ?_
        refine WL.gpur (u := 31) rfl rfl (gF hg31) (Pur.fieldAddr rfl fo_116_0) ?_
        refine' WL.gpur (u := 31) rfl rfl (gF hg31) (Pur.load1 rfl ty_3 ?h12_0) ?k12
        case h12_0 => first | (apply Rd.own1; exact zmE; rfl) | (apply RdV.rd; apply RdV.idx (i := 0); assumption; rfl)
        refine WL.gpur (u := 31) rfl rfl (gF hg31) (Pur.fieldAddr rfl fo_116_0) ?_
        refine' WL.gpur (u := 31) rfl rfl (gF hg31) (Pur.load1 rfl ty_3 ?h13_0) ?k13
        case h13_0 => first | (apply Rd.own1; exact zmE; rfl) | (apply RdV.rd; apply RdV.idx (i := 0); assumption; rfl)
        refine WL.gcallP (u := 31) rfl rfl (gF hg31) rfl Try.call25 (past_Sees _ _ L x.1 y.1 h ho hyl (by omega)) ?_
        exact K31 _ zcR rfl
      case h11_1 =>
        intro hg31 K31
        refine WL.gskip (u := 31) rfl rfl (sF hg31) ?_
        refine WL.gskip (u := 31) rfl rfl (sF hg31) ?_
        refine WL.gskip (u := 31) rfl rfl (sF hg31) ?_
        refine WL.gskip (u := 31) rfl rfl (sF hg31) ?_
        refine WL.gskip (u := 31) rfl rfl (sF hg31) ?_
        refine WL.gskip (u := 31) rfl rfl (sF hg31) ?_
        exact K31 _ zcR
      case h11_2 => exact Wanted.plain rfl
      refine WL.pur (Pur.assign rfl) ?_
      refine WL.nil ?_
      refine WQ.blk ?_
      refine WQ.thn ?_
      refine WC.region ?_
      refine' WL.pur (Pur.bin rfl rfl ?h14_0) ?k14
      case h14_0 => first | (refine Bin.addN (b := 1) ?_; omega) | (refine Bin.addI ?_; omega)
      refine WL.pur (Pur.move rfl) ?_
      refine WL.nil ?_
      refine WQ.back _ ⟨u + 1, _, inferInstance, rfl, by omega, hnew, rfl, rfl, rfl⟩ (by omega) zcV zsL
    · have hov : ¬ ovp ↔ (x.2.kind = 1 ∧ overM L x.1 (M.drop (k + 1)) = false) := by
        rw [hovq, List.take_of_length_le (by rw [List.length_drop]; omega)]
        constructor
        · intro h
          exact ⟨Decidable.not_not.1 fun h1 => h (.inl h1), by simpa using fun h1 => h (.inr h1)⟩
        · rintro ⟨h1, h2⟩ (h3 | h3)
          · exact h3 h1
          · rw [h2] at h3; cases h3
      refine WC.exit ?_
      refine WQ.thn_exit ?_
      refine WQ.back_exit ?_
      refine WQ.blk_here ?_
      refine WQ.thn ?_
      refine WC.seq ?_
      refine WC.region ?_
      refine WL.pur (Pur.move rfl) ?_
      first | refine WL.pur (Pur.not rfl) ?_ | refine WL.pur (Pur.notB rfl) ?_
      refine WL.nil ?_
      refine WQ.thn ?_
      first | refine WC.cond rfl (fun hc2 => ?_) (fun hc2 => ?_) | refine WC.condB rfl (fun hc2 => ?_) (fun hc2 => ?_)
      · refine WC.region ?_
        refine WL.pur (Pur.move rfl) ?_
        refine WL.pur (Pur.fieldAddr rfl fo_116_2) ?_
        refine' WL.pur (Pur.load1 rfl ty_9 ?h15_0) ?k15
        case h15_0 => first | (apply Rd.own1; exact zmE; rfl) | (apply RdV.rd; apply RdV.idx (i := 2); assumption; rfl) | (apply RdV.rd; apply RdV.idx (off := 0) (i := 2); assumption; rfl)
        refine WL.new (New.buildSliceS (xs := [.tmp 44]) sl_54 zc_9 rfl rfl rfl (by rfl) (by rfl)) (fun b45 => ?_)
        refine' WL.any (Any.push (H1 := [(b45, _), (b7, _)]) (H2 := Hr) sl_54 zc_9 rfl by_9 rfl rfl hso ?h16_0 ?h16_1 ?h16_2 ?h16_3 rfl (by omega) (by omega)) ?k16
        case h16_0 => apply Rd.own_sub; exact zmE; exact Sub.refl _
        case h16_1 => first | rfl | assumption
        case h16_2 => first | rfl | assumption
        case h16_3 => exact ⟨rfl, hxt⟩
        rintro v46 σ _ ⟨hl3, hso3, rfl, rfl⟩ _
        refine WL.pur (Pur.assign rfl) ?_
        refine WL.nil ?_
        refine WQ.blk ?_
        refine WQ.thn ?_
        refine WC.region ?_
        refine' WL.pur (Pur.bin rfl rfl ?h17_0) ?k17
        case h17_0 => first | (refine Bin.addN (b := 1) ?_; omega) | (refine Bin.addI ?_; omega)
        refine WL.pur (Pur.move rfl) ?_
        refine WL.nil ?_
        refine WQ.back _ ⟨k + 1, _, _, _, rfl, by omega, by simp; omega, hso3, by rw [← hacc, heldM_drop hx, if_pos (hov.1 hc2), List.append_assoc], rfl, rfl, rfl⟩ (by omega) zcV zsL
      · refine WC.skip ?_
        refine WQ.blk ?_
        refine WQ.thn ?_
        refine WC.region ?_
        refine' WL.pur (Pur.bin rfl rfl ?h18_0) ?k18
        case h18_0 => first | (refine Bin.addN (b := 1) ?_; omega) | (refine Bin.addI ?_; omega)
        refine WL.pur (Pur.move rfl) ?_
        refine WL.nil ?_
        refine WQ.back _ ⟨k + 1, sv, acc, hh, rfl, by omega, by omega, hso, by rw [← hacc, heldM_drop hx, if_neg (fun h => hc2 (hov.2 h)), List.nil_append], rfl, rfl, rfl⟩ (by omega) zcV zsL
  · refine WC.exit ?_
    refine WQ.thn_exit ?_
    refine WQ.back_exit ?_
    refine WQ.blk_here ?_
    refine WQ.thn ?_
    refine WC.seq ?_
    refine WC.region ?_
    refine WL.pur (Pur.move rfl) ?_
    refine WL.pur (Pur.assign rfl) ?_
    refine WL.nil ?_
    refine WQ.thn ?_
    refine WC.ret ?_
    refine WQ.ret1 Try.results45 rfl hh (List.Sublist.refl _) (View.le_refl _) ?_
    exact ⟨⟨_, by rw [heldM_done (by omega), List.append_nil] at hacc; rw [← hacc]; exact hso, rfl⟩, rfl⟩

theorem reg_Read1 (σ : View) (bk bl : Nat) (key : ByteArray) (sv : Value) (hm : HList) (i : Nat) (o : OpD) (M : List (Nat × OpD)) (hso : SlO σ eMark 116 3 sv M hm) (hok : o.ok) (hb : M.length ≤ 4194304) (hk : RdV σ bk 0 [.string key]) :
    Tri Try.prog 43 #[.int .i64 (i : Int), .agg o.cells.toArray, .pointer (some ⟨bk, 0, none⟩), .pointer (some ⟨bl, 0, none⟩)] σ ((bl, rowO 90 [sv]) :: hm) (fun v σ' H' => (∃ sv' hm', H' = (bl, rowO 90 [sv']) :: hm' ∧ SlO σ eMark 116 3 sv' (if o.key = key then addM M (i, o) else M) hm') ∧ σ' = σ) := by
  have h1c := hso.one_cell
  refine Tri.of_body [(0, .int .i64 (i : Int)), (1, .agg o.cells.toArray), (2, .pointer (some ⟨bk, 0, none⟩)), (3, .pointer (some ⟨bl, 0, none⟩))] Try.func43 rfl Try.ntmps43 (by simp) rfl (fun Hr => ?_)
  rw [List.cons_append]
  refine WC.seq ?_
  refine WC.region ?_
  refine WL.new (New.boxN rfl) (fun b5 => ?_)
  refine WL.nil ?_
  refine WQ.thn ?_
  refine WC.seq ?_
  refine WC.region ?_
  refine WL.pur (Pur.fieldAddr rfl fo_53_1) ?_
  refine' WL.pur (Pur.load1 rfl ty_9 ?h1_0) ?k1
  case h1_0 => first | (apply Rd.own1; exact zmE; rfl) | (apply RdV.rd; apply RdV.idx (i := 1); assumption; rfl) | (apply RdV.rd; apply RdV.idx (off := 0) (i := 1); assumption; rfl)
  refine' WL.pur (Pur.load1 rfl ty_9 ?h2_0) ?k2
  case h2_0 => exact RdV.rd hk
  refine' WL.pur (Pur.bin rfl rfl ?h3_0) ?k3
  case h3_0 => exact Bin.eqS
  refine WL.nil ?_
  refine WQ.thn ?_
  first | refine WC.cond rfl (fun hc0 => ?_) (fun hc0 => ?_) | refine WC.condB rfl (fun hc0 => ?_) (fun hc0 => ?_)
  · refine WC.region ?_
    refine' WL.pur (Pur.load1 rfl ty_90 ?h4_0) ?k4
    case h4_0 => first | (apply Rd.own1; exact zmE; rfl) | exact RdV.rd (by assumption)
    refine WL.pur (Pur.move rfl) ?_
    refine' WL.pur (Pur.loadN rfl ty_53 ?h5_0 ?h5_1) ?k5
    case h5_0 => first | (apply Rd.own_sub; exact zmE; exact Sub.refl _) | (apply RdV.rd; assumption)
    case h5_1 => first | rfl | assumption
    refine WL.call (H0 := hm) (Hr := (b5, rowO 53 o.cells) :: (bl, rowO 90 [sv]) :: Hr) rfl Try.call44 perm_3 (reg_add _ sv M hm i o hso hok hb) ?_
    rintro v13 _ hm2 ⟨hso2, rfl⟩ _
    have h1c2 := hso2.one_cell
    refine WL.perm (H0 := (b5, rowO 53 o.cells) :: (bl, rowO 90 [sv]) :: (hm2 ++ Hr)) ?_ perm_3.symm
    refine' WL.run0 (Run.store1 rfl rfl ty_90 (by first | rfl | assumption) ?h6_0 ?h6_1 sz_90) ?k6
    case h6_0 => repeat (first | exact Part.one | exact Part.here | apply Part.cons | apply Part.app)
    case h6_1 => first | exact Nat.le_of_ble_eq_true rfl | decide | (simp; done) | (simp; omega) | omega
    refine WL.nil ?_
    refine WQ.ret0 Try.results43 ((bl, rowO 90 [v13]) :: hm2) (.inr rfl) zsL (View.le_refl _) ?_
    exact ⟨⟨_, _, rfl, by rw [if_pos hc0]; exact hso2⟩, rfl⟩
  · refine WC.skip ?_
    refine WQ.ret0 Try.results43 ((bl, rowO 90 [sv]) :: hm) (.inr rfl) zsL (View.le_refl _) ?_
    exact ⟨⟨_, _, rfl, by rw [if_neg hc0]; exact hso⟩, rfl⟩

end Go.Proofs.Ytgoooilgmabkmaa
namespace Go.Proofs.Ytgoooilgmabkmaa
open Go Go.Sl
set_option linter.unusedVariables false
set_option linter.unusedSimpArgs false
set_option maxRecDepth 100000

def TrySort_ren : Go.Shelf.Ren := ⟨fun | 6 => 47 | 8 => 62 | 9 => 61 | 19 => 82 | 20 => 83 | 21 => 73 | 22 => 74 | 23 => 75 | 24 => 76 | 25 => 77 | 26 => 78 | 27 => 79 | 28 => 80 | 29 => 81 | 36 => 91 | 31 => 92 | 32 => 93 | 37 => 94 | 38 => 95 | 39 => 96 | 41 => 104 | n => n, fun | 27 => 54 | 29 => 9 | 3 => 3 | 32 => 119 | 26 => 54 | 0 => 0 | 44 => 151 | 46 => 101 | 4 => 4 | 36 => 144 | 35 => 143 | 41 => 99 | 5 => 5 | 9 => 9 | 53 => 156 | 57 => 160 | 63 => 177 | 64 => 178 | n => n, fun | n => n⟩
theorem TrySort : Go.Proofs.SlLaysM.n6 Try.prog TrySort_ren :=
  { mixed := by kernel_rfl,
    f6 := ⟨"slices.Sort[[]string,string]", by decide, Try.func47.trans (congrArg some (by kernel_rfl))⟩,
    f8 := Try.func62.trans (congrArg some (by kernel_rfl)),
    f9 := ⟨"slices.pdqsortOrdered[string]", by decide, Try.func61.trans (congrArg some (by kernel_rfl))⟩,
    f19 := Try.func82.trans (congrArg some (by kernel_rfl)),
    f20 := Try.func83.trans (congrArg some (by kernel_rfl)),
    f21 := ⟨"slices.insertionSortOrdered[string]", by decide, Try.func73.trans (congrArg some (by kernel_rfl))⟩,
    f22 := ⟨"slices.heapSortOrdered[string]", by decide, Try.func74.trans (congrArg some (by kernel_rfl))⟩,
    f23 := ⟨"slices.breakPatternsOrdered[string]", by decide, Try.func75.trans (congrArg some (by kernel_rfl))⟩,
    f24 := ⟨"slices.choosePivotOrdered[string]", by decide, Try.func76.trans (congrArg some (by kernel_rfl))⟩,
    f25 := ⟨"slices.reverseRangeOrdered[string]", by decide, Try.func77.trans (congrArg some (by kernel_rfl))⟩,
    f26 := ⟨"slices.partialInsertionSortOrdered[string]", by decide, Try.func78.trans (congrArg some (by kernel_rfl))⟩,
    f27 := ⟨"cmp.Less[string]", by decide, Try.func79.trans (congrArg some (by kernel_rfl))⟩,
    f28 := ⟨"slices.partitionEqualOrdered[string]", by decide, Try.func80.trans (congrArg some (by kernel_rfl))⟩,
    f29 := ⟨"slices.partitionOrdered[string]", by decide, Try.func81.trans (congrArg some (by kernel_rfl))⟩,
    f31 := Try.func92.trans (congrArg some (by kernel_rfl)),
    f32 := Try.func93.trans (congrArg some (by kernel_rfl)),
    f36 := ⟨"slices.siftDownOrdered[string]", by decide, Try.func91.trans (congrArg some (by kernel_rfl))⟩,
    f37 := ⟨"slices.medianAdjacentOrdered[string]", by decide, Try.func94.trans (congrArg some (by kernel_rfl))⟩,
    f38 := ⟨"slices.medianOrdered[string]", by decide, Try.func95.trans (congrArg some (by kernel_rfl))⟩,
    f39 := ⟨"cmp.isNaN[string]", by decide, Try.func96.trans (congrArg some (by kernel_rfl))⟩,
    f41 := ⟨"slices.order2Ordered[string]", by decide, Try.func104.trans (congrArg some (by kernel_rfl))⟩,
    t0 := Try.underlying0,
    a0 := Try.isAgg0,
    z0 := Try.sizeOf0,
    v0 := Try.zeroValue0,
    t3 := Try.underlying3,
    a3 := Try.isAgg3,
    z3 := Try.sizeOf3,
    v3 := Try.zeroValue3,
    t4 := Try.underlying4,
    a4 := Try.isAgg4,
    z4 := Try.sizeOf4,
    v4 := Try.zeroValue4,
    t5 := Try.underlying5,
    a5 := Try.isAgg5,
    z5 := Try.sizeOf5,
    v5 := Try.zeroValue5,
    t9 := Try.underlying9,
    a9 := Try.isAgg9,
    z9 := Try.sizeOf9,
    v9 := Try.zeroValue9,
    t26 := Try.underlying54,
    a26 := Try.isAgg54,
    z26 := Try.sizeOf54,
    v26 := Try.zeroValue54,
    t27 := Try.underlying54,
    a27 := Try.isAgg54,
    z27 := Try.sizeOf54,
    v27 := Try.zeroValue54,
    t29 := Try.underlying9,
    a29 := Try.isAgg9,
    z29 := Try.sizeOf9,
    v29 := Try.zeroValue9,
    t32 := Try.underlying119,
    a32 := Try.isAgg119,
    z32 := Try.sizeOf119,
    v32 := Try.zeroValue119,
    t35 := Try.underlying143,
    a35 := Try.isAgg143,
    z35 := Try.sizeOf143,
    v35 := Try.zeroValue143,
    t36 := Try.underlying144,
    a36 := Try.isAgg144,
    z36 := Try.sizeOf144,
    v36 := Try.zeroValue144,
    t41 := Try.underlying99,
    a41 := Try.isAgg99,
    z41 := Try.sizeOf99,
    v41 := Try.zeroValue99,
    t44 := Try.underlying151,
    a44 := Try.isAgg151,
    z44 := Try.sizeOf151,
    v44 := Try.zeroValue151,
    t46 := Try.underlying101,
    a46 := Try.isAgg101,
    z46 := Try.sizeOf101,
    v46 := Try.zeroValue101,
    t53 := Try.underlying156,
    a53 := Try.isAgg156,
    z53 := Try.sizeOf156,
    v53 := Try.zeroValue156,
    t57 := Try.underlying160,
    a57 := Try.isAgg160,
    z57 := Try.sizeOf160,
    v57 := Try.zeroValue160,
    t63 := Try.underlying177,
    a63 := Try.isAgg177,
    z63 := Try.sizeOf177,
    v63 := Try.zeroValue177,
    t64 := Try.underlying178,
    a64 := Try.isAgg178,
    z64 := Try.sizeOf178,
    v64 := Try.zeroValue178 }
/-- texts in order -/
def sortB (l : List ByteArray) : List ByteArray := ((l.map fun s => s.data.toList).mergeSort fun x y => decide (x ≤ y)).map fun x => ⟨x.toArray⟩
theorem ba_back (s : ByteArray) : (⟨s.data.toList.toArray⟩ : ByteArray) = s := by cases s; simp
theorem sortB_perm (l : List ByteArray) : (sortB l).Perm l := by
  unfold sortB
  have h1 := (List.mergeSort_perm (l.map fun s => s.data.toList) (fun x y => decide (x ≤ y))).map fun x : List UInt8 => (⟨x.toArray⟩ : ByteArray)
  refine h1.trans ?_
  rw [List.map_map]
  have : (l.map ((fun x : List UInt8 => (⟨x.toArray⟩ : ByteArray)) ∘ fun s : ByteArray => s.data.toList)) = l := by
    conv => rhs; rw [← List.map_id l]
    exact List.map_congr_left fun s _ => ba_back s
  rw [this]
theorem sortB_len (l : List ByteArray) : (sortB l).length = l.length := (sortB_perm l).length_eq
theorem lt_bl : ∀ (x y : List UInt8), (x < y) ↔ Op.bytesLess x y = true
  | [], [] => by simp [Op.bytesLess]
  | _ :: _, [] => by simp [Op.bytesLess]
  | [], _ :: _ => by simp [Op.bytesLess]
  | a :: x, b :: y => by
    rw [List.cons_lt_cons_iff, lt_bl x y]
    simp [Op.bytesLess]
theorem le_bl {x y : List UInt8} : (x ≤ y) ↔ (Op.bytesLess x y = true ∨ x = y) := by
  have h : (x ≤ y) ↔ ¬ (y < x) := Iff.rfl
  rw [h, lt_bl]
  constructor
  · intro hn
    rcases bl_total x y with h1 | h1 | h1
    · exact .inl h1
    · exact .inr h1
    · exact absurd h1 hn
  · rintro (h1 | rfl) h2
    · have := bl_trans _ _ _ h1 h2
      rw [bl_irrefl] at this; cases this
    · rw [bl_irrefl] at h2; cases h2
theorem ba_le {x y : List UInt8} (h : x ≤ y) : leB ⟨x.toArray⟩ ⟨y.toArray⟩ = true := by
  unfold leB
  rw [decide_eq_true_eq]
  rcases le_bl.1 h with h | rfl
  · refine .inl ?_
    unfold ltB
    rw [bytes_toList, bytes_toList]
    exact h
  · exact .inr rfl
theorem sortB_sorted (l : List ByteArray) : (sortB l).Pairwise (fun a b => leB a b = true) := by
  unfold sortB
  rw [List.pairwise_map]
  refine List.Pairwise.imp (fun h => ba_le (of_decide_eq_true h)) (List.pairwise_mergeSort (le := fun x y : List UInt8 => decide (x ≤ y)) ?_ ?_ _)
  · intro a b c h1 h2
    have h1 := le_bl.1 (of_decide_eq_true h1)
    have h2 := le_bl.1 (of_decide_eq_true h2)
    refine decide_eq_true (le_bl.2 ?_)
    rcases h1 with h1 | rfl
    · rcases h2 with h2 | rfl
      · exact .inl (bl_trans _ _ _ h1 h2)
      · exact .inl h1
    · exact h2
  · intro a b
    rw [Bool.or_eq_true]
    rcases bl_total a b with h | h | h
    · exact .inl (decide_eq_true (le_bl.2 (.inl h)))
    · exact .inl (decide_eq_true (le_bl.2 (.inr h)))
    · exact .inr (decide_eq_true (le_bl.2 (.inl h)))
theorem nodup_sorted : ∀ {l : List ByteArray}, l.Nodup → l.Pairwise (fun a b => leB a b = true) → SortedB l
  | [], _, _ => List.Pairwise.nil
  | a :: l, hn, h => by
    rw [List.nodup_cons] at hn
    rw [List.pairwise_cons] at h
    refine List.pairwise_cons.2 ⟨fun b hb => ?_, nodup_sorted hn.2 h.2⟩
    have := h.1 b hb
    unfold leB at this
    rw [decide_eq_true_eq] at this
    rcases this with h1 | rfl
    · exact h1
    · exact absurd hb hn.1
theorem St.growH {σ : View} {H : HList} {w w' : World} {os : Array Obj} (h : St σ H w) (hw : w'.heap = w.heap ++ os) (he : Env w w') : St σ H w' := by
  have key : ∀ b o, w.heap[b]? = some o → w'.heap[b]? = some o := fun b o hb => by
    rw [hw, Array.getElem?_append_left (Array.getElem?_eq_some_iff.1 hb).1]; exact hb
  exact ⟨h.envOf he, fun b o ho => key _ _ (h.view b o ho), fun p hp => key _ _ (h.own p hp), h.apart, h.nodup⟩
/-- slices.Sort of texts -/
theorem slices_Sort (σ : View) (sv : Value) (acc : List ByteArray) (hl : HList) (hso : SlO σ eStr 9 1 sv acc hl) (hb : acc.length ≤ 4194304) :
    Tri Try.prog 47 #[sv] σ hl (fun v σ' H' => SlO σ eStr 9 1 sv (sortB acc) H' ∧ σ' = σ) := by
  intro Hr w hs
  by_cases h0 : acc.length = 0
  · obtain ⟨p, cap, rfl, _⟩ := hso.shape
    have ha := List.eq_nil_of_length_eq_zero h0
    subst ha
    refine (Go.Proofs.AnyM.slices_Sort_string_none TrySort p cap w).mono ?_
    rintro e w' ⟨rfl, rfl⟩
    exact ⟨_, σ, hl, rfl, ⟨by rw [show sortB [] = [] from List.eq_nil_of_length_eq_zero (by rw [sortB_len]; rfl)]; exact hso, rfl⟩, View.le_refl _, hs⟩
  · obtain ⟨b, cap, junk, vss, rfl, rfl, hcap, hjl, hel⟩ := hso.at (by omega)
    have hvs : vss.flatten = acc.map Value.string := by
      have : vss = acc.map fun s => [Value.string s] := by
        apply List.ext_getElem?
        intro i
        rw [List.getElem?_map]
        by_cases hi : i < acc.length
        · have hx : acc[i]? = some acc[i] := List.getElem?_eq_getElem hi
          obtain ⟨vs, h1, _, _, rfl, _⟩ := hel.2 i _ hx
          rw [h1, hx]; rfl
        · rw [List.getElem?_eq_none (by rw [hel.1]; omega), List.getElem?_eq_none (by omega)]; rfl
      rw [this, flat_one]
    have hok : ∀ s ∈ acc, StrOk s := fun s hsm => by
      obtain ⟨i, hi⟩ := List.getElem?_of_mem hsm
      obtain ⟨vs, _, _, _, _, h⟩ := hel.2 i s hi
      exact h
    have hown := hs.own (b, rowO 9 (vss.flatten ++ junk)) (by simp)
    have hss : ((acc.map fun s => s.data.toList)).length = acc.length := by simp
    have hH : Go.Sort.Holds Go.Proofs.encStr w b 0 (acc.map fun s => s.data.toList).toArray := by
      intro j hj
      have hj' : j < acc.length := by simpa using hj
      refine ⟨?_, ?_⟩
      · have hx : acc[j]? = some acc[j] := List.getElem?_eq_getElem hj'
        have h1 : w.cell? ⟨b, 0 + j, none⟩ = some (.string acc[j]) := by
          have := (Rd.own1 (σ := σ) (off := 0 + j) (v := .string acc[j]) (T := 9) (l := vss.flatten ++ junk) (H := [(b, rowO 9 (vss.flatten ++ junk))] ++ Hr) (b := b) (by simp) (by rw [Nat.zero_add, List.getElem?_append_left (by rw [hvs, List.length_map]; exact hj'), hvs, List.getElem?_map, hx]; rfl)).cell hs 0 _ rfl
          simpa using this
        rw [h1]
        have h2 : (acc.map fun s => s.data.toList).toArray[j]! = acc[j].data.toList := by
          rw [getElem!_pos _ j hj]; simp
        rw [h2]
      · simp [World.frozen?, hown, rowO]
    have hlt : b < w.heap.size := (Array.getElem?_eq_some_iff.1 hown).1
    have := Go.Proofs.AnyM.slices_Sort_string TrySort b 0 cap (acc.map fun s => s.data.toList) w hH hlt (by rw [hss]; omega)
    rw [hss] at this
    refine this.mono ?_
    rintro e w' ⟨rfl, n, os, rfl⟩
    obtain ⟨srt, hsrt⟩ : ∃ srt, srt = (acc.map fun s => s.data.toList).mergeSort fun x y => decide (x ≤ y) := ⟨_, rfl⟩
    rw [← hsrt]
    have hsl : srt.length = acc.length := by rw [hsrt, List.length_mergeSort]; simp
    have hsB : sortB acc = srt.map fun x => ⟨x.toArray⟩ := by rw [hsrt]; rfl
    have hnew : SlO σ eStr 9 1 (.slice (some ⟨b, 0, none⟩) acc.length cap) (sortB acc) [(b, rowO 9 ((sortB acc).map Value.string ++ junk))] := by
      refine ⟨(sortB acc).map fun s => [Value.string s], ⟨by rw [flat_one, List.length_map]; omega, .inr ⟨b, cap, junk, by rw [sortB_len], by rw [flat_one], by rw [sortB_len]; exact hjl, by rw [sortB_len]; exact hcap⟩⟩, by simp, fun i x hx => ⟨[.string x], by simp [hx], rfl, rfl, rfl, hok x ((sortB_perm acc).mem_iff.1 (List.mem_of_getElem? hx))⟩⟩
    refine ⟨_, σ, _, rfl, ⟨hnew, rfl⟩, View.le_refl _, ?_⟩
    have h1 : St σ ([(b, rowO 9 ((sortB acc).map Value.string ++ junk))] ++ Hr) (Go.Sort.putRow Go.Proofs.encStr (Go.Sort.ahead w n) b 0 srt.toArray) := by
      have hwo : (Go.Sort.ahead w n).heap = w.heap := rfl
      refine hs.part (b := b) (o := rowO 9 (vss.flatten ++ junk)) (o' := rowO 9 ((sortB acc).map Value.string ++ junk)) Part.one ?_ ?_ ⟨rfl, rfl, rfl, Nat.le_add_right _ _⟩
      · show ((Go.Sort.ahead w n).heap.modify b _)[b]? = _
        rw [hwo, Array.getElem?_modify, if_pos rfl, hown]
        simp only [Option.map_some, rowO, Go.Sort.onCells]
        congr 2
        apply Array.ext'
        simp only [Go.Sort.putCells, Array.toList_mapIdx]
        apply List.ext_getElem?
        intro k
        simp only [List.getElem?_mapIdx, Nat.zero_le, true_and, Nat.zero_add, Nat.sub_zero]
        by_cases hk : k < acc.length
        · have hk2 : k < srt.length := by omega
          rw [List.getElem?_append_left (by rw [hvs, List.length_map]; exact hk), List.getElem?_append_left (by rw [List.length_map, sortB_len]; exact hk), hvs]
          rw [List.getElem?_map, List.getElem?_eq_getElem hk]
          simp only [Option.map_some]
          rw [if_pos (by simpa using hk2)]
          have h2 : srt.toArray[k]! = srt[k] := by rw [getElem!_pos _ k (by simpa using hk2)]; simp
          rw [h2, hsB, List.getElem?_map, List.getElem?_map, List.getElem?_eq_getElem hk2]
          rfl
        · rw [List.getElem?_append_right (by rw [hvs, List.length_map]; omega), List.getElem?_append_right (by rw [List.length_map, sortB_len]; omega), hvs, List.length_map, List.length_map, sortB_len]
          cases junk[k - acc.length]? with
          | none => rfl
          | some y => simp only [Option.map_some]; rw [if_neg (by simp; omega)]
      · intro c hc
        show ((Go.Sort.ahead w n).heap.modify b _)[c]? = _
        rw [hwo, Array.getElem?_modify, if_neg (Ne.symm hc)]
    exact St.growH h1 rfl ⟨rfl, rfl, rfl, Nat.le_refl _⟩
end Go.Proofs.Ytgoooilgmabkmaa
namespace Go.Proofs.Ytgoooilgmabkmaa
open Go Go.Sl
set_option linter.unusedVariables false
set_option linter.unusedSimpArgs false
set_option maxRecDepth 100000

theorem past_opsOk {σ : View} {pv : Value} {L : List EntD} (h : PastV σ pv L) : ∀ i, ∀ o ∈ opsAt L i, o.ok := by
  intro i o ho
  obtain ⟨b, mb, lv, sv, rfl, hr, hE, hm, hS⟩ := h
  obtain ⟨ea, ec, rfl, _, _⟩ := hE.shape
  obtain ⟨b, off, _, hat⟩ := hE.rds
  unfold opsAt at ho
  split at ho
  · rename_i e he
    obtain ⟨vs, _, _, ⟨qv, ov, rfl, _, hNR⟩, _⟩ := hat i e he
    have hops := hNR.2.1
    obtain ⟨oa, oc, rfl, _, _⟩ := hops.shape
    obtain ⟨b2, off2, _, hat2⟩ := hops.rds
    obtain ⟨j, hj⟩ := List.getElem?_of_mem ho
    obtain ⟨_, _, _, ⟨_, h3⟩, _⟩ := hat2 j o hj
    exact h3
  · simp at ho
theorem marks_lt {L : List EntD} {key : ByteArray} : ∀ x ∈ (marks ((opsN L isReg L.length).filter (onKey key))), x.1 < L.length := fun x hx =>
  (opsN_fst (List.mem_filter.1 ((marks_sub _).subset hx)).1).1
theorem reg_len {L : List EntD} (ho : OrdOk L) : (opsN L isReg L.length).length ≤ 4194304 := by
  have h1 := opsN_len ho isReg L.length
  have h2 := ho.most
  omega
theorem keys_final {L : List EntD} {seen : List Nat} (hn : seen.Nodup) (hall : ∀ i, i < (keysF (opsN L isReg L.length)).length → i ∈ seen) : sortB ((seenK (keysF (opsN L isReg L.length)) seen).filter (fun k => decide (0 < (regHeld L k).length))) = regKeys L := by
  refine sortedB_ext _ _ (nodup_sorted ((sortB_perm _).nodup_iff.2 ((seenK_nodup (keysF_nodup _) hn).sublist List.filter_sublist)) (sortB_sorted _)) (regKeys_sorted L) fun x => ?_
  rw [(sortB_perm _).mem_iff, List.mem_filter, regKeys_mem]
  simp only [decide_eq_true_eq]
  constructor
  · exact fun h => h.2
  · intro h
    refine ⟨?_, h⟩
    have hk : x ∈ (keysF (opsN L isReg L.length)) := by
      apply Classical.byContradiction
      intro hc
      rw [regHeld_none (fun y hy he => hc ((keysF_mem x _).2 ⟨y, hy, he⟩))] at h
      simp at h
    obtain ⟨i, hi⟩ := List.getElem?_of_mem hk
    exact seenK_mem.2 ⟨i, hall i (List.getElem?_eq_some_iff.1 hi).1, hi⟩

theorem reg_Read (σ : View) (pv : Value) (L : List EntD) (key : ByteArray) (h : PastV σ pv L) (ho : OrdOk L) :
    Tri Try.prog 19 #[pv, .string key] σ [] (fun v σ' H' => ∃ h, SlO σ' eStr 9 1 v (regHeld L key) h ∧ H' = h) := by
  refine Tri.of_body [(0, pv), (1, .string key)] Try.func19 rfl Try.ntmps19 (by simp) rfl (fun Hr => ?_)
  rw [List.nil_append]
  refine WC.seq ?_
  refine WC.region ?_
  refine WL.new (New.box1 rfl (by first | rfl | assumption)) (fun b3 => ?_)
  refine WL.pur (Pur.assign rfl) ?_
  refine WL.nil ?_
  refine WQ.thn ?_
  refine WC.seq ?_
  refine WC.region ?_
  refine WL.new (New.alloc zc_90) (fun b5 => ?_)
  refine WL.nil ?_
  refine WQ.thn ?_
  refine WC.seq ?_
  refine WC.region ?_
  refine WL.give (H1 := [(b5, _)]) (H2 := Hr) (fun hb3 => ?_)
  rw [List.singleton_append]
  have hle0 := View.le_add (rowO 9 [.string key]) hb3
  have hk : RdV (σ.add b3 (rowO 9 [.string key])) b3 0 [.string key] := RdV.row (View.add_same _ _ _)
  refine WL.pur (Pur.move rfl) ?_
  refine WL.pur (Pur.makeFunc rfl rfl) ?_
  refine WL.call (H0 := [(b5, rowO 90 [.slice none 0 0])]) (Hr := Hr) rfl Try.call42 (List.Perm.refl _) (reg_each _ pv L (h.mono hle0) ho 43 [.pointer (some ⟨b3, 0, none⟩), .pointer (some ⟨b5, 0, none⟩)] Try.call43 (fun dn σ' H' => ∃ sv hm, H' = (b5, rowO 90 [sv]) :: hm ∧ SlO σ' eMark 116 3 sv (marks (dn.filter (onKey key))) hm ∧ RdV σ' b3 0 [.string key]) _ ⟨_, _, rfl, SlO.nil, hk⟩ (fun dn i o σ1 H1 ⟨sv, hm, e, hso, hk1⟩ hle hi hdn hok hreg => by
      subst e
      refine (reg_Read1 σ1 b3 b5 key sv hm i o _ hso hok (Nat.le_trans (marksF_len _ _) hdn) hk1).mono ?_
      rintro v σ' H' ⟨⟨sv', hm', rfl, hso'⟩, rfl⟩
      exact ⟨sv', hm', rfl, by rw [marks_key]; exact hso', hk1⟩) (fun dn σ1 σ2 H1 ⟨sv, hm, e, hso, hk1⟩ hle => ⟨sv, hm, e, hso.mono eMark_mono hle, hk1.mono hle⟩)) ?_
  rintro v8 σ2 _ ⟨sv, hm, rfl, hso, _⟩ hle2
  rw [List.cons_append]
  refine WL.nil ?_
  refine WQ.thn ?_
  refine WC.seq ?_
  refine WC.region ?_
  refine WL.giveS (byt := 32) (H1 := [(b5, _)]) (H2 := Hr) eMark_mono hso (by have := reg_len ho; have h2 := marksF_len key (opsN L isReg L.length); omega) rfl (fun σ3 hle3 hsl => ?_)
  rw [List.singleton_append]
  have h3 := h.mono (View.le_trans hle0 (View.le_trans hle2 hle3))
  refine WL.pur (Pur.move rfl) ?_
  refine' WL.pur (Pur.load1 rfl ty_90 ?h1_0) ?k1
  case h1_0 => first | (apply Rd.own1; exact zmE; rfl) | (apply RdV.rd; apply RdV.idx (i := 0); assumption; rfl)
  refine WL.call (H0 := []) (Hr := (b5, rowO 90 [sv]) :: Hr) rfl Try.call45 (List.Perm.refl _) (reg_held _ pv sv L (marks ((opsN L isReg L.length).filter (onKey key))) h3 ho hsl marks_lt (Nat.le_trans (marksF_len _ _) (reg_len ho))) ?_
  rintro v11 σ4 hh ⟨⟨_, hsoh, rfl⟩, rfl⟩ _
  refine WL.pur (Pur.assign rfl) ?_
  refine WL.nil ?_
  refine WQ.thn ?_
  refine WC.ret ?_
  refine WQ.ret1 Try.results19 rfl hh (List.Sublist.append_left (List.Sublist.cons _ (List.Sublist.refl _)) _) (View.le_trans hle0 (View.le_trans hle2 hle3)) ?_
  exact ⟨_, by rw [← regHeld_marks]; exact hsoh, rfl⟩

theorem reg_Keys1 (σ : View) (bk bm : Nat) (dn : List (Nat × OpD)) (i : Nat) (o : OpD) (H1 : HList) (hK : KK bm dn σ H1) (hok : o.ok) (hb : dn.length ≤ 4194304) (hk : RdV σ bk 0 [.map (some bm)]) :
    Tri Try.prog 46 #[.int .i64 (i : Int), .agg o.cells.toArray, .pointer (some ⟨bk, 0, none⟩)] σ H1 (fun v σ' H' => KK bm (dn ++ [(i, o)]) σ' H' ∧ σ' = σ) := by
  obtain ⟨ents, sv, hk0, rest, hperm, hso, hget, hput⟩ := hK.open o.key
  have h1c := hso.one_cell
  refine Tri.of_body [(0, .int .i64 (i : Int)), (1, .agg o.cells.toArray), (2, .pointer (some ⟨bk, 0, none⟩))] Try.func46 rfl Try.ntmps46 (by simp) rfl (fun Hr => ?_)
  refine WC.perm (H0 := (bm, mapO Value.string ents) :: (hk0 ++ (rest ++ Hr))) ?_ (by have := (hperm.append_right Hr).symm; simpa using this)
  refine WC.seq ?_
  refine WC.region ?_
  refine WL.new (New.boxN rfl) (fun b4 => ?_)
  refine WL.nil ?_
  refine WQ.thn ?_
  refine WC.draw 10 11 ((b4, rowO 53 o.cells) :: (bm, mapO Value.string ents) :: []) mixed (by kernel_rfl) rfl ?_
  refine' SA.take 0 (by kernel_rfl) rfl rfl rfl (Wanted.plain rfl) zsL (View.le_refl _) (Pur.load1 rfl ty_95 ?h1_0) ?k1
  case h1_0 => exact RdV.rd hk
  refine SA.takeP 1 (by kernel_rfl) rfl rfl rfl (Wanted.plain rfl) (fun _ _ => Pur.fieldAddr rfl fo_53_1) ?_
  refine' SA.take 2 (by kernel_rfl) rfl rfl rfl (Wanted.plain rfl) zsL (View.le_refl _) (Pur.load1 rfl ty_9 ?h2_0) ?k2
  case h2_0 => first | (apply Rd.own1; exact zmE; rfl) | (apply RdV.rd; apply RdV.idx (i := 1); assumption; rfl) | (apply RdV.rd; apply RdV.idx (off := 0) (i := 1); assumption; rfl)
  refine' SA.take 3 (by kernel_rfl) rfl rfl rfl (Wanted.plain rfl) zsL (View.le_refl _) (Pur.load1 rfl ty_95 ?h3_0) ?k3
  case h3_0 => exact RdV.rd hk
  refine SA.takeP 4 (by kernel_rfl) rfl rfl rfl (Wanted.plain rfl) (fun _ _ => Pur.fieldAddr rfl fo_53_1) ?_
  refine' SA.take 5 (by kernel_rfl) rfl rfl rfl (Wanted.plain rfl) zsL (View.le_refl _) (Pur.load1 rfl ty_9 ?h4_0) ?k4
  case h4_0 => first | (apply Rd.own1; exact zmE; rfl) | (apply RdV.rd; apply RdV.idx (i := 1); assumption; rfl) | (apply RdV.rd; apply RdV.idx (off := 0) (i := 1); assumption; rfl)
  refine SA.take 6 (by kernel_rfl) rfl rfl rfl (Wanted.plain rfl) zsL (View.le_refl _) ((pur_look hget (Pur.lookup (K := Value.string) rfl rfl mt_95 (keyC_string isString_9) zv_90 (Or.inl (by repeat (first | exact List.Mem.head _ | apply List.Mem.tail | apply List.mem_append_right))) (fun _ _ => trivial) trivial))) ?_
  refine SA.takeW 7 (by kernel_rfl) rfl rfl rfl (Wanted.plain rfl) (tells_move rfl) ?_
  refine' SA.take 8 (by kernel_rfl) rfl rfl rfl (Wanted.plain rfl) zsL (View.le_refl _) (Pur.loadN rfl ty_53 ?h5_0 ?h5_1) ?k5
  case h5_0 => first | (apply Rd.own_sub; exact zmE; exact Sub.refl _) | (apply RdV.rd; assumption)
  case h5_1 => first | rfl | assumption
  refine SA.callR 9 (H1 := hk0) (Hr := (b4, rowO 53 o.cells) :: (bm, mapO Value.string ents) :: (rest ++ Hr)) rfl rfl (Wanted.plain rfl) (by kernel_rfl) rfl Try.call44 perm_3 (.inr ⟨zsL, View.le_refl _⟩) (reg_add _ sv _ hk0 i o hso hok (Nat.le_trans (marksF_len _ _) hb)) ?_
  rintro v14 _ hk2 ⟨hso2, rfl⟩ _
  have h1c2 := hso2.one_cell
  refine' SA.run 10 rfl (fun _ e => by cases e) (Wanted.plain rfl) (by kernel_rfl) (Run.mapUpdate rfl rfl rfl mt_95 (K := Value.string) (keyC_string isString_9) ?h6_0 ?h6_1 ?h6_2) (.inl (by decide)) ?k6
  case h6_0 => repeat (first | exact Part.one | exact Part.here | apply Part.cons | apply Part.app)
  case h6_1 => first | assumption | exact fun _ _ => trivial
  case h6_2 => first | assumption | trivial
  refine SA.done (by kernel_rfl) ?_
  refine WQ.ret0 Try.results46 (hk2 ++ (bm, mapO Value.string (mput ents o.key v14)) :: rest) (.inr rfl) (by rw [List.append_assoc]; exact List.Sublist.append_left (List.Sublist.cons _ (List.Sublist.refl _)) _) (View.le_refl _) ?_
  exact ⟨(hput (i, o) v14 hk2 rfl (by rw [marks_key, if_pos rfl]; exact hso2)).perm List.perm_middle, rfl⟩

theorem reg_Keys (σ : View) (pv : Value) (L : List EntD) (h : PastV σ pv L) (ho : OrdOk L) :
    Tri Try.prog 21 #[pv] σ [] (fun v σ' H' => ∃ h, SlO σ' eStr 9 1 v (regKeys L) h ∧ H' = h) := by
  have hN := reg_len ho
  have hkl := keysF_len (opsN L isReg L.length)
  refine Tri.of_body [(0, pv)] Try.func21 rfl Try.ntmps21 (by simp) rfl (fun Hr => ?_)
  rw [List.nil_append]
  refine WC.seq ?_
  refine WC.region ?_
  refine WL.pur (Pur.assign rfl) ?_
  refine WL.nil ?_
  refine WQ.thn ?_
  refine WC.seq ?_
  refine WC.region ?_
  refine WL.new (New.makeMap) (fun b7 => ?_)
  refine WL.new (New.alloc zc_95) (fun b3 => ?_)
  refine' WL.run0 (Run.store1 rfl rfl ty_95 (by first | rfl | assumption) ?h1_0 ?h1_1 sz_95) ?k1
  case h1_0 => repeat (first | exact Part.one | exact Part.here | apply Part.cons | apply Part.app)
  case h1_1 => first | exact Nat.le_of_ble_eq_true rfl | decide | (simp; done) | (simp; omega) | omega
  refine WL.nil ?_
  refine WQ.thn ?_
  refine WC.seq ?_
  refine WC.region ?_
  refine WL.give (H1 := []) (H2 := (b7, _) :: Hr) (fun hb3 => ?_)
  rw [List.nil_append]
  have hle0 := View.le_add (rowO 95 [.map (some b7)]) hb3
  have hk : RdV (σ.add b3 (rowO 95 [.map (some b7)])) b3 0 [.map (some b7)] := RdV.row (View.add_same _ _ _)
  refine WL.pur (Pur.move rfl) ?_
  refine WL.pur (Pur.makeFunc rfl rfl) ?_
  refine WL.call (H0 := [(b7, .map #[] 0)]) (Hr := Hr) rfl Try.call42 (List.Perm.refl _) (reg_each _ pv L (h.mono hle0) ho 46 [.pointer (some ⟨b3, 0, none⟩)] Try.call46 (fun dn σ' H' => KK b7 dn σ' H' ∧ RdV σ' b3 0 [.map (some b7)]) _ ⟨KK.nil _ _, hk⟩ (fun dn i o σ1 H1 hKr hle hi hdn hok hreg => (reg_Keys1 σ1 b3 b7 dn i o H1 hKr.1 hok hdn hKr.2).mono (by rintro v σ' H' ⟨hK', rfl⟩; exact ⟨hK', hKr.2⟩)) (fun dn σ1 σ2 H1 hKr hle => ⟨hKr.1.mono hle, hKr.2.mono hle⟩)) ?_
  rintro v10 σ2 _ ⟨⟨svs, hs, hperm, hsos⟩, hr2⟩ hle2
  refine WL.perm (H0 := (b7, mapO Value.string ((keysF (opsN L isReg L.length)).map fun k => (k, svs k))) :: ((keysF (opsN L isReg L.length)).flatMap hs ++ Hr)) ?_ (by have := (hperm.append_right Hr).symm; simpa using this)
  refine WL.giveL (byt := 32) (H1 := [(b7, _)]) (H2 := Hr) eMark_mono (fun k _ => by have := marksF_len k (opsN L isReg L.length); omega) hsos rfl (fun σ3 hle3 hsl3 => ?_)
  refine WL.give (H1 := []) (H2 := Hr) (fun hb7 => ?_)
  rw [List.nil_append]
  have hle4 := View.le_add (mapO Value.string ((keysF (opsN L isReg L.length)).map fun k => (k, svs k))) hb7
  have hmap : (σ3.add b7 (mapO Value.string ((keysF (opsN L isReg L.length)).map fun k => (k, svs k)))) b7 = some (mapO Value.string ((keysF (opsN L isReg L.length)).map fun k => (k, svs k))) := View.add_same _ _ _
  generalize σ3.add b7 (mapO Value.string ((keysF (opsN L isReg L.length)).map fun k => (k, svs k))) = σ4 at hle4 hmap ⊢
  have hr4 := hr2.mono (View.le_trans hle3 hle4)
  have h4 := h.mono (View.le_trans hle0 (View.le_trans hle2 (View.le_trans hle3 hle4)))
  have hsl4 := fun k hk => (hsl3 k hk).mono eMark_mono hle4
  refine WL.nil ?_
  refine WQ.thn ?_
  refine WC.seq ?_
  refine WC.region ?_
  refine WL.pur (Pur.assign rfl) ?_
  refine WL.nil ?_
  refine WQ.thn ?_
  refine WC.seq ?_
  refine WC.seq ?_
  refine WC.region ?_
  refine' WL.pur (Pur.load1 rfl ty_95 ?h2_0) ?k2
  case h2_0 => exact RdV.rd hr4
  refine WL.new (New.range (K := Value.string) (l := ((keysF (opsN L isReg L.length)).map fun k => (k, svs k))) rfl mt_95 (.inr hmap)) (fun b12 => ?_)
  refine WL.nil ?_
  refine WQ.thn ?_
  refine WC.block ?_
  refine WC.loop (fun j m σ' H' => ∃ (seen : List Nat) (sv : Value) (hl : HList), j = ((keysF (opsN L isReg L.length)).map fun k => (k, svs k)).length - seen.length ∧ seen.Nodup ∧ (∀ i ∈ seen, i < ((keysF (opsN L isReg L.length)).map fun k => (k, svs k)).length) ∧ SlO σ4 eStr 9 1 sv ((seenK (keysF (opsN L isReg L.length)) seen).filter (fun k => decide (0 < (regHeld L k).length))) hl ∧ m = [(0, pv), (4, sv), (12, .pointer (some ⟨b12, 0, none⟩))] ∧ σ' = σ4 ∧ H' = (b12, iterO b7 ((keysF (opsN L isReg L.length)).map fun k => (k, svs k)).length seen) :: (hl ++ Hr)) ⟨[], .slice none 0 0, [], rfl, List.nodup_nil, by simp, SlO.nil, rfl, rfl, rfl⟩ zcV zsL ?_
  rintro _ _ σ Hr ⟨seen, sv, hl, rfl, hnd, hbd, hso, rfl, rfl, rfl⟩
  refine WC.seq ?_
  refine WC.region ?_
  refine WL.any (Any.next (K := Value.string) (b := b7) (l := ((keysF (opsN L isReg L.length)).map fun k => (k, svs k))) (Hf := fun s => (b12, iterO b7 ((keysF (opsN L isReg L.length)).map fun k => (k, svs k)).length s) :: (hl ++ Hr)) rfl (fun s => Part.one) (.inr hmap)) ?_
  rintro _ _ _ ⟨more, seen', key, x, hnx, rfl, rfl, rfl⟩ _
  first | refine WL.pur (Pur.ex2_0 rfl) ?_ | refine WL.pur (Pur.ex3_0 rfl) ?_ | refine WL.pur (Pur.extractNext rfl) ?_ | refine WL.pur (Pur.extract rfl rfl) ?_
  refine WL.nil ?_
  refine WQ.thn ?_
  refine WC.seq ?_
  first | refine WC.cond rfl (fun hc0 => ?_) (fun hc0 => ?_) | refine WC.condB rfl (fun hc0 => ?_) (fun hc0 => ?_)
  · obtain ⟨i, hi1, hi2, rfl⟩ := hnx.1 hc0
    have hi3 : i < ((keysF (opsN L isReg L.length)).map fun k => (k, svs k)).length := (List.getElem?_eq_some_iff.1 hi2).1
    have hi4 : (keysF (opsN L isReg L.length))[i]? = some key ∧ svs key = x := by
      have hi5 := hi2
      rw [List.getElem?_map] at hi5
      cases hk : (keysF (opsN L isReg L.length))[i]? with
      | none => rw [hk] at hi5; cases hi5
      | some k' =>
        rw [hk] at hi5
        simp only [Option.map_some, Option.some.injEq, Prod.mk.injEq] at hi5
        exact ⟨by rw [hi5.1], by rw [← hi5.1]; exact hi5.2⟩
    obtain ⟨hik, rfl⟩ := hi4
    have hkm := List.mem_of_getElem? hik
    have hlt := seen_lt hnd hbd hi1 hi3
    have hkok : StrOk key := by
      obtain ⟨y, hy, rfl⟩ := (keysF_mem key _).1 hkm
      exact (past_opsOk h _ _ (opsN_fst hy).2.2).2.1
    have hnd2 : (seen ++ [i]).Nodup := List.nodup_append.2 ⟨hnd, by simp, fun a ha b hb he => by simp at hb; subst hb; subst he; exact hi1 ha⟩
    have hbd2 : ∀ k ∈ seen ++ [i], k < ((keysF (opsN L isReg L.length)).map fun k => (k, svs k)).length := fun k hk => by
      rcases List.mem_append.1 hk with hk | hk
      · exact hbd k hk
      · simp at hk; subst hk; exact hi3
    have hKl : ((keysF (opsN L isReg L.length)).map fun k => (k, svs k)).length = (keysF (opsN L isReg L.length)).length := List.length_map _
    have hfl : ((seenK (keysF (opsN L isReg L.length)) seen).filter (fun k => decide (0 < (regHeld L k).length))).length ≤ seen.length := Nat.le_trans (List.length_filter_le _ _) seenK_len
    refine WC.skip ?_
    refine WQ.thn ?_
    refine WC.block ?_
    refine WC.seq ?_
    refine WC.region ?_
    refine WL.pur (Pur.entry (K := Value.string) (b := b7) (seen := seen) rfl (by repeat (first | exact List.Mem.head _ | apply List.Mem.tail | apply List.mem_append_right)) (.inr hmap) hi2) ?_
    first | refine WL.pur (Pur.ex2_0 rfl) ?_ | refine WL.pur (Pur.ex3_0 rfl) ?_ | refine WL.pur (Pur.extractNext rfl) ?_ | refine WL.pur (Pur.extract rfl rfl) ?_
    first | refine WL.pur (Pur.ex2_1 rfl) ?_ | refine WL.pur (Pur.ex3_1 rfl) ?_ | refine WL.pur (Pur.extract rfl rfl) ?_
    refine WL.pur (Pur.assign rfl) ?_
    refine WL.pur (Pur.assign rfl) ?_
    refine WL.nil ?_
    refine WQ.thn ?_
    refine WC.seq ?_
    refine WC.region ?_
    refine WL.pur (Pur.move rfl) ?_
    refine WL.pur (Pur.move rfl) ?_
    refine WL.call (H0 := []) (Hr := (b12, iterO b7 ((keysF (opsN L isReg L.length)).map fun k => (k, svs k)).length (seen ++ [i])) :: (hl ++ Hr)) rfl Try.call45 (List.Perm.refl _) (reg_held _ pv (svs key) L (marks ((opsN L isReg L.length).filter (onKey key))) h4 ho (hsl4 key hkm) marks_lt (Nat.le_trans (marksF_len _ _) hN)) ?_
    rintro v20 _ hR ⟨⟨_, hsoR, rfl⟩, rfl⟩ _
    rw [regHeld_marks] at hsoR
    obtain ⟨ra, rc, rfl, hrc⟩ := hsoR.shape
    refine WL.pur (Pur.len rfl isSlice_54) ?_
    refine' WL.pur (Pur.bin rfl rfl ?h3_0) ?k3
    case h3_0 => first | exact Bin.gtN (b := 0) | exact Bin.gtI
    refine WL.nil ?_
    refine WQ.thn ?_
    first | refine WC.cond rfl (fun hc1 => ?_) (fun hc1 => ?_) | refine WC.condB rfl (fun hc1 => ?_) (fun hc1 => ?_)
    · refine WC.weak (H0 := (b12, iterO b7 ((keysF (opsN L isReg L.length)).map fun k => (k, svs k)).length (seen ++ [i])) :: (hl ++ Hr)) ?_ (Covers.refl _) (List.sublist_append_right _ _)
      refine WC.region ?_
      refine WL.pur (Pur.move rfl) ?_
      refine WL.pur (Pur.move rfl) ?_
      refine WL.new (New.buildSliceS (xs := [.tmp 24]) sl_54 zc_9 rfl rfl rfl (by rfl) (by rfl)) (fun b25 => ?_)
      refine' WL.any (Any.push (H1 := [(b25, _), (b12, _)]) (H2 := Hr) sl_54 zc_9 rfl by_9 rfl rfl hso ?h4_0 ?h4_1 ?h4_2 ?h4_3 rfl (by omega) (by omega)) ?k4
      case h4_0 => apply Rd.own_sub; exact zmE; exact Sub.refl _
      case h4_1 => first | rfl | assumption
      case h4_2 => first | rfl | assumption
      case h4_3 => exact ⟨rfl, hkok⟩
      rintro v26 σ _ ⟨hl3, hso3, rfl, rfl⟩ _
      refine WL.pur (Pur.assign rfl) ?_
      refine WL.nil ?_
      refine WQ.blk ?_
      refine WQ.back _ ⟨seen ++ [i], _, _, rfl, hnd2, hbd2, by rw [seenK_snoc hik, List.filter_append, show [key].filter (fun k => decide (0 < (regHeld L k).length)) = [key] from by simp [hc1]]; exact hso3, rfl, rfl, rfl⟩ (by rw [List.length_append]; simp only [List.length_cons, List.length_nil]; omega) zcV zsL
    · refine WC.weak (H0 := (b12, iterO b7 ((keysF (opsN L isReg L.length)).map fun k => (k, svs k)).length (seen ++ [i])) :: (hl ++ Hr)) ?_ (Covers.refl _) (List.sublist_append_right _ _)
      refine WC.skip ?_
      refine WQ.blk ?_
      refine WQ.back _ ⟨seen ++ [i], sv, hl, rfl, hnd2, hbd2, by rw [seenK_snoc hik, List.filter_append, show [key].filter (fun k => decide (0 < (regHeld L k).length)) = [] from by simpa using hc1, List.append_nil]; exact hso, rfl, rfl, rfl⟩ (by rw [List.length_append]; simp only [List.length_cons, List.length_nil]; omega) zcV zsL
  · obtain ⟨hall, hse⟩ := hnx.2 hc0
    have hse := hse.symm
    subst hse
    have hKl : ((keysF (opsN L isReg L.length)).map fun k => (k, svs k)).length = (keysF (opsN L isReg L.length)).length := List.length_map _
    have hsl0 := seen_len hnd hbd
    have hfl : ((seenK (keysF (opsN L isReg L.length)) seen).filter (fun k => decide (0 < (regHeld L k).length))).length ≤ seen.length := Nat.le_trans (List.length_filter_le _ _) seenK_len
    have hfin := keys_final (L := L) hnd (fun i hi => hall i (by rw [hKl]; exact hi))
    refine WC.exit ?_
    refine WQ.thn_exit ?_
    refine WQ.back_exit ?_
    refine WQ.blk_here ?_
    refine WQ.thn ?_
    refine WC.seq ?_
    refine WC.region ?_
    refine WL.pur (Pur.move rfl) ?_
    refine WL.call (H0 := hl) (Hr := (b12, iterO b7 ((keysF (opsN L isReg L.length)).map fun k => (k, svs k)).length seen) :: Hr) rfl Try.call47 List.perm_middle (slices_Sort _ sv _ hl hso (by omega)) ?_
    rintro v28 _ hl2 ⟨hso2, rfl⟩ _
    refine WL.nil ?_
    refine WQ.thn ?_
    refine WC.seq ?_
    refine WC.region ?_
    refine WL.pur (Pur.move rfl) ?_
    refine WL.pur (Pur.assign rfl) ?_
    refine WL.nil ?_
    refine WQ.thn ?_
    refine WC.ret ?_
    refine WQ.ret1 Try.results21 rfl hl2 (List.Sublist.append_left (List.Sublist.cons _ (List.Sublist.refl _)) _) (View.le_trans hle0 (View.le_trans hle2 (View.le_trans hle3 hle4))) ?_
    exact ⟨_, by rw [← hfin]; exact hso2, rfl⟩

end Go.Proofs.Ytgoooilgmabkmaa
namespace Go.Proofs.Ytgoooilgmabkmaa
open Go Go.Sl
set_option linter.unusedVariables false
set_option linter.unusedSimpArgs false
set_option maxRecDepth 100000

theorem op0_ok : op0.ok := ⟨by unfold I64; decide, by unfold StrOk; decide, by unfold StrOk; decide, by unfold I64; decide, isH0, by unfold I64; decide⟩
theorem e0_isH : IsH (2 ^ 248) := by unfold IsH HashMax; exact Nat.pow_lt_pow_right (by decide) (by decide)
theorem ord0 : OrdOk [e0] := by have := ordE_ok good0; rwa [ordE_single good0] at this
theorem regHeld_len {L : List EntD} (ho : OrdOk L) (key : ByteArray) : (regHeld L key).length ≤ 4194304 := by
  unfold regHeld keyOps
  exact Nat.le_trans (heldS_len _ _) (Nat.le_trans (List.length_filter_le _ _) (reg_len ho))
theorem regKeys_len {L : List EntD} (ho : OrdOk L) : (regKeys L).length ≤ 4194304 := by
  unfold regKeys
  refine Nat.le_trans (List.length_filter_le _ _) ?_
  rw [keysR_eq]
  refine Nat.le_trans (dedup_len _) ?_
  rw [textsL_len]
  unfold keysOf
  rw [List.length_map]
  exact reg_len ho

theorem law14_awake (σ : View) :
    Tri Try.prog 16 #[] σ [] (fun v σ' H' => v = .bool true ∧ H' = []) := by
  refine Tri.of_body [] Try.func16 rfl Try.ntmps16 (by simp) rfl (fun Hr => ?_)
  rw [List.nil_append]
  refine WC.seq ?_
  refine WC.region ?_
  refine WL.pur (Pur.assign rfl) ?_
  refine WL.nil ?_
  refine WQ.thn ?_
  refine WC.seq ?_
  refine WC.region ?_
  refine WL.pur (Pur.build (l := (opCells 1 kB oneB 0 0 0)) pl_53 zc_53 rfl rfl) ?_
  refine WL.new (New.alloc zc_53) (fun b1 => ?_)
  refine' WL.run0 (Run.storeAll rfl rfl ty_53 ?h1_0 (by first | rfl | assumption) ?h1_1 (by first | rfl | assumption)) ?k1
  case h1_0 => repeat (first | exact Part.one | exact Part.here | apply Part.cons | apply Part.app)
  case h1_1 => first | rfl | assumption
  refine WL.nil ?_
  refine WQ.thn ?_
  refine WC.seq ?_
  refine WC.region ?_
  refine WL.pur (Pur.buildA (us := (hashCells (2 ^ 248))) zc_31 ar_31 rfl rfl rfl) ?_
  refine' WL.pur (Pur.loadN rfl ty_53 ?h2_0 ?h2_1) ?k2
  case h2_0 => first | (apply Rd.own_sub; exact zmE; exact Sub.refl _) | (apply RdV.rd; assumption)
  case h2_1 => first | rfl | assumption
  refine WL.new (New.buildSliceN (xs := [.tmp 10]) (vss := [opCells 1 kB oneB 0 0 0]) sl_33 zc_53 rfl rfl rfl (by rfl) (by rfl)) (fun b11 => ?_)
  refine WL.pur (Pur.build (l := nodeCells _ _ _ _) pl_35 zc_35 rfl rfl) ?_
  refine WL.pur (Pur.build (l := entCells _ _ _ _ _) pl_37 zc_37 rfl rfl) ?_
  refine WL.new (New.buildSliceN (xs := [.tmp 13]) (vss := [entCells (2 ^ 248) 1 1 (.slice none 0 0) (.slice (some ⟨b11, 0, none⟩) 1 1)]) sl_23 zc_37 rfl rfl rfl (by rfl) (by rfl)) (fun b14 => ?_)
  refine WL.giveS (E := eOp) (byt := 88) (H1 := [(b14, _)]) (H2 := (b1, _) :: Hr) eOp_mono (SlO.row (T := 53) (b := b11) (ElR.single (σ := σ) (sz := 37) (x := op0) rfl rfl ⟨rfl, op0_ok⟩)) (by decide) rfl (fun σ1 hle1 hsl1 => ?_)
  rw [List.singleton_append]
  refine WL.giveS (E := eEnt) (byt := 96) (H1 := []) (H2 := (b1, _) :: Hr) eEnt_mono (SlO.row (T := 37) (b := b14) (ElR.single (σ := σ1) (sz := 36) (x := e0) rfl rfl ⟨_, _, rfl, e0_isH, SlE.nilS, hsl1, by unfold I64; decide, by unfold I64; decide⟩)) (by decide) rfl (fun σ2 hle2 hsl2 => ?_)
  rw [List.nil_append]
  refine WL.call (H0 := []) (Hr := (b1, _) :: Hr) rfl Try.call10 (List.Perm.refl _) (past_Of _ _ [e0] hsl2) ?_
  rintro v15 σ3 _ ⟨hd, rfl⟩ hle3
  rw [List.nil_append]
  obtain ⟨_, pv, rfl, hpv⟩ := hd.resolve_right (fun h => h.1 right0)
  rw [ordE_single good0] at hpv
  have hp2 := hpv
  obtain ⟨pb, _, _, _, rfl, _⟩ := hp2
  refine WL.pur (Pur.move rfl) ?_
  first | refine WL.pur (Pur.ex2_0 rfl) ?_ | refine WL.pur (Pur.ex3_0 rfl) ?_ | refine WL.pur (Pur.extractNext rfl) ?_ | refine WL.pur (Pur.extract rfl rfl) ?_
  first | refine WL.pur (Pur.ex2_1 rfl) ?_ | refine WL.pur (Pur.ex3_1 rfl) ?_ | refine WL.pur (Pur.extract rfl rfl) ?_
  first | refine WL.pur (Pur.ex3_2 rfl) ?_ | refine WL.pur (Pur.extract rfl rfl) ?_
  refine WL.pur (Pur.assign rfl) ?_
  refine WL.pur (Pur.assign rfl) ?_
  refine WL.pur (Pur.assign rfl) ?_
  refine WL.nil ?_
  refine WQ.thn ?_
  refine WC.seq ?_
  refine WC.seq ?_
  refine WC.region ?_
  refine WL.pur (Pur.move rfl) ?_
  refine' WL.pur (Pur.bin rfl rfl ?h3_0) ?k3
  case h3_0 => first | exact Bin.neN (b := 0) | exact Bin.neI
  refine WL.pur (Pur.move rfl) ?_
  refine' WL.orp (u := 21) (t := 24) rfl ?h4_0 ?h4_1 ?h4_2 rfl ?k4
  case h4_0 =>
    intro hg21 K21
    refine WL.gpur (u := 21) rfl rfl (gF hg21) (Pur.move rfl) ?_
    refine' WL.gpur (u := 21) rfl rfl (gF hg21) (Pur.bin rfl rfl ?h5_0) ?k5
    case h5_0 => exact Bin.eqP isPtr_25
    exact K21 _ zcR rfl
  case h4_1 =>
    intro hg21 K21
    refine WL.gskip (u := 21) rfl rfl (sF hg21) ?_
    refine WL.gskip (u := 21) rfl rfl (sF hg21) ?_
    exact K21 _ zcR
  case h4_2 => exact Wanted.plain rfl
  refine WL.nil ?_
  refine WQ.thn ?_
  first | refine WC.cond rfl (fun hc0 => ?_) (fun hc0 => ?_) | refine WC.condB rfl (fun hc0 => ?_) (fun hc0 => ?_)
  · exact absurd hc0 (by simp)
  · refine WC.skip ?_
    refine WQ.thn ?_
    refine WC.seq ?_
    refine WC.region ?_
    refine WL.pur (Pur.move rfl) ?_
    refine WL.call (H0 := []) (Hr := (b1, _) :: Hr) rfl Try.call19 (List.Perm.refl _) (reg_Read _ _ [e0] kB hpv ord0) ?_
    rintro v26 σ4 _ ⟨_, hso4, rfl⟩ hle4
    rw [held_k] at hso4
    refine WL.giveS (byt := 16) (H1 := []) (H2 := (b1, _) :: Hr) eStr_mono hso4 (by decide) rfl (fun σ5 hle5 hsl5 => ?_)
    rw [List.nil_append]
    have hpv5 := hpv.mono (View.le_trans hle4 hle5)
    obtain ⟨ra, rc, rfl, hrc, _⟩ := hsl5.shape
    obtain ⟨rb, roff, her⟩ := addr_of hsl5
    refine WL.pur (Pur.move rfl) ?_
    refine WL.call (H0 := []) (Hr := (b1, _) :: Hr) rfl Try.call21 (List.Perm.refl _) (reg_Keys _ _ [e0] hpv5 ord0) ?_
    rintro v28 σ6 _ ⟨_, hso6, rfl⟩ hle6
    rw [keys_0] at hso6
    refine WL.giveS (byt := 16) (H1 := []) (H2 := (b1, _) :: Hr) eStr_mono hso6 (by decide) rfl (fun σ7 hle7 hK => ?_)
    rw [List.nil_append]
    have hpv7 := hpv5.mono (View.le_trans hle6 hle7)
    have hA := hsl5.mono eStr_mono (View.le_trans hle6 hle7)
    obtain ⟨ka, kc, rfl, hkc, _⟩ := hK.shape
    obtain ⟨kb, koff, hek⟩ := addr_of hK
    refine WL.pur (Pur.assign rfl) ?_
    refine WL.pur (Pur.assign rfl) ?_
    refine WL.nil ?_
    refine WQ.thn ?_
    refine WC.seq ?_
    refine WC.region ?_
    refine WL.pur (Pur.move rfl) ?_
    refine WL.pur (Pur.len rfl isSlice_54) ?_
    refine' WL.pur (Pur.bin rfl rfl ?h6_0) ?k6
    case h6_0 => first | exact Bin.eqN (b := 1) | exact Bin.eqI
    refine WL.pur (Pur.move rfl) ?_
    refine' WL.andp (u := 32) (t := 37) rfl ?h7_0 ?h7_1 ?h7_2 rfl ?k7
    case h7_0 =>
      intro hg32 K32
      have hr1 := str_rd hA her (show 0 < [oneB].length by decide)
      refine WL.gpur (u := 32) rfl rfl (gT hg32) (Pur.move rfl) ?_
      refine' WL.gpur (u := 32) rfl rfl (gT hg32) (Pur.indexAddr (i := 0) (eqA (her (by decide))) rfl sl_54 ?h8_0) ?k8
      case h8_0 => decide
      refine' WL.gpur (u := 32) rfl rfl (gT hg32) (Pur.load1 rfl ty_9 ?h9_0) ?k9
      case h9_0 => exact RdV.rd hr1.1
      refine' WL.gpur (u := 32) rfl rfl (gT hg32) (Pur.bin rfl rfl ?h10_0) ?k10
      case h10_0 => exact Bin.eqS
      exact K32 _ zcR rfl
    case h7_1 =>
      intro hg32 K32
      refine WL.gskip (u := 32) rfl rfl (sT hg32) ?_
      refine WL.gskip (u := 32) rfl rfl (sT hg32) ?_
      refine WL.gskip (u := 32) rfl rfl (sT hg32) ?_
      refine WL.gskip (u := 32) rfl rfl (sT hg32) ?_
      exact K32 _ zcR
    case h7_2 => exact Wanted.plain rfl
    refine WL.pur (Pur.move rfl) ?_
    refine' WL.andp (u := 38) (t := 42) rfl ?h11_0 ?h11_1 ?h11_2 rfl ?k11
    case h11_0 =>
      intro hg38 K38
      refine WL.gpur (u := 38) rfl rfl (gT hg38) (Pur.move rfl) ?_
      refine WL.gpur (u := 38) rfl rfl (gT hg38) (Pur.len rfl isSlice_54) ?_
      refine' WL.gpur (u := 38) rfl rfl (gT hg38) (Pur.bin rfl rfl ?h12_0) ?k12
      case h12_0 => first | exact Bin.eqN (b := 1) | exact Bin.eqI
      exact K38 _ zcR rfl
    case h11_1 =>
      intro hg38 K38
      refine WL.gskip (u := 38) rfl rfl (sT hg38) ?_
      refine WL.gskip (u := 38) rfl rfl (sT hg38) ?_
      refine WL.gskip (u := 38) rfl rfl (sT hg38) ?_
      exact K38 _ zcR
    case h11_2 => exact Wanted.plain rfl
    refine WL.pur (Pur.move rfl) ?_
    refine' WL.andp (u := 43) (t := 48) rfl ?h13_0 ?h13_1 ?h13_2 rfl ?k13
    case h13_0 =>
      intro hg43 K43
      have hk1 := str_rd hK hek (show 0 < [kB].length by decide)
      refine WL.gpur (u := 43) rfl rfl (gT hg43) (Pur.move rfl) ?_
      refine' WL.gpur (u := 43) rfl rfl (gT hg43) (Pur.indexAddr (i := 0) (eqA (hek (by decide))) rfl sl_54 ?h14_0) ?k14
      case h14_0 => decide
      refine' WL.gpur (u := 43) rfl rfl (gT hg43) (Pur.load1 rfl ty_9 ?h15_0) ?k15
      case h15_0 => exact RdV.rd hk1.1
      refine' WL.gpur (u := 43) rfl rfl (gT hg43) (Pur.bin rfl rfl ?h16_0) ?k16
      case h16_0 => exact Bin.eqS
      exact K43 _ zcR rfl
    case h13_1 =>
      intro hg43 K43
      refine WL.gskip (u := 43) rfl rfl (sT hg43) ?_
      refine WL.gskip (u := 43) rfl rfl (sT hg43) ?_
      refine WL.gskip (u := 43) rfl rfl (sT hg43) ?_
      refine WL.gskip (u := 43) rfl rfl (sT hg43) ?_
      exact K43 _ zcR
    case h13_2 => exact Wanted.plain rfl
    refine WL.pur (Pur.move rfl) ?_
    refine' WL.andp (u := 49) (t := 54) rfl ?h17_0 ?h17_1 ?h17_2 rfl ?k17
    case h17_0 =>
      intro hg49 K49
      refine WL.gpur (u := 49) rfl rfl (gT hg49) (Pur.move rfl) ?_
      refine WL.gcallR (H0 := []) (u := 49) rfl rfl (gT hg49) rfl Try.call19 (List.Perm.refl _) (reg_Read _ _ [e0] lB hpv7 ord0) ?_
      rintro v51 σ8 _ ⟨_, hso8, rfl⟩ hle8
      rw [held_l] at hso8
      obtain ⟨za, zc, rfl, _⟩ := hso8.shape
      refine WL.gpur (u := 49) rfl rfl (gT hg49) (Pur.len rfl isSlice_54) ?_
      refine' WL.gpur (u := 49) rfl rfl (gT hg49) (Pur.bin rfl rfl ?h18_0) ?k18
      case h18_0 => first | exact Bin.eqN (b := 0) | exact Bin.eqI
      refine WL.le hle8 (WL.sub ?_ (List.sublist_append_right _ _))
      exact K49 _ zcR rfl
    case h17_1 =>
      intro hg49 K49
      refine WL.gskip (u := 49) rfl rfl (sT hg49) ?_
      refine WL.gskip (u := 49) rfl rfl (sT hg49) ?_
      refine WL.gskip (u := 49) rfl rfl (sT hg49) ?_
      refine WL.gskip (u := 49) rfl rfl (sT hg49) ?_
      exact K49 _ zcR
    case h17_2 => exact Wanted.plain rfl
    refine WL.pur (Pur.assign rfl) ?_
    refine WL.nil ?_
    refine WQ.thn ?_
    refine WC.ret ?_
    refine WQ.ret1 Try.results16 rfl [] zsL (View.le_trans hle1 (View.le_trans hle2 (View.le_trans hle3 (View.le_trans hle4 (View.le_trans hle5 (View.le_trans hle6 hle7)))))) ?_
    exact ⟨(boolT (by decide)).symm, rfl⟩

end Go.Proofs.Ytgoooilgmabkmaa
namespace Go.Proofs.Ytgoooilgmabkmaa
open Go Go.Sl
set_option linter.unusedVariables false
set_option linter.unusedSimpArgs false
set_option maxRecDepth 100000

theorem row_nil (σ : View) (b : Nat) : SlO σ eNat 3 1 (.slice (some ⟨b, 0, none⟩) 0 0) ([] : List Nat) [(b, rowO 3 [])] := SlO.row (b := b) (ElR.nil (σ := σ) (E := eNat) (sz := 1))
theorem row_one (σ : View) (b x : Nat) : SlO σ eNat 3 1 (.slice (some ⟨b, 0, none⟩) 1 1) [x] [(b, rowO 3 [.int .i64 (x : Int)])] := SlO.row (b := b) (vss := [[.int .i64 (x : Int)]]) (ElR.nil.push (l := []) (vss := []) rfl rfl rfl)
theorem merge_drop {le : Nat → Nat → Bool} {a b : List Nat} {i k : Nat} (hx : i < a.length) (hy : k < b.length) :
    List.merge (a.drop i) (b.drop k) le = if le (a.getD i 0) (b.getD k 0) then a.getD i 0 :: List.merge (a.drop (i + 1)) (b.drop k) le else b.getD k 0 :: List.merge (a.drop i) (b.drop (k + 1)) le := by
  rw [drop_getD hx, drop_getD hy, List.cons_merge_cons]
theorem merge_left {le : Nat → Nat → Bool} {a b : List Nat} {i k : Nat} (hx : i < a.length) (hk : b.length ≤ k) :
    List.merge (a.drop i) (b.drop k) le = a.getD i 0 :: List.merge (a.drop (i + 1)) (b.drop k) le := by
  rw [List.drop_eq_nil_of_le hk, List.merge_right, List.merge_right, drop_getD hx]
theorem merge_right' {le : Nat → Nat → Bool} {a b : List Nat} {i k : Nat} (hy : k < b.length) (hi : a.length ≤ i) :
    List.merge (a.drop i) (b.drop k) le = b.getD k 0 :: List.merge (a.drop i) (b.drop (k + 1)) le := by
  rw [List.drop_eq_nil_of_le hi, List.nil_merge, List.nil_merge, drop_getD hy]
theorem cmpH_le {x y : Nat} : cmpH x y ≤ 0 ↔ x ≤ y := by unfold cmpH; split; omega; split <;> omega

end Go.Proofs.Ytgoooilgmabkmaa
namespace Go.Proofs.Ytgoooilgmabkmaa
open Go Go.Sl
set_option linter.unusedVariables false
set_option linter.unusedSimpArgs false
set_option maxRecDepth 100000

end Go.Proofs.Ytgoooilgmabkmaa
namespace Go.Proofs.Ytgoooilgmabkmaa
open Go Go.Sl
set_option linter.unusedVariables false
set_option linter.unusedSimpArgs false
set_option maxRecDepth 100000

theorem numV_neg {o : Option Nat} : numV o < 0 ↔ o = none := by
  cases o with
  | none => simp [numV]
  | some k => simp [numV]
theorem mcl_max {l : List EntD} {ps : List Nat} {q p k : Nat} {e : EntD} (hp : ps[q]? = some p) (hk : idxOf l p = some k) (he : l[k]? = some e) : mcl l (ps.take (q + 1)) = max (mcl l (ps.take q)) e.node.cl := by
  rw [mcl_take hp]; unfold clAt; rw [hk]; simp [he]

end Go.Proofs.Ytgoooilgmabkmaa
namespace Go.Proofs.Ytgoooilgmabkmaa
open Go Go.Sl
set_option linter.unusedVariables false
set_option linter.unusedSimpArgs false
set_option maxRecDepth 100000

theorem row_in {N i : Nat} {f : Nat → Nat} {g : Nat → Value} (hg : ∀ k, k < N → g k = .int .i64 ((if k < i then f k else 0 : Nat) : Int)) : ∀ k, k < N → g k = .int .i64 ((if k < i then f k else if k = i then 0 else 0 : Nat) : Int) := fun k hk => by
  rw [hg k hk]; congr 2; split; rfl; split <;> rfl
theorem row_step {N i q : Nat} {f : Nat → Nat} {g : Nat → Value} (hg : ∀ k, k < N → g k = .int .i64 ((if k < i then f k else if k = i then q else 0 : Nat) : Int)) : ∀ k, k < N → (if k = i then (.int .i64 ((q + 1 : Nat) : Int)) else g k) = .int .i64 ((if k < i then f k else if k = i then q + 1 else 0 : Nat) : Int) := fun k hk => by
  by_cases h1 : k = i
  · subst h1; simp
  · rw [if_neg h1, hg k hk, if_neg h1, if_neg h1]
theorem row_out {N i q : Nat} {f : Nat → Nat} {g : Nat → Value} (hq : f i = q) (hg : ∀ k, k < N → g k = .int .i64 ((if k < i then f k else if k = i then q else 0 : Nat) : Int)) : ∀ k, k < N → g k = .int .i64 ((if k < i + 1 then f k else 0 : Nat) : Int) := fun k hk => by
  rw [hg k hk]; congr 2
  by_cases h1 : k < i
  · rw [if_pos h1, if_pos (by omega)]
  · by_cases h2 : k = i
    · subst h2; simp [hq]
    · rw [if_neg h1, if_neg h2, if_neg (by omega)]
theorem i64N {a b : Nat} (h : a = b) : Value.int .i64 (a : Int) = Value.int .i64 (b : Int) := by rw [h]

end Go.Proofs.Ytgoooilgmabkmaa
namespace Go.Proofs.Ytgoooilgmabkmaa
open Go Go.Sl
set_option linter.unusedVariables false
set_option linter.unusedSimpArgs false
set_option maxRecDepth 100000

end Go.Proofs.Ytgoooilgmabkmaa
namespace Go.Proofs.Ytgoooilgmabkmaa
open Go Go.Sl
set_option linter.unusedVariables false
set_option linter.unusedSimpArgs false
set_option maxRecDepth 100000

end Go.Proofs.Ytgoooilgmabkmaa
namespace Go.Proofs.Ytgoooilgmabkmaa
open Go Go.Sl
set_option linter.unusedVariables false
set_option linter.unusedSimpArgs false
set_option maxRecDepth 100000

end Go.Proofs.Ytgoooilgmabkmaa
namespace Go.Proofs.Ytgoooilgmabkmaa
open Go Go.Sl
set_option linter.unusedVariables false
set_option linter.unusedSimpArgs false
set_option maxRecDepth 100000

end Go.Proofs.Ytgoooilgmabkmaa
namespace Go.Proofs.Ytgoooilgmabkmaa
open Go Go.Sl
set_option linter.unusedVariables false
set_option linter.unusedSimpArgs false
set_option maxRecDepth 100000

theorem ents_isH {σ : View} {lv : Value} {L : List EntD} (h : Ents σ lv L) : ∀ e ∈ L, IsH e.id := by
  intro e he
  obtain ⟨i, hi⟩ := List.getElem?_of_mem he
  obtain ⟨a, c, rfl, _⟩ := h.shape
  obtain ⟨b, off, hb⟩ := addr_of h
  obtain ⟨_, _, _, hH, _⟩ := ent_rd h hb hi
  exact hH

theorem past_Len (σ : View) (pv : Value) (L : List EntD) (h : PastV σ pv L) :
    TriP Try.prog 11 #[pv] σ (.int .i64 (L.length : Int)) := by
  obtain ⟨b, mb, lv, sv, rfl, hr, hl, hm, hs⟩ := h
  obtain ⟨la, lc, rfl, hlc, hlb⟩ := hl.shape
  obtain ⟨sa, sc, rfl, hsc, hsb⟩ := hs.shape
  refine Tri.of_body [(0, .pointer (some ⟨b, 0, none⟩))] Try.func11 rfl Try.ntmps11 (by simp) rfl (fun Hr => ?_)
  rw [List.nil_append]
  refine WC.seq ?_
  refine WC.region ?_
  refine WL.pur (Pur.assign rfl) ?_
  refine WL.nil ?_
  refine WQ.thn ?_
  refine WC.seq ?_
  refine WC.region ?_
  refine WL.pur (Pur.move rfl) ?_
  refine WL.pur (Pur.nilCheck rfl) ?_
  refine WL.pur (Pur.fieldAddr rfl fo_84_0) ?_
  refine' WL.pur (Pur.load1 rfl ty_23 ?h1_0) ?k1
  case h1_0 => first | (apply Rd.own1; exact zmE; rfl) | (apply RdV.rd; apply RdV.idx (i := 0); assumption; rfl)
  refine WL.pur (Pur.len rfl isSlice_23) ?_
  refine WL.pur (Pur.assign rfl) ?_
  refine WL.nil ?_
  refine WQ.thn ?_
  refine WC.ret ?_
  refine WQ.ret1 Try.results11 rfl [] zsL (View.le_refl _) ?_
  refine ⟨?_, rfl, rfl⟩
  rfl

theorem past_Number (σ : View) (pv : Value) (L : List EntD) (id : Nat) (h : PastV σ pv L) (hid : IsH id) :
    TriP Try.prog 23 #[pv, hashV id] σ (.int .i64 (numV (idxOf L id))) := by
  obtain ⟨b, mb, lv, sv, rfl, hr, hl, hm, hs⟩ := h
  have hok := ids_ok (ents_isH hl) 0
  have hmg := mget_ids0 L id
  obtain ⟨la, lc, rfl, hlc, hlb⟩ := hl.shape
  obtain ⟨sa, sc, rfl, hsc, hsb⟩ := hs.shape
  refine Tri.of_body [(0, .pointer (some ⟨b, 0, none⟩)), (1, hashV id)] Try.func23 rfl Try.ntmps23 (by simp) rfl (fun Hr => ?_)
  rw [List.nil_append]
  refine WC.seq ?_
  refine WC.region ?_
  refine WL.new (New.boxN rfl) (fun b3 => ?_)
  refine WL.pur (Pur.assign rfl) ?_
  refine WL.nil ?_
  refine WQ.thn ?_
  refine WC.seq ?_
  refine WC.seq ?_
  refine WC.drawH 11 11 mixed (by kernel_rfl) rfl ?_
  refine SA.take 0 (by kernel_rfl) rfl rfl rfl (Wanted.plain rfl) zsL (View.le_refl _) (Pur.move rfl) ?_
  refine SA.take 1 (by kernel_rfl) rfl rfl rfl (Wanted.plain rfl) zsL (View.le_refl _) (Pur.nilCheck rfl) ?_
  refine SA.take 2 (by kernel_rfl) rfl rfl rfl (Wanted.plain rfl) zsL (View.le_refl _) (Pur.fieldAddr rfl fo_84_1) ?_
  refine' SA.take 3 (by kernel_rfl) rfl rfl rfl (Wanted.plain rfl) zsL (View.le_refl _) (Pur.load1 rfl ty_77 ?h1_0) ?k1
  case h1_0 => first | (apply Rd.own1; exact zmE; rfl) | (apply RdV.rd; apply RdV.idx (i := 1); assumption; rfl) | (apply RdV.rd; apply RdV.idx (off := 0) (i := 1); assumption; rfl)
  refine' SA.take 4 (by kernel_rfl) rfl rfl rfl (Wanted.plain rfl) zsL (View.le_refl _) (Pur.loadN rfl ty_31 ?h2_0 ?h2_1) ?k2
  case h2_0 => first | (apply Rd.own_sub; exact zmE; exact Sub.refl _) | (apply RdV.rd; assumption)
  case h2_1 => first | rfl | assumption
  refine' SA.take 5 (by kernel_rfl) rfl rfl rfl (Wanted.plain rfl) zsL (View.le_refl _) (Pur.lookupOk rfl rfl mt_77 (K := hashV) (keyC_hash isHKey_31) zv_3 ?h3_0 ?h3_1 ?h3_2) ?k3
  case h3_0 => first | (right; assumption) | (left; focus repeat (first | exact List.Mem.head _ | apply List.Mem.tail | apply List.mem_append_right))
  case h3_1 => first | assumption | exact fun _ _ => trivial
  case h3_2 => first | assumption | trivial
  refine SA.take 6 (by kernel_rfl) rfl rfl rfl (Wanted.plain rfl) zsL (View.le_refl _) (Pur.move rfl) ?_
  first | refine SA.take 7 (by kernel_rfl) rfl rfl rfl (Wanted.plain rfl) zsL (View.le_refl _) (Pur.ex2_0 rfl) ?_ | refine SA.take 7 (by kernel_rfl) rfl rfl rfl (Wanted.plain rfl) zsL (View.le_refl _) (Pur.ex3_0 rfl) ?_ | refine SA.take 7 (by kernel_rfl) rfl rfl rfl (Wanted.plain rfl) zsL (View.le_refl _) (Pur.extractNext rfl) ?_ | refine SA.take 7 (by kernel_rfl) rfl rfl rfl (Wanted.plain rfl) zsL (View.le_refl _) (Pur.extract rfl rfl) ?_
  first | refine SA.take 8 (by kernel_rfl) rfl rfl rfl (Wanted.plain rfl) zsL (View.le_refl _) (Pur.ex2_1 rfl) ?_ | refine SA.take 8 (by kernel_rfl) rfl rfl rfl (Wanted.plain rfl) zsL (View.le_refl _) (Pur.ex3_1 rfl) ?_ | refine SA.take 8 (by kernel_rfl) rfl rfl rfl (Wanted.plain rfl) zsL (View.le_refl _) (Pur.extract rfl rfl) ?_
  refine SA.take 9 (by kernel_rfl) rfl rfl rfl (Wanted.plain rfl) zsL (View.le_refl _) (Pur.assign rfl) ?_
  refine SA.take 10 (by kernel_rfl) rfl rfl rfl (Wanted.plain rfl) zsL (View.le_refl _) (Pur.assign rfl) ?_
  refine SA.done (by kernel_rfl) ?_
  refine WQ.thn ?_
  refine WC.seq ?_
  refine WC.region ?_
  refine WL.pur (Pur.move rfl) ?_
  refine WL.nil ?_
  refine WQ.thn ?_
  first | refine WC.cond rfl (fun hc0 => ?_) (fun hc0 => ?_) | refine WC.condB rfl (fun hc0 => ?_) (fun hc0 => ?_)
  · obtain ⟨k, hk⟩ : ∃ k, idxOf L id = some k := by cases hx : idxOf L id with | none => rw [hx] at hmg; rw [hmg] at hc0; cases hc0 | some k => exact ⟨k, rfl⟩
    rw [hk] at hmg
    refine WC.seq ?_
    refine WC.region ?_
    refine WL.pur (Pur.move rfl) ?_
    refine WL.pur (Pur.assign rfl) ?_
    refine WL.nil ?_
    refine WQ.thn ?_
    refine WC.ret ?_
    refine WQ.thn_ret ?_
    refine WQ.ret1 Try.results23 rfl [] zsL (View.le_refl _) ?_
    refine ⟨?_, rfl, rfl⟩
    rw [hmg, hk]; rfl
  · have hk : idxOf L id = none := by cases hx : idxOf L id with | none => rfl | some k => rw [hx] at hmg; rw [hmg] at hc0; cases hc0
    refine WC.skip ?_
    refine WQ.thn ?_
    refine WC.seq ?_
    refine WC.region ?_
    refine WL.pur (Pur.assign rfl) ?_
    refine WL.nil ?_
    refine WQ.thn ?_
    refine WC.ret ?_
    refine WQ.ret1 Try.results23 rfl [] zsL (View.le_refl _) ?_
    refine ⟨?_, rfl, rfl⟩
    rw [hk]; rfl

theorem past_Entry (σ : View) (pv : Value) (L : List EntD) (i : Int) (h : PastV σ pv L) :
    Tri Try.prog 12 #[pv, .int .i64 i] σ [] (fun v σ' H' => ((∃ (k : Nat) (e : EntD) (qv ov : Value), i = (k : Int) ∧ L[k]? = some e ∧ v = .tuple #[.agg (entCells e.id e.node.au e.node.cl qv ov).toArray, .int .i64 0] ∧ NodeR σ' e.node qv ov) ∨ ((i < 0 ∨ (L.length : Int) ≤ i) ∧ v = .tuple #[.agg (entCells 0 0 0 (.slice none 0 0) (.slice none 0 0)).toArray, .int .i64 2])) ∧ H' = []) := by
  obtain ⟨b, mb, lv, sv, rfl, hr, hl, hm, hs⟩ := h
  obtain ⟨la, lc, rfl, hlc, hlb⟩ := hl.shape
  obtain ⟨sa, sc, rfl, hsc, hsb⟩ := hs.shape
  obtain ⟨ab, aoff, hel⟩ := addr_of hl
  refine Tri.of_body [(0, .pointer (some ⟨b, 0, none⟩)), (1, .int .i64 i)] Try.func12 rfl Try.ntmps12 (by simp) rfl (fun Hr => ?_)
  rw [List.nil_append]
  refine WC.seq ?_
  refine WC.region ?_
  refine WL.new (New.alloc zc_37) (fun b4 => ?_)
  refine WL.pur (Pur.assign rfl) ?_
  refine WL.nil ?_
  refine WQ.thn ?_
  refine WC.seq ?_
  refine WC.seq ?_
  refine WC.region ?_
  refine WL.pur (Pur.move rfl) ?_
  refine' WL.pur (Pur.bin rfl rfl ?h1_0) ?k1
  case h1_0 => first | exact Bin.ltN (b := 0) | exact Bin.ltI | exact Bin.ltS
  refine WL.pur (Pur.move rfl) ?_
  refine' WL.orp (u := 8) (t := 16) rfl ?h2_0 ?h2_1 ?h2_2 rfl ?k2
  case h2_0 =>
    intro hg8 K8
    refine WL.gpur (u := 8) rfl rfl (gF hg8) (Pur.move rfl) ?_
    refine WL.gpur (u := 8) rfl rfl (gF hg8) (Pur.move rfl) ?_
    refine WL.gpur (u := 8) rfl rfl (gF hg8) (Pur.nilCheck rfl) ?_
    refine WL.gpur (u := 8) rfl rfl (gF hg8) (Pur.fieldAddr rfl fo_84_0) ?_
    refine' WL.gpur (u := 8) rfl rfl (gF hg8) (Pur.load1 rfl ty_23 ?h3_0) ?k3
    case h3_0 => first | (apply Rd.own1; exact zmE; rfl) | (apply RdV.rd; apply RdV.idx (i := 0); assumption; rfl)
    refine WL.gpur (u := 8) rfl rfl (gF hg8) (Pur.len rfl isSlice_23) ?_
    refine' WL.gpur (u := 8) rfl rfl (gF hg8) (Pur.bin rfl rfl ?h4_0) ?k4
    case h4_0 => first | exact Bin.geN | exact Bin.geI
    exact K8 _ zcR rfl
  case h2_1 =>
    intro hg8 K8
    refine WL.gskip (u := 8) rfl rfl (sF hg8) ?_
    refine WL.gskip (u := 8) rfl rfl (sF hg8) ?_
    refine WL.gskip (u := 8) rfl rfl (sF hg8) ?_
    refine WL.gskip (u := 8) rfl rfl (sF hg8) ?_
    refine WL.gskip (u := 8) rfl rfl (sF hg8) ?_
    refine WL.gskip (u := 8) rfl rfl (sF hg8) ?_
    refine WL.gskip (u := 8) rfl rfl (sF hg8) ?_
    exact K8 _ zcR
  case h2_2 => exact Wanted.plain rfl
  refine WL.nil ?_
  refine WQ.thn ?_
  first | refine WC.cond rfl (fun hc0 => ?_) (fun hc0 => ?_) | refine WC.condB rfl (fun hc0 => ?_) (fun hc0 => ?_)
  · refine WC.seq ?_
    refine WC.region ?_
    refine WL.pur (Pur.build (l := (entCells 0 0 0 (.slice none 0 0) (.slice none 0 0))) pl_37 zc_37 rfl rfl) ?_
    refine' WL.run0 (Run.storeAll rfl rfl ty_37 ?h5_0 (by first | rfl | assumption) ?h5_1 (by first | rfl | assumption)) ?k5
    case h5_0 => repeat (first | exact Part.one | exact Part.here | apply Part.cons | apply Part.app)
    case h5_1 => first | rfl | assumption
    refine WL.pur (Pur.assign rfl) ?_
    refine WL.nil ?_
    refine WQ.thn ?_
    refine WC.ret ?_
    refine WQ.thn_ret ?_
    refine' WQ.retCT Try.results12 rfl rfl ty_37 ?h6_0 ?h6_1 [] zsL (View.le_refl _) ?k6
    case h6_0 => apply Rd.own_sub; exact zmE; exact Sub.refl _
    case h6_1 => rfl
    exact ⟨.inr ⟨by omega, rfl⟩, rfl⟩
  · obtain ⟨k, rfl⟩ : ∃ k : Nat, i = (k : Int) := Int.eq_ofNat_of_zero_le (by omega)
    obtain ⟨e, he⟩ : ∃ e, L[k]? = some e := ⟨_, List.getElem?_eq_getElem (by omega)⟩
    obtain ⟨qv, ov, hrd, heH, hNR⟩ := ent_rd hl hel he
    obtain ⟨pa, pc, rfl, hpc, hpb⟩ := hNR.1.shape
    obtain ⟨oa, oc, rfl, hoc, hob⟩ := hNR.2.1.shape
    refine WC.skip ?_
    refine WQ.thn ?_
    refine WC.seq ?_
    refine WC.region ?_
    refine WL.pur (Pur.move rfl) ?_
    refine WL.pur (Pur.nilCheck rfl) ?_
    refine WL.pur (Pur.fieldAddr rfl fo_84_0) ?_
    refine' WL.pur (Pur.load1 rfl ty_23 ?h7_0) ?k7
    case h7_0 => first | (apply Rd.own1; exact zmE; rfl) | (apply RdV.rd; apply RdV.idx (i := 0); assumption; rfl)
    refine WL.pur (Pur.move rfl) ?_
    refine' WL.pur (Pur.indexAddr (eqA (hel (by omega))) rfl sl_23 ?h8_0) ?k8
    case h8_0 => omega
    refine' WL.pur (Pur.loadN rfl ty_37 ?h9_0 ?h9_1) ?k9
    case h9_0 => exact RdV.rd hrd
    case h9_1 => first | rfl | assumption
    refine WL.call (H0 := []) (Hr := (b4, _) :: Hr) rfl Try.call38 (List.Perm.refl _) (past_own _ _ _ _ _ hNR) ?_
    rintro _ σ1 _ ⟨⟨qv2, ov2, rfl, hN2⟩, rfl⟩ hle1
    rw [List.nil_append]
    obtain ⟨pa2, pc2, rfl, _⟩ := hN2.1.shape
    obtain ⟨oa2, oc2, rfl, _⟩ := hN2.2.1.shape
    refine' WL.run0 (Run.storeAll rfl rfl ty_37 ?h10_0 (by first | rfl | assumption) ?h10_1 (by first | rfl | assumption)) ?k10
    case h10_0 => repeat (first | exact Part.one | exact Part.here | apply Part.cons | apply Part.app)
    case h10_1 => first | rfl | assumption
    refine WL.pur (Pur.assign rfl) ?_
    refine WL.nil ?_
    refine WQ.thn ?_
    refine WC.ret ?_
    refine' WQ.retCT Try.results12 rfl rfl ty_37 ?h11_0 ?h11_1 [] zsL hle1 ?k11
    case h11_0 => apply Rd.own_sub; exact zmE; exact Sub.refl _
    case h11_1 => rfl
    exact ⟨.inl ⟨k, e, _, _, rfl, he, rfl, hN2⟩, rfl⟩

end Go.Proofs.Ytgoooilgmabkmaa
namespace Go.Proofs.Ytgoooilgmabkmaa
open Go Go.Sl
set_option linter.unusedVariables false
set_option linter.unusedSimpArgs false
set_option maxRecDepth 100000

theorem rowB_new {N : Nat} {Q : Nat → Prop} [DecidablePred Q] (h : ∀ j, ¬ Q j) : List.replicate N (Value.bool false) = (List.range N).map (fun j => Value.bool (decide (Q j))) := by
  rw [replicate_range]
  exact map_range_congr fun j _ => by simp [h j]
theorem rowB_put1 {N k : Nat} {Q Q' : Nat → Prop} [DecidablePred Q] [DecidablePred Q'] (h : ∀ j, j < N → (Q' j ↔ Q j ∨ j = k)) : (List.range N).map (fun j => if j = k then Value.bool true else Value.bool (decide (Q j))) = (List.range N).map (fun j => Value.bool (decide (Q' j))) :=
  map_range_congr fun j hj => by
    by_cases hk : j = k
    · rw [if_pos hk]; exact boolT ((h j hj).2 (.inr hk))
    · rw [if_neg hk]; exact decB ⟨fun hq => (h j hj).2 (.inl hq), fun hq => ((h j hj).1 hq).resolve_right hk⟩
theorem rowB_put {N k : Nat} {Q Q' : Nat → Prop} {p : Prop} [DecidablePred Q] [DecidablePred Q'] [Decidable p] (h1 : Q' k ↔ p) (h2 : ∀ j, j ≠ k → (Q' j ↔ Q j)) : (List.range N).map (fun j => if j = k then Value.bool (decide p) else Value.bool (decide (Q j))) = (List.range N).map (fun j => Value.bool (decide (Q' j))) :=
  map_range_congr fun j _ => by
    by_cases hk : j = k
    · rw [if_pos hk]; subst hk; exact decB h1.symm
    · rw [if_neg hk]; exact decB (h2 j hk).symm
theorem rowB_congr {N : Nat} {Q Q' : Nat → Prop} [DecidablePred Q] [DecidablePred Q'] (h : ∀ j, j < N → (Q j ↔ Q' j)) : (List.range N).map (fun j => Value.bool (decide (Q j))) = (List.range N).map (fun j => Value.bool (decide (Q' j))) :=
  map_range_congr fun j hj => decB (h j hj)
theorem allH_snoc {L : List EntD} {hs : List Nat} {i h k : Nat} (hh : hs[i]? = some h) (hk : idxOf L h = some k) (ha : allH L (hs.take i)) : allH L (hs.take (i + 1)) := by
  rw [List.take_add_one, hh]
  intro x hx
  rcases List.mem_append.1 hx with hx | hx
  · exact ha x hx
  · simp at hx; subst hx; rw [hk]; simp
theorem inH_same {L : List EntD} (ho : OrdOk L) {hs : List Nat} {i h k : Nat} (hh : hs[i]? = some h) (hk : idxOf L h = some k) (hin : inH L (hs.take i) k) (j : Nat) : inH L (hs.take i) j ↔ inH L (hs.take (i + 1)) j := by
  rw [List.take_add_one, hh, Option.toList_some, inH_snoc hk]
  constructor
  · exact .inl
  · rintro (h1 | rfl | h1)
    · exact h1
    · exact hin
    · exact inH_closed ho _ j k hin h1
theorem inH_next {L : List EntD} (ho : OrdOk L) {hs : List Nat} {i h k : Nat} (hh : hs[i]? = some h) (hk : idxOf L h = some k) (j : Nat) : (inH L (hs.take i) j ∨ j = k ∨ (j < k ∧ seesN L j k = true)) ↔ inH L (hs.take (i + 1)) j := by
  rw [List.take_add_one, hh, Option.toList_some, inH_snoc hk]
  constructor
  · rintro (h1 | h1 | h1)
    · exact .inl h1
    · exact .inr (.inl h1)
    · exact .inr (.inr h1.2)
  · rintro (h1 | h1 | h1)
    · exact .inl h1
    · exact .inr (.inl h1)
    · exact .inr (.inr ⟨(sees_lt ho h1).1, h1⟩)
theorem numV_some {o : Option Nat} (h : ¬ numV o < 0) : ∃ k, o = some k ∧ numV o = (k : Int) := by
  cases o with
  | none => exact absurd (by simp [numV]) h
  | some k => exact ⟨k, rfl, rfl⟩

set_option maxHeartbeats 2000000 in
theorem past_under (σ : View) (pv hv : Value) (L : List EntD) (hs : List Nat) (h : PastV σ pv L) (ho : OrdOk L) (hh : Hashes σ hv hs) :
    Tri Try.prog 40 #[pv, hv] σ [] (fun v σ' H' => σ' = σ ∧ ((allH L hs ∧ ∃ b, v = .tuple #[.slice (some ⟨b, 0, none⟩) L.length L.length, .int .i64 0] ∧ H' = [(b, rowO 4 ((List.range L.length).map (fun j => Value.bool (decide (inH L hs j)))))]) ∨ (¬ allH L hs ∧ v = .tuple #[.slice none 0 0, .int .i64 6] ∧ H' = []))) := by
  have h' := h
  have hmost := ho.most
  obtain ⟨b, mb, lv, sv, rfl, hr, hl, hm, hsn⟩ := h
  obtain ⟨la, lc, rfl, hlc, hlb⟩ := hl.shape
  obtain ⟨ha, hc, rfl, hhc, hhb⟩ := hh.shape
  obtain ⟨hb, hoff, heh, hhat⟩ := hh.rds
  refine Tri.of_body [(0, .pointer (some ⟨b, 0, none⟩)), (1, .slice ha hs.length hc)] Try.func40 rfl Try.ntmps40 (by simp) rfl (fun Hr => ?_)
  rw [List.nil_append]
  refine WC.seq ?_
  refine WC.region ?_
  refine WL.pur (Pur.assign rfl) ?_
  refine WL.pur (Pur.assign rfl) ?_
  refine WL.nil ?_
  refine WQ.thn ?_
  refine WC.seq ?_
  refine WC.region ?_
  refine WL.pur (Pur.move rfl) ?_
  refine WL.pur (Pur.nilCheck rfl) ?_
  refine WL.pur (Pur.fieldAddr rfl fo_84_0) ?_
  refine' WL.pur (Pur.load1 rfl ty_23 ?h1_0) ?k1
  case h1_0 => exact RdV.rd (RdV.idx (off := 0) (i := 0) hr rfl)
  refine WL.pur (Pur.len rfl isSlice_23) ?_
  refine WL.any (Any.make1 sl_42 zc_4 by_4 rfl rfl (by omega) (by omega)) ?_
  rintro _ σ _ ⟨b16, rfl, rfl, rfl⟩ _
  refine WL.pur (Pur.assign rfl) ?_
  refine WL.nil ?_
  refine WQ.thn ?_
  refine WC.seq ?_
  refine WC.seq ?_
  refine WC.region ?_
  refine WL.pur (Pur.move rfl) ?_
  refine WL.pur (Pur.len rfl isSlice_32) ?_
  refine WL.pur (Pur.move rfl) ?_
  refine WL.nil ?_
  refine WQ.thn ?_
  refine WC.block ?_
  rw [rowB_new (N := L.length) (Q := inH L (hs.take 0)) (fun j => by rw [List.take_zero]; exact inH_nil L j)]
  refine WC.loop (fun j m σ' H' => ∃ i : Nat, j = hs.length - i ∧ i ≤ hs.length ∧ allH L (hs.take i) ∧ m = [(0, .pointer (some ⟨b, 0, none⟩)), (6, .slice (some ⟨b16, 0, none⟩) L.length L.length), (17, .slice ha hs.length hc), (18, .int .i64 (hs.length : Int)), (19, .int .i64 (i : Int))] ∧ σ' = σ ∧ H' = (b16, rowO 4 ((List.range L.length).map (fun j => Value.bool (decide (inH L (hs.take i) j))))) :: Hr) ⟨0, rfl, by omega, by rw [List.take_zero]; intro x hx; simp at hx, rfl, rfl, rfl⟩ zcV zsL ?_
  rintro _ _ σ Hr ⟨i, rfl, hi, hal, rfl, rfl, rfl⟩
  refine WC.seq ?_
  refine WC.region ?_
  refine' WL.pur (Pur.bin rfl rfl ?h2_0) ?k2
  case h2_0 => first | exact Bin.ltN | exact Bin.ltI | exact Bin.ltS
  refine WL.nil ?_
  refine WQ.thn ?_
  refine WC.seq ?_
  first | refine WC.cond rfl (fun hc0 => ?_) (fun hc0 => ?_) | refine WC.condB rfl (fun hc0 => ?_) (fun hc0 => ?_)
  · obtain ⟨x, hx⟩ : ∃ x, hs[i]? = some x := ⟨_, List.getElem?_eq_getElem (by omega)⟩
    obtain ⟨_, _, _, ⟨rfl, hxh⟩, hxr⟩ := hhat i x hx
    refine WC.skip ?_
    refine WQ.thn ?_
    refine WC.seq ?_
    refine WC.block ?_
    refine WC.seq ?_
    refine WC.region ?_
    refine' WL.pur (Pur.indexAddr (eqA (heh (by omega))) rfl sl_32 ?h3_0) ?k3
    case h3_0 => omega
    refine' WL.pur (Pur.loadN rfl ty_31 ?h4_0 ?h4_1) ?k4
    case h4_0 => exact RdV.rd hxr
    case h4_1 => first | rfl | assumption
    refine WL.new (New.alloc zc_31) (fun b8 => ?_)
    refine' WL.run0 (Run.storeAll rfl rfl ty_31 ?h5_0 (by first | rfl | assumption) ?h5_1 (by first | rfl | assumption)) ?k5
    case h5_0 => repeat (first | exact Part.one | exact Part.here | apply Part.cons | apply Part.app)
    case h5_1 => first | rfl | assumption
    refine WL.nil ?_
    refine WQ.thn ?_
    refine WC.seq ?_
    refine WC.region ?_
    refine WL.pur (Pur.move rfl) ?_
    refine' WL.pur (Pur.loadN rfl ty_31 ?h6_0 ?h6_1) ?k6
    case h6_0 => first | (apply Rd.own_sub; exact zmE; exact Sub.refl _) | (apply RdV.rd; assumption)
    case h6_1 => first | rfl | assumption
    refine WL.callP rfl Try.call23 ((past_Number _ _ L x h' hxh)) ?_
    refine WL.pur (Pur.assign rfl) ?_
    refine WL.nil ?_
    refine WQ.thn ?_
    refine WC.seq ?_
    refine WC.seq ?_
    refine WC.region ?_
    refine WL.pur (Pur.move rfl) ?_
    refine' WL.pur (Pur.bin rfl rfl ?h7_0) ?k7
    case h7_0 => first | exact Bin.ltN (b := 0) | exact Bin.ltI | exact Bin.ltS
    refine WL.nil ?_
    refine WQ.thn ?_
    first | refine WC.cond rfl (fun hc1 => ?_) (fun hc1 => ?_) | refine WC.condB rfl (fun hc1 => ?_) (fun hc1 => ?_)
    · have hno : ¬ allH L hs := fun ha => ha x (List.mem_of_getElem? hx) (numV_none.1 hc1)
      refine WC.seq ?_
      refine WC.region ?_
      refine WL.pur (Pur.assign rfl) ?_
      refine WL.pur (Pur.assign rfl) ?_
      refine WL.nil ?_
      refine WQ.thn ?_
      refine WC.ret ?_
      refine WQ.thn_ret ?_
      refine WQ.blk_ret ?_
      refine WQ.thn_ret ?_
      refine WQ.back_ret ?_
      refine WQ.blk_ret ?_
      refine WQ.thn_ret ?_
      refine WQ.ret2 Try.results40 rfl rfl [] zsL (View.le_refl _) ?_
      exact ⟨rfl, .inr ⟨hno, rfl, rfl⟩⟩
    · obtain ⟨k, hk, hnk⟩ := numV_some hc1
      rw [hnk]
      have hkl := idxOf_lt hk
      refine WC.skip ?_
      refine WQ.thn ?_
      refine WC.seq ?_
      refine WC.seq ?_
      refine WC.region ?_
      refine WL.pur (Pur.move rfl) ?_
      refine WL.pur (Pur.move rfl) ?_
      refine' WL.pur (Pur.indexAddr rfl rfl sl_42 ?h8_0) ?k8
      case h8_0 => omega
      refine' WL.pur (Pur.load1 rfl ty_4 ?h9_0) ?k9
      case h9_0 => apply Rd.own1; exact zmE; exact get_range_map1 hkl
      refine WL.nil ?_
      refine WQ.thn ?_
      first | refine WC.cond rfl (fun hc2 => ?_) (fun hc2 => ?_) | refine WC.condB rfl (fun hc2 => ?_) (fun hc2 => ?_)
      · have hin0 : inH L (hs.take i) k := hc2
        have inH_same_ho : ∀ j, j < L.length → (inH L (hs.take i) j ↔ inH L (hs.take (i + 1)) j) := fun j _ => inH_same ho hx hk hin0 j
        refine WC.exit ?_
        refine WQ.thn_exit ?_
        refine WQ.blk_here ?_
        refine WQ.thn ?_
        refine WC.region ?_
        refine' WL.pur (Pur.bin rfl rfl ?h10_0) ?k10
        case h10_0 => first | (refine Bin.addN (b := 1) ?_; omega) | (refine Bin.addI ?_; omega)
        refine WL.pur (Pur.move rfl) ?_
        refine WL.nil ?_
        rw [rowB_congr inH_same_ho]
        refine WQ.back _ ⟨i + 1, rfl, by omega, allH_snoc hx hk hal, rfl, rfl, rfl⟩ (by omega) zcV zsL
      · have inH_next_ho : ∀ j, j < L.length → ((inH L (hs.take i) j ∨ j = k ∨ (j < k ∧ seesN L j k = true)) ↔ inH L (hs.take (i + 1)) j) := fun j _ => inH_next ho hx hk j
        refine WC.skip ?_
        refine WQ.thn ?_
        refine WC.seq ?_
        refine WC.region ?_
        refine WL.pur (Pur.move rfl) ?_
        refine WL.pur (Pur.move rfl) ?_
        refine' WL.pur (Pur.indexAddr rfl rfl sl_42 ?h11_0) ?k11
        case h11_0 => omega
        refine' WL.run0 (Run.storeF rfl rfl ty_4 (by first | rfl | assumption) ?h12_0 ?h12_1 sz_4) ?k12
        case h12_0 => repeat (first | exact Part.one | exact Part.here | apply Part.cons | apply Part.app)
        case h12_1 => first | assumption | omega
        refine WL.nil ?_
        refine WQ.thn ?_
        refine WC.seq ?_
        refine WC.region ?_
        refine WL.pur (Pur.move rfl) ?_
        refine WL.pur (Pur.move rfl) ?_
        refine WL.nil ?_
        refine WQ.thn ?_
        refine WC.block ?_
        rw [rowB_put1 (N := L.length) (k := k) (Q := fun j => inH L (hs.take i) j) (Q' := fun j => inH L (hs.take i) j ∨ j = k ∨ (j < 0 ∧ seesN L j k = true)) (fun j _ => by constructor; rintro (h1 | h1 | h1); exact .inl h1; exact .inr h1; omega; rintro (h1 | h1); exact .inl h1; exact .inr (.inl h1))]
        refine WC.loop (fun j m σ' H' => ∃ c : Nat, j = k - c ∧ c ≤ k ∧ m = [(0, .pointer (some ⟨b, 0, none⟩)), (6, .slice (some ⟨b16, 0, none⟩) L.length L.length), (17, .slice ha hs.length hc), (18, .int .i64 (hs.length : Int)), (19, .int .i64 (i : Int)), (9, .int .i64 (k : Int)), (35, .int .i64 (k : Int)), (36, .int .i64 (c : Int))] ∧ σ' = σ ∧ H' = (b16, rowO 4 ((List.range L.length).map (fun j => Value.bool (decide (inH L (hs.take i) j ∨ j = k ∨ (j < c ∧ seesN L j k = true)))))) :: Hr) ⟨0, rfl, by omega, rfl, rfl, rfl⟩ zcV zsL ?_
        rintro _ _ σ Hr ⟨c, rfl, hc2, rfl, rfl, rfl⟩
        refine WC.seq ?_
        refine WC.region ?_
        refine' WL.pur (Pur.bin rfl rfl ?h13_0) ?k13
        case h13_0 => first | exact Bin.ltN | exact Bin.ltI | exact Bin.ltS
        refine WL.nil ?_
        refine WQ.thn ?_
        refine WC.seq ?_
        first | refine WC.cond rfl (fun hc3 => ?_) (fun hc3 => ?_) | refine WC.condB rfl (fun hc3 => ?_) (fun hc3 => ?_)
        · refine WC.skip ?_
          refine WQ.thn ?_
          refine WC.seq ?_
          refine WC.block ?_
          refine WC.seq ?_
          refine WC.region ?_
          refine WL.pur (Pur.move rfl) ?_
          refine WL.pur (Pur.assign rfl) ?_
          refine WL.nil ?_
          refine WQ.thn ?_
          refine WC.region ?_
          refine WL.pur (Pur.move rfl) ?_
          refine WL.pur (Pur.move rfl) ?_
          refine WL.pur (Pur.move rfl) ?_
          refine WL.pur (Pur.move rfl) ?_
          refine' WL.pur (Pur.indexAddr rfl rfl sl_42 ?h14_0) ?k14
          case h14_0 => omega
          refine' WL.pur (Pur.load1 rfl ty_4 ?h15_0) ?k15
          case h15_0 => apply Rd.own1; exact zmE; exact get_range_map1 (show c < L.length by omega)
          refine WL.pur (Pur.move rfl) ?_
          refine' WL.orp (u := 45) (t := 50) rfl ?h16_0 ?h16_1 ?h16_2 rfl ?k16
          case h16_0 =>
            intro hg45 K45
            refine WL.gpur (u := 45) rfl rfl (gF hg45) (Pur.move rfl) ?_
            refine WL.gpur (u := 45) rfl rfl (gF hg45) (Pur.move rfl) ?_
            refine WL.gpur (u := 45) rfl rfl (gF hg45) (Pur.move rfl) ?_
            refine WL.gcallP (u := 45) rfl rfl (gF hg45) rfl Try.call25 ((past_Sees _ _ L c k h' ho hkl (by omega))) ?_
            exact K45 _ zcR rfl
          case h16_1 =>
            intro hg45 K45
            refine WL.gskip (u := 45) rfl rfl (sF hg45) ?_
            refine WL.gskip (u := 45) rfl rfl (sF hg45) ?_
            refine WL.gskip (u := 45) rfl rfl (sF hg45) ?_
            refine WL.gskip (u := 45) rfl rfl (sF hg45) ?_
            exact K45 _ zcR
          case h16_2 => exact Wanted.plain rfl
          refine' WL.pur (Pur.indexAddr rfl rfl sl_42 ?h17_0) ?k17
          case h17_0 => omega
          refine' WL.run0 (Run.storeF rfl rfl ty_4 (by first | rfl | assumption) ?h18_0 ?h18_1 sz_4) ?k18
          case h18_0 => repeat (first | exact Part.one | exact Part.here | apply Part.cons | apply Part.app)
          case h18_1 => first | assumption | omega
          refine WL.nil ?_
          refine WQ.blk ?_
          refine WQ.thn ?_
          refine WC.region ?_
          refine' WL.pur (Pur.bin rfl rfl ?h19_0) ?k19
          case h19_0 => first | (refine Bin.addN (b := 1) ?_; omega) | (refine Bin.addI ?_; omega)
          refine WL.pur (Pur.move rfl) ?_
          refine WL.nil ?_
          rw [rowB_put (N := L.length) (k := c) (Q := fun j => inH L (hs.take i) j ∨ j = k ∨ (j < c ∧ seesN L j k = true)) (Q' := fun j => inH L (hs.take i) j ∨ j = k ∨ (j < (c + 1) ∧ seesN L j k = true)) (by constructor; rintro (h1 | h1 | h1); exact .inl (.inl h1); exact .inl (.inr (.inl h1)); exact .inr h1.2; rintro ((h1 | h1 | h1) | h1); exact .inl h1; exact .inr (.inl h1); exact .inr (.inr ⟨by omega, h1.2⟩); exact .inr (.inr ⟨by omega, h1⟩)) (fun j hj => by constructor; rintro (h1 | h1 | h1); exact .inl h1; exact .inr (.inl h1); exact .inr (.inr ⟨by omega, h1.2⟩); rintro (h1 | h1 | h1); exact .inl h1; exact .inr (.inl h1); exact .inr (.inr ⟨by omega, h1.2⟩))]
          refine WQ.back _ ⟨c + 1, rfl, by omega, rfl, rfl, rfl⟩ (by omega) zcV zsL
        · have hck : c = k := by omega
          subst hck
          refine WC.exit ?_
          refine WQ.thn_exit ?_
          refine WQ.back_exit ?_
          refine WQ.blk_here ?_
          refine WQ.blk ?_
          refine WQ.thn ?_
          refine WC.region ?_
          refine' WL.pur (Pur.bin rfl rfl ?h20_0) ?k20
          case h20_0 => first | (refine Bin.addN (b := 1) ?_; omega) | (refine Bin.addI ?_; omega)
          refine WL.pur (Pur.move rfl) ?_
          refine WL.nil ?_
          rw [rowB_congr inH_next_ho]
          refine WQ.back _ ⟨i + 1, rfl, by omega, allH_snoc hx hk hal, rfl, rfl, rfl⟩ (by omega) zcV zsL
  · have hii : i = hs.length := by omega
    subst hii
    rw [List.take_length] at hal ⊢
    refine WC.exit ?_
    refine WQ.thn_exit ?_
    refine WQ.back_exit ?_
    refine WQ.blk_here ?_
    refine WQ.thn ?_
    refine WC.seq ?_
    refine WC.region ?_
    refine WL.pur (Pur.move rfl) ?_
    refine WL.pur (Pur.assign rfl) ?_
    refine WL.pur (Pur.assign rfl) ?_
    refine WL.nil ?_
    refine WQ.thn ?_
    refine WC.ret ?_
    refine WQ.ret2 Try.results40 rfl rfl [(b16, rowO 4 ((List.range L.length).map (fun j => Value.bool (decide (inH L hs j)))))] zsL (View.le_refl _) ?_
    exact ⟨rfl, .inl ⟨hal, b16, rfl, rfl⟩⟩

end Go.Proofs.Ytgoooilgmabkmaa
namespace Go.Proofs.Ytgoooilgmabkmaa
open Go Go.Sl
set_option linter.unusedVariables false
set_option linter.unusedSimpArgs false
set_option maxRecDepth 100000

theorem past_under2 (σ : View) (pv hv : Value) (L : List EntD) (hs : List Nat) (h : PastV σ pv L) (ho : OrdOk L) (hh : Hashes σ hv hs) :
    Tri Try.prog 40 #[pv, hv] σ [] (fun v σ' H' => σ' = σ ∧ ∃ sv ev, v = .tuple #[sv, .int .i64 ev] ∧ ((ev = 0 ∧ allH L hs ∧ ∃ b, sv = .slice (some ⟨b, 0, none⟩) L.length L.length ∧ H' = [(b, rowO 4 ((List.range L.length).map (fun j => Value.bool (decide (inH L hs j)))))]) ∨ (ev = 6 ∧ ¬ allH L hs ∧ H' = []))) := by
  refine (past_under σ pv hv L hs h ho hh).mono ?_
  rintro v σ' H' ⟨rfl, ⟨ha, b, rfl, rfl⟩ | ⟨ha, rfl, rfl⟩⟩
  · exact ⟨rfl, _, _, rfl, .inl ⟨rfl, ha, b, rfl, rfl⟩⟩
  · exact ⟨rfl, _, _, rfl, .inr ⟨rfl, ha, rfl⟩⟩
set_option maxHeartbeats 2000000 in
theorem past_At (σ : View) (pv hv : Value) (L : List EntD) (hs : List Nat) (h : PastV σ pv L) (h1 : OneOrd L) (hh : Hashes σ hv hs) :
    Tri Try.prog 17 #[pv, hv] σ [] (fun v σ' H' => (∃ pa ev, v = .tuple #[.pointer pa, .int .i64 ev] ∧ ((ev = 0 ∧ allH L hs ∧ PastV σ' (.pointer pa) (atL L (inH L hs) L.length)) ∨ (ev = 6 ∧ ¬ allH L hs ∧ pa = none))) ∧ H' = []) := by
  have h' := h
  have ho := h1.ok
  have hmost := ho.most
  obtain ⟨b, mb, lv, sv, rfl, hr, hl, hm, hsn⟩ := h
  obtain ⟨la, lc, rfl, hlc, hlb⟩ := hl.shape
  obtain ⟨lb, loff, hel⟩ := addr_of hl
  refine Tri.of_body [(0, .pointer (some ⟨b, 0, none⟩)), (1, hv)] Try.func17 rfl Try.ntmps17 (by simp) rfl (fun Hr => ?_)
  rw [List.nil_append]
  refine WC.seq ?_
  refine WC.region ?_
  refine WL.pur (Pur.assign rfl) ?_
  refine WL.pur (Pur.assign rfl) ?_
  refine WL.nil ?_
  refine WQ.thn ?_
  refine WC.seq ?_
  refine WC.region ?_
  refine WL.pur (Pur.move rfl) ?_
  refine WL.pur (Pur.move rfl) ?_
  refine WL.call (H0 := []) (Hr := Hr) rfl Try.call40 (List.Perm.refl _) (past_under2 _ _ _ L hs h' ho hh) ?_
  rintro _ σ HU ⟨rfl, svu, ev, rfl, hor⟩ _
  refine WL.pur (Pur.move rfl) ?_
  first | refine WL.pur (Pur.ex2_0 rfl) ?_ | refine WL.pur (Pur.ex3_0 rfl) ?_ | refine WL.pur (Pur.extractNext rfl) ?_ | refine WL.pur (Pur.extract rfl rfl) ?_
  first | refine WL.pur (Pur.ex2_1 rfl) ?_ | refine WL.pur (Pur.ex3_1 rfl) ?_ | refine WL.pur (Pur.extract rfl rfl) ?_
  refine WL.pur (Pur.assign rfl) ?_
  refine WL.pur (Pur.assign rfl) ?_
  refine WL.nil ?_
  refine WQ.thn ?_
  refine WC.seq ?_
  refine WC.seq ?_
  refine WC.region ?_
  refine WL.pur (Pur.move rfl) ?_
  refine' WL.pur (Pur.bin rfl rfl ?h1_0) ?k1
  case h1_0 => first | exact Bin.neN (b := 0) | exact Bin.neI
  refine WL.nil ?_
  refine WQ.thn ?_
  first | refine WC.cond rfl (fun hc0 => ?_) (fun hc0 => ?_) | refine WC.condB rfl (fun hc0 => ?_) (fun hc0 => ?_)
  · obtain ⟨rfl, hno, rfl⟩ := hor.resolve_left (fun h => hc0 h.1)
    refine WC.seq ?_
    refine WC.region ?_
    refine WL.pur (Pur.move rfl) ?_
    refine WL.pur (Pur.assign rfl) ?_
    refine WL.pur (Pur.assign rfl) ?_
    refine WL.nil ?_
    refine WQ.thn ?_
    refine WC.ret ?_
    refine WQ.thn_ret ?_
    refine WQ.ret2 Try.results17 rfl rfl [] (by first | exact List.Sublist.refl _ | exact List.Sublist.cons _ (List.Sublist.refl _)) (View.le_refl _) ?_
    exact ⟨⟨_, _, rfl, .inr ⟨rfl, hno, rfl⟩⟩, rfl⟩
  · obtain ⟨rfl, hal, bu, rfl, rfl⟩ := hor.resolve_right (fun h => hc0 (by rw [h.1]; decide))
    rw [List.singleton_append]
    refine WC.skip ?_
    refine WQ.thn ?_
    refine WC.seq ?_
    refine WC.region ?_
    refine WL.pur (Pur.assign rfl) ?_
    refine WL.nil ?_
    refine WQ.thn ?_
    refine WC.seq ?_
    refine WC.seq ?_
    refine WC.region ?_
    refine WL.pur (Pur.move rfl) ?_
    refine WL.pur (Pur.nilCheck rfl) ?_
    refine WL.pur (Pur.fieldAddr rfl fo_84_0) ?_
    refine' WL.pur (Pur.load1 rfl ty_23 ?h2_0) ?k2
    case h2_0 => exact RdV.rd (RdV.idx (off := 0) (i := 0) hr rfl)
    refine WL.pur (Pur.len rfl isSlice_23) ?_
    refine WL.pur (Pur.move rfl) ?_
    refine WL.nil ?_
    refine WQ.thn ?_
    refine WC.block ?_
    refine WC.loop (fun j m σ' H' => ∃ (i : Nat) (lv2 : Value) (hl2 : HList), j = L.length - i ∧ i ≤ L.length ∧ SlO σ' eEnt 37 36 lv2 (atL L (inH L hs) i) hl2 ∧ m = [(6, .slice (some ⟨bu, 0, none⟩) L.length L.length), (8, lv2), (23, .slice la L.length lc), (24, .int .i64 (L.length : Int)), (25, .int .i64 (i : Int))] ∧ σ' = σ ∧ H' = (bu, rowO 4 ((List.range L.length).map (fun j => Value.bool (decide (inH L hs j))))) :: (hl2 ++ Hr)) ⟨0, _, [], rfl, by omega, by rw [atL_zero]; exact SlO.nil, rfl, rfl, rfl⟩ zcV zsL ?_
    rintro _ _ σ Hr ⟨i, lv2, hl2, rfl, hi, hso, rfl, rfl, rfl⟩
    refine WC.seq ?_
    refine WC.region ?_
    refine' WL.pur (Pur.bin rfl rfl ?h3_0) ?k3
    case h3_0 => first | exact Bin.ltN | exact Bin.ltI | exact Bin.ltS
    refine WL.nil ?_
    refine WQ.thn ?_
    refine WC.seq ?_
    first | refine WC.cond rfl (fun hc1 => ?_) (fun hc1 => ?_) | refine WC.condB rfl (fun hc1 => ?_) (fun hc1 => ?_)
    · obtain ⟨e, he⟩ : ∃ e, L[i]? = some e := ⟨_, List.getElem?_eq_getElem (by omega)⟩
      obtain ⟨qv, ov, hrd, heH, hNR⟩ := ent_rd hl hel he
      obtain ⟨pa2, pc2, rfl, _, _⟩ := hNR.1.shape
      obtain ⟨oa2, oc2, rfl, _, _⟩ := hNR.2.1.shape
      have hal2 := atL_len (L := L) (q := inH L hs) i
      refine WC.skip ?_
      refine WQ.thn ?_
      refine WC.seq ?_
      refine WC.block ?_
      refine WC.seq ?_
      refine WC.region ?_
      refine WL.pur (Pur.move rfl) ?_
      refine' WL.pur (Pur.indexAddr (eqA (hel (by omega))) rfl sl_23 ?h4_0) ?k4
      case h4_0 => omega
      refine' WL.pur (Pur.loadN rfl ty_37 ?h5_0 ?h5_1) ?k5
      case h5_0 => exact RdV.rd hrd
      case h5_1 => first | rfl | assumption
      refine WL.new (New.alloc zc_37) (fun b10 => ?_)
      refine WL.pur (Pur.assign rfl) ?_
      refine' WL.run0 (Run.storeAll rfl rfl ty_37 ?h6_0 (by first | rfl | assumption) ?h6_1 (by first | rfl | assumption)) ?k6
      case h6_0 => repeat (first | exact Part.one | exact Part.here | apply Part.cons | apply Part.app)
      case h6_1 => first | rfl | assumption
      refine WL.nil ?_
      refine WQ.thn ?_
      refine WC.seq ?_
      refine WC.region ?_
      refine WL.pur (Pur.move rfl) ?_
      refine WL.pur (Pur.move rfl) ?_
      refine' WL.pur (Pur.indexAddr rfl rfl sl_42 ?h7_0) ?k7
      case h7_0 => omega
      refine' WL.pur (Pur.load1 rfl ty_4 ?h8_0) ?k8
      case h8_0 => apply Rd.own1; exact zmE; exact get_range_map1 (show i < L.length by omega)
      refine WL.nil ?_
      refine WQ.thn ?_
      first | refine WC.cond rfl (fun hc2 => ?_) (fun hc2 => ?_) | refine WC.condB rfl (fun hc2 => ?_) (fun hc2 => ?_)
      · refine WC.region ?_
        refine WL.pur (Pur.move rfl) ?_
        refine' WL.pur (Pur.loadN rfl ty_37 ?h9_0 ?h9_1) ?k9
        case h9_0 => first | (apply Rd.own_sub; exact zmE; exact Sub.refl _) | (apply RdV.rd; assumption)
        case h9_1 => first | rfl | assumption
        refine WL.new (New.buildSliceN (xs := [.tmp 35]) (vss := [entCells e.id e.node.au e.node.cl (.slice pa2 e.node.ps.length pc2) (.slice oa2 e.node.ops.length oc2)]) sl_23 zc_37 rfl rfl rfl (by rfl) (by rfl)) (fun b36 => ?_)
        refine' WL.any (Any.push (H1 := [(b36, _), (b10, _), (bu, rowO 4 ((List.range L.length).map (fun j => Value.bool (decide (inH L hs j)))))]) (H2 := Hr) sl_23 zc_37 rfl by_37 rfl rfl hso ?h10_0 ?h10_1 ?h10_2 ?h10_3 rfl (by omega) (by omega)) ?k10
        case h10_0 => apply Rd.own_sub; exact zmE; exact Sub.refl _
        case h10_1 => first | rfl | assumption
        case h10_2 => first | rfl | assumption
        case h10_3 => exact (show eEnt _ e _ from ⟨_, _, rfl, heH, hNR⟩)
        rintro v37 σ _ ⟨hl3, hso3, rfl, rfl⟩ _
        refine WL.pur (Pur.assign rfl) ?_
        refine WL.nil ?_
        refine WQ.blk ?_
        refine WQ.thn ?_
        refine WC.region ?_
        refine' WL.pur (Pur.bin rfl rfl ?h11_0) ?k11
        case h11_0 => first | (refine Bin.addN (b := 1) ?_; omega) | (refine Bin.addI ?_; omega)
        refine WL.pur (Pur.move rfl) ?_
        refine WL.nil ?_
        refine WQ.back _ ⟨i + 1, _, _, rfl, by omega, by rw [atL_succ he, if_pos hc2]; exact hso3, rfl, rfl, rfl⟩ (by omega) zcV zsL
      · refine WC.skip ?_
        refine WQ.blk ?_
        refine WQ.thn ?_
        refine WC.region ?_
        refine' WL.pur (Pur.bin rfl rfl ?h12_0) ?k12
        case h12_0 => first | (refine Bin.addN (b := 1) ?_; omega) | (refine Bin.addI ?_; omega)
        refine WL.pur (Pur.move rfl) ?_
        refine WL.nil ?_
        refine WQ.back _ ⟨i + 1, _, _, rfl, by omega, by rw [atL_succ he, if_neg hc2, List.append_nil]; exact hso, rfl, rfl, rfl⟩ (by omega) zcV zsL
    · have hii : i = L.length := by omega
      subst hii
      refine WC.exit ?_
      refine WQ.thn_exit ?_
      refine WQ.back_exit ?_
      refine WQ.blk_here ?_
      refine WQ.thn ?_
      refine WC.seq ?_
      refine WC.region ?_
      refine WL.pur (Pur.move rfl) ?_
      refine WL.call (H0 := hl2) (Hr := (bu, rowO 4 ((List.range L.length).map (fun j => Value.bool (decide (inH L hs j))))) :: Hr) rfl Try.call36 List.perm_middle (hso.hand (byt := 96) eEnt_mono (by have := atL_len (L := L) (q := inH L hs) L.length; omega) (fun σ' hl' hs' => past_made σ' _ _ hs' (oneOrd_at h1 (inH_closed ho hs)).ok)) ?_
      rintro v40 σ2 _ ⟨hpv, rfl⟩ hle2
      rw [List.nil_append]
      have hpv2 := hpv
      obtain ⟨pb2, _, _, _, rfl, _⟩ := hpv2
      refine WL.pur (Pur.assign rfl) ?_
      refine WL.pur (Pur.assign rfl) ?_
      refine WL.nil ?_
      refine WQ.thn ?_
      refine WC.ret ?_
      refine WQ.ret2 Try.results17 rfl rfl [] (by first | exact List.Sublist.refl _ | exact List.Sublist.cons _ (List.Sublist.refl _)) hle2 ?_
      exact ⟨⟨_, _, rfl, .inl ⟨rfl, hal, hpv⟩⟩, rfl⟩

end Go.Proofs.Ytgoooilgmabkmaa
namespace Go.Proofs.Ytgoooilgmabkmaa
open Go Go.Sl
set_option linter.unusedVariables false
set_option linter.unusedSimpArgs false
set_option maxRecDepth 100000

theorem r11_EqTexts (σ : View) (av bv : Value) (a b : List ByteArray) (ha : Strs σ av a) (hb : Strs σ bv b) :
    TriP Try.prog 20 #[av, bv] σ (.bool (decide (a = b))) := by
  have ha' := ha; have hb' := hb
  obtain ⟨aa, ac, rfl, hac, hab⟩ := ha.shape
  obtain ⟨ba, bc, rfl, hbc, hbb⟩ := hb.shape
  refine Tri.of_body [(0, .slice aa a.length ac), (1, .slice ba b.length bc)] Try.func20 rfl Try.ntmps20 (by simp) rfl (fun Hr => ?_)
  rw [List.nil_append]
  refine WC.seq ?_
  refine WC.region ?_
  refine WL.pur (Pur.assign rfl) ?_
  refine WL.nil ?_
  refine WQ.thn ?_
  refine WC.seq ?_
  refine WC.seq ?_
  refine WC.region ?_
  refine WL.pur (Pur.move rfl) ?_
  refine WL.pur (Pur.len rfl isSlice_54) ?_
  refine WL.pur (Pur.move rfl) ?_
  refine WL.pur (Pur.len rfl isSlice_54) ?_
  refine' WL.pur (Pur.bin rfl rfl ?h1_0) ?k1
  case h1_0 => first | exact Bin.neN | exact Bin.neI
  refine WL.nil ?_
  refine WQ.thn ?_
  first | refine WC.cond rfl (fun hc0 => ?_) (fun hc0 => ?_) | refine WC.condB rfl (fun hc0 => ?_) (fun hc0 => ?_)
  · refine WC.seq ?_
    refine WC.region ?_
    refine WL.pur (Pur.assign rfl) ?_
    refine WL.nil ?_
    refine WQ.thn ?_
    refine WC.ret ?_
    refine WQ.thn_ret ?_
    refine WQ.ret1 Try.results20 rfl [] zsL (View.le_refl _) ?_
    refine ⟨?_, rfl, rfl⟩
    exact boolF (by rintro rfl; omega)
  · refine WC.skip ?_
    refine WQ.thn ?_
    refine WC.seq ?_
    refine WC.seq ?_
    refine WC.region ?_
    refine WL.pur (Pur.assign rfl) ?_
    refine WL.nil ?_
    refine WQ.thn ?_
    refine WC.block ?_
    refine WC.loop (fun j m σ' H' => ∃ i : Nat, j = a.length - i ∧ i ≤ a.length ∧ a.take i = b.take i ∧ m = [(0, .slice aa a.length ac), (1, .slice ba b.length bc), (5, .int .i64 (i : Int))] ∧ σ' = σ ∧ H' = Hr) ⟨0, rfl, by omega, by simp, rfl, rfl, rfl⟩ zcV zsL ?_
    rintro _ _ σ Hr ⟨i, rfl, hi, heq, rfl, rfl, rfl⟩
    refine WC.seq ?_
    refine WC.seq ?_
    refine WC.region ?_
    refine WL.pur (Pur.move rfl) ?_
    refine WL.pur (Pur.move rfl) ?_
    refine WL.pur (Pur.len rfl isSlice_54) ?_
    refine' WL.pur (Pur.bin rfl rfl ?h2_0) ?k2
    case h2_0 => first | exact Bin.ltN | exact Bin.ltI | exact Bin.ltS
    refine WL.nil ?_
    refine WQ.thn ?_
    first | refine WC.cond rfl (fun hc1 => ?_) (fun hc1 => ?_) | refine WC.condB rfl (fun hc1 => ?_) (fun hc1 => ?_)
    · obtain ⟨ab, aoff, ac2, e1, _, _, haat⟩ := ha'.at (by omega)
      cases e1
      obtain ⟨bb, boff, bc2, e2, _, _, hbat⟩ := hb'.at (by omega)
      cases e2
      obtain ⟨x, hx⟩ : ∃ x, a[i]? = some x := ⟨_, List.getElem?_eq_getElem (by omega)⟩
      obtain ⟨y, hy⟩ : ∃ y, b[i]? = some y := ⟨_, List.getElem?_eq_getElem (by omega)⟩
      obtain ⟨vx, _, _, ⟨rfl, hxo⟩, hrx⟩ := haat i x hx
      obtain ⟨vy, _, _, ⟨rfl, hyo⟩, hry⟩ := hbat i y hy
      refine WC.skip ?_
      refine WQ.thn ?_
      refine WC.seq ?_
      refine WC.block ?_
      refine WC.seq ?_
      refine WC.drawH 9 9 mixed (by kernel_rfl) rfl ?_
      refine SA.take 0 (by kernel_rfl) rfl rfl rfl (Wanted.plain rfl) zsL (View.le_refl _) (Pur.move rfl) ?_
      refine SA.take 1 (by kernel_rfl) rfl rfl rfl (Wanted.plain rfl) zsL (View.le_refl _) (Pur.move rfl) ?_
      refine' SA.take 2 (by kernel_rfl) rfl rfl rfl (Wanted.plain rfl) zsL (View.le_refl _) (Pur.indexAddr rfl rfl sl_54 ?h3_0) ?k3
      case h3_0 => omega
      refine' SA.take 3 (by kernel_rfl) rfl rfl rfl (Wanted.plain rfl) zsL (View.le_refl _) (Pur.load1 rfl ty_9 ?h4_0) ?k4
      case h4_0 => first | (apply Rd.own1; exact zmE; rfl) | (apply Rd.own1; exact zmE; assumption) | (apply Rd.own_map; exact zmE; assumption) | exact RdV.rd (by assumption) | (apply Rd.own1; exact zmE; exact get_row (by assumption) (by first | assumption | omega)) | (apply RdV.rd; apply RdV.idx (i := 0); assumption; rfl)
      refine SA.take 4 (by kernel_rfl) rfl rfl rfl (Wanted.plain rfl) zsL (View.le_refl _) (Pur.move rfl) ?_
      refine SA.take 5 (by kernel_rfl) rfl rfl rfl (Wanted.plain rfl) zsL (View.le_refl _) (Pur.move rfl) ?_
      refine' SA.take 6 (by kernel_rfl) rfl rfl rfl (Wanted.plain rfl) zsL (View.le_refl _) (Pur.indexAddr rfl rfl sl_54 ?h5_0) ?k5
      case h5_0 => omega
      refine' SA.take 7 (by kernel_rfl) rfl rfl rfl (Wanted.plain rfl) zsL (View.le_refl _) (Pur.load1 rfl ty_9 ?h6_0) ?k6
      case h6_0 => first | (apply Rd.own1; exact zmE; rfl) | (apply Rd.own1; exact zmE; assumption) | (apply Rd.own_map; exact zmE; assumption) | exact RdV.rd (by assumption) | (apply Rd.own1; exact zmE; exact get_row (by assumption) (by first | assumption | omega)) | (apply RdV.rd; apply RdV.idx (i := 0); assumption; rfl)
      refine' SA.take 8 (by kernel_rfl) rfl rfl rfl (Wanted.plain rfl) zsL (View.le_refl _) (Pur.bin rfl rfl ?h7_0) ?k7
      case h7_0 => exact Bin.neS
      refine SA.done (by kernel_rfl) ?_
      refine WQ.thn ?_
      first | refine WC.cond rfl (fun hc2 => ?_) (fun hc2 => ?_) | refine WC.condB rfl (fun hc2 => ?_) (fun hc2 => ?_)
      · refine WC.seq ?_
        refine WC.region ?_
        refine WL.pur (Pur.assign rfl) ?_
        refine WL.nil ?_
        refine WQ.thn ?_
        refine WC.ret ?_
        refine WQ.blk_ret ?_
        refine WQ.thn_ret ?_
        refine WQ.back_ret ?_
        refine WQ.blk_ret ?_
        refine WQ.thn_ret ?_
        refine WQ.ret1 Try.results20 rfl [] zsL (View.le_refl _) ?_
        refine ⟨?_, rfl, rfl⟩
        exact boolF (by rintro rfl; rw [hx] at hy; cases hy; exact hc2 rfl)
      · refine WC.skip ?_
        refine WQ.blk ?_
        refine WQ.thn ?_
        refine WC.region ?_
        refine WL.pur (Pur.move rfl) ?_
        refine' WL.pur (Pur.bin rfl rfl ?h8_0) ?k8
        case h8_0 => first | (refine Bin.addN (b := 1) ?_; omega) | (refine Bin.addI ?_; omega)
        refine WL.pur (Pur.assign rfl) ?_
        refine WL.nil ?_
        refine WQ.back _ ⟨i + 1, rfl, by omega, by rw [List.take_add_one, List.take_add_one, hx, hy, heq, Decidable.not_not.1 hc2], rfl, rfl, rfl⟩ (by omega) zcV zsL
    · refine WC.exit ?_
      refine WQ.thn_exit ?_
      refine WQ.back_exit ?_
      refine WQ.blk_here ?_
      refine WQ.thn ?_
      refine WC.seq ?_
      refine WC.region ?_
      refine WL.pur (Pur.assign rfl) ?_
      refine WL.nil ?_
      refine WQ.thn ?_
      refine WC.ret ?_
      refine WQ.ret1 Try.results20 rfl [] zsL (View.le_refl _) ?_
      refine ⟨?_, rfl, rfl⟩
      rw [List.take_of_length_le (by omega), List.take_of_length_le (by omega)] at heq; exact boolT heq

end Go.Proofs.Ytgoooilgmabkmaa
namespace Go.Proofs.Ytgoooilgmabkmaa
open Go Go.Sl
set_option linter.unusedVariables false
set_option linter.unusedSimpArgs false
set_option maxRecDepth 100000

theorem zc_23 : zc Try.prog 23 = some [.slice none 0 0] := by kernel_rfl
set_option maxHeartbeats 4000000 in
theorem law14_RegParts (σ : View) (lv hv : Value) (key : ByteArray) (l : List EntD) (hs : List Nat) (h : Ents σ lv l) (hh : Hashes σ hv hs) :
    Tri Try.prog 5 #[lv, hv, .string key] σ [] (fun v σ' H' => v = .bool true) := by
  have h' := h
  obtain ⟨la, lc, rfl, hlc, hlby⟩ := h.shape
  have h1hv : hv.oneCell' = true := by obtain ⟨_, _, rfl, _⟩ := hh.shape; rfl
  refine Tri.of_bodyM [(0, .slice la l.length lc), (1, hv), (2, .string key)] Try.func5 rfl Try.ntmps5 (by simp) rfl (fun Hr => ?_)
  rw [List.nil_append]
  refine WC.seq ?_
  refine WC.region ?_
  refine WL.new (New.box1 rfl (by first | rfl | assumption)) (fun b5 => ?_)
  refine WL.pur (Pur.assign rfl) ?_
  refine WL.nil ?_
  refine WQ.thn ?_
  refine WC.seq ?_
  refine WC.seq ?_
  refine WC.region ?_
  refine WL.give (H1 := []) (H2 := Hr) (fun hb5 => ?_)
  rw [List.nil_append]
  have hle5 := View.le_add (rowO 9 [.string key]) hb5
  have hr5 := RdV.row (View.add_same σ b5 (rowO 9 [.string key]))
  generalize σ.add b5 (rowO 9 [.string key]) = σ5 at hle5 hr5 ⊢
  refine WL.call (H0 := []) (Hr := Hr) rfl Try.call16 (List.Perm.refl _) (law14_awake _) ?_
  rintro _ σ1 _ ⟨rfl, rfl⟩ hle1
  rw [List.nil_append]
  first | refine WL.pur (Pur.not rfl) ?_ | refine WL.pur (Pur.notB rfl) ?_
  refine WL.nil ?_
  refine WQ.thn ?_
  refine WC.condF rfl ?_
  refine WC.skip ?_
  refine WQ.thn ?_
  refine WC.seq ?_
  refine WC.region ?_
  refine WL.pur (Pur.move rfl) ?_
  refine WL.call (H0 := []) (Hr := Hr) rfl Try.call10 (List.Perm.refl _) (past_Of2 _ _ l (h'.mono eEnt_mono (View.le_trans hle5 hle1))) ?_
  rintro _ σ2 _ ⟨⟨pa, n2, rfl, hpp, hpn⟩, rfl⟩ hle2
  rw [List.nil_append]
  refine WL.pur (Pur.move rfl) ?_
  first | refine WL.pur (Pur.ex2_0 rfl) ?_ | refine WL.pur (Pur.ex3_0 rfl) ?_ | refine WL.pur (Pur.extractNext rfl) ?_ | refine WL.pur (Pur.extract rfl rfl) ?_
  first | refine WL.pur (Pur.ex2_1 rfl) ?_ | refine WL.pur (Pur.ex3_1 rfl) ?_ | refine WL.pur (Pur.extract rfl rfl) ?_
  first | refine WL.pur (Pur.ex3_2 rfl) ?_ | refine WL.pur (Pur.extract rfl rfl) ?_
  refine WL.pur (Pur.assign rfl) ?_
  refine WL.pur (Pur.assign rfl) ?_
  refine WL.pur (Pur.assign rfl) ?_
  refine WL.nil ?_
  refine WQ.thn ?_
  refine WC.seq ?_
  refine WC.seq ?_
  refine WC.region ?_
  refine WL.pur (Pur.move rfl) ?_
  refine' WL.pur (Pur.bin rfl rfl ?h1_0) ?k1
  case h1_0 => first | exact Bin.neN (b := 0) | exact Bin.neI
  refine WL.pur (Pur.move rfl) ?_
  refine' WL.orp (u := 32) (t := 35) rfl ?h2_0 ?h2_1 ?h2_2 rfl ?k2
  case h2_0 =>
    intro hg32 K32
    refine WL.gpur (u := 32) rfl rfl (gF hg32) (Pur.move rfl) ?_
    refine' WL.gpur (u := 32) rfl rfl (gF hg32) (Pur.bin rfl rfl ?h3_0) ?k3
    case h3_0 => exact Bin.eqP isPtr_25
    exact K32 _ zcR rfl
  case h2_1 =>
    intro hg32 K32
    refine WL.gskip (u := 32) rfl rfl (sF hg32) ?_
    refine WL.gskip (u := 32) rfl rfl (sF hg32) ?_
    exact K32 _ zcR
  case h2_2 => exact Wanted.plain rfl
  refine WL.nil ?_
  refine WQ.thn ?_
  first | refine WC.cond rfl (fun hc1 => ?_) (fun hc1 => ?_) | refine WC.condB rfl (fun hc1 => ?_) (fun hc1 => ?_)
  · have hr : (rightErr l).1 ≠ 0 := hc1.elim id (fun hc hz => by obtain ⟨_, _, _, _, hpe, _⟩ := hpp hz; subst hc; cases hpe)
    refine WC.seq ?_
    refine WC.region ?_
    refine WL.pur (Pur.move rfl) ?_
    refine' WL.pur (Pur.bin rfl rfl ?h4_0) ?k4
    case h4_0 => first | exact Bin.neN (b := 0) | exact Bin.neI
    refine WL.pur (Pur.move rfl) ?_
    refine' WL.andp (u := 38) (t := 41) rfl ?h5_0 ?h5_1 ?h5_2 rfl ?k5
    case h5_0 =>
      intro hg38 K38
      refine WL.gpur (u := 38) rfl rfl (gT hg38) (Pur.move rfl) ?_
      refine' WL.gpur (u := 38) rfl rfl (gT hg38) (Pur.bin rfl rfl ?h6_0) ?k6
      case h6_0 => exact Bin.eqP isPtr_25
      exact K38 _ zcR rfl
    case h5_1 =>
      intro hg38 K38
      refine WL.gskip (u := 38) rfl rfl (sT hg38) ?_
      refine WL.gskip (u := 38) rfl rfl (sT hg38) ?_
      exact K38 _ zcR
    case h5_2 => exact Wanted.plain rfl
    refine WL.pur (Pur.assign rfl) ?_
    refine WL.nil ?_
    refine WQ.thn ?_
    refine WC.ret ?_
    refine WQ.thn_ret ?_
    refine WQ.marks (.inl rfl) [] (_) (List.Perm.refl _) ?_
    refine WQ.ret1 Try.results5 rfl [] (by first | exact List.Sublist.refl _ | exact List.Sublist.cons _ (List.Sublist.cons _ (List.Sublist.refl _))) (View.le_trans hle5 (View.le_trans hle1 hle2)) ?_
    exact (boolT ⟨hr, hpn hr⟩).symm
  · have h0 : (rightErr l).1 = 0 := Decidable.not_not.1 fun h => hc1 (.inl h)
    have hone := oneOrd_ordE h0
    have hp2 := hpp h0
    have hh2 := hh.mono eHash_mono (View.le_trans hle5 (View.le_trans hle1 hle2))
    have hr5b := hr5.mono (View.le_trans hle1 hle2)
    refine WC.skip ?_
    refine WQ.thn ?_
    refine WC.seq ?_
    refine WC.region ?_
    refine WL.pur (Pur.move rfl) ?_
    refine WL.pur (Pur.move rfl) ?_
    refine WL.call (H0 := []) (Hr := Hr) rfl Try.call17 (List.Perm.refl _) (past_At _ _ _ (ordE l) hs hp2 hone hh2) ?_
    rintro _ σ3 _ ⟨⟨pa2, ev, rfl, hor3⟩, rfl⟩ hle3
    rw [List.nil_append]
    refine WL.pur (Pur.move rfl) ?_
    first | refine WL.pur (Pur.ex2_0 rfl) ?_ | refine WL.pur (Pur.ex3_0 rfl) ?_ | refine WL.pur (Pur.extractNext rfl) ?_ | refine WL.pur (Pur.extract rfl rfl) ?_
    first | refine WL.pur (Pur.ex2_1 rfl) ?_ | refine WL.pur (Pur.ex3_1 rfl) ?_ | refine WL.pur (Pur.extract rfl rfl) ?_
    refine WL.pur (Pur.assign rfl) ?_
    refine WL.pur (Pur.assign rfl) ?_
    refine WL.nil ?_
    refine WQ.thn ?_
    refine WC.seq ?_
    refine WC.seq ?_
    refine WC.region ?_
    refine WL.pur (Pur.move rfl) ?_
    refine' WL.pur (Pur.bin rfl rfl ?h7_0) ?k7
    case h7_0 => first | exact Bin.neN (b := 0) | exact Bin.neI
    refine WL.pur (Pur.move rfl) ?_
    refine' WL.orp (u := 50) (t := 53) rfl ?h8_0 ?h8_1 ?h8_2 rfl ?k8
    case h8_0 =>
      intro hg50 K50
      refine WL.gpur (u := 50) rfl rfl (gF hg50) (Pur.move rfl) ?_
      refine' WL.gpur (u := 50) rfl rfl (gF hg50) (Pur.bin rfl rfl ?h9_0) ?k9
      case h9_0 => exact Bin.eqP isPtr_25
      exact K50 _ zcR rfl
    case h8_1 =>
      intro hg50 K50
      refine WL.gskip (u := 50) rfl rfl (sF hg50) ?_
      refine WL.gskip (u := 50) rfl rfl (sF hg50) ?_
      exact K50 _ zcR
    case h8_2 => exact Wanted.plain rfl
    refine WL.nil ?_
    refine WQ.thn ?_
    first | refine WC.cond rfl (fun hc2 => ?_) (fun hc2 => ?_) | refine WC.condB rfl (fun hc2 => ?_) (fun hc2 => ?_)
    · have hr3 := hor3.resolve_left (fun hx => hc2.elim (fun hc => hc hx.1) (fun hc => by obtain ⟨_, _, _, _, hpe, _⟩ := hx.2.2; subst hc; cases hpe))
      refine WC.seq ?_
      refine WC.region ?_
      refine WL.pur (Pur.move rfl) ?_
      refine' WL.pur (Pur.bin rfl rfl ?h10_0) ?k10
      case h10_0 => first | exact Bin.eqN (b := 6) | exact Bin.eqI
      refine WL.pur (Pur.move rfl) ?_
      refine' WL.andp (u := 56) (t := 59) rfl ?h11_0 ?h11_1 ?h11_2 rfl ?k11
      case h11_0 =>
        intro hg56 K56
        refine WL.gpur (u := 56) rfl rfl (gT hg56) (Pur.move rfl) ?_
        refine' WL.gpur (u := 56) rfl rfl (gT hg56) (Pur.bin rfl rfl ?h12_0) ?k12
        case h12_0 => exact Bin.eqP isPtr_25
        exact K56 _ zcR rfl
      case h11_1 =>
        intro hg56 K56
        refine WL.gskip (u := 56) rfl rfl (sT hg56) ?_
        refine WL.gskip (u := 56) rfl rfl (sT hg56) ?_
        exact K56 _ zcR
      case h11_2 => exact Wanted.plain rfl
      refine WL.pur (Pur.assign rfl) ?_
      refine WL.nil ?_
      refine WQ.thn ?_
      refine WC.ret ?_
      refine WQ.thn_ret ?_
      refine WQ.marks (.inl rfl) [] (_) (List.Perm.refl _) ?_
      refine WQ.ret1 Try.results5 rfl [] (by first | exact List.Sublist.refl _ | exact List.Sublist.cons _ (List.Sublist.cons _ (List.Sublist.refl _))) (View.le_trans hle5 (View.le_trans hle1 (View.le_trans hle2 hle3))) ?_
      exact (boolT ⟨hr3.1, hr3.2.2⟩).symm
    · have hr3 := hor3.resolve_right (fun hx => hc2 (.inl (by rw [hx.1]; decide)))
      have hone2 := oneOrd_at hone (inH_closed hone.ok hs)
      have hpE := hr3.2.2
      have hmost2 := hone2.ok.most
      have h1pe : (Value.pointer pa2).oneCell' = true := rfl
      refine WC.skip ?_
      refine WQ.thn ?_
      refine WC.seq ?_
      refine WC.region ?_
      refine WL.new (New.buildSlice0 sl_23) (fun b60 => ?_)
      refine WL.new (New.alloc zc_23) (fun b12 => ?_)
      refine' WL.run0 (Run.store1 rfl rfl ty_23 (by first | rfl | assumption) ?h13_0 ?h13_1 sz_23) ?k13
      case h13_0 => repeat (first | exact Part.one | exact Part.here | apply Part.cons | apply Part.app)
      case h13_1 => first | exact Nat.le_of_ble_eq_true rfl | decide | (simp; done) | (simp; omega) | omega
      refine WL.nil ?_
      refine WQ.thn ?_
      refine WC.seq ?_
      refine WC.region ?_
      refine WL.new (New.alloc zc_3) (fun b13 => ?_)
      refine' WL.run0 (Run.store1 rfl rfl ty_3 (by first | rfl | assumption) ?h14_0 ?h14_1 sz_3) ?k14
      case h14_0 => repeat (first | exact Part.one | exact Part.here | apply Part.cons | apply Part.app)
      case h14_1 => first | exact Nat.le_of_ble_eq_true rfl | decide | (simp; done) | (simp; omega) | omega
      refine WL.nil ?_
      refine WQ.thn ?_
      refine WC.seq ?_
      refine WC.seq ?_
      refine WC.region ?_
      refine WL.pur (Pur.move rfl) ?_
      refine WL.call (H0 := []) (Hr := _) rfl Try.call18 (List.Perm.refl _) (past_All _ _ h1pe) ?_
      rintro v62 σa _ ⟨⟨bx, rfl, hbx⟩, rfl⟩ hlea
      rw [List.nil_append]
      refine WL.nil ?_
      refine WQ.thn ?_
      refine WC.block ?_
      refine WC.rangeFunc (H0 := [(b13, rowO 3 [.int .i64 0]), (b12, rowO 23 [.slice (some ⟨b60, 0, none⟩) 0 0]), (b60, rowO 37 [])]) (Hr := Hr) rfl Try.call41 (past_All1 σa bx _ (atL (ordE l) (inH (ordE l) hs) (ordE l).length) (hpE.mono hlea) hbx hmost2) (View.le_refl _) (List.Perm.refl _) (fun i σ' H' => ∃ sv hl c, SlO σ' eEnt 37 36 sv ((atL (ordE l) (inH (ordE l) hs) (ordE l).length).take i) hl ∧ c = cntQ key (opsTo (atL (ordE l) (inH (ordE l) hs) (ordE l).length) i) ∧ H' = (b13, rowO 3 [.int .i64 ((c : Nat) : Int)]) :: (b12, rowO 23 [sv]) :: hl ∧ σa.le σ') (fun _ _ _ => False) (fun i args σ2 hG => by obtain ⟨e, pv, ov, _, rfl, _⟩ := hG; rfl) (by decide) (⟨_, [(b60, rowO 37 [])], 0, SlO.row (b := b60) (ElR.nil (σ := σa) (E := eEnt) (sz := 36)), by rw [opsTo_zero]; rfl, rfl, View.le_refl _⟩) ?_ ?_ ?_
      · intro lq rec0 rec1 i args σ1 σ2 H1 Hq QA QB hi hJ hle1 hle2 hG hA hB hX
        obtain ⟨sv, hl, c, hso0, hcn, rfl, hleK⟩ := hJ
        obtain ⟨e, qv, ov, he, rfl, heH, hNR⟩ := hG
        obtain ⟨qa, qc, rfl, hqc, hqb⟩ := hNR.1.shape
        have hops := hNR.2.1
        obtain ⟨oa, oc, rfl, hoc, hob⟩ := hops.shape
        obtain ⟨ob, ooff, heo, hoat⟩ := hops.rds
        rw [List.cons_append, List.cons_append]
        have hso := hso0.mono eEnt_mono hle2
        have hsv1 := hso.one_cell
        have hr5c := hr5b.mono (View.le_trans hle3 (View.le_trans hlea (View.le_trans hleK hle2)))
        have hilt := (List.getElem?_eq_some_iff.1 he).1
        have htl : ((atL (ordE l) (inH (ordE l) hs) (ordE l).length).take i).length ≤ i := List.length_take_le _ _
        have hcl := cntQ_le key (opsTo (atL (ordE l) (inH (ordE l) hs) (ordE l).length) i)
        have hcl2 := opsTo_len hone2.ok i
        have hol : e.node.ops.length ≤ 1024 := by rw [← opsAt_of he]; exact opsAt_len hone2.ok i
        refine WC.region ?_
        refine WL.new (New.alloc zc_37) (fun b15 => ?_)
        refine' WL.run0 (Run.storeAll rfl rfl ty_37 ?h15_0 (by first | rfl | assumption) ?h15_1 (by first | rfl | assumption)) ?k15
        case h15_0 => repeat (first | exact Part.one | exact Part.here | apply Part.cons | apply Part.app)
        case h15_1 => first | rfl | assumption
        refine WL.nil ?_
        refine hA _ _ _ _ (by repeat (first | exact Part.one | exact Part.here | apply Part.cons | apply Part.app)) ?_
        refine WC.block ?_
        refine WC.seq ?_
        refine WC.region ?_
        refine' WL.pur (Pur.load1 rfl ty_23 ?h16_0) ?k16
        case h16_0 => first | (apply Rd.own1; exact zmE; rfl) | (apply RdV.rd; apply RdV.idx (i := 0); assumption; rfl)
        refine' WL.pur (Pur.loadN rfl ty_37 ?h17_0 ?h17_1) ?k17
        case h17_0 => first | (apply Rd.own_sub; exact zmE; exact Sub.refl _) | (apply RdV.rd; assumption)
        case h17_1 => first | rfl | assumption
        refine WL.new (New.buildSliceN (xs := [.tmp 66]) (vss := [entCells e.id e.node.au e.node.cl (.slice qa e.node.ps.length qc) (.slice oa e.node.ops.length oc)]) sl_23 zc_37 rfl rfl rfl (by rfl) (by rfl)) (fun b67 => ?_)
        refine' WL.any (Any.push (H1 := [(b67, _), (b15, _), (b13, _), (b12, _)]) (H2 := (lq, rec1) :: Hq) sl_23 zc_37 rfl by_37 rfl rfl hso ?h18_0 ?h18_1 ?h18_2 ?h18_3 rfl (by omega) (by omega)) ?k18
        case h18_0 => apply Rd.own_sub; exact zmE; exact Sub.refl _
        case h18_1 => first | rfl | assumption
        case h18_2 => first | rfl | assumption
        case h18_3 => exact (show eEnt _ e _ from ⟨_, _, rfl, heH, hNR⟩)
        rintro v68 σ _ ⟨hl2, hso2, rfl, rfl⟩ _
        have hsv2 := hso2.one_cell
        refine' WL.run0 (Run.store1 rfl rfl ty_23 (by first | rfl | assumption) ?h19_0 ?h19_1 sz_23) ?k19
        case h19_0 => repeat (first | exact Part.one | exact Part.here | apply Part.cons | apply Part.app)
        case h19_1 => first | exact Nat.le_of_ble_eq_true rfl | decide | (simp; done) | (simp; omega) | omega
        refine WL.nil ?_
        refine WQ.thn ?_
        refine WC.seq ?_
        refine WC.region ?_
        refine WL.pur (Pur.fieldAddr rfl fo_37_1) ?_
        refine WL.pur (Pur.fieldAddr rfl fo_35_3) ?_
        refine' WL.pur (Pur.load1 rfl ty_33 ?h20_0) ?k20
        case h20_0 => first | (apply Rd.own1; exact zmE; rfl) | (apply RdV.rd; apply RdV.idx (i := 35); assumption; rfl) | (apply RdV.rd; apply RdV.idx (off := 0) (i := 35); assumption; rfl)
        refine WL.pur (Pur.len rfl isSlice_33) ?_
        refine WL.pur (Pur.move rfl) ?_
        refine WL.nil ?_
        refine WQ.thn ?_
        refine WC.block ?_
        refine WC.loop (fun j m σ' H' => ∃ q : Nat, j = e.node.ops.length - q ∧ q ≤ e.node.ops.length ∧ m = [(5, .pointer (some ⟨b5, 0, none⟩)), (12, .pointer (some ⟨b12, 0, none⟩)), (13, .pointer (some ⟨b13, 0, none⟩)), (71, .slice oa e.node.ops.length oc), (72, .int .i64 (e.node.ops.length : Int)), (73, .int .i64 (q : Int))] ∧ σ' = σ ∧ H' = (b15, rowO 37 (entCells e.id e.node.au e.node.cl (.slice qa e.node.ps.length qc) (.slice oa e.node.ops.length oc))) :: (b13, rowO 3 [.int .i64 ((c + cntQ key (e.node.ops.take q) : Nat) : Int)]) :: (b12, rowO 23 [v68]) :: (hl2 ++ (lq, rec1) :: Hq)) ⟨0, rfl, by omega, rfl, rfl, rfl⟩ zcV zsL ?_
        rintro _ _ σ Hr ⟨q, rfl, hq, rfl, rfl, rfl⟩
        refine WC.seq ?_
        refine WC.region ?_
        refine' WL.pur (Pur.bin rfl rfl ?h21_0) ?k21
        case h21_0 => first | exact Bin.ltN | exact Bin.ltI | exact Bin.ltS
        refine WL.nil ?_
        refine WQ.thn ?_
        refine WC.seq ?_
        first | refine WC.cond rfl (fun hc3 => ?_) (fun hc3 => ?_) | refine WC.condB rfl (fun hc3 => ?_) (fun hc3 => ?_)
        · obtain ⟨o, hoq⟩ : ∃ o, e.node.ops[q]? = some o := ⟨_, List.getElem?_eq_getElem hc3⟩
          obtain ⟨vs, _, _, ⟨rfl, hook⟩, hord⟩ := hoat q o hoq
          have hcq := cntQ_le key (e.node.ops.take q)
          rw [List.length_take] at hcq
          refine WC.skip ?_
          refine WQ.thn ?_
          refine WC.seq ?_
          refine WC.block ?_
          refine WC.seq ?_
          refine WC.region ?_
          refine' WL.pur (Pur.indexAddr (eqA (heo (by omega))) rfl sl_33 ?h22_0) ?k22
          case h22_0 => omega
          refine' WL.pur (Pur.loadN rfl ty_53 ?h23_0 ?h23_1) ?k23
          case h23_0 => exact RdV.rd hord
          case h23_1 => first | rfl | assumption
          refine WL.new (New.alloc zc_53) (fun b17 => ?_)
          refine' WL.run0 (Run.storeAll rfl rfl ty_53 ?h24_0 (by first | rfl | assumption) ?h24_1 (by first | rfl | assumption)) ?k24
          case h24_0 => repeat (first | exact Part.one | exact Part.here | apply Part.cons | apply Part.app)
          case h24_1 => first | rfl | assumption
          refine WL.nil ?_
          refine WQ.thn ?_
          refine WC.seq ?_
          refine WC.region ?_
          refine WL.pur (Pur.fieldAddr rfl fo_53_0) ?_
          refine' WL.pur (Pur.load1 rfl ty_3 ?h25_0) ?k25
          case h25_0 => first | (apply Rd.own1; exact zmE; rfl) | (apply RdV.rd; apply RdV.idx (i := 0); assumption; rfl)
          refine' WL.pur (Pur.bin rfl rfl ?h26_0) ?k26
          case h26_0 => first | exact Bin.eqN (b := 1) | exact Bin.eqI
          refine WL.pur (Pur.move rfl) ?_
          refine' WL.andp (u := 80) (t := 85) rfl ?h27_0 ?h27_1 ?h27_2 rfl ?k27
          case h27_0 =>
            intro hg80 K80
            refine WL.gpur (u := 80) rfl rfl (gT hg80) (Pur.fieldAddr rfl fo_53_1) ?_
            refine' WL.gpur (u := 80) rfl rfl (gT hg80) (Pur.load1 rfl ty_9 ?h28_0) ?k28
            case h28_0 => first | (apply Rd.own1; exact zmE; rfl) | (apply RdV.rd; apply RdV.idx (i := 1); assumption; rfl) | (apply RdV.rd; apply RdV.idx (off := 0) (i := 1); assumption; rfl)
            refine' WL.gpur (u := 80) rfl rfl (gT hg80) (Pur.load1 rfl ty_9 ?h29_0) ?k29
            case h29_0 => exact RdV.rd hr5c
            refine' WL.gpur (u := 80) rfl rfl (gT hg80) (Pur.bin rfl rfl ?h30_0) ?k30
            case h30_0 => exact Bin.eqS
            exact K80 _ zcR rfl
          case h27_1 =>
            intro hg80 K80
            refine WL.gskip (u := 80) rfl rfl (sT hg80) ?_
            refine WL.gskip (u := 80) rfl rfl (sT hg80) ?_
            refine WL.gskip (u := 80) rfl rfl (sT hg80) ?_
            refine WL.gskip (u := 80) rfl rfl (sT hg80) ?_
            exact K80 _ zcR
          case h27_2 => exact Wanted.plain rfl
          refine WL.nil ?_
          refine WQ.thn ?_
          first | refine WC.cond rfl (fun hc4 => ?_) (fun hc4 => ?_) | refine WC.condB rfl (fun hc4 => ?_) (fun hc4 => ?_)
          · refine WC.region ?_
            refine' WL.pur (Pur.load1 rfl ty_3 ?h31_0) ?k31
            case h31_0 => first | (apply Rd.own1; exact zmE; rfl) | (apply RdV.rd; apply RdV.idx (i := 0); assumption; rfl)
            refine' WL.pur (Pur.bin rfl rfl ?h32_0) ?k32
            case h32_0 => first | (refine Bin.addN (b := 1) ?_; omega) | (refine Bin.addI ?_; omega)
            refine' WL.run0 (Run.store1 rfl rfl ty_3 (by first | rfl | assumption) ?h33_0 ?h33_1 sz_3) ?k33
            case h33_0 => repeat (first | exact Part.one | exact Part.here | apply Part.cons | apply Part.app)
            case h33_1 => first | exact Nat.le_of_ble_eq_true rfl | decide | (simp; done) | (simp; omega) | omega
            refine WL.nil ?_
            refine WQ.blk ?_
            refine WQ.thn ?_
            refine WC.region ?_
            refine' WL.pur (Pur.bin rfl rfl ?h34_0) ?k34
            case h34_0 => first | (refine Bin.addN (b := 1) ?_; omega) | (refine Bin.addI ?_; omega)
            refine WL.pur (Pur.move rfl) ?_
            refine WL.nil ?_
            refine WQ.back _ ⟨q + 1, rfl, by omega, rfl, rfl, by rw [cntQ_yes hoq hc4]⟩ (by omega) zcV zsL
          · refine WC.skip ?_
            refine WQ.blk ?_
            refine WQ.thn ?_
            refine WC.region ?_
            refine' WL.pur (Pur.bin rfl rfl ?h35_0) ?k35
            case h35_0 => first | (refine Bin.addN (b := 1) ?_; omega) | (refine Bin.addI ?_; omega)
            refine WL.pur (Pur.move rfl) ?_
            refine WL.nil ?_
            refine WQ.back _ ⟨q + 1, rfl, by omega, rfl, rfl, by rw [cntQ_no hoq hc4]⟩ (by omega) zcV zsL
        · have hqq : q = e.node.ops.length := by omega
          subst hqq
          rw [List.take_length]
          refine WC.exit ?_
          refine WQ.thn_exit ?_
          refine WQ.back_exit ?_
          refine WQ.blk_here ?_
          refine WQ.blk ?_
          exact hB _ _ _ _ (⟨_, _, _, by rw [List.take_add_one, he, Option.toList_some]; exact hso2, by rw [opsTo_step he, cntQ_app, ← hcn], rfl, View.le_trans hleK hle2⟩) (View.le_refl _) (by simp only [List.cons_append]; repeat (first | exact List.Sublist.refl _ | apply List.Sublist.cons_cons | apply List.Sublist.cons))
      · intro D0 σ Hd hJ hled
        obtain ⟨sv, hl, c, hso, hcn, rfl, hleK⟩ := hJ
        rw [List.take_length] at hso
        rw [List.cons_append, List.cons_append]
        refine WQ.blk ?_
        refine WQ.thn ?_
        refine WC.seq ?_
        refine WC.region ?_
        refine' WL.pur (Pur.load1 rfl ty_23 ?h36_0) ?k36
        case h36_0 => first | (apply Rd.own1; exact zmE; rfl) | (apply RdV.rd; apply RdV.idx (i := 0); assumption; rfl)
        refine WL.call (H0 := hl) (Hr := (b13, rowO 3 [.int .i64 ((c : Nat) : Int)]) :: (b12, rowO 23 [sv]) :: (D0, Obj.deferred (some [])) :: Hr) rfl Try.call10 (List.perm_append_comm_assoc hl [(b13, rowO 3 [.int .i64 ((c : Nat) : Int)]), (b12, rowO 23 [sv])] _) (hso.hand (byt := 96) eEnt_mono (by omega) (fun σ' hl' hs' => past_Of2 σ' _ _ hs')) ?_
        rintro _ σ6 _ ⟨⟨ra, n6, rfl, hrr, hrn⟩, rfl⟩ hle6
        rw [List.nil_append]
        have hr6 := hrr hone2.right
        rw [hone2.fix] at hr6
        have hpE6 := hpE.mono (View.le_trans hlea (View.le_trans hleK hle6))
        have hr56 := hr5b.mono (View.le_trans hle3 (View.le_trans hlea (View.le_trans hleK hle6)))
        refine WL.pur (Pur.move rfl) ?_
        first | refine WL.pur (Pur.ex2_0 rfl) ?_ | refine WL.pur (Pur.ex3_0 rfl) ?_ | refine WL.pur (Pur.extractNext rfl) ?_ | refine WL.pur (Pur.extract rfl rfl) ?_
        first | refine WL.pur (Pur.ex2_1 rfl) ?_ | refine WL.pur (Pur.ex3_1 rfl) ?_ | refine WL.pur (Pur.extract rfl rfl) ?_
        first | refine WL.pur (Pur.ex3_2 rfl) ?_ | refine WL.pur (Pur.extract rfl rfl) ?_
        refine WL.pur (Pur.assign rfl) ?_
        refine WL.pur (Pur.assign rfl) ?_
        refine WL.pur (Pur.assign rfl) ?_
        refine WL.nil ?_
        refine WQ.thn ?_
        refine WC.seq ?_
        refine WC.seq ?_
        refine WC.region ?_
        refine WL.pur (Pur.move rfl) ?_
        refine' WL.pur (Pur.bin rfl rfl ?h37_0) ?k37
        case h37_0 => first | exact Bin.neN (b := 0) | exact Bin.neI
        refine WL.pur (Pur.move rfl) ?_
        refine' WL.orp (u := 97) (t := 100) rfl ?h38_0 ?h38_1 ?h38_2 rfl ?k38
        case h38_0 =>
          intro hg97 K97
          refine WL.gpur (u := 97) rfl rfl (gF hg97) (Pur.move rfl) ?_
          refine' WL.gpur (u := 97) rfl rfl (gF hg97) (Pur.bin rfl rfl ?h39_0) ?k39
          case h39_0 => exact Bin.eqP isPtr_25
          exact K97 _ zcR rfl
        case h38_1 =>
          intro hg97 K97
          refine WL.gskip (u := 97) rfl rfl (sF hg97) ?_
          refine WL.gskip (u := 97) rfl rfl (sF hg97) ?_
          exact K97 _ zcR
        case h38_2 => exact Wanted.plain rfl
        refine WL.nil ?_
        refine WQ.thn ?_
        first | refine WC.cond rfl (fun hc5 => ?_) (fun hc5 => ?_) | refine WC.condB rfl (fun hc5 => ?_) (fun hc5 => ?_)
        · rcases hc5 with hc | hc
          · exact absurd hone2.right hc
          · obtain ⟨_, _, _, _, hne, _⟩ := hr6; subst hc; cases hne
        · refine WC.skip ?_
          refine WQ.thn ?_
          refine WC.seq ?_
          refine WC.region ?_
          refine WL.pur (Pur.move rfl) ?_
          refine' WL.pur (Pur.load1 rfl ty_9 ?h40_0) ?k40
          case h40_0 => exact RdV.rd hr56
          refine WL.call (H0 := []) (Hr := (b13, rowO 3 [.int .i64 ((c : Nat) : Int)]) :: (b12, rowO 23 [sv]) :: (D0, Obj.deferred (some [])) :: Hr) rfl Try.call19 (List.Perm.refl _) (reg_Read _ _ _ key hpE6 hone2.ok) ?_
          rintro _ σ7 _ ⟨_, hso7, rfl⟩ hle7
          refine WL.giveS (byt := 16) (H1 := []) (H2 := (b13, rowO 3 [.int .i64 ((c : Nat) : Int)]) :: (b12, rowO 23 [sv]) :: (D0, Obj.deferred (some [])) :: Hr) eStr_mono hso7 (by have := regHeld_len hone2.ok key; omega) rfl (fun σ8 hle8 hA8 => ?_)
          rw [List.nil_append]
          obtain ⟨aa, ac, rfl, _, _⟩ := hA8.shape
          have hle78 := View.le_trans hle7 hle8
          have hput := held_puts (atL (ordE l) (inH (ordE l) hs) (ordE l).length) key
          rw [← hcn] at hput
          refine WL.pur (Pur.assign rfl) ?_
          refine WL.nil ?_
          refine WQ.thn ?_
          refine WC.seq ?_
          refine WC.region ?_
          refine WL.pur (Pur.move rfl) ?_
          refine WL.pur (Pur.len rfl isSlice_54) ?_
          refine' WL.pur (Pur.load1 rfl ty_3 ?h41_0) ?k41
          case h41_0 => first | (apply Rd.own1; exact zmE; rfl) | (apply RdV.rd; apply RdV.idx (i := 0); assumption; rfl)
          refine' WL.pur (Pur.bin rfl rfl ?h42_0) ?k42
          case h42_0 => first | exact Bin.leN | exact Bin.leI | exact Bin.leS
          refine WL.pur (Pur.move rfl) ?_
          refine' WL.andp (u := 108) (t := 114) rfl ?h43_0 ?h43_1 ?h43_2 rfl ?k43
          case h43_0 =>
            intro hg108 K108
            refine WL.gpur (u := 108) rfl rfl (gT hg108) (Pur.move rfl) ?_
            refine WL.gpur (u := 108) rfl rfl (gT hg108) (Pur.move rfl) ?_
            refine' WL.gpur (u := 108) rfl rfl (gT hg108) (Pur.load1 rfl ty_9 ?h44_0) ?k44
            case h44_0 => exact RdV.rd (hr56.mono hle78)
            refine WL.gcallR (H0 := []) (Hr := (b13, rowO 3 [.int .i64 ((c : Nat) : Int)]) :: (b12, rowO 23 [sv]) :: (D0, Obj.deferred (some [])) :: Hr) (u := 108) rfl rfl (gT hg108) rfl Try.call19 (List.Perm.refl _) (reg_Read _ _ _ key (hr6.mono hle78) hone2.ok) ?_
            rintro _ σ9 _ ⟨_, hso9, rfl⟩ hle9
            refine WL.giveS (byt := 16) (H1 := []) (H2 := (b13, rowO 3 [.int .i64 ((c : Nat) : Int)]) :: (b12, rowO 23 [sv]) :: (D0, Obj.deferred (some [])) :: Hr) eStr_mono hso9 (by have := regHeld_len hone2.ok key; omega) rfl (fun σ10 hle10 hB10 => ?_)
            rw [List.nil_append]
            obtain ⟨ba, bc, rfl, _, _⟩ := hB10.shape
            refine WL.gcallP (u := 108) rfl rfl (gT hg108) rfl Try.call20 ((r11_EqTexts _ _ _ _ _ (hA8.mono eStr_mono (View.le_trans hle9 hle10)) hB10)) ?_
            refine WL.le (View.le_trans hle9 hle10) ?_
            exact K108 _ zcR rfl
          case h43_1 =>
            intro hg108 K108
            refine WL.gskip (u := 108) rfl rfl (sT hg108) ?_
            refine WL.gskip (u := 108) rfl rfl (sT hg108) ?_
            refine WL.gskip (u := 108) rfl rfl (sT hg108) ?_
            refine WL.gskip (u := 108) rfl rfl (sT hg108) ?_
            refine WL.gskip (u := 108) rfl rfl (sT hg108) ?_
            exact K108 _ zcR
          case h43_2 => exact Wanted.plain rfl
          refine WL.pur (Pur.move rfl) ?_
          refine' WL.andp (u := 115) (t := 121) rfl ?h45_0 ?h45_1 ?h45_2 rfl ?k45
          case h45_0 =>
            intro hg115 K115
            refine WL.gpur (u := 115) rfl rfl (gT hg115) (Pur.move rfl) ?_
            refine WL.gcallR (H0 := []) (Hr := (b13, rowO 3 [.int .i64 ((c : Nat) : Int)]) :: (b12, rowO 23 [sv]) :: (D0, Obj.deferred (some [])) :: Hr) (u := 115) rfl rfl (gT hg115) rfl Try.call21 (List.Perm.refl _) (reg_Keys _ _ _ (hpE6.mono hle78) hone2.ok) ?_
            rintro _ σ11 _ ⟨_, hso11, rfl⟩ hle11
            refine WL.giveS (byt := 16) (H1 := []) (H2 := (b13, rowO 3 [.int .i64 ((c : Nat) : Int)]) :: (b12, rowO 23 [sv]) :: (D0, Obj.deferred (some [])) :: Hr) eStr_mono hso11 (by have := regKeys_len hone2.ok; omega) rfl (fun σ12 hle12 hC12 => ?_)
            rw [List.nil_append]
            obtain ⟨ca, cc, rfl, _, _⟩ := hC12.shape
            refine WL.gpur (u := 115) rfl rfl (gT hg115) (Pur.move rfl) ?_
            refine WL.gcallR (H0 := []) (Hr := (b13, rowO 3 [.int .i64 ((c : Nat) : Int)]) :: (b12, rowO 23 [sv]) :: (D0, Obj.deferred (some [])) :: Hr) (u := 115) rfl rfl (gT hg115) rfl Try.call21 (List.Perm.refl _) (reg_Keys _ _ _ (hr6.mono (View.le_trans hle78 (View.le_trans hle11 hle12))) hone2.ok) ?_
            rintro _ σ13 _ ⟨_, hso13, rfl⟩ hle13
            refine WL.giveS (byt := 16) (H1 := []) (H2 := (b13, rowO 3 [.int .i64 ((c : Nat) : Int)]) :: (b12, rowO 23 [sv]) :: (D0, Obj.deferred (some [])) :: Hr) eStr_mono hso13 (by have := regKeys_len hone2.ok; omega) rfl (fun σ14 hle14 hD14 => ?_)
            rw [List.nil_append]
            obtain ⟨da, dc, rfl, _, _⟩ := hD14.shape
            refine WL.gcallP (u := 115) rfl rfl (gT hg115) rfl Try.call20 ((r11_EqTexts _ _ _ _ _ (hC12.mono eStr_mono (View.le_trans hle13 hle14)) hD14)) ?_
            refine WL.le (View.le_trans hle11 (View.le_trans hle12 (View.le_trans hle13 hle14))) ?_
            exact K115 _ zcR rfl
          case h45_1 =>
            intro hg115 K115
            refine WL.gskip (u := 115) rfl rfl (sT hg115) ?_
            refine WL.gskip (u := 115) rfl rfl (sT hg115) ?_
            refine WL.gskip (u := 115) rfl rfl (sT hg115) ?_
            refine WL.gskip (u := 115) rfl rfl (sT hg115) ?_
            refine WL.gskip (u := 115) rfl rfl (sT hg115) ?_
            exact K115 _ zcR
          case h45_2 => exact Wanted.plain rfl
          refine WL.pur (Pur.assign rfl) ?_
          refine WL.nil ?_
          refine WQ.thn ?_
          refine WC.ret ?_
          refine WQ.marks (.inl rfl) [D0] ((b13, rowO 3 [.int .i64 ((c : Nat) : Int)]) :: (b12, rowO 23 [sv]) :: Hr) ((List.perm_middle (l₁ := [_, _])).symm) ?_
          refine WQ.ret1 Try.results5 rfl [] (by first | exact List.Sublist.refl _ | exact List.Sublist.cons _ (List.Sublist.cons _ (List.Sublist.refl _))) (View.le_trans hle5 (View.le_trans hle1 (View.le_trans hle2 (View.le_trans hle3 (View.le_trans hlea (View.le_trans hleK (View.le_trans hle6 hle78))))))) ?_
          exact (boolT ⟨⟨hput, rfl⟩, rfl⟩).symm
      · intro e D σ' H' _ hJ _; exact hJ.elim

end Go.Proofs.Ytgoooilgmabkmaa
