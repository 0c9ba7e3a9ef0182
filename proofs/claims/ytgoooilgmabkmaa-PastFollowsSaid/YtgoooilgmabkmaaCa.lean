/-
  Contracts of the functions of the program: what each call hands back, from what is known and owned.
-/
import Derived.Test.YtgoooilgmabkmaaPb
import Derived.Test.YtgoooilgmabkmaaChecked
set_option linter.unusedVariables false
set_option linter.unusedSimpArgs false
set_option linter.unusedSectionVars false
namespace Go.Proofs.Ytgoooilgmabkmaa
open Go Go.Sl
theorem mixed : Try.prog.follows .mixedOrders = true := by kernel_rfl
theorem ar_31 : arE Try.prog 31 = some (32, 5, 1) := by kernel_rfl
theorem by_100 : (Try.prog.info? 100).map (·.bytes) = some 24 := by kernel_rfl
theorem by_101 : (Try.prog.info? 101).map (·.bytes) = some 8 := by kernel_rfl
theorem by_116 : (Try.prog.info? 116).map (·.bytes) = some 32 := by kernel_rfl
theorem by_24 : (Try.prog.info? 24).map (·.bytes) = some 24 := by kernel_rfl
theorem by_3 : (Try.prog.info? 3).map (·.bytes) = some 8 := by kernel_rfl
theorem by_31 : (Try.prog.info? 31).map (·.bytes) = some 32 := by kernel_rfl
theorem by_37 : (Try.prog.info? 37).map (·.bytes) = some 96 := by kernel_rfl
theorem by_4 : (Try.prog.info? 4).map (·.bytes) = some 1 := by kernel_rfl
theorem by_53 : (Try.prog.info? 53).map (·.bytes) = some 88 := by kernel_rfl
theorem by_9 : (Try.prog.info? 9).map (·.bytes) = some 16 := by kernel_rfl
theorem fo_116_0 : fldOff Try.prog 116 0 = some 0 := by kernel_rfl
theorem fo_116_1 : fldOff Try.prog 116 1 = some 1 := by kernel_rfl
theorem fo_116_2 : fldOff Try.prog 116 2 = some 2 := by kernel_rfl
theorem fo_174_0 : fldOff Try.prog 174 0 = some 0 := by kernel_rfl
theorem fo_35_0 : fldOff Try.prog 35 0 = some 0 := by kernel_rfl
theorem fo_35_1 : fldOff Try.prog 35 1 = some 1 := by kernel_rfl
theorem fo_35_2 : fldOff Try.prog 35 2 = some 2 := by kernel_rfl
theorem fo_35_3 : fldOff Try.prog 35 3 = some 3 := by kernel_rfl
theorem fo_37_0 : fldOff Try.prog 37 0 = some 0 := by kernel_rfl
theorem fo_37_1 : fldOff Try.prog 37 1 = some 32 := by kernel_rfl
theorem fo_51_0 : fldOff Try.prog 51 0 = some 0 := by kernel_rfl
theorem fo_51_1 : fldOff Try.prog 51 1 = some 32 := by kernel_rfl
theorem fo_53_0 : fldOff Try.prog 53 0 = some 0 := by kernel_rfl
theorem fo_53_1 : fldOff Try.prog 53 1 = some 1 := by kernel_rfl
theorem fo_53_2 : fldOff Try.prog 53 2 = some 2 := by kernel_rfl
theorem fo_53_3 : fldOff Try.prog 53 3 = some 3 := by kernel_rfl
theorem fo_53_4 : fldOff Try.prog 53 4 = some 4 := by kernel_rfl
theorem fo_84_0 : fldOff Try.prog 84 0 = some 0 := by kernel_rfl
theorem fo_84_1 : fldOff Try.prog 84 1 = some 1 := by kernel_rfl
theorem fo_84_2 : fldOff Try.prog 84 2 = some 2 := by kernel_rfl
theorem identT_51 : identT Try.prog 51 = true := by kernel_rfl
theorem isBool_4 : isBool Try.prog 4 = true := by kernel_rfl
theorem isHKey_31 : isHKey Try.prog 31 = true := by kernel_rfl
theorem isHash_31 : isHash Try.prog 31 = true := by kernel_rfl
theorem isPlainT_31 : isPlainT Try.prog 31 = true := by kernel_rfl
theorem isPtr_25 : isPtr Try.prog 25 = true := by kernel_rfl
theorem isSlice_100 : isSlice Try.prog 100 = true := by kernel_rfl
theorem isSlice_111 : isSlice Try.prog 111 = true := by kernel_rfl
theorem isSlice_167 : isSlice Try.prog 167 = true := by kernel_rfl
theorem isSlice_23 : isSlice Try.prog 23 = true := by kernel_rfl
theorem isSlice_24 : isSlice Try.prog 24 = true := by kernel_rfl
theorem isSlice_32 : isSlice Try.prog 32 = true := by kernel_rfl
theorem isSlice_33 : isSlice Try.prog 33 = true := by kernel_rfl
theorem isSlice_54 : isSlice Try.prog 54 = true := by kernel_rfl
theorem isSlice_90 : isSlice Try.prog 90 = true := by kernel_rfl
theorem isString_9 : isString Try.prog 9 = true := by kernel_rfl
theorem mt_77 : mapT Try.prog 77 = some (31, 3) := by kernel_rfl
theorem mt_95 : mapT Try.prog 95 = some (9, 90) := by kernel_rfl
theorem pl_116 : places Try.prog 116 = some [(0, 1), (1, 1), (2, 1)] := by kernel_rfl
theorem pl_174 : places Try.prog 174 = some [(0, 1), (1, 1), (2, 1)] := by kernel_rfl
theorem pl_35 : places Try.prog 35 = some [(0, 1), (1, 1), (2, 1), (3, 1)] := by kernel_rfl
theorem pl_37 : places Try.prog 37 = some [(0, 32), (32, 4)] := by kernel_rfl
theorem pl_51 : places Try.prog 51 = some [(0, 32), (32, 1)] := by kernel_rfl
theorem pl_53 : places Try.prog 53 = some [(0, 1), (1, 1), (2, 1), (3, 1), (4, 33)] := by kernel_rfl
theorem pl_84 : places Try.prog 84 = some [(0, 1), (1, 1), (2, 1)] := by kernel_rfl
theorem sl_100 : slE Try.prog 100 = some (101, 1) := by kernel_rfl
theorem sl_109 : slE Try.prog 109 = some (24, 1) := by kernel_rfl
theorem sl_111 : slE Try.prog 111 = some (31, 32) := by kernel_rfl
theorem sl_167 : slE Try.prog 167 = some (174, 3) := by kernel_rfl
theorem sl_23 : slE Try.prog 23 = some (37, 36) := by kernel_rfl
theorem sl_24 : slE Try.prog 24 = some (3, 1) := by kernel_rfl
theorem sl_32 : slE Try.prog 32 = some (31, 32) := by kernel_rfl
theorem sl_33 : slE Try.prog 33 = some (53, 37) := by kernel_rfl
theorem sl_42 : slE Try.prog 42 = some (4, 1) := by kernel_rfl
theorem sl_54 : slE Try.prog 54 = some (9, 1) := by kernel_rfl
theorem sl_82 : slE Try.prog 82 = some (100, 1) := by kernel_rfl
theorem sl_90 : slE Try.prog 90 = some (116, 3) := by kernel_rfl
theorem sz_101 : (Try.prog.info? 101).map (·.size) = some 1 := by kernel_rfl
theorem sz_111 : (Try.prog.info? 111).map (·.size) = some 1 := by kernel_rfl
theorem sz_23 : (Try.prog.info? 23).map (·.size) = some 1 := by kernel_rfl
theorem sz_24 : (Try.prog.info? 24).map (·.size) = some 1 := by kernel_rfl
theorem sz_3 : (Try.prog.info? 3).map (·.size) = some 1 := by kernel_rfl
theorem sz_32 : (Try.prog.info? 32).map (·.size) = some 1 := by kernel_rfl
theorem sz_33 : (Try.prog.info? 33).map (·.size) = some 1 := by kernel_rfl
theorem sz_4 : (Try.prog.info? 4).map (·.size) = some 1 := by kernel_rfl
theorem sz_42 : (Try.prog.info? 42).map (·.size) = some 1 := by kernel_rfl
theorem sz_82 : (Try.prog.info? 82).map (·.size) = some 1 := by kernel_rfl
theorem sz_90 : (Try.prog.info? 90).map (·.size) = some 1 := by kernel_rfl
theorem sz_95 : (Try.prog.info? 95).map (·.size) = some 1 := by kernel_rfl
theorem ty_100 : tyc Try.prog 100 = some none := by kernel_rfl
theorem ty_101 : tyc Try.prog 101 = some none := by kernel_rfl
theorem ty_111 : tyc Try.prog 111 = some none := by kernel_rfl
theorem ty_116 : tyc Try.prog 116 = some (some 3) := by kernel_rfl
theorem ty_170 : tyc Try.prog 170 = some none := by kernel_rfl
theorem ty_174 : tyc Try.prog 174 = some (some 3) := by kernel_rfl
theorem ty_2 : tyc Try.prog 2 = some none := by kernel_rfl
theorem ty_23 : tyc Try.prog 23 = some none := by kernel_rfl
theorem ty_24 : tyc Try.prog 24 = some none := by kernel_rfl
theorem ty_25 : tyc Try.prog 25 = some none := by kernel_rfl
theorem ty_3 : tyc Try.prog 3 = some none := by kernel_rfl
theorem ty_31 : tyc Try.prog 31 = some (some 32) := by kernel_rfl
theorem ty_32 : tyc Try.prog 32 = some none := by kernel_rfl
theorem ty_33 : tyc Try.prog 33 = some none := by kernel_rfl
theorem ty_35 : tyc Try.prog 35 = some (some 4) := by kernel_rfl
theorem ty_37 : tyc Try.prog 37 = some (some 36) := by kernel_rfl
theorem ty_4 : tyc Try.prog 4 = some none := by kernel_rfl
theorem ty_42 : tyc Try.prog 42 = some none := by kernel_rfl
theorem ty_5 : tyc Try.prog 5 = some none := by kernel_rfl
theorem ty_51 : tyc Try.prog 51 = some (some 33) := by kernel_rfl
theorem ty_53 : tyc Try.prog 53 = some (some 37) := by kernel_rfl
theorem ty_77 : tyc Try.prog 77 = some none := by kernel_rfl
theorem ty_82 : tyc Try.prog 82 = some none := by kernel_rfl
theorem ty_9 : tyc Try.prog 9 = some none := by kernel_rfl
theorem ty_90 : tyc Try.prog 90 = some none := by kernel_rfl
theorem ty_93 : tyc Try.prog 93 = some none := by kernel_rfl
theorem ty_95 : tyc Try.prog 95 = some none := by kernel_rfl
theorem ty_98 : tyc Try.prog 98 = some none := by kernel_rfl
theorem zc_100 : zc Try.prog 100 = some [.slice none 0 0] := by kernel_rfl
theorem zc_101 : zc Try.prog 101 = some [.int .u64 0] := by kernel_rfl
theorem zc_116 : zc Try.prog 116 = some [.int .i64 0, .bool false, .string ByteArray.empty] := by kernel_rfl
theorem zc_174 : zc Try.prog 174 = some [.nilFunc, .nilFunc, .nilFunc] := by kernel_rfl
theorem zc_24 : zc Try.prog 24 = some [.slice none 0 0] := by kernel_rfl
theorem zc_3 : zc Try.prog 3 = some [.int .i64 0] := by kernel_rfl
theorem zc_31 : zc Try.prog 31 = some (hashCells 0) := by kernel_rfl
theorem zc_32 : zc Try.prog 32 = some [.slice none 0 0] := by kernel_rfl
theorem zc_35 : zc Try.prog 35 = some [.int .i64 0, .int .i64 0, .slice none 0 0, .slice none 0 0] := by kernel_rfl
theorem zc_37 : zc Try.prog 37 = some (entCells 0 0 0 (.slice none 0 0) (.slice none 0 0)) := by kernel_rfl
theorem zc_4 : zc Try.prog 4 = some [.bool false] := by kernel_rfl
theorem zc_42 : zc Try.prog 42 = some [.slice none 0 0] := by kernel_rfl
theorem zc_51 : zc Try.prog 51 = some (identCells 0 0) := by kernel_rfl
theorem zc_53 : zc Try.prog 53 = some (opCells 0 ByteArray.empty ByteArray.empty 0 0 0) := by kernel_rfl
theorem zc_84 : zc Try.prog 84 = some [.slice none 0 0, .map none, .slice none 0 0] := by kernel_rfl
theorem zc_9 : zc Try.prog 9 = some [.string ByteArray.empty] := by kernel_rfl
theorem zc_90 : zc Try.prog 90 = some [.slice none 0 0] := by kernel_rfl
theorem zc_95 : zc Try.prog 95 = some [.map none] := by kernel_rfl
theorem zv_3 : ∀ w, (zeroValue 3).run Try.prog w = .ok (.int .i64 0) w := fun w => by kernel_rfl
theorem zv_90 : ∀ w, (zeroValue 90).run Try.prog w = .ok (.slice none 0 0) w := fun w => by kernel_rfl
end Go.Proofs.Ytgoooilgmabkmaa
namespace Go.Proofs.Ytgoooilgmabkmaa
open Go Go.Sl
set_option linter.unusedVariables false
set_option linter.unusedSimpArgs false
set_option maxRecDepth 100000


/-- how two hashes stand -/
def cmpH (a b : Nat) : Int := if a < b then -1 else if b < a then 1 else 0
theorem hash_top0 {a b : Nat} (ha : IsH a) (hb : IsH b) : a / 256 ^ (32 - 0) = b / 256 ^ (32 - 0) := by
  have e : (256 : Nat) ^ (32 - 0) = HashMax := by decide
  rw [e, Nat.div_eq_of_lt ha, Nat.div_eq_of_lt hb]
theorem hc_at (a i : Nat) (hi : i < 32) : (hashCells a)[0 + i * 1]? = some (.int .u8 (hdig a i : Int)) := by
  rw [Nat.zero_add, Nat.mul_one, hashCells_get a i hi]; rfl

theorem r1_compare (σ : View) (a b : Nat) (ha : IsH a) (hb : IsH b) :
    TriP Try.prog 14 #[hashV a, hashV b] σ (.int .i64 (cmpH a b)) := by
  refine Tri.of_body [(0, hashV a), (1, hashV b)] Try.func14 rfl Try.ntmps14 (by simp) rfl (fun Hr => ?_)
  rw [List.nil_append]
  refine WC.seq ?_
  refine WC.region ?_
  refine WL.new (New.boxN rfl) (fun b2 => ?_)
  refine WL.new (New.boxN rfl) (fun b3 => ?_)
  refine WL.pur (Pur.assign rfl) ?_
  refine WL.nil ?_
  refine WQ.thn ?_
  refine WC.seq ?_
  refine WC.seq ?_
  refine WC.region ?_
  refine WL.pur (Pur.assign rfl) ?_
  refine WL.nil ?_
  refine WQ.thn ?_
  refine WC.block ?_
  refine WC.loop (fun j m σ' H' => ∃ i : Nat, j = 32 - i ∧ i ≤ 32 ∧ a / 256 ^ (32 - i) = b / 256 ^ (32 - i) ∧ m = [(2, .pointer (some ⟨b2, 0, none⟩)), (3, .pointer (some ⟨b3, 0, none⟩)), (5, .int .i64 (i : Int))] ∧ σ' = σ ∧ H' = (b3, rowO 31 (hashCells b)) :: (b2, rowO 31 (hashCells a)) :: Hr) ⟨0, rfl, by omega, hash_top0 ha hb, rfl, rfl, rfl⟩ zcV zsL ?_
  rintro _ _ σ _ ⟨i, rfl, hi, htop, rfl, rfl, rfl⟩
  refine WC.seq ?_
  refine WC.seq ?_
  refine WC.region ?_
  refine WL.pur (Pur.move rfl) ?_
  refine' WL.pur (Pur.bin rfl rfl ?h1_0) ?k1
  case h1_0 => first | exact Bin.ltN (b := 32) | exact Bin.ltI | exact Bin.ltS
  refine WL.nil ?_
  refine WQ.thn ?_
  first | refine WC.cond rfl (fun hc0 => ?_) (fun hc0 => ?_) | refine WC.condB rfl (fun hc0 => ?_) (fun hc0 => ?_)
  · have hA := hc_at a i (by omega); have hB := hc_at b i (by omega)
    refine WC.skip ?_
    refine WQ.thn ?_
    refine WC.seq ?_
    refine WC.block ?_
    refine WC.seq ?_
    refine WC.seq ?_
    refine WC.drawH 7 7 mixed (by kernel_rfl) rfl ?_
    refine SA.take 0 (by kernel_rfl) rfl rfl rfl (Wanted.plain rfl) zsL (View.le_refl _) (Pur.move rfl) ?_
    refine' SA.take 1 (by kernel_rfl) rfl rfl rfl (Wanted.plain rfl) zsL (View.le_refl _) (Pur.indexAddrA rfl rfl ar_31 ?h2_0) ?k2
    case h2_0 => omega
    refine' SA.take 2 (by kernel_rfl) rfl rfl rfl (Wanted.plain rfl) zsL (View.le_refl _) (Pur.load1 rfl ty_5 ?h3_0) ?k3
    case h3_0 => first | (apply Rd.own1; exact zmE; rfl) | (apply Rd.own1; exact zmE; assumption) | (apply Rd.own_map; exact zmE; assumption) | exact RdV.rd (by assumption) | (apply RdV.rd; apply RdV.idx (i := 0); assumption; rfl)
    refine SA.take 3 (by kernel_rfl) rfl rfl rfl (Wanted.plain rfl) zsL (View.le_refl _) (Pur.move rfl) ?_
    refine' SA.take 4 (by kernel_rfl) rfl rfl rfl (Wanted.plain rfl) zsL (View.le_refl _) (Pur.indexAddrA rfl rfl ar_31 ?h4_0) ?k4
    case h4_0 => omega
    refine' SA.take 5 (by kernel_rfl) rfl rfl rfl (Wanted.plain rfl) zsL (View.le_refl _) (Pur.load1 rfl ty_5 ?h5_0) ?k5
    case h5_0 => first | (apply Rd.own1; exact zmE; rfl) | (apply Rd.own1; exact zmE; assumption) | (apply Rd.own_map; exact zmE; assumption) | exact RdV.rd (by assumption) | (apply RdV.rd; apply RdV.idx (i := 0); assumption; rfl)
    refine' SA.take 6 (by kernel_rfl) rfl rfl rfl (Wanted.plain rfl) zsL (View.le_refl _) (Pur.bin rfl rfl ?h6_0) ?k6
    case h6_0 => first | exact Bin.ltN | exact Bin.ltI | exact Bin.ltS
    refine SA.done (by kernel_rfl) ?_
    refine WQ.thn ?_
    first | refine WC.cond rfl (fun hc1 => ?_) (fun hc1 => ?_) | refine WC.condB rfl (fun hc1 => ?_) (fun hc1 => ?_)
    · refine WC.seq ?_
      refine WC.region ?_
      refine WL.pur (Pur.assign rfl) ?_
      refine WL.nil ?_
      refine WQ.thn ?_
      refine WC.ret ?_
      refine WQ.thn_ret ?_
      refine WQ.blk_ret ?_
      refine WQ.thn_ret ?_
      refine WQ.back_ret ?_
      refine WQ.blk_ret ?_
      refine WQ.thn_ret ?_
      refine WQ.ret1 Try.results14 rfl [] zsL (View.le_refl _) ?_
      refine ⟨?_, rfl, rfl⟩
      have := hash_lt (by omega) htop hc1; simp [cmpH, this]
    · refine WC.skip ?_
      refine WQ.thn ?_
      refine WC.seq ?_
      refine WC.drawH 7 7 mixed (by kernel_rfl) rfl ?_
      refine SA.take 0 (by kernel_rfl) rfl rfl rfl (Wanted.plain rfl) zsL (View.le_refl _) (Pur.move rfl) ?_
      refine' SA.take 1 (by kernel_rfl) rfl rfl rfl (Wanted.plain rfl) zsL (View.le_refl _) (Pur.indexAddrA rfl rfl ar_31 ?h7_0) ?k7
      case h7_0 => omega
      refine' SA.take 2 (by kernel_rfl) rfl rfl rfl (Wanted.plain rfl) zsL (View.le_refl _) (Pur.load1 rfl ty_5 ?h8_0) ?k8
      case h8_0 => first | (apply Rd.own1; exact zmE; rfl) | (apply Rd.own1; exact zmE; assumption) | (apply Rd.own_map; exact zmE; assumption) | exact RdV.rd (by assumption) | (apply RdV.rd; apply RdV.idx (i := 0); assumption; rfl)
      refine SA.take 3 (by kernel_rfl) rfl rfl rfl (Wanted.plain rfl) zsL (View.le_refl _) (Pur.move rfl) ?_
      refine' SA.take 4 (by kernel_rfl) rfl rfl rfl (Wanted.plain rfl) zsL (View.le_refl _) (Pur.indexAddrA rfl rfl ar_31 ?h9_0) ?k9
      case h9_0 => omega
      refine' SA.take 5 (by kernel_rfl) rfl rfl rfl (Wanted.plain rfl) zsL (View.le_refl _) (Pur.load1 rfl ty_5 ?h10_0) ?k10
      case h10_0 => first | (apply Rd.own1; exact zmE; rfl) | (apply Rd.own1; exact zmE; assumption) | (apply Rd.own_map; exact zmE; assumption) | exact RdV.rd (by assumption) | (apply RdV.rd; apply RdV.idx (i := 0); assumption; rfl)
      refine' SA.take 6 (by kernel_rfl) rfl rfl rfl (Wanted.plain rfl) zsL (View.le_refl _) (Pur.bin rfl rfl ?h11_0) ?k11
      case h11_0 => first | exact Bin.gtN | exact Bin.gtI
      refine SA.done (by kernel_rfl) ?_
      refine WQ.thn ?_
      first | refine WC.cond rfl (fun hc2 => ?_) (fun hc2 => ?_) | refine WC.condB rfl (fun hc2 => ?_) (fun hc2 => ?_)
      · refine WC.seq ?_
        refine WC.region ?_
        refine WL.pur (Pur.assign rfl) ?_
        refine WL.nil ?_
        refine WQ.thn ?_
        refine WC.ret ?_
        refine WQ.blk_ret ?_
        refine WQ.thn_ret ?_
        refine WQ.back_ret ?_
        refine WQ.blk_ret ?_
        refine WQ.thn_ret ?_
        refine WQ.ret1 Try.results14 rfl [] zsL (View.le_refl _) ?_
        refine ⟨?_, rfl, rfl⟩
        have := hash_lt (by omega) htop.symm hc2; have h2 : ¬ a < b := by omega
        simp [cmpH, this, h2]
      · refine WC.skip ?_
        refine WQ.blk ?_
        refine WQ.thn ?_
        refine WC.region ?_
        refine WL.pur (Pur.move rfl) ?_
        refine' WL.pur (Pur.bin rfl rfl ?h12_0) ?k12
        case h12_0 => first | (refine Bin.addN (b := 1) ?_; omega) | (refine Bin.addI ?_; omega)
        refine WL.pur (Pur.assign rfl) ?_
        refine WL.nil ?_
        refine WQ.back _ ⟨i + 1, rfl, by omega, by rw [show 32 - (i + 1) = 31 - i by omega, top_succ a i (by omega), top_succ b i (by omega), htop, show hdig a i = hdig b i by omega], rfl, rfl, rfl⟩ (by omega) zcV zsL
  · refine WC.exit ?_
    refine WQ.thn_exit ?_
    refine WQ.back_exit ?_
    refine WQ.blk_here ?_
    refine WQ.thn ?_
    refine WC.seq ?_
    refine WC.region ?_
    refine WL.pur (Pur.assign rfl) ?_
    refine WL.nil ?_
    refine WQ.thn ?_
    refine WC.ret ?_
    refine WQ.ret1 Try.results14 rfl [] zsL (View.le_refl _) ?_
    refine ⟨?_, rfl, rfl⟩
    have : i = 32 := by omega
    subst this; simp at htop; simp [cmpH, htop]

end Go.Proofs.Ytgoooilgmabkmaa
namespace Go.Proofs.Ytgoooilgmabkmaa
open Go Go.Sl
set_option linter.unusedVariables false
set_option linter.unusedSimpArgs false
set_option maxRecDepth 100000

end Go.Proofs.Ytgoooilgmabkmaa
namespace Go.Proofs.Ytgoooilgmabkmaa
open Go Go.Sl
set_option linter.unusedVariables false
set_option linter.unusedSimpArgs false
set_option maxRecDepth 100000

/-- a field's three functions -/
def fieldC (i : Nat) : List Value := if i = 0 then [.func (.func 120) #[] #[], .func (.func 121) #[] #[], .func (.func 123) #[] #[]] else if i = 1 then [.func (.func 125) #[] #[], .func (.func 126) #[] #[], .func (.func 128) #[] #[]] else [.func (.func 130) #[] #[], .func (.func 131) #[] #[], .func (.func 134) #[] #[]]
def eField : Enc Nat := fun _ i vs => vs = fieldC i ∧ i < 3
theorem eField_mono : Enc.Mono eField := fun _ _ _ _ _ h => h
theorem field_row (σ : View) (l : List Nat) (hl : ∀ i ∈ l, i < 3) : ElR σ eField 3 l (l.map fieldC) := by
  refine ⟨by simp, fun i x hx => ⟨fieldC x, by simp [hx], ?_, ?_, rfl, hl x (List.mem_of_getElem? hx)⟩⟩
  · unfold fieldC; split; rfl; split <;> rfl
  · unfold fieldC; split; rfl; split <;> rfl

theorem op_text (σ : View) :
    TriP Try.prog 114 #[] σ (.agg (fieldC 0).toArray) := by
  refine Tri.of_body [] Try.func114 rfl Try.ntmps114 (by simp) rfl (fun Hr => ?_)
  rw [List.nil_append]
  refine WC.seq ?_
  refine WC.region ?_
  refine WL.new (New.alloc zc_174) (fun b0 => ?_)
  refine WL.nil ?_
  refine WQ.thn ?_
  refine WC.seq ?_
  refine WC.region ?_
  refine WL.pur (Pur.build (l := [.func (.func 120) #[] #[], .func (.func 121) #[] #[], .func (.func 123) #[] #[]]) pl_174 zc_174 rfl rfl) ?_
  refine' WL.run0 (Run.storeAll rfl rfl ty_174 ?h1_0 (by first | rfl | assumption) ?h1_1 (by first | rfl | assumption)) ?k1
  case h1_0 => repeat (first | exact Part.one | exact Part.here | apply Part.cons | apply Part.app)
  case h1_1 => first | rfl | assumption
  refine WL.nil ?_
  refine WQ.thn ?_
  refine WC.ret ?_
  refine' WQ.retC Try.results114 rfl ty_174 ?h2_0 ?h2_1 [] zsL (View.le_refl _) ?k2
  case h2_0 => apply Rd.own_sub; exact zmE; exact Sub.refl _
  case h2_1 => rfl
  refine ⟨?_, rfl, rfl⟩
  rfl

theorem op_number (σ : View) :
    TriP Try.prog 115 #[] σ (.agg (fieldC 1).toArray) := by
  refine Tri.of_body [] Try.func115 rfl Try.ntmps115 (by simp) rfl (fun Hr => ?_)
  rw [List.nil_append]
  refine WC.seq ?_
  refine WC.region ?_
  refine WL.new (New.alloc zc_174) (fun b0 => ?_)
  refine WL.nil ?_
  refine WQ.thn ?_
  refine WC.seq ?_
  refine WC.region ?_
  refine WL.pur (Pur.build (l := [.func (.func 125) #[] #[], .func (.func 126) #[] #[], .func (.func 128) #[] #[]]) pl_174 zc_174 rfl rfl) ?_
  refine' WL.run0 (Run.storeAll rfl rfl ty_174 ?h1_0 (by first | rfl | assumption) ?h1_1 (by first | rfl | assumption)) ?k1
  case h1_0 => repeat (first | exact Part.one | exact Part.here | apply Part.cons | apply Part.app)
  case h1_1 => first | rfl | assumption
  refine WL.nil ?_
  refine WQ.thn ?_
  refine WC.ret ?_
  refine' WQ.retC Try.results115 rfl ty_174 ?h2_0 ?h2_1 [] zsL (View.le_refl _) ?k2
  case h2_0 => apply Rd.own_sub; exact zmE; exact Sub.refl _
  case h2_1 => rfl
  refine ⟨?_, rfl, rfl⟩
  rfl

theorem op_at (σ : View) :
    TriP Try.prog 116 #[] σ (.agg (fieldC 2).toArray) := by
  refine Tri.of_body [] Try.func116 rfl Try.ntmps116 (by simp) rfl (fun Hr => ?_)
  rw [List.nil_append]
  refine WC.seq ?_
  refine WC.region ?_
  refine WL.new (New.alloc zc_174) (fun b0 => ?_)
  refine WL.nil ?_
  refine WQ.thn ?_
  refine WC.seq ?_
  refine WC.region ?_
  refine WL.pur (Pur.build (l := [.func (.func 130) #[] #[], .func (.func 131) #[] #[], .func (.func 134) #[] #[]]) pl_174 zc_174 rfl rfl) ?_
  refine' WL.run0 (Run.storeAll rfl rfl ty_174 ?h1_0 (by first | rfl | assumption) ?h1_1 (by first | rfl | assumption)) ?k1
  case h1_0 => repeat (first | exact Part.one | exact Part.here | apply Part.cons | apply Part.app)
  case h1_1 => first | rfl | assumption
  refine WL.nil ?_
  refine WQ.thn ?_
  refine WC.ret ?_
  refine' WQ.retC Try.results116 rfl ty_174 ?h2_0 ?h2_1 [] zsL (View.le_refl _) ?k2
  case h2_0 => apply Rd.own_sub; exact zmE; exact Sub.refl _
  case h2_1 => rfl
  refine ⟨?_, rfl, rfl⟩
  rfl

theorem op_known (σ : View) (k : Int) :
    TriP Try.prog 101 #[.int .i64 k] σ (.bool (decide (1 ≤ k ∧ k ≤ 9))) := by
  refine Tri.of_body [(0, .int .i64 k)] Try.func101 rfl Try.ntmps101 (by simp) rfl (fun Hr => ?_)
  rw [List.nil_append]
  refine WC.seq ?_
  refine WC.region ?_
  refine WL.pur (Pur.assign rfl) ?_
  refine WL.nil ?_
  refine WQ.thn ?_
  refine WC.seq ?_
  refine WC.region ?_
  refine WL.pur (Pur.move rfl) ?_
  refine' WL.pur (Pur.bin rfl rfl ?h1_0) ?k1
  case h1_0 => first | exact Bin.geN (b := 1) | exact Bin.geI
  refine WL.pur (Pur.move rfl) ?_
  refine' WL.andp (u := 5) (t := 8) rfl ?h2_0 ?h2_1 ?h2_2 rfl ?k2
  case h2_0 =>
    intro hg5 K5
    refine WL.gpur (u := 5) rfl rfl (gT hg5) (Pur.move rfl) ?_
    refine' WL.gpur (u := 5) rfl rfl (gT hg5) (Pur.bin rfl rfl ?h3_0) ?k3
    case h3_0 => first | exact Bin.leN (b := 9) | exact Bin.leI | exact Bin.leS
    exact K5 _ zcR rfl
  case h2_1 =>
    intro hg5 K5
    refine WL.gskip (u := 5) rfl rfl (sT hg5) ?_
    refine WL.gskip (u := 5) rfl rfl (sT hg5) ?_
    exact K5 _ zcR
  case h2_2 => exact Wanted.plain rfl
  refine WL.pur (Pur.assign rfl) ?_
  refine WL.nil ?_
  refine WQ.thn ?_
  refine WC.ret ?_
  refine WQ.ret1 Try.results101 rfl [] zsL (View.le_refl _) ?_
  refine ⟨?_, rfl, rfl⟩
  exact decB (by omega)

theorem op_Cell (σ : View) (k : Int) :
    TriP Try.prog 102 #[.int .i64 k] σ (.int .i64 (cellOf k)) := by
  refine Tri.of_body [(0, .int .i64 k)] Try.func102 rfl Try.ntmps102 (by simp) rfl (fun Hr => ?_)
  rw [List.nil_append]
  refine WC.seq ?_
  refine WC.region ?_
  refine WL.pur (Pur.assign rfl) ?_
  refine WL.nil ?_
  refine WQ.thn ?_
  refine WC.seq ?_
  refine WC.seq ?_
  refine WC.region ?_
  refine WL.pur (Pur.move rfl) ?_
  refine WL.nil ?_
  refine WQ.thn ?_
  refine WC.block ?_
  refine WC.seq ?_
  refine WC.seq ?_
  refine WC.region ?_
  refine' WL.pur (Pur.bin rfl rfl ?h1_0) ?k1
  case h1_0 => first | exact Bin.eqN (b := 1) | exact Bin.eqI
  refine WL.pur (Pur.assign rfl) ?_
  refine WL.nil ?_
  refine WQ.thn ?_
  first | refine WC.cond rfl (fun hc0 => ?_) (fun hc0 => ?_) | refine WC.condB rfl (fun hc0 => ?_) (fun hc0 => ?_)
  · refine WC.skip ?_
    refine WQ.thn ?_
    first | refine WC.condY hc0 rfl ?_ | refine WC.condT (congrArg (fun x => some (Value.bool x)) hc0) ?_
    refine WC.seq ?_
    refine WC.region ?_
    refine WL.pur (Pur.assign rfl) ?_
    refine WL.nil ?_
    refine WQ.thn ?_
    refine WC.ret ?_
    refine WQ.blk_ret ?_
    refine WQ.thn_ret ?_
    refine WQ.ret1 Try.results102 rfl [] zsL (View.le_refl _) ?_
    refine ⟨?_, rfl, rfl⟩
    exact intV (by unfold cellOf; (repeat (first | rw [if_pos (by omega)] | rw [if_neg (by omega)])))
  · refine WC.region ?_
    refine' WL.pur (Pur.bin rfl rfl ?h2_0) ?k2
    case h2_0 => first | exact Bin.eqN (b := 2) | exact Bin.eqI
    refine WL.pur (Pur.assign rfl) ?_
    refine WL.nil ?_
    refine WQ.thn ?_
    first | refine WC.cond rfl (fun hc2 => ?_) (fun hc2 => ?_) | refine WC.condB rfl (fun hc2 => ?_) (fun hc2 => ?_)
    · refine WC.seq ?_
      refine WC.region ?_
      refine WL.pur (Pur.assign rfl) ?_
      refine WL.nil ?_
      refine WQ.thn ?_
      refine WC.ret ?_
      refine WQ.blk_ret ?_
      refine WQ.thn_ret ?_
      refine WQ.ret1 Try.results102 rfl [] zsL (View.le_refl _) ?_
      refine ⟨?_, rfl, rfl⟩
      exact intV (by unfold cellOf; (repeat (first | rw [if_pos (by omega)] | rw [if_neg (by omega)])))
    · refine WC.seq ?_
      refine WC.seq ?_
      refine WC.region ?_
      refine' WL.pur (Pur.bin rfl rfl ?h3_0) ?k3
      case h3_0 => first | exact Bin.eqN (b := 3) | exact Bin.eqI
      refine WL.pur (Pur.assign rfl) ?_
      refine WL.nil ?_
      refine WQ.thn ?_
      first | refine WC.cond rfl (fun hc3 => ?_) (fun hc3 => ?_) | refine WC.condB rfl (fun hc3 => ?_) (fun hc3 => ?_)
      · refine WC.skip ?_
        refine WQ.thn ?_
        first | refine WC.condY hc3 rfl ?_ | refine WC.condT (congrArg (fun x => some (Value.bool x)) hc3) ?_
        refine WC.seq ?_
        refine WC.region ?_
        refine WL.pur (Pur.assign rfl) ?_
        refine WL.nil ?_
        refine WQ.thn ?_
        refine WC.ret ?_
        refine WQ.blk_ret ?_
        refine WQ.thn_ret ?_
        refine WQ.ret1 Try.results102 rfl [] zsL (View.le_refl _) ?_
        refine ⟨?_, rfl, rfl⟩
        exact intV (by unfold cellOf; (repeat (first | rw [if_pos (by omega)] | rw [if_neg (by omega)])))
      · refine WC.seq ?_
        refine WC.region ?_
        refine' WL.pur (Pur.bin rfl rfl ?h4_0) ?k4
        case h4_0 => first | exact Bin.eqN (b := 4) | exact Bin.eqI
        refine WL.pur (Pur.assign rfl) ?_
        refine WL.nil ?_
        refine WQ.thn ?_
        first | refine WC.cond rfl (fun hc5 => ?_) (fun hc5 => ?_) | refine WC.condB rfl (fun hc5 => ?_) (fun hc5 => ?_)
        · refine WC.skip ?_
          refine WQ.thn ?_
          first | refine WC.condY hc5 rfl ?_ | refine WC.condT (congrArg (fun x => some (Value.bool x)) hc5) ?_
          refine WC.seq ?_
          refine WC.region ?_
          refine WL.pur (Pur.assign rfl) ?_
          refine WL.nil ?_
          refine WQ.thn ?_
          refine WC.ret ?_
          refine WQ.blk_ret ?_
          refine WQ.thn_ret ?_
          refine WQ.ret1 Try.results102 rfl [] zsL (View.le_refl _) ?_
          refine ⟨?_, rfl, rfl⟩
          exact intV (by unfold cellOf; (repeat (first | rw [if_pos (by omega)] | rw [if_neg (by omega)])))
        · refine WC.region ?_
          refine' WL.pur (Pur.bin rfl rfl ?h5_0) ?k5
          case h5_0 => first | exact Bin.eqN (b := 5) | exact Bin.eqI
          refine WL.pur (Pur.assign rfl) ?_
          refine WL.nil ?_
          refine WQ.thn ?_
          first | refine WC.cond rfl (fun hc7 => ?_) (fun hc7 => ?_) | refine WC.condB rfl (fun hc7 => ?_) (fun hc7 => ?_)
          · refine WC.seq ?_
            refine WC.region ?_
            refine WL.pur (Pur.assign rfl) ?_
            refine WL.nil ?_
            refine WQ.thn ?_
            refine WC.ret ?_
            refine WQ.blk_ret ?_
            refine WQ.thn_ret ?_
            refine WQ.ret1 Try.results102 rfl [] zsL (View.le_refl _) ?_
            refine ⟨?_, rfl, rfl⟩
            exact intV (by unfold cellOf; (repeat (first | rw [if_pos (by omega)] | rw [if_neg (by omega)])))
          · refine WC.seq ?_
            refine WC.seq ?_
            refine WC.region ?_
            refine' WL.pur (Pur.bin rfl rfl ?h6_0) ?k6
            case h6_0 => first | exact Bin.eqN (b := 6) | exact Bin.eqI
            refine WL.pur (Pur.assign rfl) ?_
            refine WL.nil ?_
            refine WQ.thn ?_
            first | refine WC.cond rfl (fun hc8 => ?_) (fun hc8 => ?_) | refine WC.condB rfl (fun hc8 => ?_) (fun hc8 => ?_)
            · refine WC.skip ?_
              refine WQ.thn ?_
              first | refine WC.condY hc8 rfl ?_ | refine WC.condT (congrArg (fun x => some (Value.bool x)) hc8) ?_
              refine WC.seq ?_
              refine WC.region ?_
              refine WL.pur (Pur.assign rfl) ?_
              refine WL.nil ?_
              refine WQ.thn ?_
              refine WC.ret ?_
              refine WQ.blk_ret ?_
              refine WQ.thn_ret ?_
              refine WQ.ret1 Try.results102 rfl [] zsL (View.le_refl _) ?_
              refine ⟨?_, rfl, rfl⟩
              exact intV (by unfold cellOf; (repeat (first | rw [if_pos (by omega)] | rw [if_neg (by omega)])))
            · refine WC.region ?_
              refine' WL.pur (Pur.bin rfl rfl ?h7_0) ?k7
              case h7_0 => first | exact Bin.eqN (b := 7) | exact Bin.eqI
              refine WL.pur (Pur.assign rfl) ?_
              refine WL.nil ?_
              refine WQ.thn ?_
              first | refine WC.cond rfl (fun hc10 => ?_) (fun hc10 => ?_) | refine WC.condB rfl (fun hc10 => ?_) (fun hc10 => ?_)
              · refine WC.seq ?_
                refine WC.region ?_
                refine WL.pur (Pur.assign rfl) ?_
                refine WL.nil ?_
                refine WQ.thn ?_
                refine WC.ret ?_
                refine WQ.blk_ret ?_
                refine WQ.thn_ret ?_
                refine WQ.ret1 Try.results102 rfl [] zsL (View.le_refl _) ?_
                refine ⟨?_, rfl, rfl⟩
                exact intV (by unfold cellOf; (repeat (first | rw [if_pos (by omega)] | rw [if_neg (by omega)])))
              · refine WC.seq ?_
                refine WC.seq ?_
                refine WC.region ?_
                refine' WL.pur (Pur.bin rfl rfl ?h8_0) ?k8
                case h8_0 => first | exact Bin.eqN (b := 8) | exact Bin.eqI
                refine WL.pur (Pur.assign rfl) ?_
                refine WL.nil ?_
                refine WQ.thn ?_
                first | refine WC.cond rfl (fun hc11 => ?_) (fun hc11 => ?_) | refine WC.condB rfl (fun hc11 => ?_) (fun hc11 => ?_)
                · refine WC.skip ?_
                  refine WQ.thn ?_
                  first | refine WC.condY hc11 rfl ?_ | refine WC.condT (congrArg (fun x => some (Value.bool x)) hc11) ?_
                  refine WC.seq ?_
                  refine WC.region ?_
                  refine WL.pur (Pur.assign rfl) ?_
                  refine WL.nil ?_
                  refine WQ.thn ?_
                  refine WC.ret ?_
                  refine WQ.blk_ret ?_
                  refine WQ.thn_ret ?_
                  refine WQ.ret1 Try.results102 rfl [] zsL (View.le_refl _) ?_
                  refine ⟨?_, rfl, rfl⟩
                  exact intV (by unfold cellOf; (repeat (first | rw [if_pos (by omega)] | rw [if_neg (by omega)])))
                · refine WC.region ?_
                  refine' WL.pur (Pur.bin rfl rfl ?h9_0) ?k9
                  case h9_0 => first | exact Bin.eqN (b := 9) | exact Bin.eqI
                  refine WL.pur (Pur.assign rfl) ?_
                  refine WL.nil ?_
                  refine WQ.thn ?_
                  first | refine WC.cond rfl (fun hc13 => ?_) (fun hc13 => ?_) | refine WC.condB rfl (fun hc13 => ?_) (fun hc13 => ?_)
                  · refine WC.seq ?_
                    refine WC.region ?_
                    refine WL.pur (Pur.assign rfl) ?_
                    refine WL.nil ?_
                    refine WQ.thn ?_
                    refine WC.ret ?_
                    refine WQ.blk_ret ?_
                    refine WQ.thn_ret ?_
                    refine WQ.ret1 Try.results102 rfl [] zsL (View.le_refl _) ?_
                    refine ⟨?_, rfl, rfl⟩
                    exact intV (by unfold cellOf; (repeat (first | rw [if_pos (by omega)] | rw [if_neg (by omega)])))
                  · refine WC.skip ?_
                    refine WQ.blk ?_
                    refine WQ.thn ?_
                    refine WC.seq ?_
                    refine WC.region ?_
                    refine WL.pur (Pur.assign rfl) ?_
                    refine WL.nil ?_
                    refine WQ.thn ?_
                    refine WC.ret ?_
                    refine WQ.ret1 Try.results102 rfl [] zsL (View.le_refl _) ?_
                    refine ⟨?_, rfl, rfl⟩
                    exact intV (by unfold cellOf; (repeat (first | rw [if_pos (by omega)] | rw [if_neg (by omega)])))

theorem op_text1 (σ : View) (o : OpD) (h : o.ok) :
    TriP Try.prog 120 #[.agg o.cells.toArray] σ (.bool (decide (emptyAt o 0))) := by
  refine Tri.of_body [(0, .agg o.cells.toArray)] Try.func120 rfl Try.ntmps120 (by simp) rfl (fun Hr => ?_)
  rw [List.nil_append]
  refine WC.seq ?_
  refine WC.region ?_
  refine WL.new (New.boxN rfl) (fun b1 => ?_)
  refine WL.pur (Pur.assign rfl) ?_
  refine WL.nil ?_
  refine WQ.thn ?_
  refine WC.seq ?_
  refine WC.region ?_
  refine WL.pur (Pur.fieldAddr rfl fo_53_2) ?_
  refine' WL.pur (Pur.load1 rfl ty_9 ?h1_0) ?k1
  case h1_0 => first | (apply Rd.own1; exact zmE; rfl) | (apply RdV.rd; apply RdV.idx (i := 2); assumption; rfl) | (apply RdV.rd; apply RdV.idx (off := 0) (i := 2); assumption; rfl)
  refine' WL.pur (Pur.bin rfl rfl ?h2_0) ?k2
  case h2_0 => exact Bin.eqS
  refine WL.pur (Pur.assign rfl) ?_
  refine WL.nil ?_
  refine WQ.thn ?_
  refine WC.ret ?_
  refine WQ.ret1 Try.results120 rfl [] zsL (View.le_refl _) ?_
  refine ⟨?_, rfl, rfl⟩
  rfl

theorem op_number1 (σ : View) (o : OpD) (h : o.ok) :
    TriP Try.prog 125 #[.agg o.cells.toArray] σ (.bool (decide (emptyAt o 1))) := by
  refine Tri.of_body [(0, .agg o.cells.toArray)] Try.func125 rfl Try.ntmps125 (by simp) rfl (fun Hr => ?_)
  rw [List.nil_append]
  refine WC.seq ?_
  refine WC.region ?_
  refine WL.new (New.boxN rfl) (fun b1 => ?_)
  refine WL.pur (Pur.assign rfl) ?_
  refine WL.nil ?_
  refine WQ.thn ?_
  refine WC.seq ?_
  refine WC.region ?_
  refine WL.pur (Pur.fieldAddr rfl fo_53_3) ?_
  refine' WL.pur (Pur.load1 rfl ty_2 ?h1_0) ?k1
  case h1_0 => first | (apply Rd.own1; exact zmE; rfl) | (apply RdV.rd; apply RdV.idx (i := 3); assumption; rfl) | (apply RdV.rd; apply RdV.idx (off := 0) (i := 3); assumption; rfl)
  refine' WL.pur (Pur.bin rfl rfl ?h2_0) ?k2
  case h2_0 => first | exact Bin.eqN (b := 0) | exact Bin.eqI
  refine WL.pur (Pur.assign rfl) ?_
  refine WL.nil ?_
  refine WQ.thn ?_
  refine WC.ret ?_
  refine WQ.ret1 Try.results125 rfl [] zsL (View.le_refl _) ?_
  refine ⟨?_, rfl, rfl⟩
  rfl

theorem op_at1 (σ : View) (o : OpD) (h : o.ok) :
    TriP Try.prog 130 #[.agg o.cells.toArray] σ (.bool (decide (emptyAt o 2))) := by
  refine Tri.of_body [(0, .agg o.cells.toArray)] Try.func130 rfl Try.ntmps130 (by simp) rfl (fun Hr => ?_)
  rw [List.nil_append]
  obtain ⟨hk, hkey, htext, hn, hatn, hato⟩ := h
  have h0 := isH0
  refine WC.seq ?_
  refine WC.region ?_
  refine WL.new (New.boxN rfl) (fun b1 => ?_)
  refine WL.pur (Pur.assign rfl) ?_
  refine WL.nil ?_
  refine WQ.thn ?_
  refine WC.seq ?_
  refine WC.region ?_
  refine WL.pur (Pur.fieldAddr rfl fo_53_4) ?_
  refine' WL.pur (Pur.loadN rfl ty_51 ?h1_0 ?h1_1) ?k1
  case h1_0 => first | (apply Rd.own_sub; exact zmE; exact Sub.op_ident _ _ _ _ _ _) | (apply RdV.rd; apply RdV.sub (i := 4); assumption; exact Sub.op_ident _ _ _ _ _ _)
  case h1_1 => first | rfl | assumption
  refine WL.pur (Pur.build (l := (identCells 0 0)) pl_51 zc_51 rfl rfl) ?_
  refine' WL.pur (Pur.bin rfl rfl ?h2_0) ?k2
  case h2_0 => (refine Bin.eqId identT_51 ?_ ?_ <;> assumption)
  refine WL.pur (Pur.assign rfl) ?_
  refine WL.nil ?_
  refine WQ.thn ?_
  refine WC.ret ?_
  refine WQ.ret1 Try.results130 rfl [] zsL (View.le_refl _) ?_
  refine ⟨?_, rfl, rfl⟩
  exact decB (show _ ↔ (o.ato = 0 ∧ o.atn = 0) by omega)

end Go.Proofs.Ytgoooilgmabkmaa
namespace Go.Proofs.Ytgoooilgmabkmaa
open Go Go.Sl
set_option linter.unusedVariables false
set_option linter.unusedSimpArgs false
set_option maxRecDepth 100000

theorem op_fields (σ : View) (k : Int) :
    Tri Try.prog 100 #[.int .i64 k] σ [] (fun v σ' H' => (∃ hv ov, v = .tuple #[hv, ov] ∧ SlE σ' eField 3 24 ov (othersOf k)) ∧ H' = []) := by
  refine Tri.of_body [(0, .int .i64 k)] Try.func100 rfl Try.ntmps100 (by simp) rfl (fun Hr => ?_)
  rw [List.nil_append]
  refine WC.seq ?_
  refine WC.region ?_
  refine WL.pur (Pur.assign rfl) ?_
  refine WL.pur (Pur.assign rfl) ?_
  refine WL.nil ?_
  refine WQ.thn ?_
  refine WC.seq ?_
  refine WC.region ?_
  refine WL.callP rfl Try.call114 (op_text σ) ?_
  refine WL.callP rfl Try.call115 (op_number σ) ?_
  refine WL.callP rfl Try.call116 (op_at σ) ?_
  refine WL.new (New.alloc zc_174) (fun b4 => ?_)
  refine WL.new (New.alloc zc_174) (fun b5 => ?_)
  refine WL.new (New.alloc zc_174) (fun b6 => ?_)
  refine' WL.run0 (Run.storeAll rfl rfl ty_174 ?h1_0 (by first | rfl | assumption) ?h1_1 (by first | rfl | assumption)) ?k1
  case h1_0 => repeat (first | exact Part.one | exact Part.here | apply Part.cons | apply Part.app)
  case h1_1 => first | rfl | assumption
  refine' WL.run0 (Run.storeAll rfl rfl ty_174 ?h2_0 (by first | rfl | assumption) ?h2_1 (by first | rfl | assumption)) ?k2
  case h2_0 => repeat (first | exact Part.one | exact Part.here | apply Part.cons | apply Part.app)
  case h2_1 => first | rfl | assumption
  refine' WL.run0 (Run.storeAll rfl rfl ty_174 ?h3_0 (by first | rfl | assumption) ?h3_1 (by first | rfl | assumption)) ?k3
  case h3_0 => repeat (first | exact Part.one | exact Part.here | apply Part.cons | apply Part.app)
  case h3_1 => first | rfl | assumption
  refine WL.nil ?_
  refine WQ.thn ?_
  refine WC.seq ?_
  refine WC.seq ?_
  refine WC.region ?_
  refine WL.pur (Pur.move rfl) ?_
  refine WL.nil ?_
  refine WQ.thn ?_
  refine WC.block ?_
  refine WC.seq ?_
  refine WC.seq ?_
  refine WC.region ?_
  refine' WL.pur (Pur.bin rfl rfl ?h4_0) ?k4
  case h4_0 => first | exact Bin.eqN (b := 1) | exact Bin.eqI
  refine WL.pur (Pur.assign rfl) ?_
  refine WL.nil ?_
  refine WQ.thn ?_
  first | refine WC.cond rfl (fun hc0 => ?_) (fun hc0 => ?_) | refine WC.condB rfl (fun hc0 => ?_) (fun hc0 => ?_)
  · refine WC.skip ?_
    refine WQ.thn ?_
    first | refine WC.condY hc0 rfl ?_ | refine WC.condT (congrArg (fun x => some (Value.bool x)) hc0) ?_
    refine WC.seq ?_
    refine WC.drawH 7 7 mixed (by kernel_rfl) rfl ?_
    refine' SA.take 0 (by kernel_rfl) rfl rfl rfl (Wanted.plain rfl) zsL (View.le_refl _) (Pur.loadN rfl ty_174 ?h5_0 ?h5_1) ?k5
    case h5_0 => first | (apply Rd.own_sub; exact zmE; exact Sub.refl _) | (apply RdV.rd; assumption)
    case h5_1 => first | rfl | assumption
    refine' SA.take 2 (by kernel_rfl) rfl rfl rfl (Wanted.plain rfl) zsL (View.le_refl _) (Pur.loadN rfl ty_174 ?h6_0 ?h6_1) ?k6
    case h6_0 => first | (apply Rd.own_sub; exact zmE; exact Sub.refl _) | (apply RdV.rd; assumption)
    case h6_1 => first | rfl | assumption
    refine' SA.take 3 (by kernel_rfl) rfl rfl rfl (Wanted.plain rfl) zsL (View.le_refl _) (Pur.loadN rfl ty_174 ?h7_0 ?h7_1) ?k7
    case h7_0 => first | (apply Rd.own_sub; exact zmE; exact Sub.refl _) | (apply RdV.rd; assumption)
    case h7_1 => first | rfl | assumption
    refine SA.two 1 4 (by kernel_rfl) ?_ ?_
    · refine SStep.new 1 rfl rfl rfl (Wanted.plain rfl) (New.buildSliceN (xs := [.tmp 15]) (vss := [fieldC 0]) sl_167 zc_174 rfl rfl rfl (by rfl) (by rfl)) (.inr ⟨zsL, View.le_refl _⟩) (fun b16 => ?_)
      refine SA.take 5 (by kernel_rfl) rfl rfl rfl (Wanted.plain rfl) zsL (View.le_refl _) (Pur.assign rfl) ?_
      refine SA.new 4 rfl rfl rfl (Wanted.plain rfl) (by kernel_rfl) (New.buildSliceN (xs := [.tmp 17, .tmp 18]) (vss := [fieldC 1, fieldC 2]) sl_167 zc_174 rfl rfl rfl (by rfl) (by rfl)) (.inr ⟨zsL, View.le_refl _⟩) (fun b19 => ?_)
      refine SA.take 6 (by kernel_rfl) rfl rfl rfl (Wanted.plain rfl) zsL (View.le_refl _) (Pur.assign rfl) ?_
      refine SA.done (by kernel_rfl) ?_
      refine WQ.thn ?_
      refine WC.ret ?_
      refine WQ.blk_ret ?_
      refine WQ.thn_ret ?_
      first | refine WQ.giveS (byt := 24) (H1 := []) eField_mono (SlO.row (b := b19) (field_row σ [1, 2] (by decide))) (by decide) rfl (fun σ1 hle hsl => ?_) | refine WQ.giveS (byt := 24) (H1 := [_]) eField_mono (SlO.row (b := b19) (field_row σ [1, 2] (by decide))) (by decide) rfl (fun σ1 hle hsl => ?_)
      refine WQ.ret2 Try.results100 rfl rfl [] zsL hle ?_
      refine ⟨⟨_, _, rfl, ?_⟩, rfl⟩
      have : othersOf k = [1, 2] := by unfold othersOf; (repeat (first | rw [if_pos (by omega)] | rw [if_neg (by omega)]))
      rw [this]; exact hsl
    · refine SStep.new 4 rfl rfl rfl (Wanted.plain rfl) (New.buildSliceN (xs := [.tmp 17, .tmp 18]) (vss := [fieldC 1, fieldC 2]) sl_167 zc_174 rfl rfl rfl (by rfl) (by rfl)) (.inr ⟨zsL, View.le_refl _⟩) (fun b19 => ?_)
      refine SA.new 1 rfl rfl rfl (Wanted.plain rfl) (by kernel_rfl) (New.buildSliceN (xs := [.tmp 15]) (vss := [fieldC 0]) sl_167 zc_174 rfl rfl rfl (by rfl) (by rfl)) (.inr ⟨zsL, View.le_refl _⟩) (fun b16 => ?_)
      refine SA.take 5 (by kernel_rfl) rfl rfl rfl (Wanted.plain rfl) zsL (View.le_refl _) (Pur.assign rfl) ?_
      refine SA.take 6 (by kernel_rfl) rfl rfl rfl (Wanted.plain rfl) zsL (View.le_refl _) (Pur.assign rfl) ?_
      refine SA.done (by kernel_rfl) ?_
      refine WQ.thn ?_
      refine WC.ret ?_
      refine WQ.blk_ret ?_
      refine WQ.thn_ret ?_
      first | refine WQ.giveS (byt := 24) (H1 := []) eField_mono (SlO.row (b := b19) (field_row σ [1, 2] (by decide))) (by decide) rfl (fun σ1 hle hsl => ?_) | refine WQ.giveS (byt := 24) (H1 := [_]) eField_mono (SlO.row (b := b19) (field_row σ [1, 2] (by decide))) (by decide) rfl (fun σ1 hle hsl => ?_)
      refine WQ.ret2 Try.results100 rfl rfl [] zsL hle ?_
      refine ⟨⟨_, _, rfl, ?_⟩, rfl⟩
      have : othersOf k = [1, 2] := by unfold othersOf; (repeat (first | rw [if_pos (by omega)] | rw [if_neg (by omega)]))
      rw [this]; exact hsl
  · refine WC.seq ?_
    refine WC.region ?_
    refine' WL.pur (Pur.bin rfl rfl ?h8_0) ?k8
    case h8_0 => first | exact Bin.eqN (b := 3) | exact Bin.eqI
    refine WL.pur (Pur.assign rfl) ?_
    refine WL.nil ?_
    refine WQ.thn ?_
    first | refine WC.cond rfl (fun hc2 => ?_) (fun hc2 => ?_) | refine WC.condB rfl (fun hc2 => ?_) (fun hc2 => ?_)
    · refine WC.skip ?_
      refine WQ.thn ?_
      first | refine WC.condY hc2 rfl ?_ | refine WC.condT (congrArg (fun x => some (Value.bool x)) hc2) ?_
      refine WC.seq ?_
      refine WC.drawH 7 7 mixed (by kernel_rfl) rfl ?_
      refine' SA.take 0 (by kernel_rfl) rfl rfl rfl (Wanted.plain rfl) zsL (View.le_refl _) (Pur.loadN rfl ty_174 ?h9_0 ?h9_1) ?k9
      case h9_0 => first | (apply Rd.own_sub; exact zmE; exact Sub.refl _) | (apply RdV.rd; assumption)
      case h9_1 => first | rfl | assumption
      refine' SA.take 2 (by kernel_rfl) rfl rfl rfl (Wanted.plain rfl) zsL (View.le_refl _) (Pur.loadN rfl ty_174 ?h10_0 ?h10_1) ?k10
      case h10_0 => first | (apply Rd.own_sub; exact zmE; exact Sub.refl _) | (apply RdV.rd; assumption)
      case h10_1 => first | rfl | assumption
      refine' SA.take 3 (by kernel_rfl) rfl rfl rfl (Wanted.plain rfl) zsL (View.le_refl _) (Pur.loadN rfl ty_174 ?h11_0 ?h11_1) ?k11
      case h11_0 => first | (apply Rd.own_sub; exact zmE; exact Sub.refl _) | (apply RdV.rd; assumption)
      case h11_1 => first | rfl | assumption
      refine SA.two 1 4 (by kernel_rfl) ?_ ?_
      · refine SStep.new 1 rfl rfl rfl (Wanted.plain rfl) (New.buildSliceN (xs := [.tmp 15]) (vss := [fieldC 0]) sl_167 zc_174 rfl rfl rfl (by rfl) (by rfl)) (.inr ⟨zsL, View.le_refl _⟩) (fun b16 => ?_)
        refine SA.take 5 (by kernel_rfl) rfl rfl rfl (Wanted.plain rfl) zsL (View.le_refl _) (Pur.assign rfl) ?_
        refine SA.new 4 rfl rfl rfl (Wanted.plain rfl) (by kernel_rfl) (New.buildSliceN (xs := [.tmp 17, .tmp 18]) (vss := [fieldC 1, fieldC 2]) sl_167 zc_174 rfl rfl rfl (by rfl) (by rfl)) (.inr ⟨zsL, View.le_refl _⟩) (fun b19 => ?_)
        refine SA.take 6 (by kernel_rfl) rfl rfl rfl (Wanted.plain rfl) zsL (View.le_refl _) (Pur.assign rfl) ?_
        refine SA.done (by kernel_rfl) ?_
        refine WQ.thn ?_
        refine WC.ret ?_
        refine WQ.blk_ret ?_
        refine WQ.thn_ret ?_
        first | refine WQ.giveS (byt := 24) (H1 := []) eField_mono (SlO.row (b := b19) (field_row σ [1, 2] (by decide))) (by decide) rfl (fun σ1 hle hsl => ?_) | refine WQ.giveS (byt := 24) (H1 := [_]) eField_mono (SlO.row (b := b19) (field_row σ [1, 2] (by decide))) (by decide) rfl (fun σ1 hle hsl => ?_)
        refine WQ.ret2 Try.results100 rfl rfl [] zsL hle ?_
        refine ⟨⟨_, _, rfl, ?_⟩, rfl⟩
        have : othersOf k = [1, 2] := by unfold othersOf; (repeat (first | rw [if_pos (by omega)] | rw [if_neg (by omega)]))
        rw [this]; exact hsl
      · refine SStep.new 4 rfl rfl rfl (Wanted.plain rfl) (New.buildSliceN (xs := [.tmp 17, .tmp 18]) (vss := [fieldC 1, fieldC 2]) sl_167 zc_174 rfl rfl rfl (by rfl) (by rfl)) (.inr ⟨zsL, View.le_refl _⟩) (fun b19 => ?_)
        refine SA.new 1 rfl rfl rfl (Wanted.plain rfl) (by kernel_rfl) (New.buildSliceN (xs := [.tmp 15]) (vss := [fieldC 0]) sl_167 zc_174 rfl rfl rfl (by rfl) (by rfl)) (.inr ⟨zsL, View.le_refl _⟩) (fun b16 => ?_)
        refine SA.take 5 (by kernel_rfl) rfl rfl rfl (Wanted.plain rfl) zsL (View.le_refl _) (Pur.assign rfl) ?_
        refine SA.take 6 (by kernel_rfl) rfl rfl rfl (Wanted.plain rfl) zsL (View.le_refl _) (Pur.assign rfl) ?_
        refine SA.done (by kernel_rfl) ?_
        refine WQ.thn ?_
        refine WC.ret ?_
        refine WQ.blk_ret ?_
        refine WQ.thn_ret ?_
        first | refine WQ.giveS (byt := 24) (H1 := []) eField_mono (SlO.row (b := b19) (field_row σ [1, 2] (by decide))) (by decide) rfl (fun σ1 hle hsl => ?_) | refine WQ.giveS (byt := 24) (H1 := [_]) eField_mono (SlO.row (b := b19) (field_row σ [1, 2] (by decide))) (by decide) rfl (fun σ1 hle hsl => ?_)
        refine WQ.ret2 Try.results100 rfl rfl [] zsL hle ?_
        refine ⟨⟨_, _, rfl, ?_⟩, rfl⟩
        have : othersOf k = [1, 2] := by unfold othersOf; (repeat (first | rw [if_pos (by omega)] | rw [if_neg (by omega)]))
        rw [this]; exact hsl
    · refine WC.region ?_
      refine' WL.pur (Pur.bin rfl rfl ?h12_0) ?k12
      case h12_0 => first | exact Bin.eqN (b := 4) | exact Bin.eqI
      refine WL.pur (Pur.assign rfl) ?_
      refine WL.nil ?_
      refine WQ.thn ?_
      first | refine WC.cond rfl (fun hc4 => ?_) (fun hc4 => ?_) | refine WC.condB rfl (fun hc4 => ?_) (fun hc4 => ?_)
      · refine WC.seq ?_
        refine WC.drawH 7 7 mixed (by kernel_rfl) rfl ?_
        refine' SA.take 0 (by kernel_rfl) rfl rfl rfl (Wanted.plain rfl) zsL (View.le_refl _) (Pur.loadN rfl ty_174 ?h13_0 ?h13_1) ?k13
        case h13_0 => first | (apply Rd.own_sub; exact zmE; exact Sub.refl _) | (apply RdV.rd; assumption)
        case h13_1 => first | rfl | assumption
        refine' SA.take 2 (by kernel_rfl) rfl rfl rfl (Wanted.plain rfl) zsL (View.le_refl _) (Pur.loadN rfl ty_174 ?h14_0 ?h14_1) ?k14
        case h14_0 => first | (apply Rd.own_sub; exact zmE; exact Sub.refl _) | (apply RdV.rd; assumption)
        case h14_1 => first | rfl | assumption
        refine' SA.take 3 (by kernel_rfl) rfl rfl rfl (Wanted.plain rfl) zsL (View.le_refl _) (Pur.loadN rfl ty_174 ?h15_0 ?h15_1) ?k15
        case h15_0 => first | (apply Rd.own_sub; exact zmE; exact Sub.refl _) | (apply RdV.rd; assumption)
        case h15_1 => first | rfl | assumption
        refine SA.two 1 4 (by kernel_rfl) ?_ ?_
        · refine SStep.new 1 rfl rfl rfl (Wanted.plain rfl) (New.buildSliceN (xs := [.tmp 15]) (vss := [fieldC 0]) sl_167 zc_174 rfl rfl rfl (by rfl) (by rfl)) (.inr ⟨zsL, View.le_refl _⟩) (fun b16 => ?_)
          refine SA.take 5 (by kernel_rfl) rfl rfl rfl (Wanted.plain rfl) zsL (View.le_refl _) (Pur.assign rfl) ?_
          refine SA.new 4 rfl rfl rfl (Wanted.plain rfl) (by kernel_rfl) (New.buildSliceN (xs := [.tmp 17, .tmp 18]) (vss := [fieldC 1, fieldC 2]) sl_167 zc_174 rfl rfl rfl (by rfl) (by rfl)) (.inr ⟨zsL, View.le_refl _⟩) (fun b19 => ?_)
          refine SA.take 6 (by kernel_rfl) rfl rfl rfl (Wanted.plain rfl) zsL (View.le_refl _) (Pur.assign rfl) ?_
          refine SA.done (by kernel_rfl) ?_
          refine WQ.thn ?_
          refine WC.ret ?_
          refine WQ.blk_ret ?_
          refine WQ.thn_ret ?_
          first | refine WQ.giveS (byt := 24) (H1 := []) eField_mono (SlO.row (b := b19) (field_row σ [1, 2] (by decide))) (by decide) rfl (fun σ1 hle hsl => ?_) | refine WQ.giveS (byt := 24) (H1 := [_]) eField_mono (SlO.row (b := b19) (field_row σ [1, 2] (by decide))) (by decide) rfl (fun σ1 hle hsl => ?_)
          refine WQ.ret2 Try.results100 rfl rfl [] zsL hle ?_
          refine ⟨⟨_, _, rfl, ?_⟩, rfl⟩
          have : othersOf k = [1, 2] := by unfold othersOf; (repeat (first | rw [if_pos (by omega)] | rw [if_neg (by omega)]))
          rw [this]; exact hsl
        · refine SStep.new 4 rfl rfl rfl (Wanted.plain rfl) (New.buildSliceN (xs := [.tmp 17, .tmp 18]) (vss := [fieldC 1, fieldC 2]) sl_167 zc_174 rfl rfl rfl (by rfl) (by rfl)) (.inr ⟨zsL, View.le_refl _⟩) (fun b19 => ?_)
          refine SA.new 1 rfl rfl rfl (Wanted.plain rfl) (by kernel_rfl) (New.buildSliceN (xs := [.tmp 15]) (vss := [fieldC 0]) sl_167 zc_174 rfl rfl rfl (by rfl) (by rfl)) (.inr ⟨zsL, View.le_refl _⟩) (fun b16 => ?_)
          refine SA.take 5 (by kernel_rfl) rfl rfl rfl (Wanted.plain rfl) zsL (View.le_refl _) (Pur.assign rfl) ?_
          refine SA.take 6 (by kernel_rfl) rfl rfl rfl (Wanted.plain rfl) zsL (View.le_refl _) (Pur.assign rfl) ?_
          refine SA.done (by kernel_rfl) ?_
          refine WQ.thn ?_
          refine WC.ret ?_
          refine WQ.blk_ret ?_
          refine WQ.thn_ret ?_
          first | refine WQ.giveS (byt := 24) (H1 := []) eField_mono (SlO.row (b := b19) (field_row σ [1, 2] (by decide))) (by decide) rfl (fun σ1 hle hsl => ?_) | refine WQ.giveS (byt := 24) (H1 := [_]) eField_mono (SlO.row (b := b19) (field_row σ [1, 2] (by decide))) (by decide) rfl (fun σ1 hle hsl => ?_)
          refine WQ.ret2 Try.results100 rfl rfl [] zsL hle ?_
          refine ⟨⟨_, _, rfl, ?_⟩, rfl⟩
          have : othersOf k = [1, 2] := by unfold othersOf; (repeat (first | rw [if_pos (by omega)] | rw [if_neg (by omega)]))
          rw [this]; exact hsl
      · refine WC.seq ?_
        refine WC.region ?_
        refine' WL.pur (Pur.bin rfl rfl ?h16_0) ?k16
        case h16_0 => first | exact Bin.eqN (b := 6) | exact Bin.eqI
        refine WL.pur (Pur.assign rfl) ?_
        refine WL.nil ?_
        refine WQ.thn ?_
        first | refine WC.cond rfl (fun hc5 => ?_) (fun hc5 => ?_) | refine WC.condB rfl (fun hc5 => ?_) (fun hc5 => ?_)
        · refine WC.seq ?_
          refine WC.drawH 7 7 mixed (by kernel_rfl) rfl ?_
          refine' SA.take 0 (by kernel_rfl) rfl rfl rfl (Wanted.plain rfl) zsL (View.le_refl _) (Pur.loadN rfl ty_174 ?h17_0 ?h17_1) ?k17
          case h17_0 => first | (apply Rd.own_sub; exact zmE; exact Sub.refl _) | (apply RdV.rd; assumption)
          case h17_1 => first | rfl | assumption
          refine' SA.take 2 (by kernel_rfl) rfl rfl rfl (Wanted.plain rfl) zsL (View.le_refl _) (Pur.loadN rfl ty_174 ?h18_0 ?h18_1) ?k18
          case h18_0 => first | (apply Rd.own_sub; exact zmE; exact Sub.refl _) | (apply RdV.rd; assumption)
          case h18_1 => first | rfl | assumption
          refine' SA.take 3 (by kernel_rfl) rfl rfl rfl (Wanted.plain rfl) zsL (View.le_refl _) (Pur.loadN rfl ty_174 ?h19_0 ?h19_1) ?k19
          case h19_0 => first | (apply Rd.own_sub; exact zmE; exact Sub.refl _) | (apply RdV.rd; assumption)
          case h19_1 => first | rfl | assumption
          refine SA.two 1 4 (by kernel_rfl) ?_ ?_
          · refine SStep.new 1 rfl rfl rfl (Wanted.plain rfl) (New.buildSliceN (xs := [.tmp 22]) (vss := [fieldC 1]) sl_167 zc_174 rfl rfl rfl (by rfl) (by rfl)) (.inr ⟨zsL, View.le_refl _⟩) (fun b23 => ?_)
            refine SA.take 5 (by kernel_rfl) rfl rfl rfl (Wanted.plain rfl) zsL (View.le_refl _) (Pur.assign rfl) ?_
            refine SA.new 4 rfl rfl rfl (Wanted.plain rfl) (by kernel_rfl) (New.buildSliceN (xs := [.tmp 24, .tmp 25]) (vss := [fieldC 0, fieldC 2]) sl_167 zc_174 rfl rfl rfl (by rfl) (by rfl)) (.inr ⟨zsL, View.le_refl _⟩) (fun b26 => ?_)
            refine SA.take 6 (by kernel_rfl) rfl rfl rfl (Wanted.plain rfl) zsL (View.le_refl _) (Pur.assign rfl) ?_
            refine SA.done (by kernel_rfl) ?_
            refine WQ.thn ?_
            refine WC.ret ?_
            refine WQ.blk_ret ?_
            refine WQ.thn_ret ?_
            first | refine WQ.giveS (byt := 24) (H1 := []) eField_mono (SlO.row (b := b26) (field_row σ [0, 2] (by decide))) (by decide) rfl (fun σ1 hle hsl => ?_) | refine WQ.giveS (byt := 24) (H1 := [_]) eField_mono (SlO.row (b := b26) (field_row σ [0, 2] (by decide))) (by decide) rfl (fun σ1 hle hsl => ?_)
            refine WQ.ret2 Try.results100 rfl rfl [] zsL hle ?_
            refine ⟨⟨_, _, rfl, ?_⟩, rfl⟩
            have : othersOf k = [0, 2] := by unfold othersOf; (repeat (first | rw [if_pos (by omega)] | rw [if_neg (by omega)]))
            rw [this]; exact hsl
          · refine SStep.new 4 rfl rfl rfl (Wanted.plain rfl) (New.buildSliceN (xs := [.tmp 24, .tmp 25]) (vss := [fieldC 0, fieldC 2]) sl_167 zc_174 rfl rfl rfl (by rfl) (by rfl)) (.inr ⟨zsL, View.le_refl _⟩) (fun b26 => ?_)
            refine SA.new 1 rfl rfl rfl (Wanted.plain rfl) (by kernel_rfl) (New.buildSliceN (xs := [.tmp 22]) (vss := [fieldC 1]) sl_167 zc_174 rfl rfl rfl (by rfl) (by rfl)) (.inr ⟨zsL, View.le_refl _⟩) (fun b23 => ?_)
            refine SA.take 5 (by kernel_rfl) rfl rfl rfl (Wanted.plain rfl) zsL (View.le_refl _) (Pur.assign rfl) ?_
            refine SA.take 6 (by kernel_rfl) rfl rfl rfl (Wanted.plain rfl) zsL (View.le_refl _) (Pur.assign rfl) ?_
            refine SA.done (by kernel_rfl) ?_
            refine WQ.thn ?_
            refine WC.ret ?_
            refine WQ.blk_ret ?_
            refine WQ.thn_ret ?_
            first | refine WQ.giveS (byt := 24) (H1 := []) eField_mono (SlO.row (b := b26) (field_row σ [0, 2] (by decide))) (by decide) rfl (fun σ1 hle hsl => ?_) | refine WQ.giveS (byt := 24) (H1 := [_]) eField_mono (SlO.row (b := b26) (field_row σ [0, 2] (by decide))) (by decide) rfl (fun σ1 hle hsl => ?_)
            refine WQ.ret2 Try.results100 rfl rfl [] zsL hle ?_
            refine ⟨⟨_, _, rfl, ?_⟩, rfl⟩
            have : othersOf k = [0, 2] := by unfold othersOf; (repeat (first | rw [if_pos (by omega)] | rw [if_neg (by omega)]))
            rw [this]; exact hsl
        · refine WC.seq ?_
          refine WC.region ?_
          refine' WL.pur (Pur.bin rfl rfl ?h20_0) ?k20
          case h20_0 => first | exact Bin.eqN (b := 8) | exact Bin.eqI
          refine WL.pur (Pur.assign rfl) ?_
          refine WL.nil ?_
          refine WQ.thn ?_
          first | refine WC.cond rfl (fun hc6 => ?_) (fun hc6 => ?_) | refine WC.condB rfl (fun hc6 => ?_) (fun hc6 => ?_)
          · refine WC.seq ?_
            refine WC.drawH 7 7 mixed (by kernel_rfl) rfl ?_
            refine' SA.take 0 (by kernel_rfl) rfl rfl rfl (Wanted.plain rfl) zsL (View.le_refl _) (Pur.loadN rfl ty_174 ?h21_0 ?h21_1) ?k21
            case h21_0 => first | (apply Rd.own_sub; exact zmE; exact Sub.refl _) | (apply RdV.rd; assumption)
            case h21_1 => first | rfl | assumption
            refine' SA.take 1 (by kernel_rfl) rfl rfl rfl (Wanted.plain rfl) zsL (View.le_refl _) (Pur.loadN rfl ty_174 ?h22_0 ?h22_1) ?k22
            case h22_0 => first | (apply Rd.own_sub; exact zmE; exact Sub.refl _) | (apply RdV.rd; assumption)
            case h22_1 => first | rfl | assumption
            refine' SA.take 3 (by kernel_rfl) rfl rfl rfl (Wanted.plain rfl) zsL (View.le_refl _) (Pur.loadN rfl ty_174 ?h23_0 ?h23_1) ?k23
            case h23_0 => first | (apply Rd.own_sub; exact zmE; exact Sub.refl _) | (apply RdV.rd; assumption)
            case h23_1 => first | rfl | assumption
            refine SA.two 2 4 (by kernel_rfl) ?_ ?_
            · refine SStep.new 2 rfl rfl rfl (Wanted.plain rfl) (New.buildSliceN (xs := [.tmp 29, .tmp 30]) (vss := [fieldC 0, fieldC 2]) sl_167 zc_174 rfl rfl rfl (by rfl) (by rfl)) (.inr ⟨zsL, View.le_refl _⟩) (fun b31 => ?_)
              refine SA.take 5 (by kernel_rfl) rfl rfl rfl (Wanted.plain rfl) zsL (View.le_refl _) (Pur.assign rfl) ?_
              refine SA.new 4 rfl rfl rfl (Wanted.plain rfl) (by kernel_rfl) (New.buildSliceN (xs := [.tmp 32]) (vss := [fieldC 1]) sl_167 zc_174 rfl rfl rfl (by rfl) (by rfl)) (.inr ⟨zsL, View.le_refl _⟩) (fun b33 => ?_)
              refine SA.take 6 (by kernel_rfl) rfl rfl rfl (Wanted.plain rfl) zsL (View.le_refl _) (Pur.assign rfl) ?_
              refine SA.done (by kernel_rfl) ?_
              refine WQ.thn ?_
              refine WC.ret ?_
              refine WQ.blk_ret ?_
              refine WQ.thn_ret ?_
              first | refine WQ.giveS (byt := 24) (H1 := []) eField_mono (SlO.row (b := b33) (field_row σ [1] (by decide))) (by decide) rfl (fun σ1 hle hsl => ?_) | refine WQ.giveS (byt := 24) (H1 := [_]) eField_mono (SlO.row (b := b33) (field_row σ [1] (by decide))) (by decide) rfl (fun σ1 hle hsl => ?_)
              refine WQ.ret2 Try.results100 rfl rfl [] zsL hle ?_
              refine ⟨⟨_, _, rfl, ?_⟩, rfl⟩
              have : othersOf k = [1] := by unfold othersOf; (repeat (first | rw [if_pos (by omega)] | rw [if_neg (by omega)]))
              rw [this]; exact hsl
            · refine SStep.new 4 rfl rfl rfl (Wanted.plain rfl) (New.buildSliceN (xs := [.tmp 32]) (vss := [fieldC 1]) sl_167 zc_174 rfl rfl rfl (by rfl) (by rfl)) (.inr ⟨zsL, View.le_refl _⟩) (fun b33 => ?_)
              refine SA.new 2 rfl rfl rfl (Wanted.plain rfl) (by kernel_rfl) (New.buildSliceN (xs := [.tmp 29, .tmp 30]) (vss := [fieldC 0, fieldC 2]) sl_167 zc_174 rfl rfl rfl (by rfl) (by rfl)) (.inr ⟨zsL, View.le_refl _⟩) (fun b31 => ?_)
              refine SA.take 5 (by kernel_rfl) rfl rfl rfl (Wanted.plain rfl) zsL (View.le_refl _) (Pur.assign rfl) ?_
              refine SA.take 6 (by kernel_rfl) rfl rfl rfl (Wanted.plain rfl) zsL (View.le_refl _) (Pur.assign rfl) ?_
              refine SA.done (by kernel_rfl) ?_
              refine WQ.thn ?_
              refine WC.ret ?_
              refine WQ.blk_ret ?_
              refine WQ.thn_ret ?_
              first | refine WQ.giveS (byt := 24) (H1 := []) eField_mono (SlO.row (b := b33) (field_row σ [1] (by decide))) (by decide) rfl (fun σ1 hle hsl => ?_) | refine WQ.giveS (byt := 24) (H1 := [_]) eField_mono (SlO.row (b := b33) (field_row σ [1] (by decide))) (by decide) rfl (fun σ1 hle hsl => ?_)
              refine WQ.ret2 Try.results100 rfl rfl [] zsL hle ?_
              refine ⟨⟨_, _, rfl, ?_⟩, rfl⟩
              have : othersOf k = [1] := by unfold othersOf; (repeat (first | rw [if_pos (by omega)] | rw [if_neg (by omega)]))
              rw [this]; exact hsl
          · refine WC.seq ?_
            refine WC.region ?_
            refine' WL.pur (Pur.bin rfl rfl ?h24_0) ?k24
            case h24_0 => first | exact Bin.eqN (b := 9) | exact Bin.eqI
            refine WL.pur (Pur.assign rfl) ?_
            refine WL.nil ?_
            refine WQ.thn ?_
            first | refine WC.cond rfl (fun hc7 => ?_) (fun hc7 => ?_) | refine WC.condB rfl (fun hc7 => ?_) (fun hc7 => ?_)
            · refine WC.seq ?_
              refine WC.drawH 7 7 mixed (by kernel_rfl) rfl ?_
              refine' SA.take 0 (by kernel_rfl) rfl rfl rfl (Wanted.plain rfl) zsL (View.le_refl _) (Pur.loadN rfl ty_174 ?h25_0 ?h25_1) ?k25
              case h25_0 => first | (apply Rd.own_sub; exact zmE; exact Sub.refl _) | (apply RdV.rd; assumption)
              case h25_1 => first | rfl | assumption
              refine' SA.take 2 (by kernel_rfl) rfl rfl rfl (Wanted.plain rfl) zsL (View.le_refl _) (Pur.loadN rfl ty_174 ?h26_0 ?h26_1) ?k26
              case h26_0 => first | (apply Rd.own_sub; exact zmE; exact Sub.refl _) | (apply RdV.rd; assumption)
              case h26_1 => first | rfl | assumption
              refine' SA.take 3 (by kernel_rfl) rfl rfl rfl (Wanted.plain rfl) zsL (View.le_refl _) (Pur.loadN rfl ty_174 ?h27_0 ?h27_1) ?k27
              case h27_0 => first | (apply Rd.own_sub; exact zmE; exact Sub.refl _) | (apply RdV.rd; assumption)
              case h27_1 => first | rfl | assumption
              refine SA.two 1 4 (by kernel_rfl) ?_ ?_
              · refine SStep.new 1 rfl rfl rfl (Wanted.plain rfl) (New.buildSliceN (xs := [.tmp 36]) (vss := [fieldC 2]) sl_167 zc_174 rfl rfl rfl (by rfl) (by rfl)) (.inr ⟨zsL, View.le_refl _⟩) (fun b37 => ?_)
                refine SA.take 5 (by kernel_rfl) rfl rfl rfl (Wanted.plain rfl) zsL (View.le_refl _) (Pur.assign rfl) ?_
                refine SA.new 4 rfl rfl rfl (Wanted.plain rfl) (by kernel_rfl) (New.buildSliceN (xs := [.tmp 38, .tmp 39]) (vss := [fieldC 0, fieldC 1]) sl_167 zc_174 rfl rfl rfl (by rfl) (by rfl)) (.inr ⟨zsL, View.le_refl _⟩) (fun b40 => ?_)
                refine SA.take 6 (by kernel_rfl) rfl rfl rfl (Wanted.plain rfl) zsL (View.le_refl _) (Pur.assign rfl) ?_
                refine SA.done (by kernel_rfl) ?_
                refine WQ.thn ?_
                refine WC.ret ?_
                refine WQ.blk_ret ?_
                refine WQ.thn_ret ?_
                first | refine WQ.giveS (byt := 24) (H1 := []) eField_mono (SlO.row (b := b40) (field_row σ [0, 1] (by decide))) (by decide) rfl (fun σ1 hle hsl => ?_) | refine WQ.giveS (byt := 24) (H1 := [_]) eField_mono (SlO.row (b := b40) (field_row σ [0, 1] (by decide))) (by decide) rfl (fun σ1 hle hsl => ?_)
                refine WQ.ret2 Try.results100 rfl rfl [] zsL hle ?_
                refine ⟨⟨_, _, rfl, ?_⟩, rfl⟩
                have : othersOf k = [0, 1] := by unfold othersOf; (repeat (first | rw [if_pos (by omega)] | rw [if_neg (by omega)]))
                rw [this]; exact hsl
              · refine SStep.new 4 rfl rfl rfl (Wanted.plain rfl) (New.buildSliceN (xs := [.tmp 38, .tmp 39]) (vss := [fieldC 0, fieldC 1]) sl_167 zc_174 rfl rfl rfl (by rfl) (by rfl)) (.inr ⟨zsL, View.le_refl _⟩) (fun b40 => ?_)
                refine SA.new 1 rfl rfl rfl (Wanted.plain rfl) (by kernel_rfl) (New.buildSliceN (xs := [.tmp 36]) (vss := [fieldC 2]) sl_167 zc_174 rfl rfl rfl (by rfl) (by rfl)) (.inr ⟨zsL, View.le_refl _⟩) (fun b37 => ?_)
                refine SA.take 5 (by kernel_rfl) rfl rfl rfl (Wanted.plain rfl) zsL (View.le_refl _) (Pur.assign rfl) ?_
                refine SA.take 6 (by kernel_rfl) rfl rfl rfl (Wanted.plain rfl) zsL (View.le_refl _) (Pur.assign rfl) ?_
                refine SA.done (by kernel_rfl) ?_
                refine WQ.thn ?_
                refine WC.ret ?_
                refine WQ.blk_ret ?_
                refine WQ.thn_ret ?_
                first | refine WQ.giveS (byt := 24) (H1 := []) eField_mono (SlO.row (b := b40) (field_row σ [0, 1] (by decide))) (by decide) rfl (fun σ1 hle hsl => ?_) | refine WQ.giveS (byt := 24) (H1 := [_]) eField_mono (SlO.row (b := b40) (field_row σ [0, 1] (by decide))) (by decide) rfl (fun σ1 hle hsl => ?_)
                refine WQ.ret2 Try.results100 rfl rfl [] zsL hle ?_
                refine ⟨⟨_, _, rfl, ?_⟩, rfl⟩
                have : othersOf k = [0, 1] := by unfold othersOf; (repeat (first | rw [if_pos (by omega)] | rw [if_neg (by omega)]))
                rw [this]; exact hsl
            · refine WC.skip ?_
              refine WQ.blk ?_
              refine WQ.thn ?_
              refine WC.seq ?_
              refine WC.drawH 6 6 mixed (by kernel_rfl) rfl ?_
              refine' SA.take 0 (by kernel_rfl) rfl rfl rfl (Wanted.plain rfl) zsL (View.le_refl _) (Pur.loadN rfl ty_174 ?h28_0 ?h28_1) ?k28
              case h28_0 => first | (apply Rd.own_sub; exact zmE; exact Sub.refl _) | (apply RdV.rd; assumption)
              case h28_1 => first | rfl | assumption
              refine' SA.take 1 (by kernel_rfl) rfl rfl rfl (Wanted.plain rfl) zsL (View.le_refl _) (Pur.loadN rfl ty_174 ?h29_0 ?h29_1) ?k29
              case h29_0 => first | (apply Rd.own_sub; exact zmE; exact Sub.refl _) | (apply RdV.rd; assumption)
              case h29_1 => first | rfl | assumption
              refine' SA.take 2 (by kernel_rfl) rfl rfl rfl (Wanted.plain rfl) zsL (View.le_refl _) (Pur.loadN rfl ty_174 ?h30_0 ?h30_1) ?k30
              case h30_0 => first | (apply Rd.own_sub; exact zmE; exact Sub.refl _) | (apply RdV.rd; assumption)
              case h30_1 => first | rfl | assumption
              refine SA.take 4 (by kernel_rfl) rfl rfl rfl (Wanted.plain rfl) zsL (View.le_refl _) (Pur.assign rfl) ?_
              refine SA.new 3 rfl rfl rfl (Wanted.plain rfl) (by kernel_rfl) (New.buildSliceN (xs := [.tmp 41, .tmp 42, .tmp 43]) (vss := [fieldC 0, fieldC 1, fieldC 2]) sl_167 zc_174 rfl rfl rfl (by rfl) (by rfl)) (.inr ⟨zsL, View.le_refl _⟩) (fun b44 => ?_)
              refine SA.take 5 (by kernel_rfl) rfl rfl rfl (Wanted.plain rfl) zsL (View.le_refl _) (Pur.assign rfl) ?_
              refine SA.done (by kernel_rfl) ?_
              refine WQ.thn ?_
              refine WC.ret ?_
              first | refine WQ.giveS (byt := 24) (H1 := []) eField_mono (SlO.row (b := b44) (field_row σ [0, 1, 2] (by decide))) (by decide) rfl (fun σ1 hle hsl => ?_) | refine WQ.giveS (byt := 24) (H1 := [_]) eField_mono (SlO.row (b := b44) (field_row σ [0, 1, 2] (by decide))) (by decide) rfl (fun σ1 hle hsl => ?_)
              refine WQ.ret2 Try.results100 rfl rfl [] zsL hle ?_
              refine ⟨⟨_, _, rfl, ?_⟩, rfl⟩
              have : othersOf k = [0, 1, 2] := by unfold othersOf; (repeat (first | rw [if_pos (by omega)] | rw [if_neg (by omega)]))
              rw [this]; exact hsl

end Go.Proofs.Ytgoooilgmabkmaa
namespace Go.Proofs.Ytgoooilgmabkmaa
open Go Go.Sl
set_option linter.unusedVariables false
set_option linter.unusedSimpArgs false
set_option maxRecDepth 100000

def fieldF (i : Nat) : Nat := if i = 0 then 120 else if i = 1 then 125 else 130
theorem fieldC_length (i : Nat) : (fieldC i).length = 3 := by unfold fieldC; split; rfl; split <;> rfl
theorem fieldC_0 (i : Nat) : (fieldC i)[0]? = some (.func (.func (fieldF i)) #[] #[]) := by unfold fieldC fieldF; split; rfl; split <;> rfl
theorem fieldF_call (i : Nat) (args : Array Value) (w : World) : (callFunc (fieldF i) args).run Try.prog w = .ok (.enter (fieldF i) args) w := by
  unfold fieldF; split; exact Try.call120 args w; split; exact Try.call125 args w; exact Try.call130 args w
theorem fieldF_empty (σ : View) (o : OpD) (h : o.ok) (i : Nat) (hi : i < 3) : TriP Try.prog (fieldF i) #[.agg o.cells.toArray] σ (.bool (decide (emptyAt o i))) := by
  have : i = 0 ∨ i = 1 ∨ i = 2 := by omega
  rcases this with rfl | rfl | rfl
  · exact op_text1 σ o h
  · exact op_number1 σ o h
  · exact op_at1 σ o h
theorem others_lt (k : Int) : ∀ i ∈ othersOf k, i < 3 := by
  unfold othersOf
  (repeat' split) <;> decide
/-- what the two ways of asking say -/
theorem others_iff (o : OpD) (hk : 1 ≤ o.kind ∧ o.kind ≤ 9) : (∃ i ∈ othersOf o.kind, ¬ emptyAt o i) ↔ ((¬ hasText o.kind ∧ o.text ≠ ByteArray.empty) ∨ (o.kind ≠ 6 ∧ o.n ≠ 0) ∨ (¬ hasAt o.kind ∧ ¬ atZero o)) := by
  have e0 : emptyAt o 0 ↔ o.text = ByteArray.empty := Iff.rfl
  have e1 : emptyAt o 1 ↔ o.n = 0 := Iff.rfl
  have e2 : emptyAt o 2 ↔ atZero o := Iff.rfl
  have hT : hasText o.kind ↔ (o.kind = 1 ∨ o.kind = 3 ∨ o.kind = 4 ∨ o.kind = 8) := Iff.rfl
  have hA : hasAt o.kind ↔ (o.kind = 8 ∨ o.kind = 9) := Iff.rfl
  rw [hT, hA]
  unfold othersOf
  by_cases c1 : o.kind = 1 ∨ o.kind = 3 ∨ o.kind = 4
  · rw [if_pos c1]; simp only [List.mem_cons, List.not_mem_nil, or_false, exists_eq_or_imp, exists_eq_left, e1, e2]
    constructor
    · rintro (h | h); exact .inr (.inl ⟨by omega, h⟩); exact .inr (.inr ⟨by omega, h⟩)
    · rintro (h | h | h); omega; exact .inl h.2; exact .inr h.2
  · rw [if_neg c1]
    by_cases c2 : o.kind = 6
    · rw [if_pos c2]; simp only [List.mem_cons, List.not_mem_nil, or_false, exists_eq_or_imp, exists_eq_left, e0, e2]
      constructor
      · rintro (h | h); exact .inl ⟨by omega, h⟩; exact .inr (.inr ⟨by omega, h⟩)
      · rintro (h | h | h); exact .inl h.2; omega; exact .inr h.2
    · rw [if_neg c2]
      by_cases c3 : o.kind = 8
      · rw [if_pos c3]; simp only [List.mem_cons, List.not_mem_nil, or_false, exists_eq_left, e1]
        constructor
        · intro h; exact .inr (.inl ⟨by omega, h⟩)
        · rintro (h | h | h); omega; exact h.2; omega
      · rw [if_neg c3]
        by_cases c4 : o.kind = 9
        · rw [if_pos c4]; simp only [List.mem_cons, List.not_mem_nil, or_false, exists_eq_or_imp, exists_eq_left, e0, e1]
          constructor
          · rintro (h | h); exact .inl ⟨by omega, h⟩; exact .inr (.inl ⟨by omega, h⟩)
          · rintro (h | h | h); exact .inl h.2; exact .inr h.2; omega
        · rw [if_neg c4]; simp only [List.mem_cons, List.not_mem_nil, or_false, exists_eq_or_imp, exists_eq_left, e0, e1, e2]
          constructor
          · rintro (h | h | h); exact .inl ⟨by omega, h⟩; exact .inr (.inl ⟨by omega, h⟩); exact .inr (.inr ⟨by omega, h⟩)
          · rintro (h | h | h); exact .inl h.2; exact .inr (.inl h.2); exact .inr (.inr h.2)

theorem cell4 {k : Int} : cellOf k = 4 ↔ hasAt k := by
  unfold cellOf hasAt
  (repeat' split) <;> omega

theorem op_right (σ : View) (lv : Value) (l : List OpD) (o : OpD) (h : Ops σ lv l) (ho : o.ok) :
    TriP Try.prog 103 #[lv, .agg o.cells.toArray] σ (.bool (decide (atMay l o))) := by
  have h' := h
  obtain ⟨a, cap, rfl, hcap, hby⟩ := h.shape
  obtain ⟨hk, hkey, htext, hn, hatn, hato⟩ := ho
  have h0 := isH0
  unfold I64 at hato
  refine Tri.of_body [(0, .slice a l.length cap), (1, .agg o.cells.toArray)] Try.func103 rfl Try.ntmps103 (by simp) rfl (fun Hr => ?_)
  rw [List.nil_append]
  refine WC.seq ?_
  refine WC.region ?_
  refine WL.new (New.boxN rfl) (fun b3 => ?_)
  refine WL.pur (Pur.assign rfl) ?_
  refine WL.nil ?_
  refine WQ.thn ?_
  refine WC.seq ?_
  refine WC.block ?_
  refine WC.seq ?_
  refine WC.region ?_
  refine WL.pur (Pur.fieldAddr rfl fo_53_4) ?_
  refine' WL.pur (Pur.loadN rfl ty_51 ?h1_0 ?h1_1) ?k1
  case h1_0 => first | (apply Rd.own_sub; exact zmE; exact Sub.op_ident _ _ _ _ _ _) | (apply RdV.rd; apply RdV.sub (i := 4); assumption; exact Sub.op_ident _ _ _ _ _ _)
  case h1_1 => first | rfl | assumption
  refine WL.pur (Pur.build (l := (identCells 0 0)) pl_51 zc_51 rfl rfl) ?_
  refine' WL.pur (Pur.bin rfl rfl ?h2_0) ?k2
  case h2_0 => (refine Bin.eqId identT_51 ?_ ?_ <;> assumption)
  refine WL.pur (Pur.assign rfl) ?_
  refine WL.nil ?_
  refine WQ.thn ?_
  first | refine WC.cond rfl (fun hc0 => ?_) (fun hc0 => ?_) | refine WC.condB rfl (fun hc0 => ?_) (fun hc0 => ?_)
  · refine WC.seq ?_
    refine WC.region ?_
    refine WL.pur (Pur.fieldAddr rfl fo_53_0) ?_
    refine' WL.pur (Pur.load1 rfl ty_3 ?h3_0) ?k3
    case h3_0 => first | (apply Rd.own1; exact zmE; rfl) | (apply RdV.rd; apply RdV.idx (i := 0); assumption; rfl)
    refine' WL.pur (Pur.bin rfl rfl ?h4_0) ?k4
    case h4_0 => first | exact Bin.eqN (b := 8) | exact Bin.eqI
    refine WL.pur (Pur.assign rfl) ?_
    refine WL.nil ?_
    refine WQ.thn ?_
    refine WC.ret ?_
    refine WQ.blk_ret ?_
    refine WQ.thn_ret ?_
    refine WQ.ret1 Try.results103 rfl [] zsL (View.le_refl _) ?_
    refine ⟨?_, rfl, rfl⟩
    exact decB (by unfold atMay; rw [if_pos hc0.1, if_pos hc0.2])
  · refine WC.seq ?_
    refine WC.region ?_
    refine WL.pur (Pur.fieldAddr rfl fo_53_4) ?_
    refine WL.pur (Pur.fieldAddr rfl fo_51_0) ?_
    refine' WL.pur (Pur.loadN rfl ty_31 ?h5_0 ?h5_1) ?k5
    case h5_0 => first | (apply Rd.own_sub; exact zmE; exact Sub.op_hash _ _ _ _ _ _) | (apply RdV.rd; apply RdV.sub (i := 4); assumption; exact Sub.op_hash _ _ _ _ _ _)
    case h5_1 => first | rfl | assumption
    refine WL.pur (Pur.buildA0 zc_31 ar_31) ?_
    refine' WL.pur (Pur.bin rfl rfl ?h6_0) ?k6
    case h6_0 => (refine Bin.neH isHash_31 ?_ ?_ <;> assumption)
    refine WL.pur (Pur.assign rfl) ?_
    refine WL.nil ?_
    refine WQ.thn ?_
    first | refine WC.cond rfl (fun hc1 => ?_) (fun hc1 => ?_) | refine WC.condB rfl (fun hc1 => ?_) (fun hc1 => ?_)
    · refine WC.seq ?_
      refine WC.region ?_
      refine WL.pur (Pur.fieldAddr rfl fo_53_4) ?_
      refine WL.pur (Pur.fieldAddr rfl fo_51_1) ?_
      refine' WL.pur (Pur.load1 rfl ty_3 ?h7_0) ?k7
      case h7_0 => first | (apply Rd.own1; exact zmE; rfl) | (apply RdV.rd; apply RdV.idx (i := 36); assumption; rfl) | (apply RdV.rd; apply RdV.idx (off := 0) (i := 36); assumption; rfl)
      refine' WL.pur (Pur.bin rfl rfl ?h8_0) ?k8
      case h8_0 => first | exact Bin.geN (b := 1) | exact Bin.geI
      refine WL.pur (Pur.move rfl) ?_
      refine' WL.andp (u := 24) (t := 29) rfl ?h9_0 ?h9_1 ?h9_2 rfl ?k9
      case h9_0 =>
        intro hg24 K24
        refine WL.gpur (u := 24) rfl rfl (gT hg24) (Pur.fieldAddr rfl fo_53_4) ?_
        refine WL.gpur (u := 24) rfl rfl (gT hg24) (Pur.fieldAddr rfl fo_51_1) ?_
        refine' WL.gpur (u := 24) rfl rfl (gT hg24) (Pur.load1 rfl ty_3 ?h10_0) ?k10
        case h10_0 => first | (apply Rd.own1; exact zmE; rfl) | (apply RdV.rd; apply RdV.idx (i := 36); assumption; rfl) | (apply RdV.rd; apply RdV.idx (off := 0) (i := 36); assumption; rfl)
        refine' WL.gpur (u := 24) rfl rfl (gT hg24) (Pur.bin rfl rfl ?h11_0) ?k11
        case h11_0 => first | exact Bin.leN (b := 1024) | exact Bin.leI | exact Bin.leS
        exact K24 _ zcR rfl
      case h9_1 =>
        intro hg24 K24
        refine WL.gskip (u := 24) rfl rfl (sT hg24) ?_
        refine WL.gskip (u := 24) rfl rfl (sT hg24) ?_
        refine WL.gskip (u := 24) rfl rfl (sT hg24) ?_
        refine WL.gskip (u := 24) rfl rfl (sT hg24) ?_
        exact K24 _ zcR
      case h9_2 => exact Wanted.plain rfl
      refine WL.pur (Pur.assign rfl) ?_
      refine WL.nil ?_
      refine WQ.thn ?_
      refine WC.ret ?_
      refine WQ.blk_ret ?_
      refine WQ.thn_ret ?_
      refine WQ.ret1 Try.results103 rfl [] zsL (View.le_refl _) ?_
      refine ⟨?_, rfl, rfl⟩
      exact decB (by unfold atMay; rw [if_neg hc1])
    · refine WC.seq ?_
      refine WC.region ?_
      refine WL.pur (Pur.fieldAddr rfl fo_53_4) ?_
      refine WL.pur (Pur.fieldAddr rfl fo_51_1) ?_
      refine' WL.pur (Pur.load1 rfl ty_3 ?h12_0) ?k12
      case h12_0 => first | (apply Rd.own1; exact zmE; rfl) | (apply RdV.rd; apply RdV.idx (i := 36); assumption; rfl) | (apply RdV.rd; apply RdV.idx (off := 0) (i := 36); assumption; rfl)
      refine' WL.pur (Pur.bin rfl rfl ?h13_0) ?k13
      case h13_0 => first | exact Bin.ltN (b := 1) | exact Bin.ltI | exact Bin.ltS
      refine WL.pur (Pur.move rfl) ?_
      refine' WL.orp (u := 35) (t := 42) rfl ?h14_0 ?h14_1 ?h14_2 rfl ?k14
      case h14_0 =>
        intro hg35 K35
        refine WL.gpur (u := 35) rfl rfl (gF hg35) (Pur.fieldAddr rfl fo_53_4) ?_
        refine WL.gpur (u := 35) rfl rfl (gF hg35) (Pur.fieldAddr rfl fo_51_1) ?_
        refine' WL.gpur (u := 35) rfl rfl (gF hg35) (Pur.load1 rfl ty_3 ?h15_0) ?k15
        case h15_0 => first | (apply Rd.own1; exact zmE; rfl) | (apply RdV.rd; apply RdV.idx (i := 36); assumption; rfl) | (apply RdV.rd; apply RdV.idx (off := 0) (i := 36); assumption; rfl)
        refine WL.gpur (u := 35) rfl rfl (gF hg35) (Pur.move rfl) ?_
        refine WL.gpur (u := 35) rfl rfl (gF hg35) (Pur.len rfl isSlice_33) ?_
        refine' WL.gpur (u := 35) rfl rfl (gF hg35) (Pur.bin rfl rfl ?h16_0) ?k16
        case h16_0 => first | exact Bin.gtN | exact Bin.gtI
        exact K35 _ zcR rfl
      case h14_1 =>
        intro hg35 K35
        refine WL.gskip (u := 35) rfl rfl (sF hg35) ?_
        refine WL.gskip (u := 35) rfl rfl (sF hg35) ?_
        refine WL.gskip (u := 35) rfl rfl (sF hg35) ?_
        refine WL.gskip (u := 35) rfl rfl (sF hg35) ?_
        refine WL.gskip (u := 35) rfl rfl (sF hg35) ?_
        refine WL.gskip (u := 35) rfl rfl (sF hg35) ?_
        exact K35 _ zcR
      case h14_2 => exact Wanted.plain rfl
      refine WL.pur (Pur.assign rfl) ?_
      refine WL.nil ?_
      refine WQ.thn ?_
      first | refine WC.cond rfl (fun hc2 => ?_) (fun hc2 => ?_) | refine WC.condB rfl (fun hc2 => ?_) (fun hc2 => ?_)
      · refine WC.seq ?_
        refine WC.region ?_
        refine WL.pur (Pur.assign rfl) ?_
        refine WL.nil ?_
        refine WQ.thn ?_
        refine WC.ret ?_
        refine WQ.blk_ret ?_
        refine WQ.thn_ret ?_
        refine WQ.ret1 Try.results103 rfl [] zsL (View.le_refl _) ?_
        refine ⟨?_, rfl, rfl⟩
        exact boolF (by unfold atMay; intro h; split at h; split at h; exact hc0 ⟨by assumption, by assumption⟩; omega; exact hc1 (by assumption))
      · obtain ⟨b, off, cap', e, hcap', hby', hat⟩ := h'.at (by omega)
        cases e
        obtain ⟨x, hx⟩ : ∃ x, l[(o.ato - 1).toNat]? = some x := ⟨_, List.getElem?_eq_getElem (by omega)⟩
        obtain ⟨vs, hl, h1, ⟨rfl, hxk, hxkey, hxr⟩, hrd⟩ := hat _ x hx
        refine WC.skip ?_
        refine WQ.blk ?_
        refine WQ.thn ?_
        refine WC.seq ?_
        refine WC.region ?_
        refine WL.pur (Pur.move rfl) ?_
        refine WL.pur (Pur.fieldAddr rfl fo_53_4) ?_
        refine WL.pur (Pur.fieldAddr rfl fo_51_1) ?_
        refine' WL.pur (Pur.load1 rfl ty_3 ?h17_0) ?k17
        case h17_0 => first | (apply Rd.own1; exact zmE; rfl) | (apply RdV.rd; apply RdV.idx (i := 36); assumption; rfl) | (apply RdV.rd; apply RdV.idx (off := 0) (i := 36); assumption; rfl)
        refine' WL.pur (Pur.bin rfl rfl ?h18_0) ?k18
        case h18_0 => exact Bin.subK (c := (o.ato - 1).toNat) (by omega) (by omega)
        refine' WL.pur (Pur.indexAddr rfl rfl sl_33 ?h19_0) ?k19
        case h19_0 => omega
        refine' WL.pur (Pur.loadN rfl ty_53 ?h20_0 ?h20_1) ?k20
        case h20_0 => first | (apply Rd.own_sub; exact zmE; exact Sub.refl _) | (apply RdV.rd; assumption)
        case h20_1 => first | rfl | assumption
        refine WL.new (New.alloc zc_53) (fun b5 => ?_)
        refine' WL.run0 (Run.storeAll rfl rfl ty_53 ?h21_0 (by first | rfl | assumption) ?h21_1 (by first | rfl | assumption)) ?k21
        case h21_0 => repeat (first | exact Part.one | exact Part.here | apply Part.cons | apply Part.app)
        case h21_1 => first | rfl | assumption
        refine WL.nil ?_
        refine WQ.thn ?_
        refine WC.seq ?_
        refine WC.region ?_
        refine WL.pur (Pur.fieldAddr rfl fo_53_0) ?_
        refine' WL.pur (Pur.load1 rfl ty_3 ?h22_0) ?k22
        case h22_0 => first | (apply Rd.own1; exact zmE; rfl) | (apply RdV.rd; apply RdV.idx (i := 0); assumption; rfl)
        refine' WL.pur (Pur.bin rfl rfl ?h23_0) ?k23
        case h23_0 => first | exact Bin.eqN (b := 8) | exact Bin.eqI
        refine WL.pur (Pur.move rfl) ?_
        refine' WL.andp (u := 53) (t := 59) rfl ?h24_0 ?h24_1 ?h24_2 rfl ?k24
        case h24_0 =>
          intro hg53 K53
          refine WL.gpur (u := 53) rfl rfl (gT hg53) (Pur.fieldAddr rfl fo_53_1) ?_
          refine' WL.gpur (u := 53) rfl rfl (gT hg53) (Pur.load1 rfl ty_9 ?h25_0) ?k25
          case h25_0 => first | (apply Rd.own1; exact zmE; rfl) | (apply RdV.rd; apply RdV.idx (i := 1); assumption; rfl) | (apply RdV.rd; apply RdV.idx (off := 0) (i := 1); assumption; rfl)
          refine WL.gpur (u := 53) rfl rfl (gT hg53) (Pur.fieldAddr rfl fo_53_1) ?_
          refine' WL.gpur (u := 53) rfl rfl (gT hg53) (Pur.load1 rfl ty_9 ?h26_0) ?k26
          case h26_0 => first | (apply Rd.own1; exact zmE; rfl) | (apply RdV.rd; apply RdV.idx (i := 1); assumption; rfl) | (apply RdV.rd; apply RdV.idx (off := 0) (i := 1); assumption; rfl)
          refine' WL.gpur (u := 53) rfl rfl (gT hg53) (Pur.bin rfl rfl ?h27_0) ?k27
          case h27_0 => exact Bin.eqS
          exact K53 _ zcR rfl
        case h24_1 =>
          intro hg53 K53
          refine WL.gskip (u := 53) rfl rfl (sT hg53) ?_
          refine WL.gskip (u := 53) rfl rfl (sT hg53) ?_
          refine WL.gskip (u := 53) rfl rfl (sT hg53) ?_
          refine WL.gskip (u := 53) rfl rfl (sT hg53) ?_
          refine WL.gskip (u := 53) rfl rfl (sT hg53) ?_
          exact K53 _ zcR
        case h24_2 => exact Wanted.plain rfl
        refine WL.pur (Pur.assign rfl) ?_
        refine WL.nil ?_
        refine WQ.thn ?_
        refine WC.ret ?_
        refine WQ.ret1 Try.results103 rfl [] zsL (View.le_refl _) ?_
        refine ⟨?_, rfl, rfl⟩
        exact decB (by unfold atMay; rw [if_pos (Decidable.not_not.1 hc1), if_neg (fun hz => hc0 ⟨Decidable.not_not.1 hc1, hz⟩)]; exact ⟨fun h => ⟨by omega, by omega, fun y hy => by rw [hx] at hy; cases hy; exact h⟩, fun h => h.2.2 x hx⟩)

theorem op_wrong (σ : View) (lv : Value) (l : List OpD) (o : OpD) (h : Ops σ lv l) (ho : o.ok) :
    TriP Try.prog 90 #[lv, .agg o.cells.toArray] σ (.int .i64 (opErr l o)) := by
  have h' := h
  obtain ⟨a, cap, rfl, hcap, hby⟩ := h.shape
  have ho' := ho
  obtain ⟨hk, hkey, htext, hn, hatn, hato⟩ := ho
  unfold StrOk at hkey htext
  refine Tri.of_body [(0, .slice a l.length cap), (1, .agg o.cells.toArray)] Try.func90 rfl Try.ntmps90 (by simp) rfl (fun Hr => ?_)
  rw [List.nil_append]
  refine WC.seq ?_
  refine WC.region ?_
  refine WL.new (New.boxN rfl) (fun b3 => ?_)
  refine WL.pur (Pur.assign rfl) ?_
  refine WL.nil ?_
  refine WQ.thn ?_
  refine WC.seq ?_
  refine WC.region ?_
  refine WL.pur (Pur.fieldAddr rfl fo_53_0) ?_
  refine' WL.pur (Pur.load1 rfl ty_3 ?h1_0) ?k1
  case h1_0 => first | (apply Rd.own1; exact zmE; rfl) | (apply RdV.rd; apply RdV.idx (i := 0); assumption; rfl)
  refine WL.call (H0 := []) (Hr := _) rfl Try.call100 (List.Perm.refl _) (op_fields σ o.kind) ?_
  rintro _ σ1 _ ⟨⟨hv, ov, rfl, hov⟩, rfl⟩ hle
  have h1 := h'.mono eOp_mono hle
  obtain ⟨oa, ocap, rfl, hocap, hoby⟩ := hov.shape
  refine WL.pur (Pur.move rfl) ?_
  refine WL.pur (Pur.extract rfl rfl) ?_
  refine WL.pur (Pur.extract rfl rfl) ?_
  refine WL.pur (Pur.assign rfl) ?_
  refine WL.pur (Pur.assign rfl) ?_
  refine WL.nil ?_
  refine WQ.thn ?_
  refine WC.seq ?_
  refine WC.block ?_
  refine WC.seq ?_
  refine WC.region ?_
  refine WL.pur (Pur.fieldAddr rfl fo_53_0) ?_
  refine' WL.pur (Pur.load1 rfl ty_3 ?h2_0) ?k2
  case h2_0 => first | (apply Rd.own1; exact zmE; rfl) | (apply RdV.rd; apply RdV.idx (i := 0); assumption; rfl)
  refine WL.callP rfl Try.call101 (op_known _ _) ?_
  refine WL.pur (Pur.not rfl) ?_
  refine WL.pur (Pur.assign rfl) ?_
  refine WL.nil ?_
  refine WQ.thn ?_
  first | refine WC.cond rfl (fun hc0 => ?_) (fun hc0 => ?_) | refine WC.condB rfl (fun hc0 => ?_) (fun hc0 => ?_)
  · refine WC.seq ?_
    refine WC.region ?_
    refine WL.pur (Pur.assign rfl) ?_
    refine WL.nil ?_
    refine WQ.thn ?_
    refine WC.ret ?_
    refine WQ.blk_ret ?_
    refine WQ.thn_ret ?_
    refine WQ.le hle ?_
    refine WQ.ret1 Try.results90 rfl [] zsL (View.le_refl _) ?_
    refine ⟨?_, rfl, rfl⟩
    exact intV (by unfold opErr; rw [if_pos (by omega)])
  · refine WC.seq ?_
    refine WC.region ?_
    refine WL.pur (Pur.fieldAddr rfl fo_53_1) ?_
    refine' WL.pur (Pur.load1 rfl ty_9 ?h3_0) ?k3
    case h3_0 => first | (apply Rd.own1; exact zmE; rfl) | (apply RdV.rd; apply RdV.idx (i := 1); assumption; rfl) | (apply RdV.rd; apply RdV.idx (off := 0) (i := 1); assumption; rfl)
    refine WL.pur (Pur.lenS rfl isString_9) ?_
    refine' WL.pur (Pur.bin rfl rfl ?h4_0) ?k4
    case h4_0 => first | exact Bin.gtN (b := 65536) | exact Bin.gtI
    refine WL.pur (Pur.move rfl) ?_
    refine' WL.orp (u := 25) (t := 30) rfl ?h5_0 ?h5_1 ?h5_2 rfl ?k5
    case h5_0 =>
      intro hg25 K25
      refine WL.gpur (u := 25) rfl rfl (gF hg25) (Pur.fieldAddr rfl fo_53_2) ?_
      refine' WL.gpur (u := 25) rfl rfl (gF hg25) (Pur.load1 rfl ty_9 ?h6_0) ?k6
      case h6_0 => first | (apply Rd.own1; exact zmE; rfl) | (apply RdV.rd; apply RdV.idx (i := 2); assumption; rfl) | (apply RdV.rd; apply RdV.idx (off := 0) (i := 2); assumption; rfl)
      refine WL.gpur (u := 25) rfl rfl (gF hg25) (Pur.lenS rfl isString_9) ?_
      refine' WL.gpur (u := 25) rfl rfl (gF hg25) (Pur.bin rfl rfl ?h7_0) ?k7
      case h7_0 => first | exact Bin.gtN (b := 65536) | exact Bin.gtI
      exact K25 _ zcR rfl
    case h5_1 =>
      intro hg25 K25
      refine WL.gskip (u := 25) rfl rfl (sF hg25) ?_
      refine WL.gskip (u := 25) rfl rfl (sF hg25) ?_
      refine WL.gskip (u := 25) rfl rfl (sF hg25) ?_
      refine WL.gskip (u := 25) rfl rfl (sF hg25) ?_
      exact K25 _ zcR
    case h5_2 => exact Wanted.plain rfl
    refine WL.pur (Pur.assign rfl) ?_
    refine WL.nil ?_
    refine WQ.thn ?_
    first | refine WC.cond rfl (fun hc1 => ?_) (fun hc1 => ?_) | refine WC.condB rfl (fun hc1 => ?_) (fun hc1 => ?_)
    · refine WC.seq ?_
      refine WC.region ?_
      refine WL.pur (Pur.assign rfl) ?_
      refine WL.nil ?_
      refine WQ.thn ?_
      refine WC.ret ?_
      refine WQ.blk_ret ?_
      refine WQ.thn_ret ?_
      refine WQ.le hle ?_
      refine WQ.ret1 Try.results90 rfl [] zsL (View.le_refl _) ?_
      refine ⟨?_, rfl, rfl⟩
      exact intV (by unfold opErr; rw [if_neg (by omega), if_pos (by omega)])
    · refine WC.skip ?_
      refine WQ.blk ?_
      refine WQ.thn ?_
      refine WC.seq ?_
      refine WC.seq ?_
      refine WC.region ?_
      refine WL.pur (Pur.move rfl) ?_
      refine WL.pur (Pur.len rfl isSlice_167) ?_
      refine WL.pur (Pur.move rfl) ?_
      refine WL.nil ?_
      refine WQ.thn ?_
      refine WC.block ?_
      refine WC.loop (fun j m σ' H' => ∃ i : Nat, j = (othersOf o.kind).length - i ∧ i ≤ (othersOf o.kind).length ∧ (∀ q ∈ (othersOf o.kind).take i, emptyAt o q) ∧ m = [(0, .slice a l.length cap), (3, .pointer (some ⟨b3, 0, none⟩)), (31, .slice oa (othersOf o.kind).length ocap), (32, .int .i64 ((othersOf o.kind).length : Int)), (33, .int .i64 (i : Int))] ∧ σ' = σ1 ∧ H' = (b3, rowO 53 o.cells) :: Hr) ⟨0, rfl, by omega, by simp, rfl, rfl, rfl⟩ zcV zsL ?_
      rintro _ _ σ _ ⟨i, rfl, hi, hall, rfl, rfl, rfl⟩
      refine WC.seq ?_
      refine WC.region ?_
      refine' WL.pur (Pur.bin rfl rfl ?h8_0) ?k8
      case h8_0 => first | exact Bin.ltN | exact Bin.ltI | exact Bin.ltS
      refine WL.nil ?_
      refine WQ.thn ?_
      refine WC.seq ?_
      first | refine WC.cond rfl (fun hc2 => ?_) (fun hc2 => ?_) | refine WC.condB rfl (fun hc2 => ?_) (fun hc2 => ?_)
      · obtain ⟨ob, oof, oc, e, hocap', hoby', hoat⟩ := hov.at (by omega)
        cases e
        obtain ⟨x, hx⟩ : ∃ x, (othersOf o.kind)[i]? = some x := ⟨_, List.getElem?_eq_getElem (by omega)⟩
        obtain ⟨vs, hl, hone, ⟨rfl, hx3⟩, hrd⟩ := hoat i x hx
        refine WC.skip ?_
        refine WQ.thn ?_
        refine WC.seq ?_
        refine WC.block ?_
        refine WC.seq ?_
        refine WC.region ?_
        refine' WL.pur (Pur.indexAddr rfl rfl sl_167 ?h9_0) ?k9
        case h9_0 => omega
        refine' WL.pur (Pur.loadN rfl ty_174 ?h10_0 ?h10_1) ?k10
        case h10_0 => first | (apply Rd.own_sub; exact zmE; exact Sub.refl _) | (apply RdV.rd; assumption)
        case h10_1 => first | rfl | assumption
        refine WL.new (New.alloc zc_174) (fun b8 => ?_)
        refine' WL.run0 (Run.storeAll rfl rfl ty_174 ?h11_0 (by first | rfl | assumption) ?h11_1 (by first | rfl | assumption)) ?k11
        case h11_0 => repeat (first | exact Part.one | exact Part.here | apply Part.cons | apply Part.app)
        case h11_1 => first | rfl | assumption
        refine WL.nil ?_
        refine WQ.thn ?_
        refine WC.seq ?_
        refine WC.region ?_
        refine WL.pur (Pur.fieldAddr rfl fo_174_0) ?_
        refine' WL.pur (Pur.load1 rfl ty_170 ?h12_0) ?k12
        case h12_0 => apply Rd.own1; exact zmE; exact fieldC_0 x
        refine' WL.pur (Pur.loadN rfl ty_53 ?h13_0 ?h13_1) ?k13
        case h13_0 => first | (apply Rd.own_sub; exact zmE; exact Sub.refl _) | (apply RdV.rd; assumption)
        case h13_1 => first | rfl | assumption
        refine WL.callVP (fs := []) (cs := []) rfl rfl (fieldF_call x) (fieldF_empty _ o ho' x hx3) ?_
        refine WL.pur (Pur.not rfl) ?_
        refine WL.nil ?_
        refine WQ.thn ?_
        first | refine WC.cond rfl (fun hc3 => ?_) (fun hc3 => ?_) | refine WC.condB rfl (fun hc3 => ?_) (fun hc3 => ?_)
        · refine WC.seq ?_
          refine WC.region ?_
          refine WL.pur (Pur.assign rfl) ?_
          refine WL.nil ?_
          refine WQ.thn ?_
          refine WC.ret ?_
          refine WQ.blk_ret ?_
          refine WQ.thn_ret ?_
          refine WQ.back_ret ?_
          refine WQ.blk_ret ?_
          refine WQ.thn_ret ?_
          refine WQ.le hle ?_
          refine WQ.ret1 Try.results90 rfl [] zsL (View.le_refl _) ?_
          refine ⟨?_, rfl, rfl⟩
          exact intV (by unfold opErr; rw [if_neg (by omega), if_neg (by omega), if_pos ((others_iff o (by omega)).1 ⟨x, List.mem_of_getElem? hx, hc3⟩)])
        · refine WC.skip ?_
          refine WQ.blk ?_
          refine WQ.thn ?_
          refine WC.region ?_
          refine' WL.pur (Pur.bin rfl rfl ?h14_0) ?k14
          case h14_0 => first | (refine Bin.addN (b := 1) ?_; omega) | (refine Bin.addI ?_; omega)
          refine WL.pur (Pur.move rfl) ?_
          refine WL.nil ?_
          refine WQ.back _ ⟨i + 1, rfl, by omega, by rw [List.take_add_one, hx]; intro q hq; rcases List.mem_append.1 hq with hq | hq; exact hall q hq; simp at hq; subst hq; exact Decidable.not_not.1 hc3, rfl, rfl, rfl⟩ (by omega) zcV zsL
      · refine WC.exit ?_
        refine WQ.thn_exit ?_
        refine WQ.back_exit ?_
        refine WQ.blk_here ?_
        refine WQ.thn ?_
        refine WC.seq ?_
        refine WC.seq ?_
        refine WC.region ?_
        refine WL.pur (Pur.fieldAddr rfl fo_53_0) ?_
        refine' WL.pur (Pur.load1 rfl ty_3 ?h15_0) ?k15
        case h15_0 => first | (apply Rd.own1; exact zmE; rfl) | (apply RdV.rd; apply RdV.idx (i := 0); assumption; rfl)
        refine WL.callP rfl Try.call102 (op_Cell _ _) ?_
        refine' WL.pur (Pur.bin rfl rfl ?h16_0) ?k16
        case h16_0 => first | exact Bin.eqN (b := 4) | exact Bin.eqI
        refine WL.pur (Pur.move rfl) ?_
        refine' WL.andp (u := 47) (t := 52) rfl ?h17_0 ?h17_1 ?h17_2 rfl ?k17
        case h17_0 =>
          intro hg47 K47
          refine WL.gpur (u := 47) rfl rfl (gT hg47) (Pur.move rfl) ?_
          refine' WL.gpur (u := 47) rfl rfl (gT hg47) (Pur.loadN rfl ty_53 ?h18_0 ?h18_1) ?k18
          case h18_0 => first | (apply Rd.own_sub; exact zmE; exact Sub.refl _) | (apply RdV.rd; assumption)
          case h18_1 => first | rfl | assumption
          refine WL.gcallP (u := 47) rfl rfl (gT hg47) rfl Try.call103 (op_right _ _ l o h1 ho') ?_
          refine WL.gpur (u := 47) rfl rfl (gT hg47) (Pur.not rfl) ?_
          exact K47 _ zcR rfl
        case h17_1 =>
          intro hg47 K47
          refine WL.gskip (u := 47) rfl rfl (sT hg47) ?_
          refine WL.gskip (u := 47) rfl rfl (sT hg47) ?_
          refine WL.gskip (u := 47) rfl rfl (sT hg47) ?_
          refine WL.gskip (u := 47) rfl rfl (sT hg47) ?_
          exact K47 _ zcR
        case h17_2 => exact Wanted.plain rfl
        refine WL.nil ?_
        refine WQ.thn ?_
        first | refine WC.cond rfl (fun hc4 => ?_) (fun hc4 => ?_) | refine WC.condB rfl (fun hc4 => ?_) (fun hc4 => ?_)
        · refine WC.seq ?_
          refine WC.region ?_
          refine WL.pur (Pur.assign rfl) ?_
          refine WL.nil ?_
          refine WQ.thn ?_
          refine WC.ret ?_
          refine WQ.thn_ret ?_
          refine WQ.le hle ?_
          refine WQ.ret1 Try.results90 rfl [] zsL (View.le_refl _) ?_
          refine ⟨?_, rfl, rfl⟩
          exact intV (by unfold opErr; rw [if_neg (by omega), if_neg (by omega), if_neg (fun h => by obtain ⟨q, hq, hq2⟩ := (others_iff o (by omega)).2 h; exact hq2 (hall q (by rw [List.take_of_length_le (by omega)]; exact hq))), if_pos ⟨cell4.1 hc4.1, hc4.2⟩])
        · refine WC.skip ?_
          refine WQ.thn ?_
          refine WC.seq ?_
          refine WC.region ?_
          refine WL.pur (Pur.assign rfl) ?_
          refine WL.nil ?_
          refine WQ.thn ?_
          refine WC.ret ?_
          refine WQ.le hle ?_
          refine WQ.ret1 Try.results90 rfl [] zsL (View.le_refl _) ?_
          refine ⟨?_, rfl, rfl⟩
          exact intV (by unfold opErr; rw [if_neg (by omega), if_neg (by omega), if_neg (fun h => by obtain ⟨q, hq, hq2⟩ := (others_iff o (by omega)).2 h; exact hq2 (hall q (by rw [List.take_of_length_le (by omega)]; exact hq))), if_neg (fun h => hc4 ⟨cell4.2 h.1, h.2⟩)])

theorem op_Check (σ : View) (lv : Value) (l : List OpD) (h : Ops σ lv l) :
    TriP Try.prog 69 #[lv] σ (.tuple #[.int .i64 (opsErr l).1, .int .i64 ((opsErr l).2 : Int)]) := by
  have h' := h
  obtain ⟨a, cap, rfl, hcap, hby⟩ := h.shape
  refine Tri.of_body [(0, .slice a l.length cap)] Try.func69 rfl Try.ntmps69 (by simp) rfl (fun Hr => ?_)
  rw [List.nil_append]
  refine WC.seq ?_
  refine WC.region ?_
  refine WL.pur (Pur.assign rfl) ?_
  refine WL.pur (Pur.assign rfl) ?_
  refine WL.nil ?_
  refine WQ.thn ?_
  refine WC.seq ?_
  refine WC.seq ?_
  refine WC.region ?_
  refine WL.pur (Pur.move rfl) ?_
  refine WL.pur (Pur.len rfl isSlice_33) ?_
  refine' WL.pur (Pur.bin rfl rfl ?h1_0) ?k1
  case h1_0 => first | exact Bin.gtN (b := 1024) | exact Bin.gtI
  refine WL.nil ?_
  refine WQ.thn ?_
  first | refine WC.cond rfl (fun hc0 => ?_) (fun hc0 => ?_) | refine WC.condB rfl (fun hc0 => ?_) (fun hc0 => ?_)
  · refine WC.seq ?_
    refine WC.region ?_
    refine WL.pur (Pur.assign rfl) ?_
    refine WL.pur (Pur.assign rfl) ?_
    refine WL.nil ?_
    refine WQ.thn ?_
    refine WC.ret ?_
    refine WQ.thn_ret ?_
    refine WQ.ret2 Try.results69 rfl rfl [] zsL (View.le_refl _) ?_
    refine ⟨?_, rfl, rfl⟩
    unfold opsErr; rw [if_pos (by omega)]; rfl
  · refine WC.skip ?_
    refine WQ.thn ?_
    refine WC.seq ?_
    refine WC.seq ?_
    refine WC.region ?_
    refine WL.pur (Pur.move rfl) ?_
    refine WL.pur (Pur.len rfl isSlice_33) ?_
    refine WL.pur (Pur.move rfl) ?_
    refine WL.nil ?_
    refine WQ.thn ?_
    refine WC.block ?_
    refine WC.loop (fun j m σ' H' => ∃ i : Nat, j = l.length - i ∧ i ≤ l.length ∧ opsErr l = opsErrFrom l i ∧ m = [(0, .slice a l.length cap), (10, .slice a l.length cap), (11, .int .i64 (l.length : Int)), (12, .int .i64 (i : Int))] ∧ σ' = σ ∧ H' = Hr) ⟨0, rfl, by omega, by unfold opsErr; rw [if_neg (by omega)], rfl, rfl, rfl⟩ zcV zsL ?_
    rintro _ _ σ _ ⟨i, rfl, hi, herr, rfl, rfl, rfl⟩
    refine WC.seq ?_
    refine WC.region ?_
    refine' WL.pur (Pur.bin rfl rfl ?h2_0) ?k2
    case h2_0 => first | exact Bin.ltN | exact Bin.ltI | exact Bin.ltS
    refine WL.nil ?_
    refine WQ.thn ?_
    refine WC.seq ?_
    first | refine WC.cond rfl (fun hc1 => ?_) (fun hc1 => ?_) | refine WC.condB rfl (fun hc1 => ?_) (fun hc1 => ?_)
    · obtain ⟨b, off, cap', e, hcap', hby', hat⟩ := h'.at (by omega)
      cases e
      obtain ⟨o, ho⟩ : ∃ o, l[i]? = some o := ⟨_, List.getElem?_eq_getElem hc1⟩
      obtain ⟨vs, hl, hone, ⟨rfl, hok⟩, hrd⟩ := hat _ o ho
      have ho' : l[i] = o := by have := List.getElem?_eq_getElem hc1; rw [ho] at this; exact (Option.some.inj this).symm
      have hstep : opsErrFrom l i = if opErr (l.take i) o ≠ 0 then (opErr (l.take i) o, i) else opsErrFrom l (i + 1) := by rw [opsErrFrom, dif_pos hc1, ho']
      refine WC.skip ?_
      refine WQ.thn ?_
      refine WC.seq ?_
      refine WC.block ?_
      refine WC.seq ?_
      refine WC.region ?_
      refine WL.pur (Pur.move rfl) ?_
      refine' WL.pur (Pur.indexAddr rfl rfl sl_33 ?h3_0) ?k3
      case h3_0 => omega
      refine' WL.pur (Pur.loadN rfl ty_53 ?h4_0 ?h4_1) ?k4
      case h4_0 => first | (apply Rd.own_sub; exact zmE; exact Sub.refl _) | (apply RdV.rd; assumption)
      case h4_1 => first | rfl | assumption
      refine WL.new (New.alloc zc_53) (fun b5 => ?_)
      refine WL.pur (Pur.assign rfl) ?_
      refine' WL.run0 (Run.storeAll rfl rfl ty_53 ?h5_0 (by first | rfl | assumption) ?h5_1 (by first | rfl | assumption)) ?k5
      case h5_0 => repeat (first | exact Part.one | exact Part.here | apply Part.cons | apply Part.app)
      case h5_1 => first | rfl | assumption
      refine WL.nil ?_
      refine WQ.thn ?_
      refine WC.seq ?_
      refine WC.drawH 6 6 mixed (by kernel_rfl) rfl ?_
      refine SA.take 0 (by kernel_rfl) rfl rfl rfl (Wanted.plain rfl) zsL (View.le_refl _) (Pur.move rfl) ?_
      refine SA.take 1 (by kernel_rfl) rfl rfl rfl (Wanted.plain rfl) zsL (View.le_refl _) (Pur.move rfl) ?_
      refine SA.take 2 (by kernel_rfl) rfl rfl rfl (Wanted.plain rfl) zsL (View.le_refl _) (Pur.sliceT rfl rfl sl_33 (by omega)) ?_
      refine' SA.take 3 (by kernel_rfl) rfl rfl rfl (Wanted.plain rfl) zsL (View.le_refl _) (Pur.loadN rfl ty_53 ?h6_0 ?h6_1) ?k6
      case h6_0 => first | (apply Rd.own_sub; exact zmE; exact Sub.refl _) | (apply RdV.rd; assumption)
      case h6_1 => first | rfl | assumption
      refine SA.callP 4 rfl rfl (Wanted.plain rfl) (by kernel_rfl) rfl Try.call90 zsL (View.le_refl _) (op_wrong _ _ (l.take i) o (h'.take i (by omega)) hok) ?_
      refine SA.take 5 (by kernel_rfl) rfl rfl rfl (Wanted.plain rfl) zsL (View.le_refl _) (Pur.assign rfl) ?_
      refine SA.done (by kernel_rfl) ?_
      refine WQ.thn ?_
      refine WC.seq ?_
      refine WC.region ?_
      refine WL.pur (Pur.move rfl) ?_
      refine' WL.pur (Pur.bin rfl rfl ?h7_0) ?k7
      case h7_0 => first | exact Bin.neN (b := 0) | exact Bin.neI
      refine WL.nil ?_
      refine WQ.thn ?_
      first | refine WC.cond rfl (fun hc2 => ?_) (fun hc2 => ?_) | refine WC.condB rfl (fun hc2 => ?_) (fun hc2 => ?_)
      · refine WC.seq ?_
        refine WC.region ?_
        refine WL.pur (Pur.move rfl) ?_
        refine WL.pur (Pur.move rfl) ?_
        refine WL.pur (Pur.assign rfl) ?_
        refine WL.pur (Pur.assign rfl) ?_
        refine WL.nil ?_
        refine WQ.thn ?_
        refine WC.ret ?_
        refine WQ.blk_ret ?_
        refine WQ.thn_ret ?_
        refine WQ.back_ret ?_
        refine WQ.blk_ret ?_
        refine WQ.thn_ret ?_
        refine WQ.ret2 Try.results69 rfl rfl [] zsL (View.le_refl _) ?_
        refine ⟨?_, rfl, rfl⟩
        rw [herr, hstep, if_pos hc2]
      · refine WC.skip ?_
        refine WQ.blk ?_
        refine WQ.thn ?_
        refine WC.region ?_
        refine' WL.pur (Pur.bin rfl rfl ?h8_0) ?k8
        case h8_0 => first | (refine Bin.addN (b := 1) ?_; omega) | (refine Bin.addI ?_; omega)
        refine WL.pur (Pur.move rfl) ?_
        refine WL.nil ?_
        refine WQ.back _ ⟨i + 1, rfl, by omega, by rw [herr, hstep, if_neg hc2], rfl, rfl, rfl⟩ (by omega) zcV zsL
    · refine WC.exit ?_
      refine WQ.thn_exit ?_
      refine WQ.back_exit ?_
      refine WQ.blk_here ?_
      refine WQ.thn ?_
      refine WC.seq ?_
      refine WC.region ?_
      refine WL.pur (Pur.assign rfl) ?_
      refine WL.pur (Pur.assign rfl) ?_
      refine WL.nil ?_
      refine WQ.thn ?_
      refine WC.ret ?_
      refine WQ.ret2 Try.results69 rfl rfl [] zsL (View.le_refl _) ?_
      refine ⟨?_, rfl, rfl⟩
      rw [herr, opsErrFrom, dif_neg (by omega)]; rfl

end Go.Proofs.Ytgoooilgmabkmaa
namespace Go.Proofs.Ytgoooilgmabkmaa
open Go Go.Sl
set_option linter.unusedVariables false
set_option linter.unusedSimpArgs false
set_option maxRecDepth 100000

theorem ext248 (args : Array Value) (w : World) : (callFunc 113 args).run Try.prog w = ((do pure (.value (← Extern.BytealgCompare.compare args))) : Sem Next).run Try.prog w := by kernel_rfl
theorem cmpH_ge {x y : Nat} : cmpH x y ≥ 0 ↔ ¬ x < y := by unfold cmpH; split; omega; split <;> omega
theorem cmpH_lt {x y : Nat} : cmpH x y < 0 ↔ x < y := by unfold cmpH; split; omega; split <;> omega
theorem cmpH_self {x : Nat} : cmpH x x = 0 := by unfold cmpH; simp
theorem rises_take0 (l : List Nat) : Rises (l.take 1) := by
  cases l with
  | nil => simp [Rises]
  | cons a l => simp [Rises]
theorem rises_step {l : List Nat} {i x y : Nat} (h : Rises (l.take i)) (h1 : 1 ≤ i) (hx : l[i - 1]? = some x) (hy : l[i]? = some y) (hxy : x < y) : Rises (l.take (i + 1)) := by
  unfold Rises at *
  rw [List.take_add_one, hy]
  refine List.pairwise_append.2 ⟨h, by simp, fun a ha b hb => ?_⟩
  simp at hb; subst hb
  obtain ⟨j, hj⟩ := List.getElem?_of_mem ha
  have hjl := (List.getElem?_eq_some_iff.1 hj).1
  have hlen : (l.take i).length = i := by
    have := (List.getElem?_eq_some_iff.1 hy).1
    simp; omega
  by_cases hji : j = i - 1
  · subst hji
    rw [List.getElem?_take_of_lt (by omega)] at hj
    rw [hx] at hj; cases hj; exact hxy
  · have hx' : (l.take i)[i - 1]? = some x := by rw [List.getElem?_take_of_lt (by omega)]; exact hx
    have := (List.pairwise_iff_getElem.1 h) j (i - 1) (by omega) (by omega) (by omega)
    rw [(List.getElem?_eq_some_iff.1 hj).2, (List.getElem?_eq_some_iff.1 hx').2] at this
    omega
theorem rises_not {l : List Nat} {i x y : Nat} (h1 : 1 ≤ i) (hx : l[i - 1]? = some x) (hy : l[i]? = some y) (hxy : ¬ x < y) : ¬ Rises l := by
  intro h
  obtain ⟨h2, e2⟩ := List.getElem?_eq_some_iff.1 hx
  obtain ⟨h3, e3⟩ := List.getElem?_eq_some_iff.1 hy
  have := (List.pairwise_iff_getElem.1 h) (i - 1) i h2 h3 (by omega)
  rw [e2, e3] at this; exact hxy this

theorem bytes_Compare (σ : View) (a b ba bb T : Nat) (ha : IsH a) (hb : IsH b) :
    Tri Try.prog 98 #[.slice (some ⟨ba, 0, none⟩) 32 32, .slice (some ⟨bb, 0, none⟩) 32 32] σ [(bb, rowO T (hashCells b)), (ba, rowO T (hashCells a))] (fun v σ' H' => v = .int .i64 (cmpH a b) ∧ σ' = σ ∧ H' = []) := by
  refine Tri.of_body [(0, .slice (some ⟨ba, 0, none⟩) 32 32), (1, .slice (some ⟨bb, 0, none⟩) 32 32)] Try.func98 rfl Try.ntmps98 (by simp) rfl (fun Hr => ?_)
  simp only [List.cons_append, List.nil_append]
  refine WC.seq ?_
  refine WC.region ?_
  refine WL.pur (Pur.assign rfl) ?_
  refine WL.nil ?_
  refine WQ.thn ?_
  refine WC.seq ?_
  refine WC.region ?_
  refine WL.pur (Pur.move rfl) ?_
  refine WL.pur (Pur.move rfl) ?_
  refine WL.pur (Pur.cmpHash rfl rfl ext248 ha hb (by apply Rd.own_sub; exact zmE; exact Sub.refl _) (by apply Rd.own_sub; exact zmE; exact Sub.refl _)) ?_
  refine WL.pur (Pur.assign rfl) ?_
  refine WL.nil ?_
  refine WQ.thn ?_
  refine WC.ret ?_
  refine WQ.ret1 Try.results98 rfl [] zsL (View.le_refl _) ?_
  refine ⟨?_, rfl, rfl⟩
  rfl

theorem sha_Compare (σ : View) (a b : Nat) (ha : IsH a) (hb : IsH b) :
    TriP Try.prog 86 #[hashV a, hashV b] σ (.int .i64 (cmpH a b)) := by
  refine Tri.of_body [(0, hashV a), (1, hashV b)] Try.func86 rfl Try.ntmps86 (by simp) rfl (fun Hr => ?_)
  rw [List.nil_append]
  refine WC.seq ?_
  refine WC.region ?_
  refine WL.new (New.boxN rfl) (fun b2 => ?_)
  refine WL.new (New.boxN rfl) (fun b3 => ?_)
  refine WL.pur (Pur.assign rfl) ?_
  refine WL.nil ?_
  refine WQ.thn ?_
  refine WC.seq ?_
  refine WC.seq ?_
  refine WC.region ?_
  refine' WL.pur (Pur.loadN rfl ty_31 ?h1_0 ?h1_1) ?k1
  case h1_0 => first | (apply Rd.own_sub; exact zmE; exact Sub.refl _) | (apply RdV.rd; assumption)
  case h1_1 => first | rfl | assumption
  refine' WL.pur (Pur.loadN rfl ty_31 ?h2_0 ?h2_1) ?k2
  case h2_0 => first | (apply Rd.own_sub; exact zmE; exact Sub.refl _) | (apply RdV.rd; assumption)
  case h2_1 => first | rfl | assumption
  refine' WL.pur (Pur.bin rfl rfl ?h3_0) ?k3
  case h3_0 => (refine Bin.eqH isHash_31 ?_ ?_ <;> assumption)
  refine WL.nil ?_
  refine WQ.thn ?_
  first | refine WC.cond rfl (fun hc0 => ?_) (fun hc0 => ?_) | refine WC.condB rfl (fun hc0 => ?_) (fun hc0 => ?_)
  · refine WC.seq ?_
    refine WC.region ?_
    refine WL.pur (Pur.assign rfl) ?_
    refine WL.nil ?_
    refine WQ.thn ?_
    refine WC.ret ?_
    refine WQ.thn_ret ?_
    refine WQ.ret1 Try.results86 rfl [] zsL (View.le_refl _) ?_
    refine ⟨?_, rfl, rfl⟩
    rw [hc0]; exact intV cmpH_self.symm
  · refine WC.skip ?_
    refine WQ.thn ?_
    refine WC.seq ?_
    refine WC.draw 4 4 (Hr) mixed (by kernel_rfl) rfl ?_
    refine SA.take 0 (by kernel_rfl) rfl rfl rfl (Wanted.plain rfl) zsL (View.le_refl _) (Pur.sliceArr rfl ar_31 (by decide)) ?_
    refine SA.take 1 (by kernel_rfl) rfl rfl rfl (Wanted.plain rfl) zsL (View.le_refl _) (Pur.sliceArr rfl ar_31 (by decide)) ?_
    refine SA.callR 2 (H1 := [(b3, rowO 31 (hashCells b)), (b2, rowO 31 (hashCells a))]) (Hr := Hr) rfl rfl (Wanted.plain rfl) (by kernel_rfl) rfl Try.call98 (List.Perm.refl _) (.inr ⟨List.Sublist.refl _, View.le_refl _⟩) (bytes_Compare σ a b b2 b3 31 ha hb) ?_
    rintro _ _ _ ⟨rfl, rfl, rfl⟩ _
    rw [List.nil_append]
    refine SA.take 3 (by kernel_rfl) rfl rfl rfl (Wanted.plain rfl) zsL (View.le_refl _) (Pur.assign rfl) ?_
    refine SA.done (by kernel_rfl) ?_
    refine WQ.thn ?_
    refine WC.ret ?_
    refine WQ.ret1 Try.results86 rfl [] zsL (View.le_refl _) ?_
    refine ⟨?_, rfl, rfl⟩
    rfl

theorem sha_Rising (σ : View) (lv : Value) (l : List Nat) (h : Hashes σ lv l) :
    TriP Try.prog 68 #[lv] σ (.bool (decide (Rises l))) := by
  have h' := h
  obtain ⟨a, cap, rfl, hcap, hby⟩ := h.shape
  refine Tri.of_body [(0, .slice a l.length cap)] Try.func68 rfl Try.ntmps68 (by simp) rfl (fun Hr => ?_)
  rw [List.nil_append]
  refine WC.seq ?_
  refine WC.region ?_
  refine WL.pur (Pur.assign rfl) ?_
  refine WL.nil ?_
  refine WQ.thn ?_
  refine WC.seq ?_
  refine WC.seq ?_
  refine WC.region ?_
  refine WL.pur (Pur.assign rfl) ?_
  refine WL.nil ?_
  refine WQ.thn ?_
  refine WC.block ?_
  refine WC.loop (fun j m σ' H' => ∃ i : Nat, j = l.length + 1 - i ∧ 1 ≤ i ∧ (i ≤ l.length ∨ i = 1) ∧ Rises (l.take i) ∧ m = [(0, .slice a l.length cap), (3, .int .i64 (i : Int))] ∧ σ' = σ ∧ H' = Hr) ⟨1, rfl, by omega, by omega, rises_take0 l, rfl, rfl, rfl⟩ zcV zsL ?_
  rintro _ _ σ _ ⟨i, rfl, hi1, hi, hr, rfl, rfl, rfl⟩
  refine WC.seq ?_
  refine WC.seq ?_
  refine WC.region ?_
  refine WL.pur (Pur.move rfl) ?_
  refine WL.pur (Pur.move rfl) ?_
  refine WL.pur (Pur.len rfl isSlice_32) ?_
  refine' WL.pur (Pur.bin rfl rfl ?h1_0) ?k1
  case h1_0 => first | exact Bin.ltN | exact Bin.ltI | exact Bin.ltS
  refine WL.nil ?_
  refine WQ.thn ?_
  first | refine WC.cond rfl (fun hc0 => ?_) (fun hc0 => ?_) | refine WC.condB rfl (fun hc0 => ?_) (fun hc0 => ?_)
  · obtain ⟨b, off, cap', e, hcap', hby', hat⟩ := h'.at (by omega)
    cases e
    obtain ⟨x, hx⟩ : ∃ x, l[i - 1]? = some x := ⟨_, List.getElem?_eq_getElem (by omega)⟩
    obtain ⟨y, hy⟩ : ∃ y, l[i]? = some y := ⟨_, List.getElem?_eq_getElem (by omega)⟩
    obtain ⟨vx, hvl, hvo, ⟨rfl, hxH⟩, hrx⟩ := hat _ x hx
    obtain ⟨vy, hvl', hvo', ⟨rfl, hyH⟩, hry⟩ := hat _ y hy
    have hcmp : cmpH x y ≥ 0 ↔ ¬ x < y := cmpH_ge
    refine WC.skip ?_
    refine WQ.thn ?_
    refine WC.seq ?_
    refine WC.block ?_
    refine WC.seq ?_
    refine WC.drawH 11 11 mixed (by kernel_rfl) rfl ?_
    refine SA.take 0 (by kernel_rfl) rfl rfl rfl (Wanted.plain rfl) zsL (View.le_refl _) (Pur.move rfl) ?_
    refine SA.take 1 (by kernel_rfl) rfl rfl rfl (Wanted.plain rfl) zsL (View.le_refl _) (Pur.move rfl) ?_
    refine' SA.take 2 (by kernel_rfl) rfl rfl rfl (Wanted.plain rfl) zsL (View.le_refl _) (Pur.bin rfl rfl ?h2_0) ?k2
    case h2_0 => exact Bin.subK (c := i - 1) (by omega) (by omega)
    refine' SA.take 3 (by kernel_rfl) rfl rfl rfl (Wanted.plain rfl) zsL (View.le_refl _) (Pur.indexAddr rfl rfl sl_32 ?h3_0) ?k3
    case h3_0 => omega
    refine' SA.take 4 (by kernel_rfl) rfl rfl rfl (Wanted.plain rfl) zsL (View.le_refl _) (Pur.loadN rfl ty_31 ?h4_0 ?h4_1) ?k4
    case h4_0 => first | (apply Rd.own_sub; exact zmE; exact Sub.refl _) | (apply RdV.rd; assumption)
    case h4_1 => first | rfl | assumption
    refine SA.take 5 (by kernel_rfl) rfl rfl rfl (Wanted.plain rfl) zsL (View.le_refl _) (Pur.move rfl) ?_
    refine SA.take 6 (by kernel_rfl) rfl rfl rfl (Wanted.plain rfl) zsL (View.le_refl _) (Pur.move rfl) ?_
    refine' SA.take 7 (by kernel_rfl) rfl rfl rfl (Wanted.plain rfl) zsL (View.le_refl _) (Pur.indexAddr rfl rfl sl_32 ?h5_0) ?k5
    case h5_0 => omega
    refine' SA.take 8 (by kernel_rfl) rfl rfl rfl (Wanted.plain rfl) zsL (View.le_refl _) (Pur.loadN rfl ty_31 ?h6_0 ?h6_1) ?k6
    case h6_0 => first | (apply Rd.own_sub; exact zmE; exact Sub.refl _) | (apply RdV.rd; assumption)
    case h6_1 => first | rfl | assumption
    refine SA.callP 9 rfl rfl (Wanted.plain rfl) (by kernel_rfl) rfl Try.call86 zsL (View.le_refl _) (sha_Compare _ _ _ hxH hyH) ?_
    refine' SA.take 10 (by kernel_rfl) rfl rfl rfl (Wanted.plain rfl) zsL (View.le_refl _) (Pur.bin rfl rfl ?h7_0) ?k7
    case h7_0 => first | exact Bin.geN (b := 0) | exact Bin.geI
    refine SA.done (by kernel_rfl) ?_
    refine WQ.thn ?_
    first | refine WC.cond rfl (fun hc1 => ?_) (fun hc1 => ?_) | refine WC.condB rfl (fun hc1 => ?_) (fun hc1 => ?_)
    · refine WC.seq ?_
      refine WC.region ?_
      refine WL.pur (Pur.assign rfl) ?_
      refine WL.nil ?_
      refine WQ.thn ?_
      refine WC.ret ?_
      refine WQ.blk_ret ?_
      refine WQ.thn_ret ?_
      refine WQ.back_ret ?_
      refine WQ.blk_ret ?_
      refine WQ.thn_ret ?_
      refine WQ.ret1 Try.results68 rfl [] zsL (View.le_refl _) ?_
      refine ⟨?_, rfl, rfl⟩
      exact boolF (rises_not hi1 hx hy (by omega))
    · refine WC.skip ?_
      refine WQ.blk ?_
      refine WQ.thn ?_
      refine WC.region ?_
      refine WL.pur (Pur.move rfl) ?_
      refine' WL.pur (Pur.bin rfl rfl ?h8_0) ?k8
      case h8_0 => first | (refine Bin.addN (b := 1) ?_; omega) | (refine Bin.addI ?_; omega)
      refine WL.pur (Pur.assign rfl) ?_
      refine WL.nil ?_
      refine WQ.back _ ⟨i + 1, rfl, by omega, by omega, rises_step hr hi1 hx hy (by omega), rfl, rfl, rfl⟩ (by omega) zcV zsL
  · refine WC.exit ?_
    refine WQ.thn_exit ?_
    refine WQ.back_exit ?_
    refine WQ.blk_here ?_
    refine WQ.thn ?_
    refine WC.seq ?_
    refine WC.region ?_
    refine WL.pur (Pur.assign rfl) ?_
    refine WL.nil ?_
    refine WQ.thn ?_
    refine WC.ret ?_
    refine WQ.ret1 Try.results68 rfl [] zsL (View.le_refl _) ?_
    refine ⟨?_, rfl, rfl⟩
    exact boolT (by rw [List.take_of_length_le (by omega)] at hr; exact hr)

end Go.Proofs.Ytgoooilgmabkmaa
namespace Go.Proofs.Ytgoooilgmabkmaa
open Go Go.Sl
set_option linter.unusedVariables false
set_option linter.unusedSimpArgs false
set_option maxRecDepth 100000

theorem nil_len {α : Type} {l : List α} : l = [] ↔ l.length = 0 := by cases l <;> simp
theorem dec_ne {p q : Prop} {_ip : Decidable p} {_iq : Decidable q} : decide p ≠ decide q ↔ ¬ (p ↔ q) := by
  by_cases hp : p <;> by_cases hq : q <;> simp [hp, hq]
/-- what the second question of a node's check says -/
theorem node51 {x : NodeD} : ((x.cl < 1 ∨ x.cl > 4096) ∨ decide (x.cl = 1) ≠ decide (x.ps.length = 0)) ↔ (x.cl < 1 ∨ 4096 < x.cl ∨ ¬ (x.cl = 1 ↔ x.ps = [])) := by
  rw [dec_ne, nil_len]; omega

theorem node_Check (σ : View) (x : NodeD) (pv ov : Value) (h : NodeR σ x pv ov) :
    TriP Try.prog 56 #[.agg (nodeCells x.au x.cl pv ov).toArray] σ (.int .i64 (nodeErr x)) := by
  obtain ⟨hps, hops, hau, hcl⟩ := h
  have hps' := hps
  obtain ⟨pa, pc, rfl, hpc, hpb⟩ := hps.shape
  refine Tri.of_body [(0, .agg (nodeCells x.au x.cl (.slice pa x.ps.length pc) ov).toArray)] Try.func56 rfl Try.ntmps56 (by simp) rfl (fun Hr => ?_)
  rw [List.nil_append]
  refine WC.seq ?_
  refine WC.region ?_
  refine WL.new (New.boxN rfl) (fun b1 => ?_)
  refine WL.pur (Pur.assign rfl) ?_
  refine WL.nil ?_
  refine WQ.thn ?_
  refine WC.seq ?_
  refine WC.block ?_
  refine WC.seq ?_
  refine WC.region ?_
  refine WL.pur (Pur.fieldAddr rfl fo_35_0) ?_
  refine' WL.pur (Pur.load1 rfl ty_3 ?h1_0) ?k1
  case h1_0 => first | (apply Rd.own1; exact zmE; rfl) | (apply RdV.rd; apply RdV.idx (i := 0); assumption; rfl)
  refine' WL.pur (Pur.bin rfl rfl ?h2_0) ?k2
  case h2_0 => first | exact Bin.ltN (b := 1) | exact Bin.ltI | exact Bin.ltS
  refine WL.pur (Pur.move rfl) ?_
  refine' WL.orp (u := 9) (t := 13) rfl ?h3_0 ?h3_1 ?h3_2 rfl ?k3
  case h3_0 =>
    intro hg9 K9
    refine WL.gpur (u := 9) rfl rfl (gF hg9) (Pur.fieldAddr rfl fo_35_0) ?_
    refine' WL.gpur (u := 9) rfl rfl (gF hg9) (Pur.load1 rfl ty_3 ?h4_0) ?k4
    case h4_0 => first | (apply Rd.own1; exact zmE; rfl) | (apply RdV.rd; apply RdV.idx (i := 0); assumption; rfl)
    refine' WL.gpur (u := 9) rfl rfl (gF hg9) (Pur.bin rfl rfl ?h5_0) ?k5
    case h5_0 => first | exact Bin.gtN (b := 8) | exact Bin.gtI
    exact K9 _ zcR rfl
  case h3_1 =>
    intro hg9 K9
    refine WL.gskip (u := 9) rfl rfl (sF hg9) ?_
    refine WL.gskip (u := 9) rfl rfl (sF hg9) ?_
    refine WL.gskip (u := 9) rfl rfl (sF hg9) ?_
    exact K9 _ zcR
  case h3_2 => exact Wanted.plain rfl
  refine WL.pur (Pur.assign rfl) ?_
  refine WL.nil ?_
  refine WQ.thn ?_
  first | refine WC.cond rfl (fun hc0 => ?_) (fun hc0 => ?_) | refine WC.condB rfl (fun hc0 => ?_) (fun hc0 => ?_)
  · refine WC.seq ?_
    refine WC.region ?_
    refine WL.pur (Pur.assign rfl) ?_
    refine WL.nil ?_
    refine WQ.thn ?_
    refine WC.ret ?_
    refine WQ.blk_ret ?_
    refine WQ.thn_ret ?_
    refine WQ.ret1 Try.results56 rfl [] zsL (View.le_refl _) ?_
    refine ⟨?_, rfl, rfl⟩
    exact intV (by unfold nodeErr; rw [if_pos (by omega)])
  · refine WC.seq ?_
    refine WC.region ?_
    refine WL.pur (Pur.fieldAddr rfl fo_35_1) ?_
    refine' WL.pur (Pur.load1 rfl ty_3 ?h6_0) ?k6
    case h6_0 => first | (apply Rd.own1; exact zmE; rfl) | (apply RdV.rd; apply RdV.idx (i := 1); assumption; rfl) | (apply RdV.rd; apply RdV.idx (off := 0) (i := 1); assumption; rfl)
    refine' WL.pur (Pur.bin rfl rfl ?h7_0) ?k7
    case h7_0 => first | exact Bin.ltN (b := 1) | exact Bin.ltI | exact Bin.ltS
    refine WL.pur (Pur.move rfl) ?_
    refine' WL.orp (u := 18) (t := 22) rfl ?h8_0 ?h8_1 ?h8_2 rfl ?k8
    case h8_0 =>
      intro hg18 K18
      refine WL.gpur (u := 18) rfl rfl (gF hg18) (Pur.fieldAddr rfl fo_35_1) ?_
      refine' WL.gpur (u := 18) rfl rfl (gF hg18) (Pur.load1 rfl ty_3 ?h9_0) ?k9
      case h9_0 => first | (apply Rd.own1; exact zmE; rfl) | (apply RdV.rd; apply RdV.idx (i := 1); assumption; rfl) | (apply RdV.rd; apply RdV.idx (off := 0) (i := 1); assumption; rfl)
      refine' WL.gpur (u := 18) rfl rfl (gF hg18) (Pur.bin rfl rfl ?h10_0) ?k10
      case h10_0 => first | exact Bin.gtN (b := 4096) | exact Bin.gtI
      exact K18 _ zcR rfl
    case h8_1 =>
      intro hg18 K18
      refine WL.gskip (u := 18) rfl rfl (sF hg18) ?_
      refine WL.gskip (u := 18) rfl rfl (sF hg18) ?_
      refine WL.gskip (u := 18) rfl rfl (sF hg18) ?_
      exact K18 _ zcR
    case h8_2 => exact Wanted.plain rfl
    refine WL.pur (Pur.move rfl) ?_
    refine' WL.orp (u := 23) (t := 32) rfl ?h11_0 ?h11_1 ?h11_2 rfl ?k11
    case h11_0 =>
      intro hg23 K23
      refine WL.gpur (u := 23) rfl rfl (gF hg23) (Pur.fieldAddr rfl fo_35_1) ?_
      refine' WL.gpur (u := 23) rfl rfl (gF hg23) (Pur.load1 rfl ty_3 ?h12_0) ?k12
      case h12_0 => first | (apply Rd.own1; exact zmE; rfl) | (apply RdV.rd; apply RdV.idx (i := 1); assumption; rfl) | (apply RdV.rd; apply RdV.idx (off := 0) (i := 1); assumption; rfl)
      refine' WL.gpur (u := 23) rfl rfl (gF hg23) (Pur.bin rfl rfl ?h13_0) ?k13
      case h13_0 => first | exact Bin.eqN (b := 1) | exact Bin.eqI
      refine WL.gpur (u := 23) rfl rfl (gF hg23) (Pur.fieldAddr rfl fo_35_2) ?_
      refine' WL.gpur (u := 23) rfl rfl (gF hg23) (Pur.load1 rfl ty_32 ?h14_0) ?k14
      case h14_0 => first | (apply Rd.own1; exact zmE; rfl) | (apply RdV.rd; apply RdV.idx (i := 2); assumption; rfl) | (apply RdV.rd; apply RdV.idx (off := 0) (i := 2); assumption; rfl)
      refine WL.gpur (u := 23) rfl rfl (gF hg23) (Pur.len rfl isSlice_32) ?_
      refine' WL.gpur (u := 23) rfl rfl (gF hg23) (Pur.bin rfl rfl ?h15_0) ?k15
      case h15_0 => first | exact Bin.eqN (b := 0) | exact Bin.eqI
      refine' WL.gpur (u := 23) rfl rfl (gF hg23) (Pur.bin rfl rfl ?h16_0) ?k16
      case h16_0 => exact Bin.neB isBool_4
      exact K23 _ zcR rfl
    case h11_1 =>
      intro hg23 K23
      refine WL.gskip (u := 23) rfl rfl (sF hg23) ?_
      refine WL.gskip (u := 23) rfl rfl (sF hg23) ?_
      refine WL.gskip (u := 23) rfl rfl (sF hg23) ?_
      refine WL.gskip (u := 23) rfl rfl (sF hg23) ?_
      refine WL.gskip (u := 23) rfl rfl (sF hg23) ?_
      refine WL.gskip (u := 23) rfl rfl (sF hg23) ?_
      refine WL.gskip (u := 23) rfl rfl (sF hg23) ?_
      refine WL.gskip (u := 23) rfl rfl (sF hg23) ?_
      exact K23 _ zcR
    case h11_2 => exact Wanted.plain rfl
    refine WL.pur (Pur.assign rfl) ?_
    refine WL.nil ?_
    refine WQ.thn ?_
    first | refine WC.cond rfl (fun hc1 => ?_) (fun hc1 => ?_) | refine WC.condB rfl (fun hc1 => ?_) (fun hc1 => ?_)
    · refine WC.seq ?_
      refine WC.region ?_
      refine WL.pur (Pur.assign rfl) ?_
      refine WL.nil ?_
      refine WQ.thn ?_
      refine WC.ret ?_
      refine WQ.blk_ret ?_
      refine WQ.thn_ret ?_
      refine WQ.ret1 Try.results56 rfl [] zsL (View.le_refl _) ?_
      refine ⟨?_, rfl, rfl⟩
      exact intV (by unfold nodeErr; rw [if_neg (by omega), if_pos (node51.1 hc1)])
    · refine WC.seq ?_
      refine WC.region ?_
      refine WL.pur (Pur.fieldAddr rfl fo_35_2) ?_
      refine' WL.pur (Pur.load1 rfl ty_32 ?h17_0) ?k17
      case h17_0 => first | (apply Rd.own1; exact zmE; rfl) | (apply RdV.rd; apply RdV.idx (i := 2); assumption; rfl) | (apply RdV.rd; apply RdV.idx (off := 0) (i := 2); assumption; rfl)
      refine WL.pur (Pur.len rfl isSlice_32) ?_
      refine' WL.pur (Pur.bin rfl rfl ?h18_0) ?k18
      case h18_0 => first | exact Bin.gtN (b := 64) | exact Bin.gtI
      refine WL.pur (Pur.move rfl) ?_
      refine' WL.orp (u := 38) (t := 43) rfl ?h19_0 ?h19_1 ?h19_2 rfl ?k19
      case h19_0 =>
        intro hg38 K38
        refine WL.gpur (u := 38) rfl rfl (gF hg38) (Pur.fieldAddr rfl fo_35_2) ?_
        refine' WL.gpur (u := 38) rfl rfl (gF hg38) (Pur.load1 rfl ty_32 ?h20_0) ?k20
        case h20_0 => first | (apply Rd.own1; exact zmE; rfl) | (apply RdV.rd; apply RdV.idx (i := 2); assumption; rfl) | (apply RdV.rd; apply RdV.idx (off := 0) (i := 2); assumption; rfl)
        refine WL.gcallP (u := 38) rfl rfl (gF hg38) rfl Try.call68 (sha_Rising _ _ x.ps hps') ?_
        refine WL.gpur (u := 38) rfl rfl (gF hg38) (Pur.not rfl) ?_
        exact K38 _ zcR rfl
      case h19_1 =>
        intro hg38 K38
        refine WL.gskip (u := 38) rfl rfl (sF hg38) ?_
        refine WL.gskip (u := 38) rfl rfl (sF hg38) ?_
        refine WL.gskip (u := 38) rfl rfl (sF hg38) ?_
        refine WL.gskip (u := 38) rfl rfl (sF hg38) ?_
        exact K38 _ zcR
      case h19_2 => exact Wanted.plain rfl
      refine WL.pur (Pur.assign rfl) ?_
      refine WL.nil ?_
      refine WQ.thn ?_
      first | refine WC.cond rfl (fun hc2 => ?_) (fun hc2 => ?_) | refine WC.condB rfl (fun hc2 => ?_) (fun hc2 => ?_)
      · refine WC.seq ?_
        refine WC.region ?_
        refine WL.pur (Pur.assign rfl) ?_
        refine WL.nil ?_
        refine WQ.thn ?_
        refine WC.ret ?_
        refine WQ.blk_ret ?_
        refine WQ.thn_ret ?_
        refine WQ.ret1 Try.results56 rfl [] zsL (View.le_refl _) ?_
        refine ⟨?_, rfl, rfl⟩
        exact intV (by unfold nodeErr; rw [if_neg (by omega), if_neg (fun h => hc1 (node51.2 h)), if_pos (by exact hc2)])
      · refine WC.skip ?_
        refine WQ.blk ?_
        refine WQ.thn ?_
        refine WC.seq ?_
        refine WC.region ?_
        refine WL.pur (Pur.fieldAddr rfl fo_35_3) ?_
        refine' WL.pur (Pur.load1 rfl ty_33 ?h21_0) ?k21
        case h21_0 => first | (apply Rd.own1; exact zmE; rfl) | (apply RdV.rd; apply RdV.idx (i := 3); assumption; rfl) | (apply RdV.rd; apply RdV.idx (off := 0) (i := 3); assumption; rfl)
        refine WL.callP rfl Try.call69 (op_Check _ _ x.ops hops) ?_
        refine WL.pur (Pur.move rfl) ?_
        refine WL.pur (Pur.extract rfl rfl) ?_
        refine WL.pur (Pur.extract rfl rfl) ?_
        refine WL.pur (Pur.assign rfl) ?_
        refine WL.pur (Pur.assign rfl) ?_
        refine WL.nil ?_
        refine WQ.thn ?_
        refine WC.seq ?_
        refine WC.region ?_
        refine WL.pur (Pur.move rfl) ?_
        refine WL.pur (Pur.assign rfl) ?_
        refine WL.nil ?_
        refine WQ.thn ?_
        refine WC.ret ?_
        refine WQ.ret1 Try.results56 rfl [] zsL (View.le_refl _) ?_
        refine ⟨?_, rfl, rfl⟩
        exact intV (by unfold nodeErr; rw [if_neg (by omega), if_neg (fun h => hc1 (node51.2 h)), if_neg (by exact hc2)])

end Go.Proofs.Ytgoooilgmabkmaa
namespace Go.Proofs.Ytgoooilgmabkmaa
open Go Go.Sl
set_option linter.unusedVariables false
set_option linter.unusedSimpArgs false
set_option maxRecDepth 100000

theorem past_check (σ : View) (lv : Value) (l : List EntD) (h : Ents σ lv l) :
    Tri Try.prog 35 #[lv] σ [] (fun v σ' H' => (∃ mv, v = .tuple #[mv, .int .i64 (rightErr l).1, .int .i64 ((rightErr l).2 : Int)] ∧
      ((rightErr l).1 = 0 → (rightErr l).2 = 0 ∧ ∃ b, mv = .map (some b) ∧ σ' b = some (mapO hashV (idsFrom l 0)))) ∧ H' = []) := by
  have h' := h
  obtain ⟨a, cap, rfl, hcap, hby⟩ := h.shape
  refine Tri.of_body [(0, .slice a l.length cap)] Try.func35 rfl Try.ntmps35 (by simp) rfl (fun Hr => ?_)
  rw [List.nil_append]
  refine WC.seq ?_
  refine WC.region ?_
  refine WL.pur (Pur.assign rfl) ?_
  refine WL.pur (Pur.assign rfl) ?_
  refine WL.pur (Pur.assign rfl) ?_
  refine WL.nil ?_
  refine WQ.thn ?_
  refine WC.seq ?_
  refine WC.region ?_
  refine WL.new (New.makeMap) (fun b18 => ?_)
  refine WL.pur (Pur.assign rfl) ?_
  refine WL.nil ?_
  refine WQ.thn ?_
  refine WC.seq ?_
  refine WC.seq ?_
  refine WC.region ?_
  refine WL.pur (Pur.move rfl) ?_
  refine WL.pur (Pur.len rfl isSlice_23) ?_
  refine WL.pur (Pur.move rfl) ?_
  refine WL.nil ?_
  refine WQ.thn ?_
  refine WC.block ?_
  refine WC.loop (fun j m σ' H' => ∃ i : Nat, j = l.length - i ∧ i ≤ l.length ∧ rightErr l = err1 l i ∧ Fine1 l i ∧ (∀ x ∈ l.take i, IsH x.id) ∧ m = [(0, .slice a l.length cap), (5, .map (some b18)), (19, .slice a l.length cap), (20, .int .i64 (l.length : Int)), (21, .int .i64 (i : Int))] ∧ σ' = σ ∧ H' = (b18, mapO hashV (idsFrom (l.take i) 0)) :: Hr) ⟨0, rfl, by omega, rfl, Fine1.zero l, by simp, rfl, rfl, rfl⟩ zcV zsL ?_
  rintro _ _ σ _ ⟨i, rfl, hi, herr, hfine, hids, rfl, rfl, rfl⟩
  refine WC.seq ?_
  refine WC.region ?_
  refine' WL.pur (Pur.bin rfl rfl ?h1_0) ?k1
  case h1_0 => first | exact Bin.ltN | exact Bin.ltI | exact Bin.ltS
  refine WL.nil ?_
  refine WQ.thn ?_
  refine WC.seq ?_
  first | refine WC.cond rfl (fun hc0 => ?_) (fun hc0 => ?_) | refine WC.condB rfl (fun hc0 => ?_) (fun hc0 => ?_)
  · obtain ⟨b, off, cap', e0, hcap', hby', hat⟩ := h'.at (by omega)
    cases e0
    obtain ⟨e, he⟩ : ∃ e, l[i]? = some e := ⟨_, List.getElem?_eq_getElem (by omega)⟩
    obtain ⟨vs, hvl, hvo, ⟨pv, ov, rfl, heH, hnode⟩, hrd⟩ := hat i e he
    have hNR := hnode
    obtain ⟨hps, hops, hau, hcl⟩ := hnode
    have hps' := hps
    obtain ⟨pa, pc, rfl, hpc, hpb⟩ := hps.shape
    refine WC.skip ?_
    refine WQ.thn ?_
    refine WC.seq ?_
    refine WC.block ?_
    refine WC.seq ?_
    refine WC.region ?_
    refine WL.pur (Pur.move rfl) ?_
    refine' WL.pur (Pur.indexAddr rfl rfl sl_23 ?h2_0) ?k2
    case h2_0 => omega
    refine' WL.pur (Pur.loadN rfl ty_37 ?h3_0 ?h3_1) ?k3
    case h3_0 => first | (apply Rd.own_sub; exact zmE; exact Sub.refl _) | (apply RdV.rd; assumption)
    case h3_1 => first | rfl | assumption
    refine WL.new (New.alloc zc_37) (fun b7 => ?_)
    refine WL.pur (Pur.assign rfl) ?_
    refine' WL.run0 (Run.storeAll rfl rfl ty_37 ?h4_0 (by first | rfl | assumption) ?h4_1 (by first | rfl | assumption)) ?k4
    case h4_0 => repeat (first | exact Part.one | exact Part.here | apply Part.cons | apply Part.app)
    case h4_1 => first | rfl | assumption
    refine WL.nil ?_
    refine WQ.thn ?_
    refine WC.seq ?_
    refine WC.seq ?_
    refine WC.region ?_
    refine WL.pur (Pur.move rfl) ?_
    refine' WL.pur (Pur.bin rfl rfl ?h5_0) ?k5
    case h5_0 => first | exact Bin.geN (b := 4096) | exact Bin.geI
    refine WL.nil ?_
    refine WQ.thn ?_
    first | refine WC.cond rfl (fun hc1 => ?_) (fun hc1 => ?_) | refine WC.condB rfl (fun hc1 => ?_) (fun hc1 => ?_)
    · refine WC.seq ?_
      refine WC.region ?_
      refine WL.pur (Pur.move rfl) ?_
      refine WL.pur (Pur.assign rfl) ?_
      refine WL.pur (Pur.assign rfl) ?_
      refine WL.pur (Pur.assign rfl) ?_
      refine WL.nil ?_
      refine WQ.thn ?_
      refine WC.ret ?_
      refine WQ.thn_ret ?_
      refine WQ.blk_ret ?_
      refine WQ.thn_ret ?_
      refine WQ.back_ret ?_
      refine WQ.blk_ret ?_
      refine WQ.thn_ret ?_
      refine WQ.ret3 Try.results35 rfl rfl rfl [] zsL (View.le_refl _) ?_
      refine ⟨⟨_, by rw [herr, err1_at he, if_pos hc1], fun hz => by rw [herr, err1_at he, if_pos hc1] at hz; cases hz⟩, rfl⟩
    · refine WC.skip ?_
      refine WQ.thn ?_
      refine WC.seq ?_
      refine WC.seq ?_
      refine WC.region ?_
      refine WL.pur (Pur.fieldAddr rfl fo_37_1) ?_
      refine' WL.pur (Pur.loadN rfl ty_35 ?h6_0 ?h6_1) ?k6
      case h6_0 => first | (apply Rd.own_sub; exact zmE; exact Sub.ent_node _ _ _ _ _) | (apply RdV.rd; apply RdV.sub (i := 32); assumption; exact Sub.ent_node _ _ _ _ _)
      case h6_1 => first | rfl | assumption
      refine WL.callP rfl Try.call56 (node_Check _ e.node _ ov hNR) ?_
      refine WL.pur (Pur.assign rfl) ?_
      refine WL.nil ?_
      refine WQ.thn ?_
      refine WC.seq ?_
      refine WC.region ?_
      refine WL.pur (Pur.move rfl) ?_
      refine' WL.pur (Pur.bin rfl rfl ?h7_0) ?k7
      case h7_0 => first | exact Bin.neN (b := 0) | exact Bin.neI
      refine WL.nil ?_
      refine WQ.thn ?_
      first | refine WC.cond rfl (fun hc2 => ?_) (fun hc2 => ?_) | refine WC.condB rfl (fun hc2 => ?_) (fun hc2 => ?_)
      · refine WC.seq ?_
        refine WC.region ?_
        refine WL.pur (Pur.move rfl) ?_
        refine WL.pur (Pur.move rfl) ?_
        refine WL.pur (Pur.assign rfl) ?_
        refine WL.pur (Pur.assign rfl) ?_
        refine WL.pur (Pur.assign rfl) ?_
        refine WL.nil ?_
        refine WQ.thn ?_
        refine WC.ret ?_
        refine WQ.thn_ret ?_
        refine WQ.blk_ret ?_
        refine WQ.thn_ret ?_
        refine WQ.back_ret ?_
        refine WQ.blk_ret ?_
        refine WQ.thn_ret ?_
        refine WQ.ret3 Try.results35 rfl rfl rfl [] zsL (View.le_refl _) ?_
        refine ⟨⟨_, by rw [herr, err1_at he, if_neg hc1, if_pos hc2], fun hz => by rw [herr, err1_at he, if_neg hc1, if_pos hc2] at hz; exact absurd hz hc2⟩, rfl⟩
      · have hok := ids_ok hids 0
        refine WC.skip ?_
        refine WQ.thn ?_
        refine WC.seq ?_
        refine WC.seq ?_
        refine WC.region ?_
        refine WL.pur (Pur.move rfl) ?_
        refine WL.pur (Pur.fieldAddr rfl fo_37_0) ?_
        refine' WL.pur (Pur.loadN rfl ty_31 ?h8_0 ?h8_1) ?k8
        case h8_0 => first | (apply Rd.own_sub; exact zmE; exact Sub.ent_hash _ _ _ _ _) | (apply RdV.rd; apply RdV.sub0; assumption; exact Sub.ent_hash _ _ _ _ _)
        case h8_1 => first | rfl | assumption
        refine' WL.pur (Pur.lookupOk rfl rfl mt_77 (K := hashV) (keyC_hash isHKey_31) zv_3 ?h9_0 ?h9_1 ?h9_2) ?k9
        case h9_0 => first | (left; focus repeat (first | exact List.Mem.head _ | apply List.Mem.tail)) | (right; assumption)
        case h9_1 => first | assumption | exact fun _ _ => trivial
        case h9_2 => first | assumption | trivial
        refine WL.pur (Pur.move rfl) ?_
        first | refine WL.pur (Pur.ex2_0 rfl) ?_ | refine WL.pur (Pur.ex3_0 rfl) ?_ | refine WL.pur (Pur.extractNext rfl) ?_ | refine WL.pur (Pur.extract rfl rfl) ?_
        first | refine WL.pur (Pur.ex2_1 rfl) ?_ | refine WL.pur (Pur.ex3_1 rfl) ?_ | refine WL.pur (Pur.extract rfl rfl) ?_
        refine WL.pur (Pur.assign rfl) ?_
        refine WL.pur (Pur.assign rfl) ?_
        refine WL.nil ?_
        refine WQ.thn ?_
        refine WC.seq ?_
        refine WC.region ?_
        refine WL.pur (Pur.move rfl) ?_
        refine WL.nil ?_
        refine WQ.thn ?_
        first | refine WC.cond rfl (fun hc3 => ?_) (fun hc3 => ?_) | refine WC.condB rfl (fun hc3 => ?_) (fun hc3 => ?_)
        · refine WC.seq ?_
          refine WC.region ?_
          refine WL.pur (Pur.move rfl) ?_
          refine WL.pur (Pur.assign rfl) ?_
          refine WL.pur (Pur.assign rfl) ?_
          refine WL.pur (Pur.assign rfl) ?_
          refine WL.nil ?_
          refine WQ.thn ?_
          refine WC.ret ?_
          refine WQ.thn_ret ?_
          refine WQ.blk_ret ?_
          refine WQ.thn_ret ?_
          refine WQ.back_ret ?_
          refine WQ.blk_ret ?_
          refine WQ.thn_ret ?_
          refine WQ.ret3 Try.results35 rfl rfl rfl [] zsL (View.le_refl _) ?_
          have hsome : idxOf (l.take i) e.id ≠ none := by intro hx; have := mget_ids e.id (l.take i) 0; rw [hx] at this; rw [this] at hc3; cases hc3
          refine ⟨⟨_, by rw [herr, err1_at he, if_neg hc1, if_neg hc2, if_pos hsome], fun hz => by rw [herr, err1_at he, if_neg hc1, if_neg hc2, if_pos hsome] at hz; cases hz⟩, rfl⟩
        · have hnone : idxOf (l.take i) e.id = none := by have := mget_ids e.id (l.take i) 0; cases hx : idxOf (l.take i) e.id with | none => rfl | some k => rw [hx] at this; rw [this] at hc3; cases hc3
          refine WC.skip ?_
          refine WQ.thn ?_
          refine WC.region ?_
          refine WL.pur (Pur.move rfl) ?_
          refine WL.pur (Pur.fieldAddr rfl fo_37_0) ?_
          refine' WL.pur (Pur.loadN rfl ty_31 ?h10_0 ?h10_1) ?k10
          case h10_0 => first | (apply Rd.own_sub; exact zmE; exact Sub.ent_hash _ _ _ _ _) | (apply RdV.rd; apply RdV.sub0; assumption; exact Sub.ent_hash _ _ _ _ _)
          case h10_1 => first | rfl | assumption
          refine WL.pur (Pur.move rfl) ?_
          refine' WL.run0 (Run.mapUpdate rfl rfl rfl mt_77 (K := hashV) (keyC_hash isHKey_31) ?h11_0 ?h11_1 ?h11_2) ?k11
          case h11_0 => repeat (first | exact Part.one | exact Part.here | apply Part.cons | apply Part.app)
          case h11_1 => first | assumption | exact fun _ _ => trivial
          case h11_2 => first | assumption | trivial
          refine WL.nil ?_
          refine WQ.blk ?_
          refine WQ.thn ?_
          refine WC.region ?_
          refine' WL.pur (Pur.bin rfl rfl ?h12_0) ?k12
          case h12_0 => first | (refine Bin.addN (b := 1) ?_; omega) | (refine Bin.addI ?_; omega)
          refine WL.pur (Pur.move rfl) ?_
          refine WL.nil ?_
          refine WQ.back _ ⟨i + 1, rfl, by omega, by rw [herr, err1_at he, if_neg (by omega), if_neg hc2, if_neg (by rw [hnone]; simp)], hfine.step he (by omega) (Decidable.not_not.1 hc2) hnone, by rw [List.take_add_one, he]; intro x hx; rcases List.mem_append.1 hx with hx | hx; exact hids x hx; simp at hx; subst hx; exact heH, rfl, rfl, by rw [← ids_step he hnone]⟩ (by omega) zcV zsL
  · obtain ⟨hmost, hnodes, hnodup⟩ := hfine
    rw [List.take_of_length_le (show l.length ≤ i by omega)] at hnodes hnodup hids ⊢
    have hok := ids_ok hids 0
    refine WC.exit ?_
    refine WQ.thn_exit ?_
    refine WQ.back_exit ?_
    refine WQ.blk_here ?_
    refine WQ.thn ?_
    refine WC.seq ?_
    refine WC.seq ?_
    refine WC.region ?_
    refine WL.pur (Pur.move rfl) ?_
    refine WL.pur (Pur.len rfl isSlice_23) ?_
    refine WL.pur (Pur.move rfl) ?_
    refine WL.nil ?_
    refine WQ.thn ?_
    refine WC.block ?_
    refine WC.loop (fun j m σ' H' => ∃ i : Nat, j = l.length - i ∧ i ≤ l.length ∧ rightErr l = err2 l i ∧ m = [(0, .slice a l.length cap), (5, .map (some b18)), (50, .slice a l.length cap), (51, .int .i64 (l.length : Int)), (52, .int .i64 (i : Int))] ∧ σ' = σ ∧ H' = (b18, mapO hashV (idsFrom l 0)) :: Hr) ⟨0, rfl, by omega, by rw [herr, err1_end (by omega)], rfl, rfl, rfl⟩ zcV zsL ?_
    rintro _ _ σ _ ⟨i, rfl, hi, herr, rfl, rfl, rfl⟩
    refine WC.seq ?_
    refine WC.region ?_
    refine' WL.pur (Pur.bin rfl rfl ?h13_0) ?k13
    case h13_0 => first | exact Bin.ltN | exact Bin.ltI | exact Bin.ltS
    refine WL.nil ?_
    refine WQ.thn ?_
    refine WC.seq ?_
    first | refine WC.cond rfl (fun hc4 => ?_) (fun hc4 => ?_) | refine WC.condB rfl (fun hc4 => ?_) (fun hc4 => ?_)
    · obtain ⟨b, off, cap', e0, hcap', hby', hat⟩ := h'.at (by omega)
      cases e0
      obtain ⟨e, he⟩ : ∃ e, l[i]? = some e := ⟨_, List.getElem?_eq_getElem (by omega)⟩
      obtain ⟨vs, hvl, hvo, ⟨pv, ov, rfl, heH, hnode⟩, hrd⟩ := hat i e he
      have hNR := hnode
      obtain ⟨hps, hops, hau, hcl⟩ := hnode
      have hps' := hps
      obtain ⟨pa, pc, rfl, hpc, hpb⟩ := hps.shape
      refine WC.skip ?_
      refine WQ.thn ?_
      refine WC.seq ?_
      refine WC.block ?_
      refine WC.seq ?_
      refine WC.region ?_
      refine WL.pur (Pur.move rfl) ?_
      refine' WL.pur (Pur.indexAddr rfl rfl sl_23 ?h14_0) ?k14
      case h14_0 => omega
      refine' WL.pur (Pur.loadN rfl ty_37 ?h15_0 ?h15_1) ?k15
      case h15_0 => first | (apply Rd.own_sub; exact zmE; exact Sub.refl _) | (apply RdV.rd; assumption)
      case h15_1 => first | rfl | assumption
      refine WL.new (New.alloc zc_37) (fun b12 => ?_)
      refine WL.pur (Pur.assign rfl) ?_
      refine' WL.run0 (Run.storeAll rfl rfl ty_37 ?h16_0 (by first | rfl | assumption) ?h16_1 (by first | rfl | assumption)) ?k16
      case h16_0 => repeat (first | exact Part.one | exact Part.here | apply Part.cons | apply Part.app)
      case h16_1 => first | rfl | assumption
      refine WL.nil ?_
      refine WQ.thn ?_
      refine WC.seq ?_
      refine WC.region ?_
      refine WL.pur (Pur.assign rfl) ?_
      refine WL.nil ?_
      refine WQ.thn ?_
      refine WC.seq ?_
      refine WC.seq ?_
      refine WC.region ?_
      refine WL.pur (Pur.fieldAddr rfl fo_37_1) ?_
      refine WL.pur (Pur.fieldAddr rfl fo_35_2) ?_
      refine' WL.pur (Pur.load1 rfl ty_32 ?h17_0) ?k17
      case h17_0 => first | (apply Rd.own1; exact zmE; rfl) | (apply RdV.rd; apply RdV.idx (i := 34); assumption; rfl) | (apply RdV.rd; apply RdV.idx (off := 0) (i := 34); assumption; rfl)
      refine WL.pur (Pur.len rfl isSlice_32) ?_
      refine WL.pur (Pur.move rfl) ?_
      refine WL.nil ?_
      refine WQ.thn ?_
      refine WC.block ?_
      refine WC.loop (fun j m σ' H' => ∃ q : Nat, j = e.node.ps.length - q ∧ q ≤ e.node.ps.length ∧ (∀ p ∈ e.node.ps.take q, idxOf l p ≠ none) ∧ m = [(0, .slice (some ⟨b, off, none⟩) l.length cap), (5, .map (some b18)), (50, .slice (some ⟨b, off, none⟩) l.length cap), (51, .int .i64 (l.length : Int)), (52, .int .i64 (i : Int)), (11, .int .i64 (i : Int)), (12, .pointer (some ⟨b12, 0, none⟩)), (13, .int .i64 (mcl l (e.node.ps.take q))), (59, .slice pa e.node.ps.length pc), (60, .int .i64 (e.node.ps.length : Int)), (61, .int .i64 (q : Int))] ∧ σ' = σ ∧ H' = (b12, rowO 37 (entCells e.id e.node.au e.node.cl (.slice pa e.node.ps.length pc) ov)) :: (b18, mapO hashV (idsFrom l 0)) :: Hr) ⟨0, rfl, by omega, by simp, rfl, rfl, rfl⟩ zcV zsL ?_
      rintro _ _ σ _ ⟨q, rfl, hq, hall, rfl, rfl, rfl⟩
      refine WC.seq ?_
      refine WC.region ?_
      refine' WL.pur (Pur.bin rfl rfl ?h18_0) ?k18
      case h18_0 => first | exact Bin.ltN | exact Bin.ltI | exact Bin.ltS
      refine WL.nil ?_
      refine WQ.thn ?_
      refine WC.seq ?_
      first | refine WC.cond rfl (fun hc5 => ?_) (fun hc5 => ?_) | refine WC.condB rfl (fun hc5 => ?_) (fun hc5 => ?_)
      · obtain ⟨pb, poff, pc', e1, hpc', hpb', hpat⟩ := hps'.at (by omega)
        cases e1
        obtain ⟨p, hp⟩ : ∃ p, e.node.ps[q]? = some p := ⟨_, List.getElem?_eq_getElem (by omega)⟩
        obtain ⟨vp, hpl, hpo, ⟨rfl, hpH⟩, hprd⟩ := hpat q p hp
        have hmg := mget_ids0 l p
        refine WC.skip ?_
        refine WQ.thn ?_
        refine WC.seq ?_
        refine WC.block ?_
        refine WC.seq ?_
        refine WC.region ?_
        refine' WL.pur (Pur.indexAddr rfl rfl sl_32 ?h19_0) ?k19
        case h19_0 => omega
        refine' WL.pur (Pur.loadN rfl ty_31 ?h20_0 ?h20_1) ?k20
        case h20_0 => first | (apply Rd.own_sub; exact zmE; exact Sub.refl _) | (apply RdV.rd; assumption)
        case h20_1 => first | rfl | assumption
        refine WL.new (New.alloc zc_31) (fun b15 => ?_)
        refine' WL.run0 (Run.storeAll rfl rfl ty_31 ?h21_0 (by first | rfl | assumption) ?h21_1 (by first | rfl | assumption)) ?k21
        case h21_0 => repeat (first | exact Part.one | exact Part.here | apply Part.cons | apply Part.app)
        case h21_1 => first | rfl | assumption
        refine WL.nil ?_
        refine WQ.thn ?_
        refine WC.seq ?_
        refine WC.region ?_
        refine WL.pur (Pur.move rfl) ?_
        refine' WL.pur (Pur.loadN rfl ty_31 ?h22_0 ?h22_1) ?k22
        case h22_0 => first | (apply Rd.own_sub; exact zmE; exact Sub.refl _) | (apply RdV.rd; assumption)
        case h22_1 => first | rfl | assumption
        refine' WL.pur (Pur.lookupOk rfl rfl mt_77 (K := hashV) (keyC_hash isHKey_31) zv_3 ?h23_0 ?h23_1 ?h23_2) ?k23
        case h23_0 => first | (left; focus repeat (first | exact List.Mem.head _ | apply List.Mem.tail)) | (right; assumption)
        case h23_1 => first | assumption | exact fun _ _ => trivial
        case h23_2 => first | assumption | trivial
        refine WL.pur (Pur.move rfl) ?_
        first | refine WL.pur (Pur.ex2_0 rfl) ?_ | refine WL.pur (Pur.ex3_0 rfl) ?_ | refine WL.pur (Pur.extractNext rfl) ?_ | refine WL.pur (Pur.extract rfl rfl) ?_
        first | refine WL.pur (Pur.ex2_1 rfl) ?_ | refine WL.pur (Pur.ex3_1 rfl) ?_ | refine WL.pur (Pur.extract rfl rfl) ?_
        refine WL.pur (Pur.assign rfl) ?_
        refine WL.pur (Pur.assign rfl) ?_
        refine WL.nil ?_
        refine WQ.thn ?_
        refine WC.seq ?_
        refine WC.seq ?_
        refine WC.region ?_
        refine WL.pur (Pur.move rfl) ?_
        first | refine WL.pur (Pur.not rfl) ?_ | refine WL.pur (Pur.notB rfl) ?_
        refine WL.nil ?_
        refine WQ.thn ?_
        first | refine WC.cond rfl (fun hc6 => ?_) (fun hc6 => ?_) | refine WC.condB rfl (fun hc6 => ?_) (fun hc6 => ?_)
        · refine WC.seq ?_
          refine WC.region ?_
          refine WL.pur (Pur.move rfl) ?_
          refine WL.pur (Pur.assign rfl) ?_
          refine WL.pur (Pur.assign rfl) ?_
          refine WL.pur (Pur.assign rfl) ?_
          refine WL.nil ?_
          refine WQ.thn ?_
          refine WC.ret ?_
          refine WQ.thn_ret ?_
          refine WQ.blk_ret ?_
          refine WQ.thn_ret ?_
          refine WQ.back_ret ?_
          refine WQ.blk_ret ?_
          refine WQ.thn_ret ?_
          refine WQ.blk_ret ?_
          refine WQ.thn_ret ?_
          refine WQ.back_ret ?_
          refine WQ.blk_ret ?_
          refine WQ.thn_ret ?_
          refine WQ.ret3 Try.results35 rfl rfl rfl [] zsL (View.le_refl _) ?_
          have hnn : idxOf l p = none := by cases hx : idxOf l p with | none => rfl | some k => rw [hmg, hx] at hc6; cases hc6
          have hpe : parErr l e = 6 := by unfold parErr; rw [if_pos ⟨p, List.mem_of_getElem? hp, hnn⟩]
          refine ⟨⟨_, by rw [herr, err2_at he, if_pos (by rw [hpe]; simp), hpe], fun hz => by rw [herr, err2_at he, if_pos (by rw [hpe]; simp), hpe] at hz; cases hz⟩, rfl⟩
        · obtain ⟨k, hk⟩ : ∃ k, idxOf l p = some k := by
            cases hx : idxOf l p with
            | some k => exact ⟨k, rfl⟩
            | none => rw [hmg, hx] at hc6; cases hc6
          rw [hmg, hk]
          obtain ⟨e2, he2, hid2⟩ := idxOf_some hk
          have hclat : clAt l p = e2.node.cl := by unfold clAt; rw [hk]; simp [he2]
          have hkl := (List.getElem?_eq_some_iff.1 he2).1
          obtain ⟨vs2, hvl2, hvo2, ⟨pv2, ov2, rfl, heH2, hnode2⟩, hrd2⟩ := hat k e2 he2
          refine WC.skip ?_
          refine WQ.thn ?_
          refine WC.region ?_
          refine WL.pur (Pur.move rfl) ?_
          refine WL.pur (Pur.move rfl) ?_
          refine WL.pur (Pur.move rfl) ?_
          refine' WL.pur (Pur.indexAddr rfl rfl sl_23 ?h24_0) ?k24
          case h24_0 => omega
          refine WL.pur (Pur.fieldAddr rfl fo_37_1) ?_
          refine WL.pur (Pur.fieldAddr rfl fo_35_1) ?_
          refine' WL.pur (Pur.load1 rfl ty_3 ?h25_0) ?k25
          case h25_0 => first | (apply Rd.own1; exact zmE; rfl) | (apply RdV.rd; apply RdV.idx (i := 33); assumption; rfl) | (apply RdV.rd; apply RdV.idx (off := 0) (i := 33); assumption; rfl)
          first | refine WL.pur (Pur.maxN rfl rfl) ?_ | refine WL.pur (Pur.maxI rfl rfl) ?_
          refine WL.pur (Pur.assign rfl) ?_
          refine WL.nil ?_
          refine WQ.blk ?_
          refine WQ.thn ?_
          refine WC.region ?_
          refine' WL.pur (Pur.bin rfl rfl ?h26_0) ?k26
          case h26_0 => first | (refine Bin.addN (b := 1) ?_; omega) | (refine Bin.addI ?_; omega)
          refine WL.pur (Pur.move rfl) ?_
          refine WL.nil ?_
          refine WQ.back _ ⟨q + 1, rfl, by omega, by rw [List.take_add_one, hp]; intro y hy; rcases List.mem_append.1 hy with hy | hy; exact hall y hy; simp at hy; subst hy; rw [hk]; simp, by rw [mcl_take hp, hclat], rfl, rfl⟩ (by omega) zcV zsL
      · have hmb := mcl_bound hnodes (e.node.ps.take q)
        rw [List.take_of_length_le (show e.node.ps.length ≤ q by omega)] at hall hmb ⊢
        have hne : ¬ ∃ p ∈ e.node.ps, idxOf l p = none := fun ⟨p, h1, h2⟩ => hall p h1 h2
        have hnz := (nodeErr_zero (hnodes e (List.mem_of_getElem? he))).2.1
        refine WC.exit ?_
        refine WQ.thn_exit ?_
        refine WQ.back_exit ?_
        refine WQ.blk_here ?_
        refine WQ.thn ?_
        refine WC.seq ?_
        refine WC.region ?_
        refine WL.pur (Pur.fieldAddr rfl fo_37_1) ?_
        refine WL.pur (Pur.fieldAddr rfl fo_35_2) ?_
        refine' WL.pur (Pur.load1 rfl ty_32 ?h27_0) ?k27
        case h27_0 => first | (apply Rd.own1; exact zmE; rfl) | (apply RdV.rd; apply RdV.idx (i := 34); assumption; rfl) | (apply RdV.rd; apply RdV.idx (off := 0) (i := 34); assumption; rfl)
        refine WL.pur (Pur.len rfl isSlice_32) ?_
        refine' WL.pur (Pur.bin rfl rfl ?h28_0) ?k28
        case h28_0 => first | exact Bin.gtN (b := 0) | exact Bin.gtI
        refine WL.pur (Pur.move rfl) ?_
        refine' WL.andp (u := 88) (t := 95) rfl ?h29_0 ?h29_1 ?h29_2 rfl ?k29
        case h29_0 =>
          intro hg88 K88
          refine WL.gpur (u := 88) rfl rfl (gT hg88) (Pur.fieldAddr rfl fo_37_1) ?_
          refine WL.gpur (u := 88) rfl rfl (gT hg88) (Pur.fieldAddr rfl fo_35_1) ?_
          refine' WL.gpur (u := 88) rfl rfl (gT hg88) (Pur.load1 rfl ty_3 ?h30_0) ?k30
          case h30_0 => first | (apply Rd.own1; exact zmE; rfl) | (apply RdV.rd; apply RdV.idx (i := 33); assumption; rfl) | (apply RdV.rd; apply RdV.idx (off := 0) (i := 33); assumption; rfl)
          refine WL.gpur (u := 88) rfl rfl (gT hg88) (Pur.move rfl) ?_
          refine' WL.gpur (u := 88) rfl rfl (gT hg88) (Pur.bin rfl rfl ?h31_0) ?k31
          case h31_0 => first | (refine Bin.addN (b := 1) ?_; omega) | (refine Bin.addI ?_; omega)
          refine' WL.gpur (u := 88) rfl rfl (gT hg88) (Pur.bin rfl rfl ?h32_0) ?k32
          case h32_0 => first | exact Bin.neN | exact Bin.neI
          exact K88 _ zcR rfl
        case h29_1 =>
          intro hg88 K88
          refine WL.gskip (u := 88) rfl rfl (sT hg88) ?_
          refine WL.gskip (u := 88) rfl rfl (sT hg88) ?_
          refine WL.gskip (u := 88) rfl rfl (sT hg88) ?_
          refine WL.gskip (u := 88) rfl rfl (sT hg88) ?_
          refine WL.gskip (u := 88) rfl rfl (sT hg88) ?_
          refine WL.gskip (u := 88) rfl rfl (sT hg88) ?_
          exact K88 _ zcR
        case h29_2 => exact Wanted.plain rfl
        refine WL.nil ?_
        refine WQ.thn ?_
        first | refine WC.cond rfl (fun hc7 => ?_) (fun hc7 => ?_) | refine WC.condB rfl (fun hc7 => ?_) (fun hc7 => ?_)
        · refine WC.seq ?_
          refine WC.region ?_
          refine WL.pur (Pur.move rfl) ?_
          refine WL.pur (Pur.assign rfl) ?_
          refine WL.pur (Pur.assign rfl) ?_
          refine WL.pur (Pur.assign rfl) ?_
          refine WL.nil ?_
          refine WQ.thn ?_
          refine WC.ret ?_
          refine WQ.blk_ret ?_
          refine WQ.thn_ret ?_
          refine WQ.back_ret ?_
          refine WQ.blk_ret ?_
          refine WQ.thn_ret ?_
          refine WQ.ret3 Try.results35 rfl rfl rfl [] zsL (View.le_refl _) ?_
          have hpe : parErr l e = 51 := by unfold parErr; rw [if_neg hne, if_pos hc7.2]
          refine ⟨⟨_, by rw [herr, err2_at he, if_pos (by rw [hpe]; simp), hpe], fun hz => by rw [herr, err2_at he, if_pos (by rw [hpe]; simp), hpe] at hz; cases hz⟩, rfl⟩
        · have hcl1 : e.node.cl = mcl l e.node.ps + 1 := by
            by_cases h0 : 0 < e.node.ps.length
            · exact Decidable.not_not.1 (fun h => hc7 ⟨by omega, h⟩)
            · have h1 := nil_len.2 (show e.node.ps.length = 0 by omega)
              have h2 := hnz.2.2.2 h1
              have h3 : mcl l e.node.ps = 0 := by rw [h1]; rfl
              omega
          have hpe : parErr l e = 0 := by
            unfold parErr
            rw [if_neg hne, if_neg (fun h => h hcl1)]
          refine WC.skip ?_
          refine WQ.blk ?_
          refine WQ.thn ?_
          refine WC.region ?_
          refine' WL.pur (Pur.bin rfl rfl ?h33_0) ?k33
          case h33_0 => first | (refine Bin.addN (b := 1) ?_; omega) | (refine Bin.addI ?_; omega)
          refine WL.pur (Pur.move rfl) ?_
          refine WL.nil ?_
          refine WQ.back _ ⟨i + 1, rfl, by omega, by rw [herr, err2_at he, if_neg (by rw [hpe]; simp)], rfl, rfl, rfl⟩ (by omega) zcV zsL
    · refine WC.exit ?_
      refine WQ.thn_exit ?_
      refine WQ.back_exit ?_
      refine WQ.blk_here ?_
      refine WQ.thn ?_
      refine WC.seq ?_
      refine WC.region ?_
      refine WL.pur (Pur.move rfl) ?_
      refine WL.pur (Pur.assign rfl) ?_
      refine WL.pur (Pur.assign rfl) ?_
      refine WL.pur (Pur.assign rfl) ?_
      refine WL.nil ?_
      refine WQ.thn ?_
      refine WC.ret ?_
      refine WQ.give (H1 := []) (fun hb => ?_)
      have hr0 : rightErr l = (0, 0) := by rw [herr, err2_end (by omega)]
      refine WQ.ret3 Try.results35 rfl rfl rfl [] zsL (View.le_add _ hb) ?_
      refine ⟨⟨_, by rw [hr0]; rfl, fun _ => ⟨by rw [hr0], b18, rfl, View.add_same _ _ _⟩⟩, rfl⟩

end Go.Proofs.Ytgoooilgmabkmaa
namespace Go.Proofs.Ytgoooilgmabkmaa
open Go Go.Sl
set_option linter.unusedVariables false
set_option linter.unusedSimpArgs false
set_option maxRecDepth 100000

theorem ty_111' : tyc Try.prog 111 = some none := by kernel_rfl
theorem m_Less (b : Addr) (args : Array Value) (w : World) : (callMethod (.iface 110 (.pointer (some b))) "Less" args).run Try.prog w = ((do let v ← loadVar 111 b; callFunc 161 (#[v] ++ args)) : Sem Next).run Try.prog w := by kernel_rfl
theorem m_Len (b : Addr) (args : Array Value) (w : World) : (callMethod (.iface 110 (.pointer (some b))) "Len" args).run Try.prog w = ((do let v ← loadVar 111 b; callFunc 58 (#[v] ++ args)) : Sem Next).run Try.prog w := by kernel_rfl
theorem m_Swap (b : Addr) (args : Array Value) (w : World) : (callMethod (.iface 110 (.pointer (some b))) "Swap" args).run Try.prog w = ((do let v ← loadVar 111 b; callFunc 164 (#[v] ++ args)) : Sem Next).run Try.prog w := by kernel_rfl
theorem m_Push (v : Value) (args : Array Value) (w : World) : (callMethod (.iface 110 v) "Push" args).run Try.prog w = (callFunc 163 (#[v] ++ args)).run Try.prog w := by kernel_rfl
theorem m_Pop (v : Value) (args : Array Value) (w : World) : (callMethod (.iface 110 v) "Pop" args).run Try.prog w = (callFunc 162 (#[v] ++ args)).run Try.prog w := by kernel_rfl
theorem mi31 (v : Value) (w : World) : (Instr.makeInterface 31 v).run Try.prog w = .ok (.iface 31 v) w := by kernel_rfl
theorem mi110 (v : Value) (w : World) : (Instr.makeInterface 110 v).run Try.prog w = .ok (.iface 110 v) w := by kernel_rfl
section
variable {σ : View} {H : HList} {b : Nat} {sv : Value}
theorem ready_load (hb : (b, rowO 111 [sv]) ∈ H) {w : World} (hs : St σ H w) : (loadVar 111 ⟨b, 0, none⟩).run Try.prog w = .ok sv w :=
  loadVar_run1 ty_111' (by have := (Rd.own1 (σ := σ) hb (off := 0) rfl).cell hs 0 sv rfl; simpa using this)
theorem d_Less (hb : (b, rowO 111 [sv]) ∈ H) (x y : Value) : ∀ w, St σ H w → (callMethod (.iface 110 (.pointer (some ⟨b, 0, none⟩))) "Less" [x, y].toArray).run Try.prog w = .ok (.enter 161 [sv, x, y].toArray) w := fun w hs => by
  rw [m_Less]; simp only [Sem.run_bind, ready_load hb hs, Result.andThen_ok]; exact Try.call161 _ w
theorem d_Swap (hb : (b, rowO 111 [sv]) ∈ H) (x y : Value) : ∀ w, St σ H w → (callMethod (.iface 110 (.pointer (some ⟨b, 0, none⟩))) "Swap" [x, y].toArray).run Try.prog w = .ok (.enter 164 [sv, x, y].toArray) w := fun w hs => by
  rw [m_Swap]; simp only [Sem.run_bind, ready_load hb hs, Result.andThen_ok]; exact Try.call164 _ w
theorem d_Len (hb : (b, rowO 111 [sv]) ∈ H) : ∀ w, St σ H w → (callMethod (.iface 110 (.pointer (some ⟨b, 0, none⟩))) "Len" [].toArray).run Try.prog w = .ok (.enter 58 [sv].toArray) w := fun w hs => by
  rw [m_Len]; simp only [Sem.run_bind, ready_load hb hs, Result.andThen_ok]; exact Try.call58 _ w
theorem d_Push (v x : Value) : ∀ w, St σ H w → (callMethod (.iface 110 v) "Push" [x].toArray).run Try.prog w = .ok (.enter 163 [v, x].toArray) w := fun w _ => by
  rw [m_Push]; exact Try.call163 _ w
theorem d_Pop (v : Value) : ∀ w, St σ H w → (callMethod (.iface 110 v) "Pop" [].toArray).run Try.prog w = .ok (.enter 162 [v].toArray) w := fun w _ => by
  rw [m_Pop]; exact Try.call162 _ w
end

theorem rd_Len (σ : View) (a : Option Addr) (n c : Nat) :
    TriP Try.prog 58 #[.slice a n c] σ (.int .i64 (n : Int)) := by
  refine Tri.of_body [(0, .slice a n c)] Try.func58 rfl Try.ntmps58 (by simp) rfl (fun Hr => ?_)
  rw [List.nil_append]
  refine WC.seq ?_
  refine WC.region ?_
  refine WL.pur (Pur.assign rfl) ?_
  refine WL.nil ?_
  refine WQ.thn ?_
  refine WC.seq ?_
  refine WC.region ?_
  refine WL.pur (Pur.move rfl) ?_
  refine WL.pur (Pur.len rfl isSlice_111) ?_
  refine WL.pur (Pur.assign rfl) ?_
  refine WL.nil ?_
  refine WQ.thn ?_
  refine WC.ret ?_
  refine WQ.ret1 Try.results58 rfl [] zsL (View.le_refl _) ?_
  refine ⟨?_, rfl, rfl⟩
  rfl

theorem rd_Less (σ : View) (b1 cap i j n : Nat) (hs : List Nat) (l : List Value) (h : HsRow hs cap l) (hn : hs.length = n) (hi : i < hs.length) (hj : j < hs.length) :
    Tri Try.prog 161 #[.slice (some ⟨b1, 0, none⟩) n cap, .int .i64 (i : Int), .int .i64 (j : Int)] σ [(b1, rowO 31 l)] (fun v σ' H' => v = .bool (decide (hs.getD i 0 < hs.getD j 0)) ∧ σ' = σ ∧ H' = [(b1, rowO 31 l)]) := by
  have hi1 := (h.2.2 i hi).2
  have hj1 := (h.2.2 j hj).2
  refine Tri.of_body [(0, .slice (some ⟨b1, 0, none⟩) n cap), (1, .int .i64 (i : Int)), (2, .int .i64 (j : Int))] Try.func161 rfl Try.ntmps161 (by simp) rfl (fun Hr => ?_)
  simp only [List.cons_append, List.nil_append]
  refine WC.seq ?_
  refine WC.region ?_
  refine WL.pur (Pur.assign rfl) ?_
  refine WL.nil ?_
  refine WQ.thn ?_
  refine WC.seq ?_
  refine WC.drawH 11 11 mixed (by kernel_rfl) rfl ?_
  refine SA.take 0 (by kernel_rfl) rfl rfl rfl (Wanted.plain rfl) zsL (View.le_refl _) (Pur.move rfl) ?_
  refine SA.take 1 (by kernel_rfl) rfl rfl rfl (Wanted.plain rfl) zsL (View.le_refl _) (Pur.move rfl) ?_
  refine' SA.take 2 (by kernel_rfl) rfl rfl rfl (Wanted.plain rfl) zsL (View.le_refl _) (Pur.indexAddr rfl rfl sl_111 ?h1_0) ?k1
  case h1_0 => omega
  refine' SA.take 3 (by kernel_rfl) rfl rfl rfl (Wanted.plain rfl) zsL (View.le_refl _) (Pur.loadN rfl ty_31 ?h2_0 ?h2_1) ?k2
  case h2_0 => exact h.rd (by first | exact List.Mem.head _ | (apply List.Mem.tail; exact List.Mem.head _)) hi
  case h2_1 => first | rfl | assumption
  refine SA.take 4 (by kernel_rfl) rfl rfl rfl (Wanted.plain rfl) zsL (View.le_refl _) (Pur.move rfl) ?_
  refine SA.take 5 (by kernel_rfl) rfl rfl rfl (Wanted.plain rfl) zsL (View.le_refl _) (Pur.move rfl) ?_
  refine' SA.take 6 (by kernel_rfl) rfl rfl rfl (Wanted.plain rfl) zsL (View.le_refl _) (Pur.indexAddr rfl rfl sl_111 ?h3_0) ?k3
  case h3_0 => omega
  refine' SA.take 7 (by kernel_rfl) rfl rfl rfl (Wanted.plain rfl) zsL (View.le_refl _) (Pur.loadN rfl ty_31 ?h4_0 ?h4_1) ?k4
  case h4_0 => exact h.rd (by exact List.Mem.head _) hj
  case h4_1 => first | rfl | assumption
  refine SA.callR 8 (H1 := []) (Hr := _) rfl rfl (Wanted.plain rfl) (by kernel_rfl) rfl Try.call86 (List.Perm.refl _) (.inr ⟨List.Sublist.refl _, View.le_refl _⟩) (sha_Compare _ _ _ hi1 hj1) ?_
  rintro _ _ _ ⟨rfl, rfl, rfl⟩ _
  rw [List.nil_append]
  refine' SA.take 9 (by kernel_rfl) rfl rfl rfl (Wanted.plain rfl) zsL (View.le_refl _) (Pur.bin rfl rfl ?h5_0) ?k5
  case h5_0 => first | exact Bin.ltN (b := 0) | exact Bin.ltI | exact Bin.ltS
  refine SA.take 10 (by kernel_rfl) rfl rfl rfl (Wanted.plain rfl) zsL (View.le_refl _) (Pur.assign rfl) ?_
  refine SA.done (by kernel_rfl) ?_
  refine WQ.thn ?_
  refine WC.ret ?_
  refine WQ.ret1 Try.results161 rfl [(b1, rowO 31 l)] zsL (View.le_refl _) ?_
  exact ⟨decB cmpH_lt, rfl, rfl⟩

theorem rd_Swap (σ : View) (b1 cap i j n : Nat) (hs : List Nat) (l : List Value) (h : HsRow hs cap l) (hn : hs.length = n) (hi : i < hs.length) (hj : j < hs.length) :
    Tri Try.prog 164 #[.slice (some ⟨b1, 0, none⟩) n cap, .int .i64 (i : Int), .int .i64 (j : Int)] σ [(b1, rowO 31 l)] (fun v σ' H' => (∃ l', HsRow (swapL hs i j) cap l' ∧ H' = [(b1, rowO 31 l')]) ∧ σ' = σ) := by
  have hi1 := (h.2.2 i hi).2
  have hj1 := (h.2.2 j hj).2
  have h1 := h.put (i := i) (x := hs.getD j 0) hi hj1
  have h2 := h1.put (i := j) (x := hs.getD i 0) (by simpa using hj) hi1
  have hb1 := h.bound hi
  have hb2 := h1.bound (i := j) (by simpa using hj)
  refine Tri.of_body [(0, .slice (some ⟨b1, 0, none⟩) n cap), (1, .int .i64 (i : Int)), (2, .int .i64 (j : Int))] Try.func164 rfl Try.ntmps164 (by simp) rfl (fun Hr => ?_)
  simp only [List.cons_append, List.nil_append]
  refine WC.drawH 12 16 mixed (by kernel_rfl) rfl ?_
  refine SA.takeW 0 (by kernel_rfl) rfl rfl rfl (Wanted.plain rfl) (tells_move rfl) ?_
  refine SA.takeW 1 (by kernel_rfl) rfl rfl rfl (Wanted.plain rfl) (tells_move rfl) ?_
  refine SA.takeW 2 (by kernel_rfl) rfl rfl rfl (Wanted.plain rfl) (tells_move rfl) ?_
  refine SA.takeW 3 (by kernel_rfl) rfl rfl rfl (Wanted.plain rfl) (tells_move rfl) ?_
  refine SA.takeW 4 (by kernel_rfl) rfl rfl rfl (Wanted.plain rfl) (tells_move rfl) ?_
  refine SA.takeW 5 (by kernel_rfl) rfl rfl rfl (Wanted.plain rfl) (tells_move rfl) ?_
  refine' SA.takeP 6 (by kernel_rfl) rfl rfl rfl (Wanted.plain rfl) (fun _ _ => Pur.indexAddr rfl rfl sl_111 ?h1_0) ?k1
  case h1_0 => omega
  refine' SA.take 7 (by kernel_rfl) rfl rfl rfl (Wanted.plain rfl) zsL (View.le_refl _) (Pur.loadN rfl ty_31 ?h2_0 ?h2_1) ?k2
  case h2_0 => exact h.rd (by exact List.Mem.head _) hj
  case h2_1 => first | rfl | assumption
  refine SA.takeW 8 (by kernel_rfl) rfl rfl rfl (Wanted.plain rfl) (tells_move rfl) ?_
  refine SA.takeW 9 (by kernel_rfl) rfl rfl rfl (Wanted.plain rfl) (tells_move rfl) ?_
  refine' SA.takeP 10 (by kernel_rfl) rfl rfl rfl (Wanted.plain rfl) (fun _ _ => Pur.indexAddr rfl rfl sl_111 ?h3_0) ?k3
  case h3_0 => omega
  refine' SA.take 11 (by kernel_rfl) rfl rfl rfl (Wanted.plain rfl) zsL (View.le_refl _) (Pur.loadN rfl ty_31 ?h4_0 ?h4_1) ?k4
  case h4_0 => exact h.rd (by exact List.Mem.head _) hi
  case h4_1 => first | rfl | assumption
  refine' SA.run 12 rfl (fun _ e => by cases e; rfl) (Wanted.plain rfl) (by kernel_rfl) (Pur.run (Pur.indexAddr rfl rfl sl_111 ?h5_0)) (.inl (by decide)) ?k5
  case h5_0 => omega
  refine' SA.run 13 rfl (fun _ e => by cases e) (Wanted.plain rfl) (by kernel_rfl) (Run.storeN rfl rfl ty_31 rfl rfl Part.one (by rw [hashCells_length]; exact hb1)) (.inl (by decide)) ?k6
  refine' SA.run 14 rfl (fun _ e => by cases e; rfl) (Wanted.plain rfl) (by kernel_rfl) (Pur.run (Pur.indexAddr rfl rfl sl_111 ?h7_0)) (.inl (by decide)) ?k7
  case h7_0 => omega
  refine' SA.run 15 rfl (fun _ e => by cases e) (Wanted.plain rfl) (by kernel_rfl) (Run.storeN rfl rfl ty_31 rfl rfl Part.one (by rw [hashCells_length]; exact hb2)) (.inl (by decide)) ?k8
  refine SA.done (by kernel_rfl) ?_
  refine WQ.ret0 Try.results164 [(b1, rowO 31 (lput (lput l (0 + i * 32) (hashCells (hs.getD j 0))) (0 + j * 32) (hashCells (hs.getD i 0))))] (.inr rfl) zsL (View.le_refl _) ?_
  exact ⟨⟨_, h2, rfl⟩, rfl⟩

theorem rd_Push (σ : View) (b x : Nat) (sv : Value) (hs : List Nat) (h : HList) (hso : SlO σ eHash 31 32 sv hs h) (hx : IsH x) (hb : hs.length ≤ 100000) :
    Tri Try.prog 163 #[.pointer (some ⟨b, 0, none⟩), .iface 31 (hashV x)] σ (h ++ [(b, rowO 111 [sv])]) (fun v σ' H' => (∃ sv' h', SlO σ eHash 31 32 sv' (hs ++ [x]) h' ∧ H' = h' ++ [(b, rowO 111 [sv'])]) ∧ σ' = σ) := by
  refine Tri.of_body [(0, .pointer (some ⟨b, 0, none⟩)), (1, .iface 31 (hashV x))] Try.func163 rfl Try.ntmps163 (by simp) rfl (fun Hr => ?_)
  simp only [List.append_assoc, List.cons_append, List.nil_append]
  refine WC.draw 8 10 ((b, rowO 111 [sv]) :: Hr) mixed (by kernel_rfl) rfl ?_
  refine SA.takeW 0 (by kernel_rfl) rfl rfl rfl (Wanted.plain rfl) (tells_move rfl) ?_
  refine SA.takeW 1 (by kernel_rfl) rfl rfl rfl (Wanted.plain rfl) (tells_move rfl) ?_
  refine SA.takeP 2 (by kernel_rfl) rfl rfl rfl (Wanted.plain rfl) (fun _ _ => Pur.nilCheck rfl) ?_
  refine' SA.take 3 (by kernel_rfl) rfl rfl rfl (Wanted.plain rfl) zsL (View.le_refl _) (Pur.load1 rfl ty_111 ?h1_0) ?k1
  case h1_0 => first | (apply Rd.own1; exact zmE; rfl) | exact RdV.rd (by assumption)
  refine SA.takeW 4 (by kernel_rfl) rfl rfl rfl (Wanted.plain rfl) (tells_move rfl) ?_
  refine SA.takeP 5 (by kernel_rfl) rfl rfl rfl (Wanted.plain rfl) (fun _ _ => Pur.typeAssert rfl isPlainT_31) ?_
  refine SA.new 6 rfl rfl rfl (Wanted.plain rfl) (by kernel_rfl) (New.buildSliceN (xs := [.tmp 9]) (vss := [hashCells x]) sl_111 zc_31 rfl rfl rfl (by rfl) (by rfl)) (.inr ⟨zsL, View.le_refl _⟩) (fun b10 => ?_)
  refine' SA.any 7 rfl rfl rfl (Wanted.plain rfl) (by kernel_rfl) (Any.push (H1 := [(b10, _)]) (H2 := (b, _) :: Hr) sl_111 zc_31 rfl by_31 rfl rfl hso ?h2_0 ?h2_1 ?h2_2 ?h2_3 rfl (by omega) (by omega)) (fun _ _ _ hJ => .inr ⟨by (obtain ⟨_, _, hσ, hH⟩ := hJ; subst hH; (try simp only [List.append_assoc, List.cons_append, List.nil_append]); exact zsL), View.le_refl _⟩) ?k2
  case h2_0 => apply Rd.own_sub; exact zmE; exact Sub.refl _
  case h2_1 => first | rfl | assumption
  case h2_2 => first | rfl | assumption
  case h2_3 => exact ⟨rfl, hx⟩
  rintro v11 σ _ ⟨ho', hso', rfl, rfl⟩ _
  have h1c := SlO.one_cell hso'
  refine SA.run 8 rfl (fun _ e => by cases e; rfl) (Wanted.plain rfl) (by kernel_rfl) (Pur.run (Pur.nilCheck rfl)) (.inl (by decide)) ?_
  refine' SA.run 9 rfl (fun _ e => by cases e) (Wanted.plain rfl) (by kernel_rfl) (Run.store1 rfl rfl ty_111 (by first | rfl | assumption) ?h3_0 ?h3_1 sz_111) (.inl (by decide)) ?k3
  case h3_0 => repeat (first | exact Part.one | exact Part.here | apply Part.cons | apply Part.app)
  case h3_1 => exact Nat.zero_lt_one
  refine SA.done (by kernel_rfl) ?_
  refine WQ.ret0 Try.results163 (ho' ++ [(b, rowO 111 [v11])]) (.inr rfl) (by simp only [List.nil_append, List.append_assoc, List.cons_append, List.set_cons_zero]; exact List.Sublist.cons _ (List.Sublist.refl _)) (View.le_refl _) ?_
  exact ⟨⟨_, _, hso', rfl⟩, rfl⟩

theorem rd_Pop (σ : View) (b b1 cap n : Nat) (hs : List Nat) (l : List Value) (h : HsRow hs cap l) (hn : hs.length = n + 1) (hb : hs.length ≤ 100001) :
    Tri Try.prog 162 #[.pointer (some ⟨b, 0, none⟩)] σ [(b1, rowO 31 l), (b, rowO 111 [.slice (some ⟨b1, 0, none⟩) (n + 1) cap])] (fun v σ' H' => v = .iface 31 (hashV (hs.getD n 0)) ∧ σ' = σ ∧ H' = [(b1, rowO 31 l), (b, rowO 111 [.slice (some ⟨b1, 0, none⟩) n cap])]) := by
  have hcap := h.2.1
  refine Tri.of_body [(0, .pointer (some ⟨b, 0, none⟩))] Try.func162 rfl Try.ntmps162 (by simp) rfl (fun Hr => ?_)
  simp only [List.cons_append, List.nil_append]
  refine WC.seq ?_
  refine WC.region ?_
  refine WL.pur (Pur.assign rfl) ?_
  refine WL.nil ?_
  refine WQ.thn ?_
  refine WC.seq ?_
  refine WC.region ?_
  refine WL.pur (Pur.move rfl) ?_
  refine WL.pur (Pur.nilCheck rfl) ?_
  refine' WL.pur (Pur.load1 rfl ty_111 ?h1_0) ?k1
  case h1_0 => first | (apply Rd.own1; exact zmE; rfl) | exact RdV.rd (by assumption)
  refine WL.pur (Pur.assign rfl) ?_
  refine WL.nil ?_
  refine WQ.thn ?_
  refine WC.seq ?_
  refine WC.region ?_
  refine WL.pur (Pur.move rfl) ?_
  refine WL.pur (Pur.move rfl) ?_
  refine WL.pur (Pur.len rfl isSlice_111) ?_
  refine' WL.pur (Pur.bin rfl rfl ?h2_0) ?k2
  case h2_0 => exact Bin.subK (c := n) (by omega) (by omega)
  refine' WL.pur (Pur.indexAddr rfl rfl sl_111 ?h3_0) ?k3
  case h3_0 => omega
  refine' WL.pur (Pur.loadN rfl ty_31 ?h4_0 ?h4_1) ?k4
  case h4_0 => exact h.rd (by exact List.Mem.head _) (by omega)
  case h4_1 => first | rfl | assumption
  refine WL.new (New.alloc zc_31) (fun b4 => ?_)
  refine' WL.run0 (Run.storeAll rfl rfl ty_31 ?h5_0 (by first | rfl | assumption) ?h5_1 (by first | rfl | assumption)) ?k5
  case h5_0 => repeat (first | exact Part.one | exact Part.here | apply Part.cons | apply Part.app)
  case h5_1 => first | rfl | assumption
  refine WL.nil ?_
  refine WQ.thn ?_
  refine WC.seq ?_
  refine WC.region ?_
  refine WL.pur (Pur.move rfl) ?_
  refine WL.pur (Pur.move rfl) ?_
  refine WL.pur (Pur.move rfl) ?_
  refine WL.pur (Pur.len rfl isSlice_111) ?_
  refine' WL.pur (Pur.bin rfl rfl ?h6_0) ?k6
  case h6_0 => exact Bin.subK (c := n) (by omega) (by omega)
  refine WL.pur (Pur.sliceT rfl rfl sl_111 (by omega)) ?_
  refine WL.pur (Pur.nilCheck rfl) ?_
  refine' WL.run0 (Run.store1 rfl rfl ty_111 (by first | rfl | assumption) ?h7_0 ?h7_1 sz_111) ?k7
  case h7_0 => repeat (first | exact Part.one | exact Part.here | apply Part.cons | apply Part.app)
  case h7_1 => exact Nat.zero_lt_one
  refine WL.nil ?_
  refine WQ.thn ?_
  refine WC.seq ?_
  refine WC.region ?_
  refine' WL.pur (Pur.loadN rfl ty_31 ?h8_0 ?h8_1) ?k8
  case h8_0 => first | (apply Rd.own_sub; exact zmE; exact Sub.refl _) | (apply RdV.rd; assumption)
  case h8_1 => first | rfl | assumption
  refine WL.pur (Pur.makeInterface rfl (mi31 _)) ?_
  refine WL.pur (Pur.assign rfl) ?_
  refine WL.nil ?_
  refine WQ.thn ?_
  refine WC.ret ?_
  refine WQ.ret1 Try.results162 rfl [(b1, rowO 31 l), (b, rowO 111 [.slice (some ⟨b1, 0, none⟩) n cap])] zsL (View.le_refl _) ?_
  exact ⟨rfl, rfl, rfl⟩

end Go.Proofs.Ytgoooilgmabkmaa
namespace Go.Proofs.Ytgoooilgmabkmaa
open Go Go.Sl
set_option linter.unusedVariables false
set_option linter.unusedSimpArgs false
set_option maxRecDepth 100000

theorem heap_up (σ : View) (b b1 cap n j0 : Nat) (hs : List Nat) (l : List Value) (h : HsRow hs cap l) (hn : hs.length = n) (hu : UpInv hs n j0) (hb : n ≤ 100001) :
    Tri Try.prog 70 #[.iface 110 (.pointer (some ⟨b, 0, none⟩)), .int .i64 (j0 : Int)] σ [(b1, rowO 31 l), (b, rowO 111 [.slice (some ⟨b1, 0, none⟩) n cap])] (fun v σ' H' => (∃ gs g2, HsRow gs cap g2 ∧ gs.length = n ∧ gs.Perm hs ∧ HeapN gs n ∧ H' = [(b1, rowO 31 g2), (b, rowO 111 [.slice (some ⟨b1, 0, none⟩) n cap])]) ∧ σ' = σ) := by
  refine Tri.of_body [(0, .iface 110 (.pointer (some ⟨b, 0, none⟩))), (1, .int .i64 (j0 : Int))] Try.func70 rfl Try.ntmps70 (by simp) rfl (fun Hr => ?_)
  simp only [List.cons_append, List.nil_append]
  refine WC.block ?_
  refine WC.loop (fun q m σ' H' => ∃ (j : Nat) (gs : List Nat) (g2 : List Value), q = j ∧ HsRow gs cap g2 ∧ gs.length = n ∧ gs.Perm hs ∧ UpInv gs n j ∧ m = [(0, .iface 110 (.pointer (some ⟨b, 0, none⟩))), (1, .int .i64 (j : Int))] ∧ σ' = σ ∧ H' = (b1, rowO 31 g2) :: (b, rowO 111 [.slice (some ⟨b1, 0, none⟩) n cap]) :: Hr) ⟨j0, hs, l, rfl, h, hn, List.Perm.refl _, hu, rfl, rfl, rfl⟩ zcV zsL ?_
  rintro _ _ σ Hr ⟨j, gs, g2, hqj, hrow, hlen, hperm, hinv, rfl, rfl, rfl⟩
  have hjl := hinv.lt
  have hpj : par j ≤ j := by unfold par; omega
  refine WC.block ?_
  refine WC.seq ?_
  refine WC.region ?_
  refine WL.pur (Pur.move rfl) ?_
  refine' WL.pur (Pur.bin rfl rfl ?h1_0) ?k1
  case h1_0 => exact Bin.subI (by omega)
  refine' WL.pur (Pur.bin rfl rfl ?h2_0) ?k2
  case h2_0 => exact Bin.quoPar (by omega)
  refine WL.pur (Pur.assign rfl) ?_
  refine WL.nil ?_
  refine WQ.thn ?_
  refine WC.seq ?_
  refine WC.seq ?_
  refine WC.region ?_
  refine WL.pur (Pur.move rfl) ?_
  refine WL.pur (Pur.move rfl) ?_
  refine' WL.pur (Pur.bin rfl rfl ?h3_0) ?k3
  case h3_0 => first | exact Bin.eqN | exact Bin.eqI
  refine WL.pur (Pur.move rfl) ?_
  refine' WL.orp (u := 11) (t := 17) rfl ?h4_0 ?h4_1 ?h4_2 rfl ?k4
  case h4_0 =>
    intro hg11 K11
    refine WL.gpur (u := 11) rfl rfl (gF hg11) (Pur.move rfl) ?_
    refine WL.gpur (u := 11) rfl rfl (gF hg11) (Pur.move rfl) ?_
    refine WL.gpur (u := 11) rfl rfl (gF hg11) (Pur.move rfl) ?_
    refine WL.gcallI (u := 11) rfl rfl (gF hg11) (H0 := [(b1, rowO 31 g2)]) (Hr := (b, rowO 111 [.slice (some ⟨b1, 0, none⟩) n cap]) :: Hr) rfl rfl (d_Less (sv := .slice (some ⟨b1, 0, none⟩) n cap) (by first | exact List.Mem.head _ | (apply List.Mem.tail; first | exact List.Mem.head _ | (apply List.Mem.tail; exact List.Mem.head _))) _ _) (List.Perm.refl _) (rd_Less _ b1 cap j (par j) n gs g2 hrow hlen (by omega) (by omega)) ?_
    intro vx σx Hx hR _
    obtain ⟨hv, hσ, hH⟩ := hR
    rw [hv, hσ, hH, List.cons_append, List.nil_append]
    first | refine WL.gpur (u := 11) rfl rfl (gF hg11) (Pur.not rfl) ?_ | refine WL.gpur (u := 11) rfl rfl (gF hg11) (Pur.notB rfl) ?_
    exact K11 _ zcR rfl
  case h4_1 =>
    intro hg11 K11
    refine WL.gskip (u := 11) rfl rfl (sF hg11) ?_
    refine WL.gskip (u := 11) rfl rfl (sF hg11) ?_
    refine WL.gskip (u := 11) rfl rfl (sF hg11) ?_
    refine WL.gskip (u := 11) rfl rfl (sF hg11) ?_
    refine WL.gskip (u := 11) rfl rfl (sF hg11) ?_
    exact K11 _ zcR
  case h4_2 => exact Wanted.plain rfl
  refine WL.nil ?_
  refine WQ.thn ?_
  first | refine WC.cond rfl (fun hc0 => ?_) (fun hc0 => ?_) | refine WC.condB rfl (fun hc0 => ?_) (fun hc0 => ?_)
  · refine WC.exit ?_
    refine WQ.thn_exit ?_
    refine WQ.blk_on rfl ?_
    refine WQ.back_exit ?_
    refine WQ.blk_here ?_
    refine WQ.ret0 Try.results70 [(b1, rowO 31 g2), (b, rowO 111 [.slice (some ⟨b1, 0, none⟩) n cap])] (.inr rfl) zsL (View.le_refl _) ?_
    exact ⟨⟨gs, g2, hrow, hlen, hperm, hinv.done (by rcases hc0 with h | h; exact .inl (by unfold par at h; omega); exact .inr h), rfl⟩, rfl⟩
  · have hj0 : 0 < j := by rcases Nat.eq_zero_or_pos j with h0 | h0; exact absurd (.inl (by subst h0; rfl)) hc0; exact h0
    have hltj : gs.getD j 0 < gs.getD (par j) 0 := Decidable.not_not.1 (fun h => hc0 (.inr h))
    refine WC.skip ?_
    refine WQ.thn ?_
    refine WC.seq ?_
    refine WC.region ?_
    refine WL.pur (Pur.move rfl) ?_
    refine WL.pur (Pur.move rfl) ?_
    refine WL.pur (Pur.move rfl) ?_
    refine WL.callI (H0 := [(b1, rowO 31 g2)]) (Hr := (b, rowO 111 [.slice (some ⟨b1, 0, none⟩) n cap]) :: Hr) rfl rfl (d_Swap (sv := .slice (some ⟨b1, 0, none⟩) n cap) (by first | exact List.Mem.head _ | (apply List.Mem.tail; first | exact List.Mem.head _ | (apply List.Mem.tail; exact List.Mem.head _))) _ _) (List.Perm.refl _) (rd_Swap _ b1 cap (par j) j n gs g2 hrow hlen (by omega) (by omega)) ?_
    rintro vx σ _ ⟨⟨g3, hrow3, rfl⟩, rfl⟩ _
    rw [List.cons_append, List.nil_append]
    refine WL.nil ?_
    refine WQ.thn ?_
    refine WC.region ?_
    refine WL.pur (Pur.move rfl) ?_
    refine WL.pur (Pur.assign rfl) ?_
    refine WL.nil ?_
    refine WQ.blk ?_
    refine WQ.back _ ⟨par j, swapL gs (par j) j, g3, rfl, hrow3, by rw [swapL_len]; exact hlen, (swapL_perm (by omega) (by omega)).trans hperm, hinv.step (by omega) hj0 hltj, rfl, rfl, rfl⟩ (by omega) zcV zsL

theorem heap_down (σ : View) (b b1 cap n n0 : Nat) (hs : List Nat) (l : List Value) (h : HsRow hs cap l) (hn : hs.length = n) (hn0 : n0 ≤ n) (hu : DownInv hs n0 0) (hb : n ≤ 100001) :
    Tri Try.prog 71 #[.iface 110 (.pointer (some ⟨b, 0, none⟩)), .int .i64 0, .int .i64 (n0 : Int)] σ [(b1, rowO 31 l), (b, rowO 111 [.slice (some ⟨b1, 0, none⟩) n cap])] (fun v σ' H' => (∃ gs g2, HsRow gs cap g2 ∧ gs.length = n ∧ gs.Perm hs ∧ HeapN gs n0 ∧ (∀ k, n0 ≤ k → gs.getD k 0 = hs.getD k 0) ∧ H' = [(b1, rowO 31 g2), (b, rowO 111 [.slice (some ⟨b1, 0, none⟩) n cap])]) ∧ σ' = σ) := by
  refine Tri.of_body [(0, .iface 110 (.pointer (some ⟨b, 0, none⟩))), (1, .int .i64 0), (2, .int .i64 (n0 : Int))] Try.func71 rfl Try.ntmps71 (by simp) rfl (fun Hr => ?_)
  simp only [List.cons_append, List.nil_append]
  refine WC.seq ?_
  refine WC.region ?_
  refine WL.pur (Pur.assign rfl) ?_
  refine WL.nil ?_
  refine WQ.thn ?_
  refine WC.seq ?_
  refine WC.region ?_
  refine WL.pur (Pur.move rfl) ?_
  refine WL.pur (Pur.assign rfl) ?_
  refine WL.nil ?_
  refine WQ.thn ?_
  refine WC.seq ?_
  refine WC.block ?_
  refine WC.loop (fun q m σ' H' => ∃ (i : Nat) (gs : List Nat) (g2 : List Value), q = n + 1 - i ∧ (i < n ∨ i = 0) ∧ HsRow gs cap g2 ∧ gs.length = n ∧ gs.Perm hs ∧ DownInv gs n0 i ∧ (∀ k, n0 ≤ k → gs.getD k 0 = hs.getD k 0) ∧ m = [(0, .iface 110 (.pointer (some ⟨b, 0, none⟩))), (1, .int .i64 0), (2, .int .i64 (n0 : Int)), (7, .int .i64 (i : Int))] ∧ σ' = σ ∧ H' = (b1, rowO 31 g2) :: (b, rowO 111 [.slice (some ⟨b1, 0, none⟩) n cap]) :: Hr) ⟨0, hs, l, rfl, .inr rfl, h, hn, List.Perm.refl _, hu, fun _ _ => rfl, rfl, rfl, rfl⟩ zcV zsL ?_
  rintro _ _ σ Hr ⟨i, gs, g2, rfl, hi, hrow, hlen, hperm, hinv, hrest, rfl, rfl, rfl⟩
  refine WC.block ?_
  refine WC.seq ?_
  refine WC.region ?_
  refine WL.pur (Pur.move rfl) ?_
  refine' WL.pur (Pur.bin rfl rfl ?h1_0) ?k1
  case h1_0 => first | (refine Bin.mulN (a := 2) ?_; omega)
  refine' WL.pur (Pur.bin rfl rfl ?h2_0) ?k2
  case h2_0 => first | (refine Bin.addN (b := 1) ?_; omega) | (refine Bin.addI ?_; omega)
  refine WL.pur (Pur.assign rfl) ?_
  refine WL.nil ?_
  refine WQ.thn ?_
  refine WC.seq ?_
  refine WC.seq ?_
  refine WC.region ?_
  refine WL.pur (Pur.move rfl) ?_
  refine WL.pur (Pur.move rfl) ?_
  refine' WL.pur (Pur.bin rfl rfl ?h3_0) ?k3
  case h3_0 => first | exact Bin.geN | exact Bin.geI
  refine WL.pur (Pur.move rfl) ?_
  refine' WL.orp (u := 18) (t := 21) rfl ?h4_0 ?h4_1 ?h4_2 rfl ?k4
  case h4_0 =>
    intro hg18 K18
    refine WL.gpur (u := 18) rfl rfl (gF hg18) (Pur.move rfl) ?_
    refine' WL.gpur (u := 18) rfl rfl (gF hg18) (Pur.bin rfl rfl ?h5_0) ?k5
    case h5_0 => first | exact Bin.ltN (b := 0) | exact Bin.ltI | exact Bin.ltS
    exact K18 _ zcR rfl
  case h4_1 =>
    intro hg18 K18
    refine WL.gskip (u := 18) rfl rfl (sF hg18) ?_
    refine WL.gskip (u := 18) rfl rfl (sF hg18) ?_
    exact K18 _ zcR
  case h4_2 => exact Wanted.plain rfl
  refine WL.nil ?_
  refine WQ.thn ?_
  first | refine WC.cond rfl (fun hc0 => ?_) (fun hc0 => ?_) | refine WC.condB rfl (fun hc0 => ?_) (fun hc0 => ?_)
  · refine WC.exit ?_
    refine WQ.thn_exit ?_
    refine WQ.blk_on rfl ?_
    refine WQ.back_exit ?_
    refine WQ.blk_here ?_
    refine WQ.thn ?_
    refine WC.seq ?_
    refine WC.region ?_
    refine WL.pur (Pur.move rfl) ?_
    refine WL.pur (Pur.move rfl) ?_
    refine' WL.pur (Pur.bin rfl rfl ?h6_0) ?k6
    case h6_0 => first | exact Bin.gtN | exact Bin.gtI
    refine WL.pur (Pur.assign rfl) ?_
    refine WL.nil ?_
    refine WQ.thn ?_
    refine WC.ret ?_
    refine WQ.ret1 Try.results71 rfl [(b1, rowO 31 g2), (b, rowO 111 [.slice (some ⟨b1, 0, none⟩) n cap])] zsL (View.le_refl _) ?_
    exact ⟨⟨gs, g2, hrow, hlen, hperm, hinv.done (fun k h0 hk hkp => by rcases (par_kids h0).1 hkp with rfl | rfl; omega; omega), hrest, rfl⟩, rfl⟩
  · refine WC.skip ?_
    refine WQ.thn ?_
    refine WC.seq ?_
    refine WC.region ?_
    refine WL.pur (Pur.move rfl) ?_
    refine WL.pur (Pur.assign rfl) ?_
    refine WL.nil ?_
    refine WQ.thn ?_
    refine WC.seq ?_
    refine WC.seq ?_
    refine WC.region ?_
    refine WL.pur (Pur.move rfl) ?_
    refine' WL.pur (Pur.bin rfl rfl ?h7_0) ?k7
    case h7_0 => first | (refine Bin.addN (b := 1) ?_; omega) | (refine Bin.addI ?_; omega)
    refine WL.pur (Pur.assign rfl) ?_
    refine WL.nil ?_
    refine WQ.thn ?_
    refine WC.seq ?_
    refine WC.region ?_
    refine WL.pur (Pur.move rfl) ?_
    refine WL.pur (Pur.move rfl) ?_
    refine' WL.pur (Pur.bin rfl rfl ?h8_0) ?k8
    case h8_0 => first | exact Bin.ltN | exact Bin.ltI | exact Bin.ltS
    refine WL.pur (Pur.move rfl) ?_
    refine' WL.andp (u := 28) (t := 33) rfl ?h9_0 ?h9_1 ?h9_2 rfl ?k9
    case h9_0 =>
      intro hg28 K28
      refine WL.gpur (u := 28) rfl rfl (gT hg28) (Pur.move rfl) ?_
      refine WL.gpur (u := 28) rfl rfl (gT hg28) (Pur.move rfl) ?_
      refine WL.gpur (u := 28) rfl rfl (gT hg28) (Pur.move rfl) ?_
      refine WL.gcallI (u := 28) rfl rfl (gT hg28) (H0 := [(b1, rowO 31 g2)]) (Hr := (b, rowO 111 [.slice (some ⟨b1, 0, none⟩) n cap]) :: Hr) rfl rfl (d_Less (sv := .slice (some ⟨b1, 0, none⟩) n cap) (by first | exact List.Mem.head _ | (apply List.Mem.tail; first | exact List.Mem.head _ | (apply List.Mem.tail; exact List.Mem.head _))) _ _) (List.Perm.refl _) (rd_Less _ b1 cap (2 * i + 1 + 1) (2 * i + 1) n gs g2 hrow hlen (by omega) (by omega)) ?_
      intro vx σx Hx hR _
      obtain ⟨hv, hσ, hH⟩ := hR
      rw [hv, hσ, hH, List.cons_append, List.nil_append]
      exact K28 _ zcR rfl
    case h9_1 =>
      intro hg28 K28
      refine WL.gskip (u := 28) rfl rfl (sT hg28) ?_
      refine WL.gskip (u := 28) rfl rfl (sT hg28) ?_
      refine WL.gskip (u := 28) rfl rfl (sT hg28) ?_
      refine WL.gskip (u := 28) rfl rfl (sT hg28) ?_
      exact K28 _ zcR
    case h9_2 => exact Wanted.plain rfl
    refine WL.nil ?_
    refine WQ.thn ?_
    first | refine WC.cond rfl (fun hc1 => ?_) (fun hc1 => ?_) | refine WC.condB rfl (fun hc1 => ?_) (fun hc1 => ?_)
    · refine WC.region ?_
      refine WL.pur (Pur.move rfl) ?_
      refine WL.pur (Pur.assign rfl) ?_
      refine WL.nil ?_
      refine WQ.thn ?_
      refine WC.seq ?_
      refine WC.seq ?_
      refine WC.region ?_
      refine WL.pur (Pur.move rfl) ?_
      refine WL.pur (Pur.move rfl) ?_
      refine WL.pur (Pur.move rfl) ?_
      refine WL.callI (H0 := [(b1, rowO 31 g2)]) (Hr := (b, rowO 111 [.slice (some ⟨b1, 0, none⟩) n cap]) :: Hr) rfl rfl (d_Less (sv := .slice (some ⟨b1, 0, none⟩) n cap) (by first | exact List.Mem.head _ | (apply List.Mem.tail; first | exact List.Mem.head _ | (apply List.Mem.tail; exact List.Mem.head _))) _ _) (List.Perm.refl _) (rd_Less _ b1 cap (2 * i + 1 + 1) i n gs g2 hrow hlen (by omega) (by omega)) ?_
      intro vx σx Hx hR _
      obtain ⟨hv, hσ, hH⟩ := hR
      rw [hv, hσ, hH, List.cons_append, List.nil_append]
      first | refine WL.pur (Pur.not rfl) ?_ | refine WL.pur (Pur.notB rfl) ?_
      refine WL.nil ?_
      refine WQ.thn ?_
      first | refine WC.cond rfl (fun hc2 => ?_) (fun hc2 => ?_) | refine WC.condB rfl (fun hc2 => ?_) (fun hc2 => ?_)
      · refine WC.exit ?_
        refine WQ.thn_exit ?_
        refine WQ.blk_on rfl ?_
        refine WQ.back_exit ?_
        refine WQ.blk_here ?_
        refine WQ.thn ?_
        refine WC.seq ?_
        refine WC.region ?_
        refine WL.pur (Pur.move rfl) ?_
        refine WL.pur (Pur.move rfl) ?_
        refine' WL.pur (Pur.bin rfl rfl ?h10_0) ?k10
        case h10_0 => first | exact Bin.gtN | exact Bin.gtI
        refine WL.pur (Pur.assign rfl) ?_
        refine WL.nil ?_
        refine WQ.thn ?_
        refine WC.ret ?_
        refine WQ.ret1 Try.results71 rfl [(b1, rowO 31 g2), (b, rowO 111 [.slice (some ⟨b1, 0, none⟩) n cap])] zsL (View.le_refl _) ?_
        exact ⟨⟨gs, g2, hrow, hlen, hperm, hinv.done (fun k h0 hk hkp => by rcases (par_kids h0).1 hkp with rfl | rfl; omega; omega), hrest, rfl⟩, rfl⟩
      · refine WC.skip ?_
        refine WQ.thn ?_
        refine WC.seq ?_
        refine WC.region ?_
        refine WL.pur (Pur.move rfl) ?_
        refine WL.pur (Pur.move rfl) ?_
        refine WL.pur (Pur.move rfl) ?_
        refine WL.callI (H0 := [(b1, rowO 31 g2)]) (Hr := (b, rowO 111 [.slice (some ⟨b1, 0, none⟩) n cap]) :: Hr) rfl rfl (d_Swap (sv := .slice (some ⟨b1, 0, none⟩) n cap) (by first | exact List.Mem.head _ | (apply List.Mem.tail; first | exact List.Mem.head _ | (apply List.Mem.tail; exact List.Mem.head _))) _ _) (List.Perm.refl _) (rd_Swap _ b1 cap i (2 * i + 1 + 1) n gs g2 hrow hlen (by omega) (by omega)) ?_
        rintro vx σ _ ⟨⟨g3, hrow3, rfl⟩, rfl⟩ _
        rw [List.cons_append, List.nil_append]
        refine WL.nil ?_
        refine WQ.thn ?_
        refine WC.region ?_
        refine WL.pur (Pur.move rfl) ?_
        refine WL.pur (Pur.assign rfl) ?_
        refine WL.nil ?_
        refine WQ.blk ?_
        refine WQ.back _ ⟨(2 * i + 1 + 1), swapL gs i (2 * i + 1 + 1), g3, rfl, by omega, hrow3, by rw [swapL_len]; exact hlen, (swapL_perm (by omega) (by omega)).trans hperm, hinv.step (by omega) (by unfold par; omega) (by omega) (by omega) (by intro k h0 hk hkp; rcases (par_kids h0).1 hkp with rfl | rfl; omega; exact Nat.le_refl _) (by omega), fun k hk => by rw [swapL_get (by omega) (by omega), if_neg (by omega), if_neg (by omega)]; exact hrest k hk, rfl, rfl, rfl⟩ (by omega) zcV zsL
    · refine WC.skip ?_
      refine WQ.thn ?_
      refine WC.seq ?_
      refine WC.seq ?_
      refine WC.region ?_
      refine WL.pur (Pur.move rfl) ?_
      refine WL.pur (Pur.move rfl) ?_
      refine WL.pur (Pur.move rfl) ?_
      refine WL.callI (H0 := [(b1, rowO 31 g2)]) (Hr := (b, rowO 111 [.slice (some ⟨b1, 0, none⟩) n cap]) :: Hr) rfl rfl (d_Less (sv := .slice (some ⟨b1, 0, none⟩) n cap) (by first | exact List.Mem.head _ | (apply List.Mem.tail; first | exact List.Mem.head _ | (apply List.Mem.tail; exact List.Mem.head _))) _ _) (List.Perm.refl _) (rd_Less _ b1 cap (2 * i + 1) i n gs g2 hrow hlen (by omega) (by omega)) ?_
      intro vx σx Hx hR _
      obtain ⟨hv, hσ, hH⟩ := hR
      rw [hv, hσ, hH, List.cons_append, List.nil_append]
      first | refine WL.pur (Pur.not rfl) ?_ | refine WL.pur (Pur.notB rfl) ?_
      refine WL.nil ?_
      refine WQ.thn ?_
      first | refine WC.cond rfl (fun hc3 => ?_) (fun hc3 => ?_) | refine WC.condB rfl (fun hc3 => ?_) (fun hc3 => ?_)
      · refine WC.exit ?_
        refine WQ.thn_exit ?_
        refine WQ.blk_on rfl ?_
        refine WQ.back_exit ?_
        refine WQ.blk_here ?_
        refine WQ.thn ?_
        refine WC.seq ?_
        refine WC.region ?_
        refine WL.pur (Pur.move rfl) ?_
        refine WL.pur (Pur.move rfl) ?_
        refine' WL.pur (Pur.bin rfl rfl ?h11_0) ?k11
        case h11_0 => first | exact Bin.gtN | exact Bin.gtI
        refine WL.pur (Pur.assign rfl) ?_
        refine WL.nil ?_
        refine WQ.thn ?_
        refine WC.ret ?_
        refine WQ.ret1 Try.results71 rfl [(b1, rowO 31 g2), (b, rowO 111 [.slice (some ⟨b1, 0, none⟩) n cap])] zsL (View.le_refl _) ?_
        exact ⟨⟨gs, g2, hrow, hlen, hperm, hinv.done (fun k h0 hk hkp => by rcases (par_kids h0).1 hkp with rfl | rfl; omega; have h5 := Nat.le_of_not_lt (fun h => hc1 ⟨hk, h⟩); omega), hrest, rfl⟩, rfl⟩
      · refine WC.skip ?_
        refine WQ.thn ?_
        refine WC.seq ?_
        refine WC.region ?_
        refine WL.pur (Pur.move rfl) ?_
        refine WL.pur (Pur.move rfl) ?_
        refine WL.pur (Pur.move rfl) ?_
        refine WL.callI (H0 := [(b1, rowO 31 g2)]) (Hr := (b, rowO 111 [.slice (some ⟨b1, 0, none⟩) n cap]) :: Hr) rfl rfl (d_Swap (sv := .slice (some ⟨b1, 0, none⟩) n cap) (by first | exact List.Mem.head _ | (apply List.Mem.tail; first | exact List.Mem.head _ | (apply List.Mem.tail; exact List.Mem.head _))) _ _) (List.Perm.refl _) (rd_Swap _ b1 cap i (2 * i + 1) n gs g2 hrow hlen (by omega) (by omega)) ?_
        rintro vx σ _ ⟨⟨g3, hrow3, rfl⟩, rfl⟩ _
        rw [List.cons_append, List.nil_append]
        refine WL.nil ?_
        refine WQ.thn ?_
        refine WC.region ?_
        refine WL.pur (Pur.move rfl) ?_
        refine WL.pur (Pur.assign rfl) ?_
        refine WL.nil ?_
        refine WQ.blk ?_
        refine WQ.back _ ⟨(2 * i + 1), swapL gs i (2 * i + 1), g3, rfl, by omega, hrow3, by rw [swapL_len]; exact hlen, (swapL_perm (by omega) (by omega)).trans hperm, hinv.step (by omega) (by unfold par; omega) (by omega) (by omega) (by intro k h0 hk hkp; rcases (par_kids h0).1 hkp with rfl | rfl; exact Nat.le_refl _; exact Nat.le_of_not_lt (fun h => hc1 ⟨hk, h⟩)) (by omega), fun k hk => by rw [swapL_get (by omega) (by omega), if_neg (by omega), if_neg (by omega)]; exact hrest k hk, rfl, rfl, rfl⟩ (by omega) zcV zsL

end Go.Proofs.Ytgoooilgmabkmaa
namespace Go.Proofs.Ytgoooilgmabkmaa
open Go Go.Sl
set_option linter.unusedVariables false
set_option linter.unusedSimpArgs false
set_option maxRecDepth 100000

theorem take_getD {gs : List Nat} {n : Nat} (hn : gs.length = n + 1) : gs = gs.take n ++ [gs.getD n 0] := by
  apply List.ext_getElem?
  intro k
  by_cases hk : k < n
  · rw [List.getElem?_append_left (by simp; omega), List.getElem?_take_of_lt hk]
  · rw [List.getElem?_append_right (by simp; omega)]
    have hl : (gs.take n).length = n := by simp; omega
    rw [hl]
    by_cases hk2 : k = n
    · subst hk2; rw [getD_some (by omega)]; simp
    · rw [List.getElem?_eq_none (by omega), List.getElem?_eq_none (by simp; omega)]
theorem take_getD' {gs : List Nat} {n k : Nat} (hk : k < n) : (gs.take n).getD k 0 = gs.getD k 0 := by
  rw [List.getD_eq_getElem?_getD, List.getD_eq_getElem?_getD, List.getElem?_take_of_lt hk]

theorem heap_Push (σ : View) (b x : Nat) (sv : Value) (hs : List Nat) (h : HList) (hso : SlO σ eHash 31 32 sv hs h) (hheap : HeapN hs hs.length) (hx : IsH x) (hb : hs.length ≤ 100000) :
    Tri Try.prog 57 #[.iface 110 (.pointer (some ⟨b, 0, none⟩)), .iface 31 (hashV x)] σ (h ++ [(b, rowO 111 [sv])]) (fun v σ' H' => (∃ sv' gs h', SlO σ eHash 31 32 sv' gs h' ∧ gs.Perm (hs ++ [x]) ∧ HeapN gs gs.length ∧ H' = h' ++ [(b, rowO 111 [sv'])]) ∧ σ' = σ) := by
  refine Tri.of_body [(0, .iface 110 (.pointer (some ⟨b, 0, none⟩))), (1, .iface 31 (hashV x))] Try.func57 rfl Try.ntmps57 (by simp) rfl (fun Hr => ?_)
  skip
  refine WC.seq ?_
  refine WC.region ?_
  refine WL.pur (Pur.move rfl) ?_
  refine WL.pur (Pur.move rfl) ?_
  refine WL.callI (H0 := h ++ [(b, rowO 111 [sv])]) (Hr := Hr) rfl rfl (d_Push _ _) (List.Perm.refl _) (rd_Push _ b x sv hs h hso hx hb) ?_
  rintro v6 σ _ ⟨⟨sv2, h2, hso2, rfl⟩, rfl⟩ _
  obtain ⟨b1, cap, l, rfl, rfl, hrow⟩ := hso2.hsRow (by simp)
  simp only [List.cons_append, List.nil_append]
  have hup := hheap.push (x := x)
  refine WL.nil ?_
  refine WQ.thn ?_
  refine WC.region ?_
  refine WL.pur (Pur.move rfl) ?_
  refine WL.pur (Pur.move rfl) ?_
  refine WL.callIP rfl rfl (d_Len (sv := .slice (some ⟨b1, 0, none⟩) (hs ++ [x]).length cap) (by first | exact List.Mem.head _ | (apply List.Mem.tail; first | exact List.Mem.head _ | (apply List.Mem.tail; exact List.Mem.head _)))) (rd_Len _ _ _ _) ?_
  refine' WL.pur (Pur.bin rfl rfl ?h1_0) ?k1
  case h1_0 => exact Bin.subK (c := hs.length) (by simp) (by omega)
  refine WL.call (H0 := [(b1, rowO 31 l), (b, rowO 111 [.slice (some ⟨b1, 0, none⟩) (hs ++ [x]).length cap])]) (Hr := Hr) rfl Try.call70 (List.Perm.refl _) (heap_up _ b b1 cap _ hs.length (hs ++ [x]) l hrow rfl (by simpa using hup) (by simp; omega)) ?_
  rintro v11 σ _ ⟨⟨gs, g2, hrow2, hlen2, hperm2, hheap2, rfl⟩, rfl⟩ _
  have hs2 := hrow2.slO (σ := σ) (b := b1)
  rw [hlen2] at hs2
  refine WL.nil ?_
  refine WQ.ret0 Try.results57 ([(b1, rowO 31 g2)] ++ [(b, rowO 111 [.slice (some ⟨b1, 0, none⟩) (hs ++ [x]).length cap])]) (.inr rfl) (List.Sublist.refl _) (View.le_refl _) ?_
  exact ⟨⟨_, gs, _, hs2, hperm2, by rw [hlen2]; exact hheap2, rfl⟩, rfl⟩

theorem heap_Pop (σ : View) (b n : Nat) (sv : Value) (hs : List Nat) (h : HList) (hso : SlO σ eHash 31 32 sv hs h) (hheap : HeapN hs hs.length) (hn : hs.length = n + 1) (hb : hs.length ≤ 100000) :
    Tri Try.prog 59 #[.iface 110 (.pointer (some ⟨b, 0, none⟩))] σ (h ++ [(b, rowO 111 [sv])]) (fun v σ' H' => v = .iface 31 (hashV (hs.getD 0 0)) ∧ (∃ sv' gs h', SlO σ eHash 31 32 sv' gs h' ∧ (gs ++ [hs.getD 0 0]).Perm hs ∧ HeapN gs gs.length ∧ H' = h' ++ [(b, rowO 111 [sv'])]) ∧ σ' = σ) := by
  obtain ⟨b1, cap, l, rfl, rfl, hrow⟩ := hso.hsRow (by omega)
  rw [hn]
  have hpop := hheap.pop hn
  refine Tri.of_body [(0, .iface 110 (.pointer (some ⟨b, 0, none⟩)))] Try.func59 rfl Try.ntmps59 (by simp) rfl (fun Hr => ?_)
  simp only [List.cons_append, List.nil_append]
  refine WC.seq ?_
  refine WC.region ?_
  refine WL.pur (Pur.assign rfl) ?_
  refine WL.nil ?_
  refine WQ.thn ?_
  refine WC.seq ?_
  refine WC.region ?_
  refine WL.pur (Pur.move rfl) ?_
  refine WL.callIP rfl rfl (d_Len (sv := .slice (some ⟨b1, 0, none⟩) (n + 1) cap) (by first | exact List.Mem.head _ | (apply List.Mem.tail; first | exact List.Mem.head _ | (apply List.Mem.tail; exact List.Mem.head _)))) (rd_Len _ _ _ _) ?_
  refine' WL.pur (Pur.bin rfl rfl ?h1_0) ?k1
  case h1_0 => exact Bin.subK (c := n) (by omega) (by omega)
  refine WL.pur (Pur.assign rfl) ?_
  refine WL.nil ?_
  refine WQ.thn ?_
  refine WC.seq ?_
  refine WC.region ?_
  refine WL.pur (Pur.move rfl) ?_
  refine WL.pur (Pur.move rfl) ?_
  refine WL.callI (H0 := [(b1, rowO 31 l)]) (Hr := (b, rowO 111 [.slice (some ⟨b1, 0, none⟩) (n + 1) cap]) :: Hr) rfl rfl (d_Swap (sv := .slice (some ⟨b1, 0, none⟩) (n + 1) cap) (by first | exact List.Mem.head _ | (apply List.Mem.tail; first | exact List.Mem.head _ | (apply List.Mem.tail; exact List.Mem.head _))) _ _) (List.Perm.refl _) (rd_Swap _ b1 cap 0 n (n + 1) hs l hrow hn (by omega) (by omega)) ?_
  rintro vx σ _ ⟨⟨g1, hrow1, rfl⟩, rfl⟩ _
  rw [List.cons_append, List.nil_append]
  refine WL.nil ?_
  refine WQ.thn ?_
  refine WC.seq ?_
  refine WC.region ?_
  refine WL.pur (Pur.move rfl) ?_
  refine WL.pur (Pur.move rfl) ?_
  refine WL.call (H0 := [(b1, rowO 31 g1), (b, rowO 111 [.slice (some ⟨b1, 0, none⟩) (n + 1) cap])]) (Hr := Hr) rfl Try.call71 (List.Perm.refl _) (heap_down _ b b1 cap (n + 1) n (swapL hs 0 n) g1 hrow1 (by rw [swapL_len]; exact hn) (by omega) hpop (by omega)) ?_
  rintro v12 σ _ ⟨⟨gs, g2, hrow2, hlen2, hperm2, hheap2, hrest2, rfl⟩, rfl⟩ _
  have hlast : gs.getD n 0 = hs.getD 0 0 := by rw [hrest2 n (Nat.le_refl _), swapL_get (by omega) (by omega), if_pos rfl]
  have htl : (gs.take n).length = n := by simp; omega
  have hs2 := (hrow2.pop (gs := gs.take n) (by omega) (fun k hk => take_getD' (by omega))).slO (σ := σ) (b := b1)
  rw [htl] at hs2
  refine WL.nil ?_
  refine WQ.thn ?_
  refine WC.seq ?_
  refine WC.region ?_
  refine WL.pur (Pur.move rfl) ?_
  refine WL.callI (H0 := [(b1, rowO 31 g2), (b, rowO 111 [.slice (some ⟨b1, 0, none⟩) (n + 1) cap])]) (Hr := Hr) rfl rfl (d_Pop _) (List.Perm.refl _) (rd_Pop _ b b1 cap n gs g2 hrow2 hlen2 (by omega)) ?_
  rintro v14 σ _ ⟨rfl, rfl, rfl⟩ _
  refine WL.pur (Pur.assign rfl) ?_
  refine WL.nil ?_
  refine WQ.thn ?_
  refine WC.ret ?_
  refine WQ.ret1 Try.results59 rfl ([(b1, rowO 31 g2)] ++ [(b, rowO 111 [.slice (some ⟨b1, 0, none⟩) n cap])]) (List.Sublist.refl _) (View.le_refl _) ?_
  refine ⟨by rw [hlast], ⟨_, gs.take n, _, hs2, ?_, ?_, rfl⟩, rfl⟩
  · rw [← hlast, ← take_getD hlen2]; exact hperm2.trans (swapL_perm (by omega) (by omega))
  · rw [htl]; exact hheap2.congr (fun k hk => take_getD' hk)

end Go.Proofs.Ytgoooilgmabkmaa
namespace Go.Proofs.Ytgoooilgmabkmaa
open Go Go.Sl
set_option linter.unusedVariables false
set_option linter.unusedSimpArgs false
set_option maxRecDepth 100000

theorem past_order (σ : View) (lv : Value) (bm : Nat) (l : List EntD) (h : Ents σ lv l) (hg : GoodE l) (hat : σ bm = some (mapO hashV (idsFrom l 0))) :
    Tri Try.prog 37 #[lv, .map (some bm)] σ [] (fun v σ' H' => ∃ h, SlO σ' eEnt 37 36 v (ordE l) h ∧ H' = h) := by
  have h' := h
  obtain ⟨la, lc, rfl, hlc, hlby⟩ := h.shape
  obtain ⟨lb, loff, hel⟩ := addr_of h
  have hmost := hg.most
  have hids : ∀ e ∈ l, IsH e.id := fun e he => by
    obtain ⟨i, hi⟩ := List.getElem?_of_mem he
    obtain ⟨_, _, _, hH, _⟩ := ent_rd h' hel hi
    exact hH
  have hok := ids_ok hids 0
  refine Tri.of_body [(0, .slice la l.length lc), (1, .map (some bm))] Try.func37 rfl Try.ntmps37 (by simp) rfl (fun Hr => ?_)
  rw [List.nil_append]
  refine WC.seq ?_
  refine WC.region ?_
  refine WL.pur (Pur.assign rfl) ?_
  refine WL.nil ?_
  refine WQ.thn ?_
  refine WC.seq ?_
  refine WC.region ?_
  refine WL.pur (Pur.move rfl) ?_
  refine WL.pur (Pur.len rfl isSlice_23) ?_
  refine WL.any (Any.make1 sl_24 zc_3 by_3 rfl rfl (by omega) (by omega)) ?_
  rintro _ σ _ ⟨b18, rfl, rfl, rfl⟩ _
  refine WL.pur (Pur.assign rfl) ?_
  refine WL.nil ?_
  refine WQ.thn ?_
  refine WC.seq ?_
  refine WC.region ?_
  refine WL.pur (Pur.move rfl) ?_
  refine WL.pur (Pur.len rfl isSlice_23) ?_
  refine WL.any (Any.make1 sl_109 zc_24 by_24 rfl rfl (by omega) (by omega)) ?_
  rintro _ σ _ ⟨b21, rfl, rfl, rfl⟩ _
  refine WL.pur (Pur.assign rfl) ?_
  refine WL.nil ?_
  refine WQ.thn ?_
  refine WC.seq ?_
  refine WC.region ?_
  refine WL.new (New.buildSlice0 sl_111) (fun b22 => ?_)
  refine WL.new (New.box1 rfl (by rfl)) (fun b23 => ?_)
  refine WL.pur (Pur.assign rfl) ?_
  refine WL.nil ?_
  refine WQ.thn ?_
  refine WC.seq ?_
  refine WC.seq ?_
  refine WC.region ?_
  refine WL.pur (Pur.move rfl) ?_
  refine WL.pur (Pur.len rfl isSlice_23) ?_
  refine WL.pur (Pur.move rfl) ?_
  refine WL.nil ?_
  refine WQ.thn ?_
  refine WC.block ?_
  rw [replicate_range, replicate_range]
  refine WC.perm ?_ (List.Perm.swap _ _ _)
  refine WC.loop (fun j m σ' H' => ∃ (i : Nat) (svs : Nat → Value) (hs : Nat → HList) (g : Nat → Value) (hp : List Nat) (sv : Value) (hh : HList), j = l.length - i ∧ i ≤ l.length ∧ KidsO σ' l.length (kidsF l i 0) svs hs ∧ (∀ k, k < l.length → g k = .int .i64 ((if k < i then (parsAt l k).length else 0 : Nat) : Int)) ∧ SlO σ' eHash 31 32 sv hp hh ∧ HeapN hp hp.length ∧ hp.Perm (((List.range i).filter (readyB l [])).map (idAt l)) ∧ m = [(0, .slice la l.length lc), (1, .map (some bm)), (5, .slice (some ⟨b18, 0, none⟩) l.length l.length), (6, .slice (some ⟨b21, 0, none⟩) l.length l.length), (7, .pointer (some ⟨b23, 0, none⟩)), (24, .slice la l.length lc), (25, .int .i64 (l.length : Int)), (26, .int .i64 (i : Int))] ∧ σ' = σ ∧ H' = hh ++ (b23, rowO 111 [sv]) :: (b21, rowO 24 ((List.range l.length).map svs)) :: (b18, rowO 3 ((List.range l.length).map g)) :: ((List.range l.length).flatMap hs ++ Hr)) ⟨0, fun _ => .slice none 0 0, fun _ => [], fun _ => .int .i64 0, [], _, [(b22, rowO 31 [])], rfl, by omega, fun n hn => by rw [kidsF_zero]; exact SlO.nil, fun k _ => by simp, row_nilH _ b22, fun k h0 hk => absurd hk (Nat.not_lt_zero _), List.Perm.refl _, rfl, rfl, rfl⟩ zcV (by rw [flat_nil]; exact List.Sublist.refl _) ?_
  rintro _ _ σ Hr ⟨i, svs, hs, g, hp0, sv, hh, rfl, hi, hk, hgr, hso, hheap, hperm, rfl, rfl, rfl⟩
  refine WC.seq ?_
  refine WC.region ?_
  refine' WL.pur (Pur.bin rfl rfl ?h1_0) ?k1
  case h1_0 => first | exact Bin.ltN | exact Bin.ltI | exact Bin.ltS
  refine WL.nil ?_
  refine WQ.thn ?_
  refine WC.seq ?_
  first | refine WC.cond rfl (fun hc0 => ?_) (fun hc0 => ?_) | refine WC.condB rfl (fun hc0 => ?_) (fun hc0 => ?_)
  · obtain ⟨e, he⟩ : ∃ e, l[i]? = some e := ⟨_, List.getElem?_eq_getElem hc0⟩
    obtain ⟨pv, ov, hrd, heH, hNR⟩ := ent_rd h' hel he
    have hps' := hNR.1
    have hops' := hNR.2.1
    obtain ⟨pa, pc, rfl, hpc, hpb⟩ := hps'.shape
    obtain ⟨oa, oc, rfl, hoc, hob⟩ := hops'.shape
    obtain ⟨pb, poff, hep⟩ := addr_of hps'
    have hpa := parsAt_of he
    have hie := idAt_of he
    refine WC.skip ?_
    refine WQ.thn ?_
    refine WC.seq ?_
    refine WC.block ?_
    refine WC.seq ?_
    refine WC.region ?_
    refine WL.pur (Pur.move rfl) ?_
    refine' WL.pur (Pur.indexAddr (eqA (hel (by omega))) rfl sl_23 ?h2_0) ?k2
    case h2_0 => omega
    refine' WL.pur (Pur.loadN rfl ty_37 ?h3_0 ?h3_1) ?k3
    case h3_0 => first | (apply Rd.own_sub; exact zmE; exact Sub.refl _) | (apply RdV.rd; assumption)
    case h3_1 => first | rfl | assumption
    refine WL.new (New.alloc zc_37) (fun b9 => ?_)
    refine WL.pur (Pur.assign rfl) ?_
    refine' WL.run0 (Run.storeAll rfl rfl ty_37 ?h4_0 (by first | rfl | assumption) ?h4_1 (by first | rfl | assumption)) ?k4
    case h4_0 => repeat (first | exact Part.one | exact Part.here | apply Part.cons | apply Part.app)
    case h4_1 => first | rfl | assumption
    refine WL.nil ?_
    refine WQ.thn ?_
    refine WC.seq ?_
    refine WC.region ?_
    refine WL.pur (Pur.move rfl) ?_
    refine WL.pur (Pur.move rfl) ?_
    refine WL.pur (Pur.fieldAddr rfl fo_37_1) ?_
    refine WL.pur (Pur.fieldAddr rfl fo_35_2) ?_
    refine' WL.pur (Pur.load1 rfl ty_32 ?h5_0) ?k5
    case h5_0 => first | (apply Rd.own1; exact zmE; rfl) | (apply RdV.rd; apply RdV.idx (i := 34); assumption; rfl) | (apply RdV.rd; apply RdV.idx (off := 0) (i := 34); assumption; rfl)
    refine WL.pur (Pur.len rfl isSlice_32) ?_
    refine' WL.pur (Pur.indexAddr rfl rfl sl_24 ?h6_0) ?k6
    case h6_0 => omega
    refine' WL.run0 (Run.storeF rfl rfl ty_3 (by first | rfl | assumption) ?h7_0 ?h7_1 sz_3) ?k7
    case h7_0 => repeat (first | exact Part.one | exact Part.here | apply Part.cons | apply Part.app)
    case h7_1 => first | assumption | omega
    refine WL.nil ?_
    refine WQ.thn ?_
    refine WC.seq ?_
    refine WC.seq ?_
    refine WC.region ?_
    refine WL.pur (Pur.fieldAddr rfl fo_37_1) ?_
    refine WL.pur (Pur.fieldAddr rfl fo_35_2) ?_
    refine' WL.pur (Pur.load1 rfl ty_32 ?h8_0) ?k8
    case h8_0 => first | (apply Rd.own1; exact zmE; rfl) | (apply RdV.rd; apply RdV.idx (i := 34); assumption; rfl) | (apply RdV.rd; apply RdV.idx (off := 0) (i := 34); assumption; rfl)
    refine WL.pur (Pur.len rfl isSlice_32) ?_
    refine WL.pur (Pur.move rfl) ?_
    refine WL.nil ?_
    refine WQ.thn ?_
    refine WC.block ?_
    refine WC.loop (fun j m σ' H' => ∃ (q : Nat) (svs : Nat → Value) (hs : Nat → HList), j = e.node.ps.length - q ∧ q ≤ e.node.ps.length ∧ KidsO σ' l.length (kidsF l i q) svs hs ∧ m = [(0, .slice la l.length lc), (1, .map (some bm)), (5, .slice (some ⟨b18, 0, none⟩) l.length l.length), (6, .slice (some ⟨b21, 0, none⟩) l.length l.length), (7, .pointer (some ⟨b23, 0, none⟩)), (24, .slice la l.length lc), (25, .int .i64 (l.length : Int)), (26, .int .i64 (i : Int)), (8, .int .i64 (i : Int)), (9, .pointer (some ⟨b9, 0, none⟩)), (40, .slice pa e.node.ps.length pc), (41, .int .i64 (e.node.ps.length : Int)), (42, .int .i64 (q : Int))] ∧ σ' = σ ∧ H' = (b9, rowO 37 (entCells e.id e.node.au e.node.cl (.slice pa e.node.ps.length pc) (.slice oa e.node.ops.length oc))) :: (hh ++ (b23, rowO 111 [sv]) :: (b21, rowO 24 ((List.range l.length).map svs)) :: (b18, rowO 3 ((List.range l.length).map (fun j => if j = i then Value.int .i64 (e.node.ps.length : Int) else g j))) :: ((List.range l.length).flatMap hs ++ Hr))) ⟨0, svs, hs, rfl, by omega, hk, rfl, rfl, rfl⟩ zcV zsL ?_
    rintro _ _ σ Hr ⟨q, svs2, hs2, rfl, hq, hk2, rfl, rfl, rfl⟩
    refine WC.seq ?_
    refine WC.region ?_
    refine' WL.pur (Pur.bin rfl rfl ?h9_0) ?k9
    case h9_0 => first | exact Bin.ltN | exact Bin.ltI | exact Bin.ltS
    refine WL.nil ?_
    refine WQ.thn ?_
    refine WC.seq ?_
    first | refine WC.cond rfl (fun hc1 => ?_) (fun hc1 => ?_) | refine WC.condB rfl (fun hc1 => ?_) (fun hc1 => ?_)
    · obtain ⟨p, hp⟩ : ∃ p, e.node.ps[q]? = some p := ⟨_, List.getElem?_eq_getElem hc1⟩
      obtain ⟨hpr, hpH⟩ := hash_rd hps' hep hp
      have hpp : (parsAt l i)[q]? = some p := by rw [hpa]; exact hp
      obtain ⟨n0, e2, hn0, he2, hcl2⟩ := hg.par e (List.mem_of_getElem? he) p (List.mem_of_getElem? hp)
      have hn0l := (List.getElem?_eq_some_iff.1 he2).1
      have hmg : (mget (idsFrom l 0) p).getD (.int .i64 0) = .int .i64 (n0 : Int) := by rw [mget_ids0, hn0]; rfl
      refine WC.skip ?_
      refine WQ.thn ?_
      refine WC.seq ?_
      refine WC.block ?_
      refine WC.seq ?_
      refine WC.region ?_
      refine' WL.pur (Pur.indexAddr (eqA (hep (by omega))) rfl sl_32 ?h10_0) ?k10
      case h10_0 => omega
      refine' WL.pur (Pur.loadN rfl ty_31 ?h11_0 ?h11_1) ?k11
      case h11_0 => exact RdV.rd hpr
      case h11_1 => first | rfl | assumption
      refine WL.new (New.alloc zc_31) (fun b11 => ?_)
      refine' WL.run0 (Run.storeAll rfl rfl ty_31 ?h12_0 (by first | rfl | assumption) ?h12_1 (by first | rfl | assumption)) ?k12
      case h12_0 => repeat (first | exact Part.one | exact Part.here | apply Part.cons | apply Part.app)
      case h12_1 => first | rfl | assumption
      refine WL.nil ?_
      refine WQ.thn ?_
      refine WC.draw 13 15 ((b11, rowO 31 (hashCells p)) :: (b9, rowO 37 (entCells e.id e.node.au e.node.cl (.slice pa e.node.ps.length pc) (.slice oa e.node.ops.length oc))) :: (hh ++ (b23, rowO 111 [sv]) :: (b21, rowO 24 ((List.range l.length).map svs2)) :: (b18, rowO 3 ((List.range l.length).map (fun j => if j = i then Value.int .i64 (e.node.ps.length : Int) else g j))) :: [])) mixed (by kernel_rfl) rfl ?_
      refine SA.takeW 0 (by kernel_rfl) rfl rfl rfl (Wanted.plain rfl) (tells_move rfl) ?_
      refine SA.takeW 1 (by kernel_rfl) rfl rfl rfl (Wanted.plain rfl) (tells_move rfl) ?_
      refine' SA.take 2 (by kernel_rfl) rfl rfl rfl (Wanted.plain rfl) zsL (View.le_refl _) (Pur.loadN rfl ty_31 ?h13_0 ?h13_1) ?k13
      case h13_0 => first | (apply Rd.own_sub; exact zmE; exact Sub.refl _) | (apply RdV.rd; assumption)
      case h13_1 => first | rfl | assumption
      refine SA.take 3 (by kernel_rfl) rfl rfl rfl (Wanted.plain rfl) zsL (View.le_refl _) ((pur_look hmg (Pur.lookup (K := hashV) rfl rfl mt_77 (keyC_hash isHKey_31) zv_3 (Or.inr hat) hok hpH))) ?_
      refine SA.takeW 4 (by kernel_rfl) rfl rfl rfl (Wanted.plain rfl) (tells_move rfl) ?_
      refine SA.takeW 5 (by kernel_rfl) rfl rfl rfl (Wanted.plain rfl) (tells_move rfl) ?_
      refine' SA.take 6 (by kernel_rfl) rfl rfl rfl (Wanted.plain rfl) zsL (View.le_refl _) (Pur.loadN rfl ty_31 ?h14_0 ?h14_1) ?k14
      case h14_0 => first | (apply Rd.own_sub; exact zmE; exact Sub.refl _) | (apply RdV.rd; assumption)
      case h14_1 => first | rfl | assumption
      refine SA.take 7 (by kernel_rfl) rfl rfl rfl (Wanted.plain rfl) zsL (View.le_refl _) ((pur_look hmg (Pur.lookup (K := hashV) rfl rfl mt_77 (keyC_hash isHKey_31) zv_3 (Or.inr hat) hok hpH))) ?_
      refine' SA.takeP 8 (by kernel_rfl) rfl rfl rfl (Wanted.plain rfl) (fun _ _ => Pur.indexAddr rfl rfl sl_109 ?h15_0) ?k15
      case h15_0 => omega
      refine' SA.take 9 (by kernel_rfl) rfl rfl rfl (Wanted.plain rfl) zsL (View.le_refl _) (Pur.load1 rfl ty_24 ?h16_0) ?k16
      case h16_0 => apply Rd.own1; exact zmE; exact get_range_map1 hn0l
      refine SA.takeW 10 (by kernel_rfl) rfl rfl rfl (Wanted.plain rfl) (tells_move rfl) ?_
      refine SA.new 11 rfl rfl rfl (Wanted.plain rfl) (by kernel_rfl) (New.buildSliceS (xs := [.tmp 56]) sl_24 zc_3 rfl rfl rfl (by rfl) (by rfl)) (.inr ⟨zsL, View.le_refl _⟩) (fun b57 => ?_)
      refine' SA.any 12 rfl rfl rfl (Wanted.plain rfl) (by kernel_rfl) (Any.push (H1 := ((b57, rowO 3 [.int .i64 (i : Int)]) :: (b11, rowO 31 (hashCells p)) :: (b9, rowO 37 (entCells e.id e.node.au e.node.cl (.slice pa e.node.ps.length pc) (.slice oa e.node.ops.length oc))) :: (hh ++ [(b23, rowO 111 [sv]), (b21, rowO 24 ((List.range l.length).map svs2)), (b18, rowO 3 ((List.range l.length).map (fun j => if j = i then Value.int .i64 (e.node.ps.length : Int) else g j)))])) ++ (List.range n0).flatMap hs2) (H2 := (List.range' (n0 + 1) (l.length - (n0 + 1))).flatMap hs2 ++ Hr) sl_24 zc_3 rfl by_3 rfl rfl (hk2 n0 hn0l) ?h17_0 ?h17_1 ?h17_2 ?h17_3 (by rw [← ksplit hn0l]; simp) (by have := kidsF_len l i q n0; omega) (by have := kidsF_len l i q n0; omega)) (fun _ _ _ hJ => .inr ⟨by (obtain ⟨_, _, hσ, hH⟩ := hJ; subst hH; (try simp only [List.append_assoc, List.cons_append, List.nil_append]); exact zsL), View.le_refl _⟩) ?k17
      case h17_0 => apply Rd.own_sub; exact zmE; exact Sub.refl _
      case h17_1 => first | rfl | assumption
      case h17_2 => first | rfl | assumption
      case h17_3 => first | rfl | exact ⟨rfl, by assumption⟩
      rintro v58 σ _ ⟨ho', hso', rfl, rfl⟩ _
      rw [kfold hn0l]
      simp only [List.cons_append, List.append_assoc, List.nil_append]
      have h1c := SlO.one_cell hso'
      refine' SA.run 13 rfl (fun _ e => by cases e; rfl) (Wanted.plain rfl) (by kernel_rfl) (Pur.run (Pur.indexAddr rfl rfl sl_109 ?h18_0)) (.inl (by decide)) ?k18
      case h18_0 => omega
      refine' SA.run 14 rfl (fun _ e => by cases e) (Wanted.plain rfl) (by kernel_rfl) (Run.storeF rfl rfl ty_24 (by first | rfl | assumption) ?h19_0 ?h19_1 sz_24) (.inl (by decide)) ?k19
      case h19_0 => repeat (first | exact Part.one | exact Part.here | apply Part.cons | apply Part.app)
      case h19_1 => first | assumption | omega
      refine SA.done (by kernel_rfl) ?_
      refine WQ.blk ?_
      refine WQ.thn ?_
      refine WC.region ?_
      refine' WL.pur (Pur.bin rfl rfl ?h20_0) ?k20
      case h20_0 => first | (refine Bin.addN (b := 1) ?_; omega) | (refine Bin.addI ?_; omega)
      refine WL.pur (Pur.move rfl) ?_
      refine WL.nil ?_
      refine WQ.back _ ⟨q + 1, _, _, rfl, by omega, hk2.set hso' (fun k hk => kidsF_step hg hpp hn0 k hk), rfl, rfl, rfl⟩ (by omega) zcV zsL
    · have hg1i : (fun j => if j = i then Value.int .i64 (e.node.ps.length : Int) else g j) i = .int .i64 (e.node.ps.length : Int) := if_pos rfl
      refine WC.exit ?_
      refine WQ.thn_exit ?_
      refine WQ.back_exit ?_
      refine WQ.blk_here ?_
      refine WQ.thn ?_
      refine WC.seq ?_
      refine WC.region ?_
      refine WL.pur (Pur.move rfl) ?_
      refine WL.pur (Pur.move rfl) ?_
      refine' WL.pur (Pur.indexAddr rfl rfl sl_24 ?h21_0) ?k21
      case h21_0 => omega
      refine' WL.pur (Pur.load1 rfl ty_3 ?h22_0) ?k22
      case h22_0 => apply Rd.own1; exact zmE; exact (get_range_map1 hc0).trans (congrArg some hg1i)
      refine' WL.pur (Pur.bin rfl rfl ?h23_0) ?k23
      case h23_0 => first | exact Bin.eqN (b := 0) | exact Bin.eqI
      refine WL.nil ?_
      refine WQ.thn ?_
      first | refine WC.cond rfl (fun hc2 => ?_) (fun hc2 => ?_) | refine WC.condB rfl (fun hc2 => ?_) (fun hc2 => ?_)
      · have hrdy : readyB l [] i = true := (ready_zero hg i).2 ⟨hc0, by rw [hpa]; exact nil_len.2 (by omega)⟩
        refine WC.region ?_
        refine WL.pur (Pur.move rfl) ?_
        refine WL.pur (Pur.makeInterface rfl (mi110 _)) ?_
        refine WL.pur (Pur.fieldAddr rfl fo_37_0) ?_
        refine' WL.pur (Pur.loadN rfl ty_31 ?h24_0 ?h24_1) ?k24
        case h24_0 => first | (apply Rd.own_sub; exact zmE; exact Sub.ent_hash _ _ _ _ _) | (apply RdV.rd; apply RdV.sub0; assumption; exact Sub.ent_hash _ _ _ _ _)
        case h24_1 => first | rfl | assumption
        refine WL.pur (Pur.makeInterface rfl (mi31 _)) ?_
        refine WL.call (H0 := hh ++ [(b23, rowO 111 [sv])]) (Hr := (b9, rowO 37 (entCells e.id e.node.au e.node.cl (.slice pa e.node.ps.length pc) (.slice oa e.node.ops.length oc))) :: (b21, rowO 24 ((List.range l.length).map svs2)) :: (b18, rowO 3 ((List.range l.length).map (fun j => if j = i then Value.int .i64 (e.node.ps.length : Int) else g j))) :: ((List.range l.length).flatMap hs2 ++ Hr)) rfl Try.call57 heap_perm (heap_Push _ b23 e.id sv hp0 hh hso hheap heH (by have := rdy_len (by simp; omega) hperm; omega)) ?_
        rintro v71 σ _ ⟨⟨sv2, hp2, hh2, hso2, hperm2, hheap2, rfl⟩, rfl⟩ _
        simp only [List.append_assoc, List.cons_append, List.nil_append]
        refine WL.nil ?_
        refine WQ.blk ?_
        refine WQ.thn ?_
        refine WC.region ?_
        refine' WL.pur (Pur.bin rfl rfl ?h25_0) ?k25
        case h25_0 => first | (refine Bin.addN (b := 1) ?_; omega) | (refine Bin.addI ?_; omega)
        refine WL.pur (Pur.move rfl) ?_
        refine WL.nil ?_
        refine WQ.back _ ⟨i + 1, svs2, hs2, _, hp2, sv2, hh2, rfl, by omega, fun n hn => by rw [← kidsF_end (show (parsAt l i).length ≤ q by rw [hpa]; omega)]; exact hk2 n hn, rowlen_step (by rw [hpa]) hgr, hso2, hheap2, by rw [rdy_step, if_pos hrdy, hie]; exact hperm2.trans (hperm.append_right _), rfl, rfl, rfl⟩ (by omega) zcV zsL
      · have hrdy : ¬ readyB l [] i = true := fun hx => hc2 (by have := ((ready_zero hg i).1 hx).2; rw [hpa] at this; rw [this]; rfl)
        refine WC.skip ?_
        refine WQ.blk ?_
        refine WQ.thn ?_
        refine WC.region ?_
        refine' WL.pur (Pur.bin rfl rfl ?h26_0) ?k26
        case h26_0 => first | (refine Bin.addN (b := 1) ?_; omega) | (refine Bin.addI ?_; omega)
        refine WL.pur (Pur.move rfl) ?_
        refine WL.nil ?_
        refine WQ.back _ ⟨i + 1, svs2, hs2, _, hp0, sv, hh, rfl, by omega, fun n hn => by rw [← kidsF_end (show (parsAt l i).length ≤ q by rw [hpa]; omega)]; exact hk2 n hn, rowlen_step (by rw [hpa]) hgr, hso, hheap, by rw [rdy_step, if_neg hrdy, List.append_nil]; exact hperm, rfl, rfl, rfl⟩ (by omega) zcV zsL
  · have hil : i = l.length := by omega
    subst hil
    have hkk : KidsO σ l.length (kidsL l) svs hs := fun n hn => by rw [← kidsF_all]; exact hk n hn
    have hgr0 : ∀ k, k < l.length → g k = .int .i64 ((lackN l (ordN l 0) k : Nat) : Int) := fun k hk => by rw [hgr k hk, if_pos hk]; show _ = Value.int .i64 ((lackN l [] k : Nat) : Int); rw [lackN_nil l hg]
    refine WC.perm (H0 := (b21, rowO 24 ((List.range l.length).map svs)) :: ((hh ++ [(b23, rowO 111 [sv]), (b18, rowO 3 ((List.range l.length).map g))]) ++ ((List.range l.length).flatMap hs ++ Hr))) ?_ kids_perm
    refine WC.giveKids (bk := b21) (H1 := hh ++ [(b23, rowO 111 [sv]), (b18, rowO 3 ((List.range l.length).map g))]) (H2 := Hr) (fun n => by have := kidsL_len l n; omega) (by omega) hkk rfl (fun σ2 hle2 hkids => ?_)
    simp only [List.append_assoc, List.cons_append, List.nil_append]
    have h' := h'.mono eEnt_mono hle2
    have hat := hle2.2 _ _ hat
    have hso := hso.mono eHash_mono hle2
    refine WC.exit ?_
    refine WQ.thn_exit ?_
    refine WQ.back_exit ?_
    refine WQ.blk_here ?_
    refine WQ.thn ?_
    refine WC.seq ?_
    refine WC.region ?_
    refine WL.pur (Pur.move rfl) ?_
    refine WL.pur (Pur.len rfl isSlice_23) ?_
    refine WL.any (Any.make0 sl_23 zc_37 by_37 rfl rfl (by omega) (by omega)) ?_
    rintro v75 σ _ ⟨h75, hm75, rfl, rfl⟩ _
    refine WL.pur (Pur.assign rfl) ?_
    refine WL.nil ?_
    refine WQ.thn ?_
    refine WC.seq ?_
    refine WC.block ?_
    refine WC.loop (fun j m σ' H' => ∃ (n : Nat) (hp : List Nat) (sv os : Value) (hh ho : HList) (gl : Nat → Value), j = l.length - n ∧ n ≤ l.length ∧ SlO σ' eHash 31 32 sv hp hh ∧ HeapN hp hp.length ∧ hp.Perm ((readyL l (ordN l n)).map (idAt l)) ∧ (∀ k, k < l.length → gl k = .int .i64 ((lackN l (ordN l n) k : Nat) : Int)) ∧ SlO σ' eEnt 37 36 os (ordEn l n) ho ∧ m = [(0, .slice la l.length lc), (1, .map (some bm)), (5, .slice (some ⟨b18, 0, none⟩) l.length l.length), (6, .slice (some ⟨b21, 0, none⟩) l.length l.length), (7, .pointer (some ⟨b23, 0, none⟩)), (12, os)] ∧ σ' = σ ∧ H' = ho ++ (hh ++ (b23, rowO 111 [sv]) :: (b18, rowO 3 ((List.range l.length).map gl)) :: Hr)) ⟨0, hp0, sv, v75, hh, h75, g, rfl, by omega, hso, hheap, by rw [← ready_start (Nat.le_refl _) rfl]; exact hperm, hgr0, ⟨[], hm75, ElR.nil⟩, rfl, rfl, rfl⟩ zcV zsL ?_
    rintro _ _ σ Hr ⟨n, hpA, svA, os, hhA, ho, gl, rfl, hn, hsoA, hheapA, hpermA, hgl, hoso, rfl, rfl, rfl⟩
    obtain ⟨sa, sc, rfl, hsc⟩ := hsoA.shape
    refine WC.seq ?_
    refine WC.seq ?_
    refine WC.region ?_
    refine WL.pur (Pur.move rfl) ?_
    refine WL.pur (Pur.nilCheck rfl) ?_
    refine' WL.pur (Pur.load1 rfl ty_111 ?h27_0) ?k27
    case h27_0 => first | (apply Rd.own1; exact zmE; rfl) | (apply RdV.rd; apply RdV.idx (i := 0); assumption; rfl)
    refine WL.callP rfl Try.call58 (rd_Len _ sa hpA.length sc) ?_
    refine' WL.pur (Pur.bin rfl rfl ?h28_0) ?k28
    case h28_0 => first | exact Bin.gtN (b := 0) | exact Bin.gtI
    refine WL.nil ?_
    refine WQ.thn ?_
    first | refine WC.cond rfl (fun hc3 => ?_) (fun hc3 => ?_) | refine WC.condB rfl (fun hc3 => ?_) (fun hc3 => ?_)
    · obtain ⟨i0, hi0, hid0⟩ := next_min hg hpermA hheapA hc3
      have hr0 := readyB_iff.1 (nextR_some hi0).1
      have hi0l := hr0.1
      have hidx : idxOf l (hpA.getD 0 0) = some i0 := (idx_id hg.nodup).2 ⟨hi0l, hid0⟩
      have hmg0 : (mget (idsFrom l 0) (hpA.getD 0 0)).getD (.int .i64 0) = .int .i64 (i0 : Int) := by rw [mget_ids0, hidx]; rfl
      obtain ⟨e, he⟩ : ∃ e, l[i0]? = some e := ⟨_, List.getElem?_eq_getElem hi0l⟩
      obtain ⟨pv, ov, hrd, heH, hNR⟩ := ent_rd h' hel he
      obtain ⟨pa, pc, rfl, hpc, hpb⟩ := hNR.1.shape
      obtain ⟨oa, oc, rfl, hoc, hob⟩ := hNR.2.1.shape
      have hpH0 : IsH (hpA.getD 0 0) := by rw [← hid0]; exact (id_rd h' hel hi0l).2
      obtain ⟨ka, kc, hkr, hke⟩ := kids_rd hkids hi0l
      obtain ⟨kb, koff, hek⟩ := addr_of hke
      have hklen := kidsL_len l i0
      have hoel := ordEn_len hg hn
      have hn2 : n < l.length := by
        rcases Nat.lt_or_ge n l.length with hlt | hge
        · exact hlt
        · exfalso
          have hnn : n = l.length := by omega
          subst hnn
          have := missing_none hg (nextR_some hi0).1
          exact this
      refine WC.skip ?_
      refine WQ.thn ?_
      refine WC.block ?_
      refine WC.seq ?_
      refine WC.region ?_
      refine WL.pur (Pur.move rfl) ?_
      refine WL.pur (Pur.move rfl) ?_
      refine WL.pur (Pur.makeInterface rfl (mi110 _)) ?_
      refine WL.call (H0 := hhA ++ [(b23, rowO 111 [.slice sa hpA.length sc])]) (Hr := ho ++ ((b18, rowO 3 ((List.range l.length).map gl)) :: Hr)) rfl Try.call59 pop_perm (heap_Pop _ b23 (hpA.length - 1) (.slice sa hpA.length sc) hpA hhA hsoA hheapA (by omega) (by have := rdy_len (is := List.range l.length) (by simp) hpermA; omega)) ?_
      rintro v84 σ _ ⟨rfl, ⟨sv2, hp2, hh2, hso2, hperm2, hheap2, rfl⟩, rfl⟩ _
      refine WL.perm (H0 := ho ++ (hh2 ++ (b23, rowO 111 [sv2]) :: (b18, rowO 3 ((List.range l.length).map gl)) :: Hr)) ?_ pop_perm.symm
      have hperm20 : hp2.Perm ((restL l n i0 ++ freeL l n ((kidsL l i0).take 0)).map (idAt l)) := by
        have h1 := (hperm2.trans hpermA).trans ((ready_split hi0).map (idAt l))
        rw [List.map_cons, hid0] at h1
        have h2 := (List.perm_append_comm.trans h1)
        simpa [freeL] using h2
      refine WL.pur (Pur.typeAssert rfl isPlainT_31) ?_
      refine WL.pur ((pur_look hmg0 (Pur.lookup (K := hashV) rfl rfl mt_77 (keyC_hash isHKey_31) zv_3 (Or.inr hat) hok hpH0))) ?_
      refine WL.pur (Pur.assign rfl) ?_
      refine WL.nil ?_
      refine WQ.thn ?_
      refine WC.seq ?_
      refine WC.region ?_
      refine WL.pur (Pur.move rfl) ?_
      refine WL.pur (Pur.move rfl) ?_
      refine WL.pur (Pur.move rfl) ?_
      refine' WL.pur (Pur.indexAddr (eqA (hel (by omega))) rfl sl_23 ?h29_0) ?k29
      case h29_0 => omega
      refine' WL.pur (Pur.loadN rfl ty_37 ?h30_0 ?h30_1) ?k30
      case h30_0 => first | (apply Rd.own_sub; exact zmE; exact Sub.refl _) | (apply RdV.rd; assumption)
      case h30_1 => first | rfl | assumption
      refine WL.new (New.buildSliceN (xs := [.tmp 91]) (vss := [entCells e.id e.node.au e.node.cl (.slice pa e.node.ps.length pc) (.slice oa e.node.ops.length oc)]) sl_23 zc_37 rfl rfl rfl (by rfl) (by rfl)) (fun b92 => ?_)
      refine' WL.any (Any.push (H1 := [(b92, _)]) (H2 := hh2 ++ (b23, rowO 111 [sv2]) :: (b18, rowO 3 ((List.range l.length).map gl)) :: Hr) sl_23 zc_37 rfl by_37 rfl rfl hoso ?h31_0 ?h31_1 ?h31_2 ?h31_3 rfl (by omega) (by omega)) ?k31
      case h31_0 => apply Rd.own_sub; exact zmE; exact Sub.refl _
      case h31_1 => first | rfl | assumption
      case h31_2 => first | rfl | assumption
      case h31_3 => exact ⟨_, _, rfl, heH, hNR⟩
      rintro v93 σ _ ⟨ho', hso', rfl, rfl⟩ _
      refine WL.pur (Pur.assign rfl) ?_
      refine WL.nil ?_
      refine WQ.thn ?_
      refine WC.seq ?_
      refine WC.region ?_
      refine WL.pur (Pur.move rfl) ?_
      refine WL.pur (Pur.move rfl) ?_
      refine' WL.pur (Pur.indexAddr rfl rfl sl_109 ?h32_0) ?k32
      case h32_0 => omega
      refine' WL.pur (Pur.load1 rfl ty_24 ?h33_0) ?k33
      case h33_0 => exact RdV.rd hkr
      refine WL.pur (Pur.len rfl isSlice_24) ?_
      refine WL.pur (Pur.move rfl) ?_
      refine WL.nil ?_
      refine WQ.thn ?_
      refine WC.block ?_
      refine WC.loop (fun j m σ' H' => ∃ (q : Nat) (gl4 : Nat → Value) (hp3 : List Nat) (sv3 : Value) (hh3 : HList), j = (kidsL l i0).length - q ∧ q ≤ (kidsL l i0).length ∧ (∀ k, k < l.length → gl4 k = .int .i64 ((lackN l (ordN l n) k - (if k ∈ (kidsL l i0).take q then 1 else 0) : Nat) : Int)) ∧ SlO σ' eHash 31 32 sv3 hp3 hh3 ∧ HeapN hp3 hp3.length ∧ hp3.Perm ((restL l n i0 ++ freeL l n ((kidsL l i0).take q)).map (idAt l)) ∧ m = [(0, .slice la l.length lc), (1, .map (some bm)), (5, .slice (some ⟨b18, 0, none⟩) l.length l.length), (6, .slice (some ⟨b21, 0, none⟩) l.length l.length), (7, .pointer (some ⟨b23, 0, none⟩)), (12, v93), (13, .int .i64 (i0 : Int)), (97, .slice ka (kidsL l i0).length kc), (98, .int .i64 ((kidsL l i0).length : Int)), (99, .int .i64 (q : Int))] ∧ σ' = σ ∧ H' = ho' ++ (hh3 ++ (b23, rowO 111 [sv3]) :: (b18, rowO 3 ((List.range l.length).map gl4)) :: Hr)) ⟨0, gl, hp2, sv2, hh2, rfl, by omega, fun k hk => by rw [hgl k hk]; simp, hso2, hheap2, hperm20, rfl, rfl, rfl⟩ zcV zsL ?_
      rintro _ _ σ Hr ⟨q, gl4, hp3, sv3, hh3, rfl, hq, hgl4, hso3, hheap3, hperm3, rfl, rfl, rfl⟩
      refine WC.seq ?_
      refine WC.region ?_
      refine' WL.pur (Pur.bin rfl rfl ?h34_0) ?k34
      case h34_0 => first | exact Bin.ltN | exact Bin.ltI | exact Bin.ltS
      refine WL.nil ?_
      refine WQ.thn ?_
      refine WC.seq ?_
      first | refine WC.cond rfl (fun hc4 => ?_) (fun hc4 => ?_) | refine WC.condB rfl (fun hc4 => ?_) (fun hc4 => ?_)
      · have hkq := nat_rd hke hek hc4
        have hkm := getD_mem hc4
        have hk0 := (kidsL_lt hkm).1
        have hpos := kid_pos hg hi0 hkm
        have hgk : gl4 ((kidsL l i0).getD q 0) = .int .i64 ((lackN l (ordN l n) ((kidsL l i0).getD q 0) : Nat) : Int) := by rw [hgl4 _ hk0, if_neg (kid_take hc4)]; simp
        have hks := kid_step hc4 hgl4
        have hlkb := lackN_le hg (ordN l n) ((kidsL l i0).getD q 0)
        have hfs := freeL_step (l := l) (n := n) hc4
        have hks0 : (if (kidsL l i0).getD q 0 = (kidsL l i0).getD q 0 then Value.int .i64 ((lackN l (ordN l n) ((kidsL l i0).getD q 0) - 1 : Nat) : Int) else gl4 ((kidsL l i0).getD q 0)) = Value.int .i64 ((lackN l (ordN l n) ((kidsL l i0).getD q 0) - 1 : Nat) : Int) := if_pos rfl
        have hidr := id_rd h' hel hk0
        have hidH := hidr.2
        refine WC.skip ?_
        refine WQ.thn ?_
        refine WC.seq ?_
        refine WC.block ?_
        refine WC.seq ?_
        refine WC.region ?_
        refine' WL.pur (Pur.indexAddr (eqA (hek (by omega))) rfl sl_24 ?h35_0) ?k35
        case h35_0 => omega
        refine' WL.pur (Pur.load1 rfl ty_3 ?h36_0) ?k36
        case h36_0 => exact RdV.rd hkq
        refine WL.pur (Pur.assign rfl) ?_
        refine WL.nil ?_
        refine WQ.thn ?_
        refine WC.seq ?_
        refine WC.region ?_
        refine WL.pur (Pur.move rfl) ?_
        refine WL.pur (Pur.move rfl) ?_
        refine' WL.pur (Pur.indexAddr rfl rfl sl_24 ?h37_0) ?k37
        case h37_0 => omega
        refine' WL.pur (Pur.load1 rfl ty_3 ?h38_0) ?k38
        case h38_0 => apply Rd.own1; exact zmE; exact (get_range_map1 hk0).trans (congrArg some hgk)
        refine' WL.pur (Pur.bin rfl rfl ?h39_0) ?k39
        case h39_0 => first | (refine Bin.subN (b := 1) ?_ ?_ <;> omega) | (refine Bin.subI ?_; omega)
        refine' WL.pur (Pur.indexAddr rfl rfl sl_24 ?h40_0) ?k40
        case h40_0 => omega
        refine' WL.run0 (Run.storeF rfl rfl ty_3 (by first | rfl | assumption) ?h41_0 ?h41_1 sz_3) ?k41
        case h41_0 => repeat (first | exact Part.one | exact Part.here | apply Part.cons | apply Part.app)
        case h41_1 => first | assumption | omega
        refine WL.nil ?_
        refine WQ.thn ?_
        refine WC.seq ?_
        refine WC.region ?_
        refine WL.pur (Pur.move rfl) ?_
        refine WL.pur (Pur.move rfl) ?_
        refine' WL.pur (Pur.indexAddr rfl rfl sl_24 ?h42_0) ?k42
        case h42_0 => omega
        refine' WL.pur (Pur.load1 rfl ty_3 ?h43_0) ?k43
        case h43_0 => apply Rd.own1; exact zmE; exact (get_range_map1 hk0).trans (congrArg some hks0)
        refine' WL.pur (Pur.bin rfl rfl ?h44_0) ?k44
        case h44_0 => first | exact Bin.eqN (b := 0) | exact Bin.eqI
        refine WL.nil ?_
        refine WQ.thn ?_
        first | refine WC.cond rfl (fun hc5 => ?_) (fun hc5 => ?_) | refine WC.condB rfl (fun hc5 => ?_) (fun hc5 => ?_)
        · rw [if_pos (by omega)] at hfs
          refine WC.region ?_
          refine WL.pur (Pur.move rfl) ?_
          refine WL.pur (Pur.makeInterface rfl (mi110 _)) ?_
          refine WL.pur (Pur.move rfl) ?_
          refine WL.pur (Pur.move rfl) ?_
          refine' WL.pur (Pur.indexAddr (eqA (hel (by omega))) rfl sl_23 ?h45_0) ?k45
          case h45_0 => omega
          refine WL.pur (Pur.fieldAddr rfl fo_37_0) ?_
          refine' WL.pur (Pur.loadN rfl ty_31 ?h46_0 ?h46_1) ?k46
          case h46_0 => exact RdV.rd hidr.1
          case h46_1 => first | rfl | assumption
          refine WL.pur (Pur.makeInterface rfl (mi31 _)) ?_
          refine WL.call (H0 := hh3 ++ [(b23, rowO 111 [sv3])]) (Hr := ho' ++ ((b18, rowO 3 ((List.range l.length).map (fun j => if j = (kidsL l i0).getD q 0 then Value.int .i64 ((lackN l (ordN l n) ((kidsL l i0).getD q 0) - 1 : Nat) : Int) else gl4 j))) :: Hr)) rfl Try.call57 pop_perm (heap_Push _ b23 (idAt l ((kidsL l i0).getD q 0)) sv3 hp3 hh3 hso3 hheap3 hidH (by have := rest_len hg hn2 hperm3 (by simp; omega); omega)) ?_
          rintro v122 σ _ ⟨⟨sv4, hp4, hh4, hso4, hperm4, hheap4, rfl⟩, rfl⟩ _
          refine WL.perm (H0 := ho' ++ (hh4 ++ (b23, rowO 111 [sv4]) :: (b18, rowO 3 ((List.range l.length).map (fun j => if j = (kidsL l i0).getD q 0 then Value.int .i64 ((lackN l (ordN l n) ((kidsL l i0).getD q 0) - 1 : Nat) : Int) else gl4 j))) :: Hr)) ?_ pop_perm.symm
          refine WL.nil ?_
          refine WQ.blk ?_
          refine WQ.thn ?_
          refine WC.region ?_
          refine' WL.pur (Pur.bin rfl rfl ?h47_0) ?k47
          case h47_0 => first | (refine Bin.addN (b := 1) ?_; omega) | (refine Bin.addI ?_; omega)
          refine WL.pur (Pur.move rfl) ?_
          refine WL.nil ?_
          refine WQ.back _ ⟨q + 1, _, hp4, sv4, hh4, rfl, by omega, hks, hso4, hheap4, by rw [hfs, ← List.append_assoc, List.map_append]; exact hperm4.trans (hperm3.append_right _), rfl, rfl, rfl⟩ (by omega) zcV zsL
        · rw [if_neg (by omega)] at hfs
          refine WC.skip ?_
          refine WQ.blk ?_
          refine WQ.thn ?_
          refine WC.region ?_
          refine' WL.pur (Pur.bin rfl rfl ?h48_0) ?k48
          case h48_0 => first | (refine Bin.addN (b := 1) ?_; omega) | (refine Bin.addI ?_; omega)
          refine WL.pur (Pur.move rfl) ?_
          refine WL.nil ?_
          refine WQ.back _ ⟨q + 1, _, hp3, sv3, hh3, rfl, by omega, hks, hso3, hheap3, by rw [hfs]; exact hperm3, rfl, rfl, rfl⟩ (by omega) zcV zsL
      · have hq2 : q = (kidsL l i0).length := by omega
        rw [hq2, List.take_of_length_le (Nat.le_refl _)] at hgl4 hperm3
        refine WC.exit ?_
        refine WQ.thn_exit ?_
        refine WQ.back_exit ?_
        refine WQ.blk_here ?_
        refine WQ.blk ?_
        refine WQ.back _ ⟨n + 1, hp3, sv3, _, hh3, ho', _, rfl, by omega, hso3, hheap3, hperm3.trans ((ready_after hg hi0).map _).symm, lack_step hg hi0 hgl4, by rw [ordEn_succ hi0 he]; exact hso', rfl, rfl, rfl⟩ (by omega) zcV zsL
    · have hnl := readyL_nil hg hn hpermA (by omega)
      refine WC.exit ?_
      refine WQ.thn_exit ?_
      refine WQ.back_exit ?_
      refine WQ.blk_here ?_
      refine WQ.thn ?_
      refine WC.seq ?_
      refine WC.region ?_
      refine WL.pur (Pur.move rfl) ?_
      refine WL.pur (Pur.assign rfl) ?_
      refine WL.nil ?_
      refine WQ.thn ?_
      refine WC.ret ?_
      refine WQ.ret1 Try.results37 rfl ho (List.Sublist.append_left ((List.Sublist.cons _ (List.Sublist.cons _ (List.Sublist.refl _))).trans (List.sublist_append_right hhA _)) ho) hle2 ?_
      exact ⟨ho, by subst hnl; exact hoso, rfl⟩

end Go.Proofs.Ytgoooilgmabkmaa
namespace Go.Proofs.Ytgoooilgmabkmaa
open Go Go.Sl
set_option linter.unusedVariables false
set_option linter.unusedSimpArgs false
set_option maxRecDepth 100000

theorem by_53' : (Try.prog.info? 53).map (·.bytes) = some 88 := by kernel_rfl
theorem zc_53' : zc Try.prog 53 = some (opCells 0 ByteArray.empty ByteArray.empty 0 0 0) := by kernel_rfl
theorem sl_32' : slE Try.prog 32 = some (31, 32) := by kernel_rfl
theorem by_31' : (Try.prog.info? 31).map (·.bytes) = some 32 := by kernel_rfl

theorem past_own (σ : View) (id : Nat) (x : NodeD) (pv ov : Value) (h : NodeR σ x pv ov) :
    Tri Try.prog 38 #[.agg (entCells id x.au x.cl pv ov).toArray] σ [] (fun v σ' H' => (∃ pv' ov', v = .agg (entCells id x.au x.cl pv' ov').toArray ∧ NodeR σ' x pv' ov') ∧ H' = []) := by
  obtain ⟨hps, hops, hau, hcl⟩ := h
  obtain ⟨pa, pc, rfl, hpc, hpb⟩ := hps.shape
  obtain ⟨oa, oc, rfl, hoc, hob⟩ := hops.shape
  refine Tri.of_body [(0, .agg (entCells id x.au x.cl (.slice pa x.ps.length pc) (.slice oa x.ops.length oc)).toArray)] Try.func38 rfl Try.ntmps38 (by simp) rfl (fun Hr => ?_)
  rw [List.nil_append]
  refine WC.seq ?_
  refine WC.region ?_
  refine WL.new (New.boxN rfl) (fun b1 => ?_)
  refine WL.new (New.alloc zc_37) (fun b2 => ?_)
  refine WL.nil ?_
  refine WQ.thn ?_
  refine WC.seq ?_
  refine WC.region ?_
  refine WL.pur (Pur.fieldAddr rfl fo_37_1) ?_
  refine WL.pur (Pur.fieldAddr rfl fo_35_2) ?_
  refine' WL.pur (Pur.load1 rfl ty_32 ?h1_0) ?k1
  case h1_0 => first | (apply Rd.own1; exact zmE; rfl) | (apply RdV.rd; apply RdV.idx (i := 34); assumption; rfl) | (apply RdV.rd; apply RdV.idx (off := 0) (i := 34); assumption; rfl)
  refine WL.any (Any.pushAll (H1 := []) sl_32' zc_31 rfl by_31' rfl rfl SlO.nil hps rfl (by simp; omega) (by simp; omega)) ?_
  rintro v6 σ _ ⟨h6, hs6, rfl, rfl⟩ _
  have h1c6 := hs6.one_cell
  refine WL.pur (Pur.fieldAddr rfl fo_37_1) ?_
  refine WL.pur (Pur.fieldAddr rfl fo_35_2) ?_
  refine' WL.run0 (Run.store1 rfl rfl ty_32 (by first | rfl | assumption) ?h2_0 ?h2_1 sz_32) ?k2
  case h2_0 => repeat (first | exact Part.one | exact Part.here | apply Part.cons | apply Part.app)
  case h2_1 => exact Nat.le_of_ble_eq_true rfl
  refine WL.nil ?_
  refine WQ.thn ?_
  refine WC.seq ?_
  refine WC.region ?_
  refine WL.pur (Pur.fieldAddr rfl fo_37_1) ?_
  refine WL.pur (Pur.fieldAddr rfl fo_35_3) ?_
  refine' WL.pur (Pur.load1 rfl ty_33 ?h3_0) ?k3
  case h3_0 => first | (apply Rd.own1; exact zmE; rfl) | (apply RdV.rd; apply RdV.idx (i := 35); assumption; rfl) | (apply RdV.rd; apply RdV.idx (off := 0) (i := 35); assumption; rfl)
  refine WL.any (Any.pushAll (H1 := []) sl_33 zc_53' rfl by_53' rfl rfl SlO.nil hops rfl (by simp; omega) (by simp; omega)) ?_
  rintro v12 σ _ ⟨h12, hs12, rfl, rfl⟩ _
  have h1c12 := hs12.one_cell
  refine WL.pur (Pur.fieldAddr rfl fo_37_1) ?_
  refine WL.pur (Pur.fieldAddr rfl fo_35_3) ?_
  refine' WL.run0 (Run.store1 rfl rfl ty_33 (by first | rfl | assumption) ?h4_0 ?h4_1 sz_33) ?k4
  case h4_0 => repeat (first | exact Part.one | exact Part.here | apply Part.cons | apply Part.app)
  case h4_1 => exact Nat.le_of_ble_eq_true rfl
  refine WL.nil ?_
  refine WQ.thn ?_
  refine WC.seq ?_
  refine WC.region ?_
  have hes : (((entCells id x.au x.cl (.slice pa x.ps.length pc) (.slice oa x.ops.length oc)).set (0 + 32 + 2) v6).set (0 + 32 + 3) v12) = entCells id x.au x.cl v6 v12 := rfl
  rw [hes]
  have hone : (entCells id x.au x.cl v6 v12).all (·.oneCell') = true := by rw [entCells, List.all_append, hashCells_one]; exact by (show (true && (true && (true && (v6.oneCell' && (v12.oneCell' && true))))) = true; rw [h1c6, h1c12]; rfl)
  refine' WL.pur (Pur.loadN rfl ty_37 ?h5_0 ?h5_1) ?k5
  case h5_0 => first | (apply Rd.own_sub; exact zmE; exact Sub.refl _) | (apply RdV.rd; assumption)
  case h5_1 => first | rfl | assumption
  refine' WL.run0 (Run.storeAll rfl rfl ty_37 ?h6_0 (by first | rfl | assumption) ?h6_1 (by first | rfl | assumption)) ?k6
  case h6_0 => repeat (first | exact Part.one | exact Part.here | apply Part.cons | apply Part.app)
  case h6_1 => first | rfl | assumption
  refine WL.nil ?_
  refine WQ.thn ?_
  refine WC.ret ?_
  refine WQ.giveS (byt := 88) (H1 := []) eOp_mono hs12 (by simpa using hob) rfl (fun σ1 hle1 hsl1 => ?_)
  refine WQ.giveS (byt := 32) (H1 := []) eHash_mono (hs6.mono eHash_mono hle1) (by simpa using hpb) rfl (fun σ2 hle2 hsl2 => ?_)
  rw [List.nil_append]
  refine' WQ.retC Try.results38 rfl ty_37 ?h7_0 ?h7_1 [] zsL (View.le_trans hle1 hle2) ?k7
  case h7_0 => apply Rd.own_sub; exact zmE; exact Sub.refl _
  case h7_1 => rfl
  exact ⟨⟨v6, v12, rfl, by simpa using hsl2, (hsl1.mono eOp_mono hle2), hau, hcl⟩, rfl⟩

end Go.Proofs.Ytgoooilgmabkmaa
