/-
  Contracts of the functions of the program and of its references: what each call hands back, from what is known and owned.
-/
import Derived.Test.YtgoooilgmabkmaaGreatPa
import Derived.Test.YtgoooilgmabkmaaGreatChecked
set_option linter.unusedVariables false
set_option linter.unusedSimpArgs false
set_option linter.unusedSectionVars false
namespace Go.Proofs.YtgoooilgmabkmaaGreat
open Go Go.Sl
theorem mixed : Tryz.prog.follows .mixedOrders = true := by kernel_rfl
theorem ar_39 : arE Tryz.prog 39 = some (32, 5, 1) := by kernel_rfl
theorem by_151 : (Tryz.prog.info? 151).map (·.bytes) = some 24 := by kernel_rfl
theorem by_164 : (Tryz.prog.info? 164).map (·.bytes) = some 16 := by kernel_rfl
theorem by_235 : (Tryz.prog.info? 235).map (·.bytes) = some 32 := by kernel_rfl
theorem by_244 : (Tryz.prog.info? 244).map (·.bytes) = some 24 := by kernel_rfl
theorem by_3 : (Tryz.prog.info? 3).map (·.bytes) = some 8 := by kernel_rfl
theorem by_39 : (Tryz.prog.info? 39).map (·.bytes) = some 32 := by kernel_rfl
theorem by_4 : (Tryz.prog.info? 4).map (·.bytes) = some 1 := by kernel_rfl
theorem by_45 : (Tryz.prog.info? 45).map (·.bytes) = some 96 := by kernel_rfl
theorem by_60 : (Tryz.prog.info? 60).map (·.bytes) = some 8 := by kernel_rfl
theorem by_72 : (Tryz.prog.info? 72).map (·.bytes) = some 24 := by kernel_rfl
theorem by_9 : (Tryz.prog.info? 9).map (·.bytes) = some 16 := by kernel_rfl
theorem fo_102_0 : fldOff Tryz.prog 102 0 = some 0 := by kernel_rfl
theorem fo_102_1 : fldOff Tryz.prog 102 1 = some 1 := by kernel_rfl
theorem fo_102_2 : fldOff Tryz.prog 102 2 = some 2 := by kernel_rfl
theorem fo_102_3 : fldOff Tryz.prog 102 3 = some 3 := by kernel_rfl
theorem fo_164_0 : fldOff Tryz.prog 164 0 = some 0 := by kernel_rfl
theorem fo_164_1 : fldOff Tryz.prog 164 1 = some 1 := by kernel_rfl
theorem fo_173_0 : fldOff Tryz.prog 173 0 = some 0 := by kernel_rfl
theorem fo_173_1 : fldOff Tryz.prog 173 1 = some 1 := by kernel_rfl
theorem fo_173_2 : fldOff Tryz.prog 173 2 = some 2 := by kernel_rfl
theorem fo_235_0 : fldOff Tryz.prog 235 0 = some 0 := by kernel_rfl
theorem fo_235_1 : fldOff Tryz.prog 235 1 = some 1 := by kernel_rfl
theorem fo_235_2 : fldOff Tryz.prog 235 2 = some 2 := by kernel_rfl
theorem fo_242_0 : fldOff Tryz.prog 242 0 = some 0 := by kernel_rfl
theorem fo_242_1 : fldOff Tryz.prog 242 1 = some 1 := by kernel_rfl
theorem fo_244_0 : fldOff Tryz.prog 244 0 = some 0 := by kernel_rfl
theorem fo_244_1 : fldOff Tryz.prog 244 1 = some 1 := by kernel_rfl
theorem fo_244_2 : fldOff Tryz.prog 244 2 = some 2 := by kernel_rfl
theorem fo_320_0 : fldOff Tryz.prog 320 0 = some 0 := by kernel_rfl
theorem fo_43_0 : fldOff Tryz.prog 43 0 = some 0 := by kernel_rfl
theorem fo_43_1 : fldOff Tryz.prog 43 1 = some 1 := by kernel_rfl
theorem fo_43_2 : fldOff Tryz.prog 43 2 = some 2 := by kernel_rfl
theorem fo_43_3 : fldOff Tryz.prog 43 3 = some 3 := by kernel_rfl
theorem fo_45_0 : fldOff Tryz.prog 45 0 = some 0 := by kernel_rfl
theorem fo_45_1 : fldOff Tryz.prog 45 1 = some 32 := by kernel_rfl
theorem fo_49_0 : fldOff Tryz.prog 49 0 = some 0 := by kernel_rfl
theorem fo_49_1 : fldOff Tryz.prog 49 1 = some 32 := by kernel_rfl
theorem fo_51_0 : fldOff Tryz.prog 51 0 = some 0 := by kernel_rfl
theorem fo_51_1 : fldOff Tryz.prog 51 1 = some 1 := by kernel_rfl
theorem fo_51_2 : fldOff Tryz.prog 51 2 = some 2 := by kernel_rfl
theorem fo_51_3 : fldOff Tryz.prog 51 3 = some 3 := by kernel_rfl
theorem fo_51_4 : fldOff Tryz.prog 51 4 = some 4 := by kernel_rfl
theorem fo_56_0 : fldOff Tryz.prog 56 0 = some 0 := by kernel_rfl
theorem fo_56_1 : fldOff Tryz.prog 56 1 = some 32 := by kernel_rfl
theorem fo_56_2 : fldOff Tryz.prog 56 2 = some 33 := by kernel_rfl
theorem fo_74_0 : fldOff Tryz.prog 74 0 = some 0 := by kernel_rfl
theorem fo_74_1 : fldOff Tryz.prog 74 1 = some 1 := by kernel_rfl
theorem fo_74_2 : fldOff Tryz.prog 74 2 = some 2 := by kernel_rfl
theorem identT_49 : identT Tryz.prog 49 = true := by kernel_rfl
theorem isBool_4 : isBool Tryz.prog 4 = true := by kernel_rfl
theorem isHKey_39 : isHKey Tryz.prog 39 = true := by kernel_rfl
theorem isHash_39 : isHash Tryz.prog 39 = true := by kernel_rfl
theorem isPlainT_39 : isPlainT Tryz.prog 39 = true := by kernel_rfl
theorem isPtr_167 : isPtr Tryz.prog 167 = true := by kernel_rfl
theorem isPtr_25 : isPtr Tryz.prog 25 = true := by kernel_rfl
theorem isPtr_29 : isPtr Tryz.prog 29 = true := by kernel_rfl
theorem isSlice_100 : isSlice Tryz.prog 100 = true := by kernel_rfl
theorem isSlice_151 : isSlice Tryz.prog 151 = true := by kernel_rfl
theorem isSlice_155 : isSlice Tryz.prog 155 = true := by kernel_rfl
theorem isSlice_160 : isSlice Tryz.prog 160 = true := by kernel_rfl
theorem isSlice_22 : isSlice Tryz.prog 22 = true := by kernel_rfl
theorem isSlice_229 : isSlice Tryz.prog 229 = true := by kernel_rfl
theorem isSlice_23 : isSlice Tryz.prog 23 = true := by kernel_rfl
theorem isSlice_240 : isSlice Tryz.prog 240 = true := by kernel_rfl
theorem isSlice_313 : isSlice Tryz.prog 313 = true := by kernel_rfl
theorem isSlice_40 : isSlice Tryz.prog 40 = true := by kernel_rfl
theorem isSlice_41 : isSlice Tryz.prog 41 = true := by kernel_rfl
theorem isSlice_53 : isSlice Tryz.prog 53 = true := by kernel_rfl
theorem isSlice_72 : isSlice Tryz.prog 72 = true := by kernel_rfl
theorem isString_9 : isString Tryz.prog 9 = true := by kernel_rfl
theorem mt_142 : mapT Tryz.prog 142 = some (39, 3) := by kernel_rfl
theorem mt_153 : mapT Tryz.prog 153 = some (9, 155) := by kernel_rfl
theorem mt_168 : mapT Tryz.prog 168 = some (9, 167) := by kernel_rfl
theorem pl_164 : places Tryz.prog 164 = some [(0, 1), (1, 1)] := by kernel_rfl
theorem pl_173 : places Tryz.prog 173 = some [(0, 1), (1, 1), (2, 1)] := by kernel_rfl
theorem pl_235 : places Tryz.prog 235 = some [(0, 1), (1, 1), (2, 1)] := by kernel_rfl
theorem pl_242 : places Tryz.prog 242 = some [(0, 1), (1, 1)] := by kernel_rfl
theorem pl_244 : places Tryz.prog 244 = some [(0, 1), (1, 1), (2, 1)] := by kernel_rfl
theorem pl_320 : places Tryz.prog 320 = some [(0, 1), (1, 1), (2, 1)] := by kernel_rfl
theorem pl_43 : places Tryz.prog 43 = some [(0, 1), (1, 1), (2, 1), (3, 1)] := by kernel_rfl
theorem pl_45 : places Tryz.prog 45 = some [(0, 32), (32, 4)] := by kernel_rfl
theorem pl_49 : places Tryz.prog 49 = some [(0, 32), (32, 1)] := by kernel_rfl
theorem pl_51 : places Tryz.prog 51 = some [(0, 1), (1, 1), (2, 1), (3, 1), (4, 33)] := by kernel_rfl
theorem pl_74 : places Tryz.prog 74 = some [(0, 1), (1, 1), (2, 1)] := by kernel_rfl
theorem sl_100 : slE Tryz.prog 100 = some (102, 4) := by kernel_rfl
theorem sl_151 : slE Tryz.prog 151 = some (60, 1) := by kernel_rfl
theorem sl_155 : slE Tryz.prog 155 = some (235, 3) := by kernel_rfl
theorem sl_160 : slE Tryz.prog 160 = some (164, 2) := by kernel_rfl
theorem sl_181 : slE Tryz.prog 181 = some (4, 1) := by kernel_rfl
theorem sl_22 : slE Tryz.prog 22 = some (45, 36) := by kernel_rfl
theorem sl_227 : slE Tryz.prog 227 = some (72, 1) := by kernel_rfl
theorem sl_229 : slE Tryz.prog 229 = some (39, 32) := by kernel_rfl
theorem sl_23 : slE Tryz.prog 23 = some (9, 1) := by kernel_rfl
theorem sl_240 : slE Tryz.prog 240 = some (244, 3) := by kernel_rfl
theorem sl_313 : slE Tryz.prog 313 = some (320, 3) := by kernel_rfl
theorem sl_40 : slE Tryz.prog 40 = some (51, 37) := by kernel_rfl
theorem sl_41 : slE Tryz.prog 41 = some (39, 32) := by kernel_rfl
theorem sl_53 : slE Tryz.prog 53 = some (23, 1) := by kernel_rfl
theorem sl_71 : slE Tryz.prog 71 = some (151, 1) := by kernel_rfl
theorem sl_72 : slE Tryz.prog 72 = some (3, 1) := by kernel_rfl
theorem sz_153 : (Tryz.prog.info? 153).map (·.size) = some 1 := by kernel_rfl
theorem sz_155 : (Tryz.prog.info? 155).map (·.size) = some 1 := by kernel_rfl
theorem sz_168 : (Tryz.prog.info? 168).map (·.size) = some 1 := by kernel_rfl
theorem sz_181 : (Tryz.prog.info? 181).map (·.size) = some 1 := by kernel_rfl
theorem sz_22 : (Tryz.prog.info? 22).map (·.size) = some 1 := by kernel_rfl
theorem sz_229 : (Tryz.prog.info? 229).map (·.size) = some 1 := by kernel_rfl
theorem sz_240 : (Tryz.prog.info? 240).map (·.size) = some 1 := by kernel_rfl
theorem sz_3 : (Tryz.prog.info? 3).map (·.size) = some 1 := by kernel_rfl
theorem sz_4 : (Tryz.prog.info? 4).map (·.size) = some 1 := by kernel_rfl
theorem sz_40 : (Tryz.prog.info? 40).map (·.size) = some 1 := by kernel_rfl
theorem sz_41 : (Tryz.prog.info? 41).map (·.size) = some 1 := by kernel_rfl
theorem sz_60 : (Tryz.prog.info? 60).map (·.size) = some 1 := by kernel_rfl
theorem sz_71 : (Tryz.prog.info? 71).map (·.size) = some 1 := by kernel_rfl
theorem sz_72 : (Tryz.prog.info? 72).map (·.size) = some 1 := by kernel_rfl
theorem sz_9 : (Tryz.prog.info? 9).map (·.size) = some 1 := by kernel_rfl
theorem ty_102 : tyc Tryz.prog 102 = some (some 4) := by kernel_rfl
theorem ty_142 : tyc Tryz.prog 142 = some none := by kernel_rfl
theorem ty_151 : tyc Tryz.prog 151 = some none := by kernel_rfl
theorem ty_153 : tyc Tryz.prog 153 = some none := by kernel_rfl
theorem ty_155 : tyc Tryz.prog 155 = some none := by kernel_rfl
theorem ty_157 : tyc Tryz.prog 157 = some none := by kernel_rfl
theorem ty_164 : tyc Tryz.prog 164 = some (some 2) := by kernel_rfl
theorem ty_168 : tyc Tryz.prog 168 = some none := by kernel_rfl
theorem ty_181 : tyc Tryz.prog 181 = some none := by kernel_rfl
theorem ty_2 : tyc Tryz.prog 2 = some none := by kernel_rfl
theorem ty_204 : tyc Tryz.prog 204 = some none := by kernel_rfl
theorem ty_22 : tyc Tryz.prog 22 = some none := by kernel_rfl
theorem ty_229 : tyc Tryz.prog 229 = some none := by kernel_rfl
theorem ty_23 : tyc Tryz.prog 23 = some none := by kernel_rfl
theorem ty_235 : tyc Tryz.prog 235 = some (some 3) := by kernel_rfl
theorem ty_240 : tyc Tryz.prog 240 = some none := by kernel_rfl
theorem ty_244 : tyc Tryz.prog 244 = some (some 3) := by kernel_rfl
theorem ty_25 : tyc Tryz.prog 25 = some none := by kernel_rfl
theorem ty_3 : tyc Tryz.prog 3 = some none := by kernel_rfl
theorem ty_316 : tyc Tryz.prog 316 = some none := by kernel_rfl
theorem ty_320 : tyc Tryz.prog 320 = some (some 3) := by kernel_rfl
theorem ty_39 : tyc Tryz.prog 39 = some (some 32) := by kernel_rfl
theorem ty_4 : tyc Tryz.prog 4 = some none := by kernel_rfl
theorem ty_40 : tyc Tryz.prog 40 = some none := by kernel_rfl
theorem ty_41 : tyc Tryz.prog 41 = some none := by kernel_rfl
theorem ty_43 : tyc Tryz.prog 43 = some (some 4) := by kernel_rfl
theorem ty_45 : tyc Tryz.prog 45 = some (some 36) := by kernel_rfl
theorem ty_49 : tyc Tryz.prog 49 = some (some 33) := by kernel_rfl
theorem ty_5 : tyc Tryz.prog 5 = some none := by kernel_rfl
theorem ty_51 : tyc Tryz.prog 51 = some (some 37) := by kernel_rfl
theorem ty_60 : tyc Tryz.prog 60 = some none := by kernel_rfl
theorem ty_71 : tyc Tryz.prog 71 = some none := by kernel_rfl
theorem ty_72 : tyc Tryz.prog 72 = some none := by kernel_rfl
theorem ty_9 : tyc Tryz.prog 9 = some none := by kernel_rfl
theorem zc_102 : zc Tryz.prog 102 = some [.slice none 0 0, .slice none 0 0, .int .i64 0, .int .i64 0] := by kernel_rfl
theorem zc_151 : zc Tryz.prog 151 = some [.slice none 0 0] := by kernel_rfl
theorem zc_153 : zc Tryz.prog 153 = some [.map none] := by kernel_rfl
theorem zc_155 : zc Tryz.prog 155 = some [.slice none 0 0] := by kernel_rfl
theorem zc_164 : zc Tryz.prog 164 = some [.int .i64 0, .int .i64 0] := by kernel_rfl
theorem zc_168 : zc Tryz.prog 168 = some [.map none] := by kernel_rfl
theorem zc_173 : zc Tryz.prog 173 = some [.slice none 0 0, .map none, .slice none 0 0] := by kernel_rfl
theorem zc_181 : zc Tryz.prog 181 = some [.slice none 0 0] := by kernel_rfl
theorem zc_23 : zc Tryz.prog 23 = some [.slice none 0 0] := by kernel_rfl
theorem zc_235 : zc Tryz.prog 235 = some [.int .i64 0, .bool false, .string ByteArray.empty] := by kernel_rfl
theorem zc_242 : zc Tryz.prog 242 = some [.slice none 0 0, .slice none 0 0] := by kernel_rfl
theorem zc_244 : zc Tryz.prog 244 = some [.int .i64 0, .int .i64 0, .int .i64 0] := by kernel_rfl
theorem zc_3 : zc Tryz.prog 3 = some [.int .i64 0] := by kernel_rfl
theorem zc_320 : zc Tryz.prog 320 = some [.nilFunc, .nilFunc, .nilFunc] := by kernel_rfl
theorem zc_39 : zc Tryz.prog 39 = some (hashCells 0) := by kernel_rfl
theorem zc_4 : zc Tryz.prog 4 = some [.bool false] := by kernel_rfl
theorem zc_41 : zc Tryz.prog 41 = some [.slice none 0 0] := by kernel_rfl
theorem zc_43 : zc Tryz.prog 43 = some [.int .i64 0, .int .i64 0, .slice none 0 0, .slice none 0 0] := by kernel_rfl
theorem zc_45 : zc Tryz.prog 45 = some (entCells 0 0 0 (.slice none 0 0) (.slice none 0 0)) := by kernel_rfl
theorem zc_49 : zc Tryz.prog 49 = some (identCells 0 0) := by kernel_rfl
theorem zc_51 : zc Tryz.prog 51 = some (opCells 0 ByteArray.empty ByteArray.empty 0 0 0) := by kernel_rfl
theorem zc_60 : zc Tryz.prog 60 = some [.int .u64 0] := by kernel_rfl
theorem zc_72 : zc Tryz.prog 72 = some [.slice none 0 0] := by kernel_rfl
theorem zc_74 : zc Tryz.prog 74 = some [.slice none 0 0, .slice none 0 0, .slice none 0 0] := by kernel_rfl
theorem zc_9 : zc Tryz.prog 9 = some [.string ByteArray.empty] := by kernel_rfl
theorem zv_155 : ∀ w, (zeroValue 155).run Tryz.prog w = .ok (.slice none 0 0) w := fun w => by kernel_rfl
theorem zv_167 : ∀ w, (zeroValue 167).run Tryz.prog w = .ok (.pointer none) w := fun w => by kernel_rfl
theorem zv_3 : ∀ w, (zeroValue 3).run Tryz.prog w = .ok (.int .i64 0) w := fun w => by kernel_rfl
end Go.Proofs.YtgoooilgmabkmaaGreat
namespace Go.Proofs.YtgoooilgmabkmaaGreat
open Go Go.Sl
set_option linter.unusedVariables false
set_option linter.unusedSimpArgs false
set_option maxRecDepth 100000


/-- how two hashes stand -/
def cmpH (a b : Nat) : Int := if a < b then -1 else if b < a then 1 else 0
theorem hash_top0 {a b : Nat} (ha : IsH a) (hb : IsH b) : a / 256 ^ (32 - 0) = b / 256 ^ (32 - 0) := by
  have e : (256 : Nat) ^ (32 - 0) = HashMax := by decide
  rw [e, Nat.div_eq_of_lt ha, Nat.div_eq_of_lt hb]
theorem hc_at (a i : Nat) (hi : i < 32) : (hashCells a)[0 + i * 1]? = some (.int .u8 (hdig a i : Int)) := by
  rw [Nat.zero_add, Nat.mul_one, hashCells_get a i hi]; rfl

theorem r1_compare (σ : View) (a b : Nat) (ha : IsH a) (hb : IsH b) :
    TriP Tryz.prog 154 #[hashV a, hashV b] σ (.int .i64 (cmpH a b)) := by
  refine Tri.of_body [(0, hashV a), (1, hashV b)] Tryz.func154 rfl Tryz.ntmps154 (by simp) rfl (fun Hr => ?_)
  rw [List.nil_append]
  refine WC.seq ?_
  refine WC.region ?_
  refine WL.new (New.boxN rfl) (fun b2 => ?_)
  refine WL.new (New.boxN rfl) (fun b3 => ?_)
  refine WL.pur (Pur.assign rfl) ?_
  refine WL.nil ?_
  refine WQ.thn ?_
  refine WC.seq ?_
  refine WC.seq ?_
  refine WC.region ?_
  refine WL.pur (Pur.assign rfl) ?_
  refine WL.nil ?_
  refine WQ.thn ?_
  refine WC.block ?_
  refine WC.loop (fun j m σ' H' => ∃ i : Nat, j = 32 - i ∧ i ≤ 32 ∧ a / 256 ^ (32 - i) = b / 256 ^ (32 - i) ∧ m = [(2, .pointer (some ⟨b2, 0, none⟩)), (3, .pointer (some ⟨b3, 0, none⟩)), (5, .int .i64 (i : Int))] ∧ σ' = σ ∧ H' = (b3, rowO 39 (hashCells b)) :: (b2, rowO 39 (hashCells a)) :: Hr) ⟨0, rfl, by omega, hash_top0 ha hb, rfl, rfl, rfl⟩ zcV zsL ?_
  rintro _ _ σ _ ⟨i, rfl, hi, htop, rfl, rfl, rfl⟩
  refine WC.seq ?_
  refine WC.seq ?_
  refine WC.region ?_
  refine WL.pur (Pur.move rfl) ?_
  refine' WL.pur (Pur.bin rfl rfl ?h1_0) ?k1
  case h1_0 => first | exact Bin.ltN (b := 32) | exact Bin.ltI | exact Bin.ltS
  refine WL.nil ?_
  refine WQ.thn ?_
  first | refine WC.cond rfl (fun hc0 => ?_) (fun hc0 => ?_) | refine WC.condB rfl (fun hc0 => ?_) (fun hc0 => ?_)
  · have hA := hc_at a i (by omega); have hB := hc_at b i (by omega)
    refine WC.skip ?_
    refine WQ.thn ?_
    refine WC.seq ?_
    refine WC.block ?_
    refine WC.seq ?_
    refine WC.seq ?_
    refine WC.drawH 7 7 mixed (by kernel_rfl) rfl ?_
    refine SA.take 0 (by kernel_rfl) rfl rfl rfl (Wanted.plain rfl) zsL (View.le_refl _) (Pur.move rfl) ?_
    refine' SA.take 1 (by kernel_rfl) rfl rfl rfl (Wanted.plain rfl) zsL (View.le_refl _) (Pur.indexAddrA rfl rfl ar_39 ?h2_0) ?k2
    case h2_0 => omega
    refine' SA.take 2 (by kernel_rfl) rfl rfl rfl (Wanted.plain rfl) zsL (View.le_refl _) (Pur.load1 rfl ty_5 ?h3_0) ?k3
    case h3_0 => first | (apply Rd.own1; exact zmE; rfl) | (apply Rd.own1; exact zmE; assumption) | (apply Rd.own_map; exact zmE; assumption) | exact RdV.rd (by assumption) | (apply RdV.rd; apply RdV.idx (i := 0); assumption; rfl)
    refine SA.take 3 (by kernel_rfl) rfl rfl rfl (Wanted.plain rfl) zsL (View.le_refl _) (Pur.move rfl) ?_
    refine' SA.take 4 (by kernel_rfl) rfl rfl rfl (Wanted.plain rfl) zsL (View.le_refl _) (Pur.indexAddrA rfl rfl ar_39 ?h4_0) ?k4
    case h4_0 => omega
    refine' SA.take 5 (by kernel_rfl) rfl rfl rfl (Wanted.plain rfl) zsL (View.le_refl _) (Pur.load1 rfl ty_5 ?h5_0) ?k5
    case h5_0 => first | (apply Rd.own1; exact zmE; rfl) | (apply Rd.own1; exact zmE; assumption) | (apply Rd.own_map; exact zmE; assumption) | exact RdV.rd (by assumption) | (apply RdV.rd; apply RdV.idx (i := 0); assumption; rfl)
    refine' SA.take 6 (by kernel_rfl) rfl rfl rfl (Wanted.plain rfl) zsL (View.le_refl _) (Pur.bin rfl rfl ?h6_0) ?k6
    case h6_0 => first | exact Bin.ltN | exact Bin.ltI | exact Bin.ltS
    refine SA.done (by kernel_rfl) ?_
    refine WQ.thn ?_
    first | refine WC.cond rfl (fun hc1 => ?_) (fun hc1 => ?_) | refine WC.condB rfl (fun hc1 => ?_) (fun hc1 => ?_)
    · refine WC.seq ?_
      refine WC.region ?_
      refine WL.pur (Pur.assign rfl) ?_
      refine WL.nil ?_
      refine WQ.thn ?_
      refine WC.ret ?_
      refine WQ.thn_ret ?_
      refine WQ.blk_ret ?_
      refine WQ.thn_ret ?_
      refine WQ.back_ret ?_
      refine WQ.blk_ret ?_
      refine WQ.thn_ret ?_
      refine WQ.ret1 Tryz.results154 rfl [] zsL (View.le_refl _) ?_
      refine ⟨?_, rfl, rfl⟩
      have := hash_lt (by omega) htop hc1; simp [cmpH, this]
    · refine WC.skip ?_
      refine WQ.thn ?_
      refine WC.seq ?_
      refine WC.drawH 7 7 mixed (by kernel_rfl) rfl ?_
      refine SA.take 0 (by kernel_rfl) rfl rfl rfl (Wanted.plain rfl) zsL (View.le_refl _) (Pur.move rfl) ?_
      refine' SA.take 1 (by kernel_rfl) rfl rfl rfl (Wanted.plain rfl) zsL (View.le_refl _) (Pur.indexAddrA rfl rfl ar_39 ?h7_0) ?k7
      case h7_0 => omega
      refine' SA.take 2 (by kernel_rfl) rfl rfl rfl (Wanted.plain rfl) zsL (View.le_refl _) (Pur.load1 rfl ty_5 ?h8_0) ?k8
      case h8_0 => first | (apply Rd.own1; exact zmE; rfl) | (apply Rd.own1; exact zmE; assumption) | (apply Rd.own_map; exact zmE; assumption) | exact RdV.rd (by assumption) | (apply RdV.rd; apply RdV.idx (i := 0); assumption; rfl)
      refine SA.take 3 (by kernel_rfl) rfl rfl rfl (Wanted.plain rfl) zsL (View.le_refl _) (Pur.move rfl) ?_
      refine' SA.take 4 (by kernel_rfl) rfl rfl rfl (Wanted.plain rfl) zsL (View.le_refl _) (Pur.indexAddrA rfl rfl ar_39 ?h9_0) ?k9
      case h9_0 => omega
      refine' SA.take 5 (by kernel_rfl) rfl rfl rfl (Wanted.plain rfl) zsL (View.le_refl _) (Pur.load1 rfl ty_5 ?h10_0) ?k10
      case h10_0 => first | (apply Rd.own1; exact zmE; rfl) | (apply Rd.own1; exact zmE; assumption) | (apply Rd.own_map; exact zmE; assumption) | exact RdV.rd (by assumption) | (apply RdV.rd; apply RdV.idx (i := 0); assumption; rfl)
      refine' SA.take 6 (by kernel_rfl) rfl rfl rfl (Wanted.plain rfl) zsL (View.le_refl _) (Pur.bin rfl rfl ?h11_0) ?k11
      case h11_0 => first | exact Bin.gtN | exact Bin.gtI
      refine SA.done (by kernel_rfl) ?_
      refine WQ.thn ?_
      first | refine WC.cond rfl (fun hc2 => ?_) (fun hc2 => ?_) | refine WC.condB rfl (fun hc2 => ?_) (fun hc2 => ?_)
      · refine WC.seq ?_
        refine WC.region ?_
        refine WL.pur (Pur.assign rfl) ?_
        refine WL.nil ?_
        refine WQ.thn ?_
        refine WC.ret ?_
        refine WQ.blk_ret ?_
        refine WQ.thn_ret ?_
        refine WQ.back_ret ?_
        refine WQ.blk_ret ?_
        refine WQ.thn_ret ?_
        refine WQ.ret1 Tryz.results154 rfl [] zsL (View.le_refl _) ?_
        refine ⟨?_, rfl, rfl⟩
        have := hash_lt (by omega) htop.symm hc2; have h2 : ¬ a < b := by omega
        simp [cmpH, this, h2]
      · refine WC.skip ?_
        refine WQ.blk ?_
        refine WQ.thn ?_
        refine WC.region ?_
        refine WL.pur (Pur.move rfl) ?_
        refine' WL.pur (Pur.bin rfl rfl ?h12_0) ?k12
        case h12_0 => first | (refine Bin.addN (b := 1) ?_; omega) | (refine Bin.addI ?_; omega)
        refine WL.pur (Pur.assign rfl) ?_
        refine WL.nil ?_
        refine WQ.back _ ⟨i + 1, rfl, by omega, by rw [show 32 - (i + 1) = 31 - i by omega, top_succ a i (by omega), top_succ b i (by omega), htop, show hdig a i = hdig b i by omega], rfl, rfl, rfl⟩ (by omega) zcV zsL
  · refine WC.exit ?_
    refine WQ.thn_exit ?_
    refine WQ.back_exit ?_
    refine WQ.blk_here ?_
    refine WQ.thn ?_
    refine WC.seq ?_
    refine WC.region ?_
    refine WL.pur (Pur.assign rfl) ?_
    refine WL.nil ?_
    refine WQ.thn ?_
    refine WC.ret ?_
    refine WQ.ret1 Tryz.results154 rfl [] zsL (View.le_refl _) ?_
    refine ⟨?_, rfl, rfl⟩
    have : i = 32 := by omega
    subst this; simp at htop; simp [cmpH, htop]

end Go.Proofs.YtgoooilgmabkmaaGreat
namespace Go.Proofs.YtgoooilgmabkmaaGreat
open Go Go.Sl
set_option linter.unusedVariables false
set_option linter.unusedSimpArgs false
set_option maxRecDepth 100000

/-- a field's three functions -/
def fieldC (i : Nat) : List Value := if i = 0 then [.func (.func 256) #[] #[], .func (.func 257) #[] #[], .func (.func 259) #[] #[]] else if i = 1 then [.func (.func 261) #[] #[], .func (.func 262) #[] #[], .func (.func 264) #[] #[]] else [.func (.func 266) #[] #[], .func (.func 267) #[] #[], .func (.func 270) #[] #[]]
def eField : Enc Nat := fun _ i vs => vs = fieldC i ∧ i < 3
theorem eField_mono : Enc.Mono eField := fun _ _ _ _ _ h => h
theorem field_row (σ : View) (l : List Nat) (hl : ∀ i ∈ l, i < 3) : ElR σ eField 3 l (l.map fieldC) := by
  refine ⟨by simp, fun i x hx => ⟨fieldC x, by simp [hx], ?_, ?_, rfl, hl x (List.mem_of_getElem? hx)⟩⟩
  · unfold fieldC; split; rfl; split <;> rfl
  · unfold fieldC; split; rfl; split <;> rfl

theorem op_text (σ : View) :
    TriP Tryz.prog 250 #[] σ (.agg (fieldC 0).toArray) := by
  refine Tri.of_body [] Tryz.func250 rfl Tryz.ntmps250 (by simp) rfl (fun Hr => ?_)
  rw [List.nil_append]
  refine WC.seq ?_
  refine WC.region ?_
  refine WL.new (New.alloc zc_320) (fun b0 => ?_)
  refine WL.nil ?_
  refine WQ.thn ?_
  refine WC.seq ?_
  refine WC.region ?_
  refine WL.pur (Pur.build (l := [.func (.func 256) #[] #[], .func (.func 257) #[] #[], .func (.func 259) #[] #[]]) pl_320 zc_320 rfl rfl) ?_
  refine' WL.run0 (Run.storeAll rfl rfl ty_320 ?h1_0 (by first | rfl | assumption) ?h1_1 (by first | rfl | assumption)) ?k1
  case h1_0 => repeat (first | exact Part.one | exact Part.here | apply Part.cons | apply Part.app)
  case h1_1 => first | rfl | assumption
  refine WL.nil ?_
  refine WQ.thn ?_
  refine WC.ret ?_
  refine' WQ.retC Tryz.results250 rfl ty_320 ?h2_0 ?h2_1 [] zsL (View.le_refl _) ?k2
  case h2_0 => apply Rd.own_sub; exact zmE; exact Sub.refl _
  case h2_1 => rfl
  refine ⟨?_, rfl, rfl⟩
  rfl

theorem op_number (σ : View) :
    TriP Tryz.prog 251 #[] σ (.agg (fieldC 1).toArray) := by
  refine Tri.of_body [] Tryz.func251 rfl Tryz.ntmps251 (by simp) rfl (fun Hr => ?_)
  rw [List.nil_append]
  refine WC.seq ?_
  refine WC.region ?_
  refine WL.new (New.alloc zc_320) (fun b0 => ?_)
  refine WL.nil ?_
  refine WQ.thn ?_
  refine WC.seq ?_
  refine WC.region ?_
  refine WL.pur (Pur.build (l := [.func (.func 261) #[] #[], .func (.func 262) #[] #[], .func (.func 264) #[] #[]]) pl_320 zc_320 rfl rfl) ?_
  refine' WL.run0 (Run.storeAll rfl rfl ty_320 ?h1_0 (by first | rfl | assumption) ?h1_1 (by first | rfl | assumption)) ?k1
  case h1_0 => repeat (first | exact Part.one | exact Part.here | apply Part.cons | apply Part.app)
  case h1_1 => first | rfl | assumption
  refine WL.nil ?_
  refine WQ.thn ?_
  refine WC.ret ?_
  refine' WQ.retC Tryz.results251 rfl ty_320 ?h2_0 ?h2_1 [] zsL (View.le_refl _) ?k2
  case h2_0 => apply Rd.own_sub; exact zmE; exact Sub.refl _
  case h2_1 => rfl
  refine ⟨?_, rfl, rfl⟩
  rfl

theorem op_at (σ : View) :
    TriP Tryz.prog 252 #[] σ (.agg (fieldC 2).toArray) := by
  refine Tri.of_body [] Tryz.func252 rfl Tryz.ntmps252 (by simp) rfl (fun Hr => ?_)
  rw [List.nil_append]
  refine WC.seq ?_
  refine WC.region ?_
  refine WL.new (New.alloc zc_320) (fun b0 => ?_)
  refine WL.nil ?_
  refine WQ.thn ?_
  refine WC.seq ?_
  refine WC.region ?_
  refine WL.pur (Pur.build (l := [.func (.func 266) #[] #[], .func (.func 267) #[] #[], .func (.func 270) #[] #[]]) pl_320 zc_320 rfl rfl) ?_
  refine' WL.run0 (Run.storeAll rfl rfl ty_320 ?h1_0 (by first | rfl | assumption) ?h1_1 (by first | rfl | assumption)) ?k1
  case h1_0 => repeat (first | exact Part.one | exact Part.here | apply Part.cons | apply Part.app)
  case h1_1 => first | rfl | assumption
  refine WL.nil ?_
  refine WQ.thn ?_
  refine WC.ret ?_
  refine' WQ.retC Tryz.results252 rfl ty_320 ?h2_0 ?h2_1 [] zsL (View.le_refl _) ?k2
  case h2_0 => apply Rd.own_sub; exact zmE; exact Sub.refl _
  case h2_1 => rfl
  refine ⟨?_, rfl, rfl⟩
  rfl

theorem op_known (σ : View) (k : Int) :
    TriP Tryz.prog 237 #[.int .i64 k] σ (.bool (decide (1 ≤ k ∧ k ≤ 9))) := by
  refine Tri.of_body [(0, .int .i64 k)] Tryz.func237 rfl Tryz.ntmps237 (by simp) rfl (fun Hr => ?_)
  rw [List.nil_append]
  refine WC.seq ?_
  refine WC.region ?_
  refine WL.pur (Pur.assign rfl) ?_
  refine WL.nil ?_
  refine WQ.thn ?_
  refine WC.seq ?_
  refine WC.region ?_
  refine WL.pur (Pur.move rfl) ?_
  refine' WL.pur (Pur.bin rfl rfl ?h1_0) ?k1
  case h1_0 => first | exact Bin.geN (b := 1) | exact Bin.geI
  refine WL.pur (Pur.move rfl) ?_
  refine' WL.andp (u := 5) (t := 8) rfl ?h2_0 ?h2_1 ?h2_2 rfl ?k2
  case h2_0 =>
    intro hg5 K5
    refine WL.gpur (u := 5) rfl rfl (gT hg5) (Pur.move rfl) ?_
    refine' WL.gpur (u := 5) rfl rfl (gT hg5) (Pur.bin rfl rfl ?h3_0) ?k3
    case h3_0 => first | exact Bin.leN (b := 9) | exact Bin.leI | exact Bin.leS
    exact K5 _ zcR rfl
  case h2_1 =>
    intro hg5 K5
    refine WL.gskip (u := 5) rfl rfl (sT hg5) ?_
    refine WL.gskip (u := 5) rfl rfl (sT hg5) ?_
    exact K5 _ zcR
  case h2_2 => exact Wanted.plain rfl
  refine WL.pur (Pur.assign rfl) ?_
  refine WL.nil ?_
  refine WQ.thn ?_
  refine WC.ret ?_
  refine WQ.ret1 Tryz.results237 rfl [] zsL (View.le_refl _) ?_
  refine ⟨?_, rfl, rfl⟩
  exact decB (by omega)

theorem op_Cell (σ : View) (k : Int) :
    TriP Tryz.prog 169 #[.int .i64 k] σ (.int .i64 (cellOf k)) := by
  refine Tri.of_body [(0, .int .i64 k)] Tryz.func169 rfl Tryz.ntmps169 (by simp) rfl (fun Hr => ?_)
  rw [List.nil_append]
  refine WC.seq ?_
  refine WC.region ?_
  refine WL.pur (Pur.assign rfl) ?_
  refine WL.nil ?_
  refine WQ.thn ?_
  refine WC.seq ?_
  refine WC.seq ?_
  refine WC.region ?_
  refine WL.pur (Pur.move rfl) ?_
  refine WL.nil ?_
  refine WQ.thn ?_
  refine WC.block ?_
  refine WC.seq ?_
  refine WC.seq ?_
  refine WC.region ?_
  refine' WL.pur (Pur.bin rfl rfl ?h1_0) ?k1
  case h1_0 => first | exact Bin.eqN (b := 1) | exact Bin.eqI
  refine WL.pur (Pur.assign rfl) ?_
  refine WL.nil ?_
  refine WQ.thn ?_
  first | refine WC.cond rfl (fun hc0 => ?_) (fun hc0 => ?_) | refine WC.condB rfl (fun hc0 => ?_) (fun hc0 => ?_)
  · refine WC.skip ?_
    refine WQ.thn ?_
    first | refine WC.condY hc0 rfl ?_ | refine WC.condT (congrArg (fun x => some (Value.bool x)) hc0) ?_
    refine WC.seq ?_
    refine WC.region ?_
    refine WL.pur (Pur.assign rfl) ?_
    refine WL.nil ?_
    refine WQ.thn ?_
    refine WC.ret ?_
    refine WQ.blk_ret ?_
    refine WQ.thn_ret ?_
    refine WQ.ret1 Tryz.results169 rfl [] zsL (View.le_refl _) ?_
    refine ⟨?_, rfl, rfl⟩
    exact intV (by unfold cellOf; (repeat (first | rw [if_pos (by omega)] | rw [if_neg (by omega)])))
  · refine WC.region ?_
    refine' WL.pur (Pur.bin rfl rfl ?h2_0) ?k2
    case h2_0 => first | exact Bin.eqN (b := 2) | exact Bin.eqI
    refine WL.pur (Pur.assign rfl) ?_
    refine WL.nil ?_
    refine WQ.thn ?_
    first | refine WC.cond rfl (fun hc2 => ?_) (fun hc2 => ?_) | refine WC.condB rfl (fun hc2 => ?_) (fun hc2 => ?_)
    · refine WC.seq ?_
      refine WC.region ?_
      refine WL.pur (Pur.assign rfl) ?_
      refine WL.nil ?_
      refine WQ.thn ?_
      refine WC.ret ?_
      refine WQ.blk_ret ?_
      refine WQ.thn_ret ?_
      refine WQ.ret1 Tryz.results169 rfl [] zsL (View.le_refl _) ?_
      refine ⟨?_, rfl, rfl⟩
      exact intV (by unfold cellOf; (repeat (first | rw [if_pos (by omega)] | rw [if_neg (by omega)])))
    · refine WC.seq ?_
      refine WC.seq ?_
      refine WC.region ?_
      refine' WL.pur (Pur.bin rfl rfl ?h3_0) ?k3
      case h3_0 => first | exact Bin.eqN (b := 3) | exact Bin.eqI
      refine WL.pur (Pur.assign rfl) ?_
      refine WL.nil ?_
      refine WQ.thn ?_
      first | refine WC.cond rfl (fun hc3 => ?_) (fun hc3 => ?_) | refine WC.condB rfl (fun hc3 => ?_) (fun hc3 => ?_)
      · refine WC.skip ?_
        refine WQ.thn ?_
        first | refine WC.condY hc3 rfl ?_ | refine WC.condT (congrArg (fun x => some (Value.bool x)) hc3) ?_
        refine WC.seq ?_
        refine WC.region ?_
        refine WL.pur (Pur.assign rfl) ?_
        refine WL.nil ?_
        refine WQ.thn ?_
        refine WC.ret ?_
        refine WQ.blk_ret ?_
        refine WQ.thn_ret ?_
        refine WQ.ret1 Tryz.results169 rfl [] zsL (View.le_refl _) ?_
        refine ⟨?_, rfl, rfl⟩
        exact intV (by unfold cellOf; (repeat (first | rw [if_pos (by omega)] | rw [if_neg (by omega)])))
      · refine WC.seq ?_
        refine WC.region ?_
        refine' WL.pur (Pur.bin rfl rfl ?h4_0) ?k4
        case h4_0 => first | exact Bin.eqN (b := 4) | exact Bin.eqI
        refine WL.pur (Pur.assign rfl) ?_
        refine WL.nil ?_
        refine WQ.thn ?_
        first | refine WC.cond rfl (fun hc5 => ?_) (fun hc5 => ?_) | refine WC.condB rfl (fun hc5 => ?_) (fun hc5 => ?_)
        · refine WC.skip ?_
          refine WQ.thn ?_
          first | refine WC.condY hc5 rfl ?_ | refine WC.condT (congrArg (fun x => some (Value.bool x)) hc5) ?_
          refine WC.seq ?_
          refine WC.region ?_
          refine WL.pur (Pur.assign rfl) ?_
          refine WL.nil ?_
          refine WQ.thn ?_
          refine WC.ret ?_
          refine WQ.blk_ret ?_
          refine WQ.thn_ret ?_
          refine WQ.ret1 Tryz.results169 rfl [] zsL (View.le_refl _) ?_
          refine ⟨?_, rfl, rfl⟩
          exact intV (by unfold cellOf; (repeat (first | rw [if_pos (by omega)] | rw [if_neg (by omega)])))
        · refine WC.region ?_
          refine' WL.pur (Pur.bin rfl rfl ?h5_0) ?k5
          case h5_0 => first | exact Bin.eqN (b := 5) | exact Bin.eqI
          refine WL.pur (Pur.assign rfl) ?_
          refine WL.nil ?_
          refine WQ.thn ?_
          first | refine WC.cond rfl (fun hc7 => ?_) (fun hc7 => ?_) | refine WC.condB rfl (fun hc7 => ?_) (fun hc7 => ?_)
          · refine WC.seq ?_
            refine WC.region ?_
            refine WL.pur (Pur.assign rfl) ?_
            refine WL.nil ?_
            refine WQ.thn ?_
            refine WC.ret ?_
            refine WQ.blk_ret ?_
            refine WQ.thn_ret ?_
            refine WQ.ret1 Tryz.results169 rfl [] zsL (View.le_refl _) ?_
            refine ⟨?_, rfl, rfl⟩
            exact intV (by unfold cellOf; (repeat (first | rw [if_pos (by omega)] | rw [if_neg (by omega)])))
          · refine WC.seq ?_
            refine WC.seq ?_
            refine WC.region ?_
            refine' WL.pur (Pur.bin rfl rfl ?h6_0) ?k6
            case h6_0 => first | exact Bin.eqN (b := 6) | exact Bin.eqI
            refine WL.pur (Pur.assign rfl) ?_
            refine WL.nil ?_
            refine WQ.thn ?_
            first | refine WC.cond rfl (fun hc8 => ?_) (fun hc8 => ?_) | refine WC.condB rfl (fun hc8 => ?_) (fun hc8 => ?_)
            · refine WC.skip ?_
              refine WQ.thn ?_
              first | refine WC.condY hc8 rfl ?_ | refine WC.condT (congrArg (fun x => some (Value.bool x)) hc8) ?_
              refine WC.seq ?_
              refine WC.region ?_
              refine WL.pur (Pur.assign rfl) ?_
              refine WL.nil ?_
              refine WQ.thn ?_
              refine WC.ret ?_
              refine WQ.blk_ret ?_
              refine WQ.thn_ret ?_
              refine WQ.ret1 Tryz.results169 rfl [] zsL (View.le_refl _) ?_
              refine ⟨?_, rfl, rfl⟩
              exact intV (by unfold cellOf; (repeat (first | rw [if_pos (by omega)] | rw [if_neg (by omega)])))
            · refine WC.region ?_
              refine' WL.pur (Pur.bin rfl rfl ?h7_0) ?k7
              case h7_0 => first | exact Bin.eqN (b := 7) | exact Bin.eqI
              refine WL.pur (Pur.assign rfl) ?_
              refine WL.nil ?_
              refine WQ.thn ?_
              first | refine WC.cond rfl (fun hc10 => ?_) (fun hc10 => ?_) | refine WC.condB rfl (fun hc10 => ?_) (fun hc10 => ?_)
              · refine WC.seq ?_
                refine WC.region ?_
                refine WL.pur (Pur.assign rfl) ?_
                refine WL.nil ?_
                refine WQ.thn ?_
                refine WC.ret ?_
                refine WQ.blk_ret ?_
                refine WQ.thn_ret ?_
                refine WQ.ret1 Tryz.results169 rfl [] zsL (View.le_refl _) ?_
                refine ⟨?_, rfl, rfl⟩
                exact intV (by unfold cellOf; (repeat (first | rw [if_pos (by omega)] | rw [if_neg (by omega)])))
              · refine WC.seq ?_
                refine WC.seq ?_
                refine WC.region ?_
                refine' WL.pur (Pur.bin rfl rfl ?h8_0) ?k8
                case h8_0 => first | exact Bin.eqN (b := 8) | exact Bin.eqI
                refine WL.pur (Pur.assign rfl) ?_
                refine WL.nil ?_
                refine WQ.thn ?_
                first | refine WC.cond rfl (fun hc11 => ?_) (fun hc11 => ?_) | refine WC.condB rfl (fun hc11 => ?_) (fun hc11 => ?_)
                · refine WC.skip ?_
                  refine WQ.thn ?_
                  first | refine WC.condY hc11 rfl ?_ | refine WC.condT (congrArg (fun x => some (Value.bool x)) hc11) ?_
                  refine WC.seq ?_
                  refine WC.region ?_
                  refine WL.pur (Pur.assign rfl) ?_
                  refine WL.nil ?_
                  refine WQ.thn ?_
                  refine WC.ret ?_
                  refine WQ.blk_ret ?_
                  refine WQ.thn_ret ?_
                  refine WQ.ret1 Tryz.results169 rfl [] zsL (View.le_refl _) ?_
                  refine ⟨?_, rfl, rfl⟩
                  exact intV (by unfold cellOf; (repeat (first | rw [if_pos (by omega)] | rw [if_neg (by omega)])))
                · refine WC.region ?_
                  refine' WL.pur (Pur.bin rfl rfl ?h9_0) ?k9
                  case h9_0 => first | exact Bin.eqN (b := 9) | exact Bin.eqI
                  refine WL.pur (Pur.assign rfl) ?_
                  refine WL.nil ?_
                  refine WQ.thn ?_
                  first | refine WC.cond rfl (fun hc13 => ?_) (fun hc13 => ?_) | refine WC.condB rfl (fun hc13 => ?_) (fun hc13 => ?_)
                  · refine WC.seq ?_
                    refine WC.region ?_
                    refine WL.pur (Pur.assign rfl) ?_
                    refine WL.nil ?_
                    refine WQ.thn ?_
                    refine WC.ret ?_
                    refine WQ.blk_ret ?_
                    refine WQ.thn_ret ?_
                    refine WQ.ret1 Tryz.results169 rfl [] zsL (View.le_refl _) ?_
                    refine ⟨?_, rfl, rfl⟩
                    exact intV (by unfold cellOf; (repeat (first | rw [if_pos (by omega)] | rw [if_neg (by omega)])))
                  · refine WC.skip ?_
                    refine WQ.blk ?_
                    refine WQ.thn ?_
                    refine WC.seq ?_
                    refine WC.region ?_
                    refine WL.pur (Pur.assign rfl) ?_
                    refine WL.nil ?_
                    refine WQ.thn ?_
                    refine WC.ret ?_
                    refine WQ.ret1 Tryz.results169 rfl [] zsL (View.le_refl _) ?_
                    refine ⟨?_, rfl, rfl⟩
                    exact intV (by unfold cellOf; (repeat (first | rw [if_pos (by omega)] | rw [if_neg (by omega)])))

theorem op_text1 (σ : View) (o : OpD) (h : o.ok) :
    TriP Tryz.prog 256 #[.agg o.cells.toArray] σ (.bool (decide (emptyAt o 0))) := by
  refine Tri.of_body [(0, .agg o.cells.toArray)] Tryz.func256 rfl Tryz.ntmps256 (by simp) rfl (fun Hr => ?_)
  rw [List.nil_append]
  refine WC.seq ?_
  refine WC.region ?_
  refine WL.new (New.boxN rfl) (fun b1 => ?_)
  refine WL.pur (Pur.assign rfl) ?_
  refine WL.nil ?_
  refine WQ.thn ?_
  refine WC.seq ?_
  refine WC.region ?_
  refine WL.pur (Pur.fieldAddr rfl fo_51_2) ?_
  refine' WL.pur (Pur.load1 rfl ty_9 ?h1_0) ?k1
  case h1_0 => first | (apply Rd.own1; exact zmE; rfl) | (apply RdV.rd; apply RdV.idx (i := 2); assumption; rfl) | (apply RdV.rd; apply RdV.idx (off := 0) (i := 2); assumption; rfl)
  refine' WL.pur (Pur.bin rfl rfl ?h2_0) ?k2
  case h2_0 => exact Bin.eqS
  refine WL.pur (Pur.assign rfl) ?_
  refine WL.nil ?_
  refine WQ.thn ?_
  refine WC.ret ?_
  refine WQ.ret1 Tryz.results256 rfl [] zsL (View.le_refl _) ?_
  refine ⟨?_, rfl, rfl⟩
  rfl

theorem op_number1 (σ : View) (o : OpD) (h : o.ok) :
    TriP Tryz.prog 261 #[.agg o.cells.toArray] σ (.bool (decide (emptyAt o 1))) := by
  refine Tri.of_body [(0, .agg o.cells.toArray)] Tryz.func261 rfl Tryz.ntmps261 (by simp) rfl (fun Hr => ?_)
  rw [List.nil_append]
  refine WC.seq ?_
  refine WC.region ?_
  refine WL.new (New.boxN rfl) (fun b1 => ?_)
  refine WL.pur (Pur.assign rfl) ?_
  refine WL.nil ?_
  refine WQ.thn ?_
  refine WC.seq ?_
  refine WC.region ?_
  refine WL.pur (Pur.fieldAddr rfl fo_51_3) ?_
  refine' WL.pur (Pur.load1 rfl ty_2 ?h1_0) ?k1
  case h1_0 => first | (apply Rd.own1; exact zmE; rfl) | (apply RdV.rd; apply RdV.idx (i := 3); assumption; rfl) | (apply RdV.rd; apply RdV.idx (off := 0) (i := 3); assumption; rfl)
  refine' WL.pur (Pur.bin rfl rfl ?h2_0) ?k2
  case h2_0 => first | exact Bin.eqN (b := 0) | exact Bin.eqI
  refine WL.pur (Pur.assign rfl) ?_
  refine WL.nil ?_
  refine WQ.thn ?_
  refine WC.ret ?_
  refine WQ.ret1 Tryz.results261 rfl [] zsL (View.le_refl _) ?_
  refine ⟨?_, rfl, rfl⟩
  rfl

theorem op_at1 (σ : View) (o : OpD) (h : o.ok) :
    TriP Tryz.prog 266 #[.agg o.cells.toArray] σ (.bool (decide (emptyAt o 2))) := by
  refine Tri.of_body [(0, .agg o.cells.toArray)] Tryz.func266 rfl Tryz.ntmps266 (by simp) rfl (fun Hr => ?_)
  rw [List.nil_append]
  obtain ⟨hk, hkey, htext, hn, hatn, hato⟩ := h
  have h0 := isH0
  refine WC.seq ?_
  refine WC.region ?_
  refine WL.new (New.boxN rfl) (fun b1 => ?_)
  refine WL.pur (Pur.assign rfl) ?_
  refine WL.nil ?_
  refine WQ.thn ?_
  refine WC.seq ?_
  refine WC.region ?_
  refine WL.pur (Pur.fieldAddr rfl fo_51_4) ?_
  refine' WL.pur (Pur.loadN rfl ty_49 ?h1_0 ?h1_1) ?k1
  case h1_0 => first | (apply Rd.own_sub; exact zmE; exact Sub.op_ident _ _ _ _ _ _) | (apply RdV.rd; apply RdV.sub (i := 4); assumption; exact Sub.op_ident _ _ _ _ _ _)
  case h1_1 => first | rfl | assumption
  refine WL.pur (Pur.build (l := (identCells 0 0)) pl_49 zc_49 rfl rfl) ?_
  refine' WL.pur (Pur.bin rfl rfl ?h2_0) ?k2
  case h2_0 => (refine Bin.eqId identT_49 ?_ ?_ <;> assumption)
  refine WL.pur (Pur.assign rfl) ?_
  refine WL.nil ?_
  refine WQ.thn ?_
  refine WC.ret ?_
  refine WQ.ret1 Tryz.results266 rfl [] zsL (View.le_refl _) ?_
  refine ⟨?_, rfl, rfl⟩
  exact decB (show _ ↔ (o.ato = 0 ∧ o.atn = 0) by omega)

end Go.Proofs.YtgoooilgmabkmaaGreat
namespace Go.Proofs.YtgoooilgmabkmaaGreat
open Go Go.Sl
set_option linter.unusedVariables false
set_option linter.unusedSimpArgs false
set_option maxRecDepth 100000

theorem r4_hasText (σ : View) (k : Int) :
    TriP Tryz.prog 226 #[.int .i64 k] σ (.bool (decide (hasText k))) := by
  refine Tri.of_body [(0, .int .i64 k)] Tryz.func226 rfl Tryz.ntmps226 (by simp) rfl (fun Hr => ?_)
  rw [List.nil_append]
  refine WC.seq ?_
  refine WC.region ?_
  refine WL.pur (Pur.assign rfl) ?_
  refine WL.nil ?_
  refine WQ.thn ?_
  refine WC.seq ?_
  refine WC.region ?_
  refine WL.pur (Pur.move rfl) ?_
  refine' WL.pur (Pur.bin rfl rfl ?h1_0) ?k1
  case h1_0 => first | exact Bin.eqN (b := 1) | exact Bin.eqI
  refine WL.pur (Pur.move rfl) ?_
  refine' WL.orp (u := 5) (t := 8) rfl ?h2_0 ?h2_1 ?h2_2 rfl ?k2
  case h2_0 =>
    intro hg5 K5
    refine WL.gpur (u := 5) rfl rfl (gF hg5) (Pur.move rfl) ?_
    refine' WL.gpur (u := 5) rfl rfl (gF hg5) (Pur.bin rfl rfl ?h3_0) ?k3
    case h3_0 => first | exact Bin.eqN (b := 3) | exact Bin.eqI
    exact K5 _ zcR rfl
  case h2_1 =>
    intro hg5 K5
    refine WL.gskip (u := 5) rfl rfl (sF hg5) ?_
    refine WL.gskip (u := 5) rfl rfl (sF hg5) ?_
    exact K5 _ zcR
  case h2_2 => exact Wanted.plain rfl
  refine WL.pur (Pur.move rfl) ?_
  refine' WL.orp (u := 9) (t := 12) rfl ?h4_0 ?h4_1 ?h4_2 rfl ?k4
  case h4_0 =>
    intro hg9 K9
    refine WL.gpur (u := 9) rfl rfl (gF hg9) (Pur.move rfl) ?_
    refine' WL.gpur (u := 9) rfl rfl (gF hg9) (Pur.bin rfl rfl ?h5_0) ?k5
    case h5_0 => first | exact Bin.eqN (b := 4) | exact Bin.eqI
    exact K9 _ zcR rfl
  case h4_1 =>
    intro hg9 K9
    refine WL.gskip (u := 9) rfl rfl (sF hg9) ?_
    refine WL.gskip (u := 9) rfl rfl (sF hg9) ?_
    exact K9 _ zcR
  case h4_2 => exact Wanted.plain rfl
  refine WL.pur (Pur.move rfl) ?_
  refine' WL.orp (u := 13) (t := 16) rfl ?h6_0 ?h6_1 ?h6_2 rfl ?k6
  case h6_0 =>
    intro hg13 K13
    refine WL.gpur (u := 13) rfl rfl (gF hg13) (Pur.move rfl) ?_
    refine' WL.gpur (u := 13) rfl rfl (gF hg13) (Pur.bin rfl rfl ?h7_0) ?k7
    case h7_0 => first | exact Bin.eqN (b := 8) | exact Bin.eqI
    exact K13 _ zcR rfl
  case h6_1 =>
    intro hg13 K13
    refine WL.gskip (u := 13) rfl rfl (sF hg13) ?_
    refine WL.gskip (u := 13) rfl rfl (sF hg13) ?_
    exact K13 _ zcR
  case h6_2 => exact Wanted.plain rfl
  refine WL.pur (Pur.assign rfl) ?_
  refine WL.nil ?_
  refine WQ.thn ?_
  refine WC.ret ?_
  refine WQ.ret1 Tryz.results226 rfl [] zsL (View.le_refl _) ?_
  refine ⟨?_, rfl, rfl⟩
  exact decB (by unfold hasText; omega)

theorem r4_hasAt (σ : View) (k : Int) :
    TriP Tryz.prog 227 #[.int .i64 k] σ (.bool (decide (hasAt k))) := by
  refine Tri.of_body [(0, .int .i64 k)] Tryz.func227 rfl Tryz.ntmps227 (by simp) rfl (fun Hr => ?_)
  rw [List.nil_append]
  refine WC.seq ?_
  refine WC.region ?_
  refine WL.pur (Pur.assign rfl) ?_
  refine WL.nil ?_
  refine WQ.thn ?_
  refine WC.seq ?_
  refine WC.region ?_
  refine WL.pur (Pur.move rfl) ?_
  refine' WL.pur (Pur.bin rfl rfl ?h1_0) ?k1
  case h1_0 => first | exact Bin.eqN (b := 8) | exact Bin.eqI
  refine WL.pur (Pur.move rfl) ?_
  refine' WL.orp (u := 5) (t := 8) rfl ?h2_0 ?h2_1 ?h2_2 rfl ?k2
  case h2_0 =>
    intro hg5 K5
    refine WL.gpur (u := 5) rfl rfl (gF hg5) (Pur.move rfl) ?_
    refine' WL.gpur (u := 5) rfl rfl (gF hg5) (Pur.bin rfl rfl ?h3_0) ?k3
    case h3_0 => first | exact Bin.eqN (b := 9) | exact Bin.eqI
    exact K5 _ zcR rfl
  case h2_1 =>
    intro hg5 K5
    refine WL.gskip (u := 5) rfl rfl (sF hg5) ?_
    refine WL.gskip (u := 5) rfl rfl (sF hg5) ?_
    exact K5 _ zcR
  case h2_2 => exact Wanted.plain rfl
  refine WL.pur (Pur.assign rfl) ?_
  refine WL.nil ?_
  refine WQ.thn ?_
  refine WC.ret ?_
  refine WQ.ret1 Tryz.results227 rfl [] zsL (View.le_refl _) ?_
  refine ⟨?_, rfl, rfl⟩
  exact decB (by unfold hasAt; omega)

theorem r4_Zero (σ : View) (n : Nat) (o : Int) (hn : IsH n) :
    TriP Tryz.prog 228 #[.agg (identCells n o).toArray] σ (.bool (decide (o = 0 ∧ n = 0))) := by
  refine Tri.of_body [(0, .agg (identCells n o).toArray)] Tryz.func228 rfl Tryz.ntmps228 (by simp) rfl (fun Hr => ?_)
  rw [List.nil_append]
  have h0 := isH0
  refine WC.seq ?_
  refine WC.region ?_
  refine WL.new (New.boxN rfl) (fun b1 => ?_)
  refine WL.pur (Pur.assign rfl) ?_
  refine WL.nil ?_
  refine WQ.thn ?_
  refine WC.seq ?_
  refine WC.region ?_
  refine WL.pur (Pur.fieldAddr rfl fo_49_1) ?_
  refine' WL.pur (Pur.load1 rfl ty_3 ?h1_0) ?k1
  case h1_0 => first | (apply Rd.own1; exact zmE; rfl) | (apply RdV.rd; apply RdV.idx (i := 32); assumption; rfl) | (apply RdV.rd; apply RdV.idx (off := 0) (i := 32); assumption; rfl)
  refine' WL.pur (Pur.bin rfl rfl ?h2_0) ?k2
  case h2_0 => first | exact Bin.eqN (b := 0) | exact Bin.eqI
  refine WL.pur (Pur.move rfl) ?_
  refine' WL.andp (u := 6) (t := 11) rfl ?h3_0 ?h3_1 ?h3_2 rfl ?k3
  case h3_0 =>
    intro hg6 K6
    refine WL.gpur (u := 6) rfl rfl (gT hg6) (Pur.fieldAddr rfl fo_49_0) ?_
    refine' WL.gpur (u := 6) rfl rfl (gT hg6) (Pur.loadN rfl ty_39 ?h4_0 ?h4_1) ?k4
    case h4_0 => first | (apply Rd.own_sub; exact zmE; exact Sub.ident_hash _ _) | (apply RdV.rd; apply RdV.sub0; assumption; exact Sub.ident_hash _ _)
    case h4_1 => first | rfl | assumption
    refine WL.gpur (u := 6) rfl rfl (gT hg6) (Pur.buildA0 zc_39 ar_39) ?_
    refine' WL.gpur (u := 6) rfl rfl (gT hg6) (Pur.bin rfl rfl ?h5_0) ?k5
    case h5_0 => (refine Bin.eqH isHash_39 ?_ ?_ <;> assumption)
    exact K6 _ zcR rfl
  case h3_1 =>
    intro hg6 K6
    refine WL.gskip (u := 6) rfl rfl (sT hg6) ?_
    refine WL.gskip (u := 6) rfl rfl (sT hg6) ?_
    refine WL.gskip (u := 6) rfl rfl (sT hg6) ?_
    refine WL.gskip (u := 6) rfl rfl (sT hg6) ?_
    exact K6 _ zcR
  case h3_2 => exact Wanted.plain rfl
  refine WL.pur (Pur.assign rfl) ?_
  refine WL.nil ?_
  refine WQ.thn ?_
  refine WC.ret ?_
  refine WQ.ret1 Tryz.results228 rfl [] zsL (View.le_refl _) ?_
  refine ⟨?_, rfl, rfl⟩
  rfl

theorem r4_atMay (σ : View) (lv : Value) (l : List OpD) (i : Nat) (o : OpD) (h : Ops σ lv l) (hi : l[i]? = some o) :
    TriP Tryz.prog 229 #[lv, .int .i64 (i : Int)] σ (.bool (decide (atMay (l.take i) o))) := by
  have hlt := (List.getElem?_eq_some_iff.1 hi).1
  obtain ⟨b, off, cap, rfl, hcap, hby, hat⟩ := h.at (by omega)
  obtain ⟨vs, hl, h1, ⟨rfl, hk, hkey, htext, hn, hatn, hato⟩, hrd⟩ := hat i o hi
  have h0 := isH0
  have htl : (l.take i).length = i := by simp; omega
  unfold I64 at hato
  refine Tri.of_body [(0, .slice (some ⟨b, off, none⟩) l.length cap), (1, .int .i64 (i : Int))] Tryz.func229 rfl Tryz.ntmps229 (by simp) rfl (fun Hr => ?_)
  rw [List.nil_append]
  refine WC.seq ?_
  refine WC.region ?_
  refine WL.pur (Pur.assign rfl) ?_
  refine WL.nil ?_
  refine WQ.thn ?_
  refine WC.seq ?_
  refine WC.region ?_
  refine WL.pur (Pur.move rfl) ?_
  refine WL.pur (Pur.move rfl) ?_
  refine' WL.pur (Pur.indexAddr rfl rfl sl_40 ?h1_0) ?k1
  case h1_0 => omega
  refine WL.pur (Pur.fieldAddr rfl fo_51_4) ?_
  refine' WL.pur (Pur.loadN rfl ty_49 ?h2_0 ?h2_1) ?k2
  case h2_0 => first | (apply Rd.own_sub; exact zmE; exact Sub.op_ident _ _ _ _ _ _) | (apply RdV.rd; apply RdV.sub (i := 4); assumption; exact Sub.op_ident _ _ _ _ _ _)
  case h2_1 => first | rfl | assumption
  refine WL.new (New.alloc zc_49) (fun b5 => ?_)
  refine' WL.run0 (Run.storeAll rfl rfl ty_49 ?h3_0 (by first | rfl | assumption) ?h3_1 (by first | rfl | assumption)) ?k3
  case h3_0 => repeat (first | exact Part.one | exact Part.here | apply Part.cons | apply Part.app)
  case h3_1 => first | rfl | assumption
  refine WL.nil ?_
  refine WQ.thn ?_
  refine WC.seq ?_
  refine WC.region ?_
  refine WL.pur (Pur.fieldAddr rfl fo_49_0) ?_
  refine' WL.pur (Pur.loadN rfl ty_39 ?h4_0 ?h4_1) ?k4
  case h4_0 => first | (apply Rd.own_sub; exact zmE; exact Sub.ident_hash _ _) | (apply RdV.rd; apply RdV.sub0; assumption; exact Sub.ident_hash _ _)
  case h4_1 => first | rfl | assumption
  refine WL.pur (Pur.buildA0 zc_39 ar_39) ?_
  refine' WL.pur (Pur.bin rfl rfl ?h5_0) ?k5
  case h5_0 => (refine Bin.eqH isHash_39 ?_ ?_ <;> assumption)
  refine WL.pur (Pur.assign rfl) ?_
  refine WL.nil ?_
  refine WQ.thn ?_
  refine WC.seq ?_
  refine WC.block ?_
  refine WC.seq ?_
  refine WC.region ?_
  refine WL.pur (Pur.move rfl) ?_
  refine WL.pur (Pur.move rfl) ?_
  refine' WL.andp (u := 19) (t := 23) rfl ?h6_0 ?h6_1 ?h6_2 rfl ?k6
  case h6_0 =>
    intro hg19 K19
    refine WL.gpur (u := 19) rfl rfl (gT hg19) (Pur.fieldAddr rfl fo_49_1) ?_
    refine' WL.gpur (u := 19) rfl rfl (gT hg19) (Pur.load1 rfl ty_3 ?h7_0) ?k7
    case h7_0 => first | (apply Rd.own1; exact zmE; rfl) | (apply RdV.rd; apply RdV.idx (i := 32); assumption; rfl) | (apply RdV.rd; apply RdV.idx (off := 0) (i := 32); assumption; rfl)
    refine' WL.gpur (u := 19) rfl rfl (gT hg19) (Pur.bin rfl rfl ?h8_0) ?k8
    case h8_0 => first | exact Bin.eqN (b := 0) | exact Bin.eqI
    exact K19 _ zcR rfl
  case h6_1 =>
    intro hg19 K19
    refine WL.gskip (u := 19) rfl rfl (sT hg19) ?_
    refine WL.gskip (u := 19) rfl rfl (sT hg19) ?_
    refine WL.gskip (u := 19) rfl rfl (sT hg19) ?_
    exact K19 _ zcR
  case h6_2 => exact Wanted.plain rfl
  refine WL.pur (Pur.assign rfl) ?_
  refine WL.nil ?_
  refine WQ.thn ?_
  first | refine WC.cond rfl (fun hc0 => ?_) (fun hc0 => ?_) | refine WC.condB rfl (fun hc0 => ?_) (fun hc0 => ?_)
  · refine WC.seq ?_
    refine WC.region ?_
    refine WL.pur (Pur.move rfl) ?_
    refine WL.pur (Pur.move rfl) ?_
    refine' WL.pur (Pur.indexAddr rfl rfl sl_40 ?h9_0) ?k9
    case h9_0 => omega
    refine WL.pur (Pur.fieldAddr rfl fo_51_0) ?_
    refine' WL.pur (Pur.load1 rfl ty_3 ?h10_0) ?k10
    case h10_0 => first | (apply Rd.own1; exact zmE; rfl) | (apply Rd.own1; exact zmE; assumption) | exact RdV.rd (by assumption) | (apply RdV.rd; apply RdV.idx (i := 0); assumption; rfl)
    refine' WL.pur (Pur.bin rfl rfl ?h11_0) ?k11
    case h11_0 => first | exact Bin.eqN (b := 8) | exact Bin.eqI
    refine WL.pur (Pur.assign rfl) ?_
    refine WL.nil ?_
    refine WQ.thn ?_
    refine WC.ret ?_
    refine WQ.blk_ret ?_
    refine WQ.thn_ret ?_
    refine WQ.ret1 Tryz.results229 rfl [] zsL (View.le_refl _) ?_
    refine ⟨?_, rfl, rfl⟩
    exact decB (by unfold atMay; rw [if_pos hc0.1, if_pos hc0.2])
  · refine WC.seq ?_
    refine WC.region ?_
    refine WL.pur (Pur.move rfl) ?_
    refine WL.pur (Pur.move rfl) ?_
    refine' WL.andp (u := 32) (t := 36) rfl ?h12_0 ?h12_1 ?h12_2 rfl ?k12
    case h12_0 =>
      intro hg32 K32
      refine WL.gpur (u := 32) rfl rfl (gT hg32) (Pur.fieldAddr rfl fo_49_1) ?_
      refine' WL.gpur (u := 32) rfl rfl (gT hg32) (Pur.load1 rfl ty_3 ?h13_0) ?k13
      case h13_0 => first | (apply Rd.own1; exact zmE; rfl) | (apply RdV.rd; apply RdV.idx (i := 32); assumption; rfl) | (apply RdV.rd; apply RdV.idx (off := 0) (i := 32); assumption; rfl)
      refine' WL.gpur (u := 32) rfl rfl (gT hg32) (Pur.bin rfl rfl ?h14_0) ?k14
      case h14_0 => first | exact Bin.geN (b := 1) | exact Bin.geI
      exact K32 _ zcR rfl
    case h12_1 =>
      intro hg32 K32
      refine WL.gskip (u := 32) rfl rfl (sT hg32) ?_
      refine WL.gskip (u := 32) rfl rfl (sT hg32) ?_
      refine WL.gskip (u := 32) rfl rfl (sT hg32) ?_
      exact K32 _ zcR
    case h12_2 => exact Wanted.plain rfl
    refine WL.pur (Pur.move rfl) ?_
    refine' WL.andp (u := 37) (t := 42) rfl ?h15_0 ?h15_1 ?h15_2 rfl ?k15
    case h15_0 =>
      intro hg37 K37
      refine WL.gpur (u := 37) rfl rfl (gT hg37) (Pur.fieldAddr rfl fo_49_1) ?_
      refine' WL.gpur (u := 37) rfl rfl (gT hg37) (Pur.load1 rfl ty_3 ?h16_0) ?k16
      case h16_0 => first | (apply Rd.own1; exact zmE; rfl) | (apply RdV.rd; apply RdV.idx (i := 32); assumption; rfl) | (apply RdV.rd; apply RdV.idx (off := 0) (i := 32); assumption; rfl)
      refine WL.gpur (u := 37) rfl rfl (gT hg37) (Pur.move rfl) ?_
      refine' WL.gpur (u := 37) rfl rfl (gT hg37) (Pur.bin rfl rfl ?h17_0) ?k17
      case h17_0 => first | exact Bin.leN | exact Bin.leI | exact Bin.leS
      exact K37 _ zcR rfl
    case h15_1 =>
      intro hg37 K37
      refine WL.gskip (u := 37) rfl rfl (sT hg37) ?_
      refine WL.gskip (u := 37) rfl rfl (sT hg37) ?_
      refine WL.gskip (u := 37) rfl rfl (sT hg37) ?_
      refine WL.gskip (u := 37) rfl rfl (sT hg37) ?_
      exact K37 _ zcR
    case h15_2 => exact Wanted.plain rfl
    refine WL.pur (Pur.assign rfl) ?_
    refine WL.nil ?_
    refine WQ.thn ?_
    first | refine WC.cond rfl (fun hc1 => ?_) (fun hc1 => ?_) | refine WC.condB rfl (fun hc1 => ?_) (fun hc1 => ?_)
    · have hlt2 : (o.ato - 1).toNat < l.length := by omega
      obtain ⟨x, hx⟩ : ∃ x, l[(o.ato - 1).toNat]? = some x := ⟨_, List.getElem?_eq_getElem hlt2⟩
      have hx' : (l.take i)[(o.ato - 1).toNat]? = some x := by rw [List.getElem?_take_of_lt (by omega)]; exact hx
      obtain ⟨vs', hl', h1', ⟨rfl, hxok⟩, hrd'⟩ := hat _ x hx
      refine WC.seq ?_
      refine WC.region ?_
      refine WL.pur (Pur.move rfl) ?_
      refine WL.pur (Pur.fieldAddr rfl fo_49_1) ?_
      refine' WL.pur (Pur.load1 rfl ty_3 ?h18_0) ?k18
      case h18_0 => first | (apply Rd.own1; exact zmE; rfl) | (apply RdV.rd; apply RdV.idx (i := 32); assumption; rfl) | (apply RdV.rd; apply RdV.idx (off := 0) (i := 32); assumption; rfl)
      refine' WL.pur (Pur.bin rfl rfl ?h19_0) ?k19
      case h19_0 => exact Bin.subK (c := (o.ato - 1).toNat) (by omega) (by omega)
      refine' WL.pur (Pur.indexAddr rfl rfl sl_40 ?h20_0) ?k20
      case h20_0 => omega
      refine' WL.pur (Pur.loadN rfl ty_51 ?h21_0 ?h21_1) ?k21
      case h21_0 => first | (apply Rd.own_sub; exact zmE; exact Sub.refl _) | (apply RdV.rd; assumption)
      case h21_1 => first | rfl | assumption
      refine WL.new (New.alloc zc_51) (fun b7 => ?_)
      refine' WL.run0 (Run.storeAll rfl rfl ty_51 ?h22_0 (by first | rfl | assumption) ?h22_1 (by first | rfl | assumption)) ?k22
      case h22_0 => repeat (first | exact Part.one | exact Part.here | apply Part.cons | apply Part.app)
      case h22_1 => first | rfl | assumption
      refine WL.nil ?_
      refine WQ.thn ?_
      refine WC.seq ?_
      refine WC.drawH 13 14 mixed (by kernel_rfl) rfl ?_
      refine SA.take 0 (by kernel_rfl) rfl rfl rfl (Wanted.plain rfl) zsL (View.le_refl _) (Pur.fieldAddr rfl fo_51_0) ?_
      refine' SA.take 1 (by kernel_rfl) rfl rfl rfl (Wanted.plain rfl) zsL (View.le_refl _) (Pur.load1 rfl ty_3 ?h23_0) ?k23
      case h23_0 => first | (apply Rd.own1; exact zmE; rfl) | (apply RdV.rd; apply RdV.idx (i := 0); assumption; rfl)
      refine' SA.take 2 (by kernel_rfl) rfl rfl rfl (Wanted.plain rfl) zsL (View.le_refl _) (Pur.bin rfl rfl ?h24_0) ?k24
      case h24_0 => first | exact Bin.eqN (b := 8) | exact Bin.eqI
      refine SA.take 3 (by kernel_rfl) rfl rfl rfl (Wanted.plain rfl) zsL (View.le_refl _) (Pur.move rfl) ?_
      refine' SA.andp 12 (u := 52) rfl ?h25_0 ?h25_1 ?h25_2 rfl zsL (View.le_refl _) ?h25_3 rfl ?k25
      case h25_0 =>
        intro hg52 K52
        refine SA.take 4 (by kernel_rfl) rfl rfl rfl (Wanted.guard (u := 52) rfl rfl rfl (gT hg52)) zsL (View.le_refl _) (Pur.fieldAddr rfl fo_51_1) ?_
        refine' SA.take 5 (by kernel_rfl) rfl rfl rfl (Wanted.guard (u := 52) rfl rfl rfl (gT hg52)) zsL (View.le_refl _) (Pur.load1 rfl ty_9 ?h26_0) ?k26
        case h26_0 => first | (apply Rd.own1; exact zmE; rfl) | (apply RdV.rd; apply RdV.idx (i := 1); assumption; rfl) | (apply RdV.rd; apply RdV.idx (off := 0) (i := 1); assumption; rfl)
        refine SA.take 6 (by kernel_rfl) rfl rfl rfl (Wanted.guard (u := 52) rfl rfl rfl (gT hg52)) zsL (View.le_refl _) (Pur.move rfl) ?_
        refine SA.take 7 (by kernel_rfl) rfl rfl rfl (Wanted.guard (u := 52) rfl rfl rfl (gT hg52)) zsL (View.le_refl _) (Pur.move rfl) ?_
        refine' SA.take 8 (by kernel_rfl) rfl rfl rfl (Wanted.guard (u := 52) rfl rfl rfl (gT hg52)) zsL (View.le_refl _) (Pur.indexAddr rfl rfl sl_40 ?h27_0) ?k27
        case h27_0 => omega
        refine SA.take 9 (by kernel_rfl) rfl rfl rfl (Wanted.guard (u := 52) rfl rfl rfl (gT hg52)) zsL (View.le_refl _) (Pur.fieldAddr rfl fo_51_1) ?_
        refine' SA.take 10 (by kernel_rfl) rfl rfl rfl (Wanted.guard (u := 52) rfl rfl rfl (gT hg52)) zsL (View.le_refl _) (Pur.load1 rfl ty_9 ?h28_0) ?k28
        case h28_0 => first | (apply Rd.own1; exact zmE; rfl) | (apply RdV.rd; apply RdV.idx (i := 1); assumption; rfl) | (apply RdV.rd; apply RdV.idx (off := 0) (i := 1); assumption; rfl)
        refine' SA.take 11 (by kernel_rfl) rfl rfl rfl (Wanted.guard (u := 52) rfl rfl rfl (gT hg52)) zsL (View.le_refl _) (Pur.bin rfl rfl ?h29_0) ?k29
        case h29_0 => exact Bin.eqS
        exact K52 _ zcR rfl
      case h25_1 =>
        intro hg52 K52
        refine SA.gskip 4 (u := 52) (by kernel_rfl) rfl rfl rfl rfl rfl rfl (sT hg52) zsL (View.le_refl _) ?_
        refine SA.gskip 5 (u := 52) (by kernel_rfl) rfl rfl rfl rfl rfl rfl (sT hg52) zsL (View.le_refl _) ?_
        refine SA.gskip 6 (u := 52) (by kernel_rfl) rfl rfl rfl rfl rfl rfl (sT hg52) zsL (View.le_refl _) ?_
        refine SA.gskip 7 (u := 52) (by kernel_rfl) rfl rfl rfl rfl rfl rfl (sT hg52) zsL (View.le_refl _) ?_
        refine SA.gskip 8 (u := 52) (by kernel_rfl) rfl rfl rfl rfl rfl rfl (sT hg52) zsL (View.le_refl _) ?_
        refine SA.gskip 9 (u := 52) (by kernel_rfl) rfl rfl rfl rfl rfl rfl (sT hg52) zsL (View.le_refl _) ?_
        refine SA.gskip 10 (u := 52) (by kernel_rfl) rfl rfl rfl rfl rfl rfl (sT hg52) zsL (View.le_refl _) ?_
        refine SA.gskip 11 (u := 52) (by kernel_rfl) rfl rfl rfl rfl rfl rfl (sT hg52) zsL (View.le_refl _) ?_
        exact K52 _ zcR
      case h25_2 => kernel_rfl
      case h25_3 => exact Wanted.plain rfl
      refine SA.run 13 rfl (fun _ e => by cases e; rfl) (Wanted.plain rfl) (by kernel_rfl) (Pur.run (Pur.assign rfl)) (.inl (by decide)) ?_
      refine SA.done (by kernel_rfl) ?_
      refine WQ.thn ?_
      refine WC.ret ?_
      refine WQ.blk_ret ?_
      refine WQ.thn_ret ?_
      refine WQ.ret1 Tryz.results229 rfl [] zsL (View.le_refl _) ?_
      refine ⟨?_, rfl, rfl⟩
      exact decB (by unfold atMay; rw [if_pos hc1.1.1, if_neg (by omega), htl]; exact ⟨fun h => ⟨by omega, by omega, fun y hy => by rw [hx'] at hy; cases hy; exact h⟩, fun h => h.2.2 x hx'⟩)
    · refine WC.seq ?_
      refine WC.region ?_
      refine WL.pur (Pur.move rfl) ?_
      refine WL.pur (Pur.assign rfl) ?_
      refine WL.nil ?_
      refine WQ.thn ?_
      first | refine WC.cond rfl (fun hc2 => ?_) (fun hc2 => ?_) | refine WC.condB rfl (fun hc2 => ?_) (fun hc2 => ?_)
      · refine WC.seq ?_
        refine WC.region ?_
        refine WL.pur (Pur.assign rfl) ?_
        refine WL.nil ?_
        refine WQ.thn ?_
        refine WC.ret ?_
        refine WQ.blk_ret ?_
        refine WQ.thn_ret ?_
        refine WQ.ret1 Tryz.results229 rfl [] zsL (View.le_refl _) ?_
        refine ⟨?_, rfl, rfl⟩
        exact boolF (by unfold atMay; rw [if_pos hc2, htl]; intro h; split at h; exact hc0 ⟨hc2, by assumption⟩; exact hc1 ⟨⟨hc2, h.1⟩, h.2.1⟩)
      · refine WC.skip ?_
        refine WQ.blk ?_
        refine WQ.thn ?_
        refine WC.seq ?_
        refine WC.region ?_
        refine WL.pur (Pur.fieldAddr rfl fo_49_1) ?_
        refine' WL.pur (Pur.load1 rfl ty_3 ?h30_0) ?k30
        case h30_0 => first | (apply Rd.own1; exact zmE; rfl) | (apply RdV.rd; apply RdV.idx (i := 32); assumption; rfl) | (apply RdV.rd; apply RdV.idx (off := 0) (i := 32); assumption; rfl)
        refine' WL.pur (Pur.bin rfl rfl ?h31_0) ?k31
        case h31_0 => first | exact Bin.geN (b := 1) | exact Bin.geI
        refine WL.pur (Pur.move rfl) ?_
        refine' WL.andp (u := 67) (t := 71) rfl ?h32_0 ?h32_1 ?h32_2 rfl ?k32
        case h32_0 =>
          intro hg67 K67
          refine WL.gpur (u := 67) rfl rfl (gT hg67) (Pur.fieldAddr rfl fo_49_1) ?_
          refine' WL.gpur (u := 67) rfl rfl (gT hg67) (Pur.load1 rfl ty_3 ?h33_0) ?k33
          case h33_0 => first | (apply Rd.own1; exact zmE; rfl) | (apply RdV.rd; apply RdV.idx (i := 32); assumption; rfl) | (apply RdV.rd; apply RdV.idx (off := 0) (i := 32); assumption; rfl)
          refine' WL.gpur (u := 67) rfl rfl (gT hg67) (Pur.bin rfl rfl ?h34_0) ?k34
          case h34_0 => first | exact Bin.leN (b := 1024) | exact Bin.leI | exact Bin.leS
          exact K67 _ zcR rfl
        case h32_1 =>
          intro hg67 K67
          refine WL.gskip (u := 67) rfl rfl (sT hg67) ?_
          refine WL.gskip (u := 67) rfl rfl (sT hg67) ?_
          refine WL.gskip (u := 67) rfl rfl (sT hg67) ?_
          exact K67 _ zcR
        case h32_2 => exact Wanted.plain rfl
        refine WL.pur (Pur.assign rfl) ?_
        refine WL.nil ?_
        refine WQ.thn ?_
        refine WC.ret ?_
        refine WQ.ret1 Tryz.results229 rfl [] zsL (View.le_refl _) ?_
        refine ⟨?_, rfl, rfl⟩
        exact decB (by unfold atMay; rw [if_neg hc2])

theorem r4_wrong (σ : View) (lv : Value) (l : List OpD) (i : Nat) (o : OpD) (h : Ops σ lv l) (hi : l[i]? = some o) :
    TriP Tryz.prog 194 #[lv, .int .i64 (i : Int)] σ (.int .i64 (opErr (l.take i) o)) := by
  have hlt := (List.getElem?_eq_some_iff.1 hi).1
  have h' := h
  obtain ⟨b, off, cap, rfl, hcap, hby, hat⟩ := h.at (by omega)
  obtain ⟨vs, hl, h1, ⟨rfl, hk, hkey, htext, hn, hatn, hato⟩, hrd⟩ := hat i o hi
  unfold StrOk at hkey htext
  refine Tri.of_body [(0, .slice (some ⟨b, off, none⟩) l.length cap), (1, .int .i64 (i : Int))] Tryz.func194 rfl Tryz.ntmps194 (by simp) rfl (fun Hr => ?_)
  rw [List.nil_append]
  refine WC.seq ?_
  refine WC.region ?_
  refine WL.pur (Pur.assign rfl) ?_
  refine WL.nil ?_
  refine WQ.thn ?_
  refine WC.seq ?_
  refine WC.region ?_
  refine WL.pur (Pur.move rfl) ?_
  refine WL.pur (Pur.move rfl) ?_
  refine' WL.pur (Pur.indexAddr rfl rfl sl_40 ?h1_0) ?k1
  case h1_0 => omega
  refine' WL.pur (Pur.loadN rfl ty_51 ?h2_0 ?h2_1) ?k2
  case h2_0 => first | (apply Rd.own_sub; exact zmE; exact Sub.refl _) | (apply RdV.rd; assumption)
  case h2_1 => first | rfl | assumption
  refine WL.new (New.alloc zc_51) (fun b5 => ?_)
  refine' WL.run0 (Run.storeAll rfl rfl ty_51 ?h3_0 (by first | rfl | assumption) ?h3_1 (by first | rfl | assumption)) ?k3
  case h3_0 => repeat (first | exact Part.one | exact Part.here | apply Part.cons | apply Part.app)
  case h3_1 => first | rfl | assumption
  refine WL.nil ?_
  refine WQ.thn ?_
  refine WC.seq ?_
  refine WC.region ?_
  refine WL.pur (Pur.fieldAddr rfl fo_51_0) ?_
  refine' WL.pur (Pur.load1 rfl ty_3 ?h4_0) ?k4
  case h4_0 => first | (apply Rd.own1; exact zmE; rfl) | (apply RdV.rd; apply RdV.idx (i := 0); assumption; rfl)
  refine WL.callP rfl Tryz.call226 (r4_hasText σ _) ?_
  refine WL.pur (Pur.assign rfl) ?_
  refine WL.nil ?_
  refine WQ.thn ?_
  refine WC.seq ?_
  refine WC.region ?_
  refine WL.pur (Pur.fieldAddr rfl fo_51_0) ?_
  refine' WL.pur (Pur.load1 rfl ty_3 ?h5_0) ?k5
  case h5_0 => first | (apply Rd.own1; exact zmE; rfl) | (apply RdV.rd; apply RdV.idx (i := 0); assumption; rfl)
  refine WL.callP rfl Tryz.call227 (r4_hasAt σ _) ?_
  refine WL.pur (Pur.assign rfl) ?_
  refine WL.nil ?_
  refine WQ.thn ?_
  refine WC.seq ?_
  refine WC.region ?_
  refine WL.pur (Pur.fieldAddr rfl fo_51_4) ?_
  refine' WL.pur (Pur.loadN rfl ty_49 ?h6_0 ?h6_1) ?k6
  case h6_0 => first | (apply Rd.own_sub; exact zmE; exact Sub.op_ident _ _ _ _ _ _) | (apply RdV.rd; apply RdV.sub (i := 4); assumption; exact Sub.op_ident _ _ _ _ _ _)
  case h6_1 => first | rfl | assumption
  refine WL.callP rfl Tryz.call228 (r4_Zero σ _ _ hatn) ?_
  refine WL.pur (Pur.assign rfl) ?_
  refine WL.nil ?_
  refine WQ.thn ?_
  refine WC.seq ?_
  refine WC.block ?_
  refine WC.seq ?_
  refine WC.region ?_
  refine WL.pur (Pur.fieldAddr rfl fo_51_0) ?_
  refine' WL.pur (Pur.load1 rfl ty_3 ?h7_0) ?k7
  case h7_0 => first | (apply Rd.own1; exact zmE; rfl) | (apply RdV.rd; apply RdV.idx (i := 0); assumption; rfl)
  refine' WL.pur (Pur.bin rfl rfl ?h8_0) ?k8
  case h8_0 => first | exact Bin.ltN (b := 1) | exact Bin.ltI | exact Bin.ltS
  refine WL.pur (Pur.move rfl) ?_
  refine' WL.orp (u := 27) (t := 31) rfl ?h9_0 ?h9_1 ?h9_2 rfl ?k9
  case h9_0 =>
    intro hg27 K27
    refine WL.gpur (u := 27) rfl rfl (gF hg27) (Pur.fieldAddr rfl fo_51_0) ?_
    refine' WL.gpur (u := 27) rfl rfl (gF hg27) (Pur.load1 rfl ty_3 ?h10_0) ?k10
    case h10_0 => first | (apply Rd.own1; exact zmE; rfl) | (apply RdV.rd; apply RdV.idx (i := 0); assumption; rfl)
    refine' WL.gpur (u := 27) rfl rfl (gF hg27) (Pur.bin rfl rfl ?h11_0) ?k11
    case h11_0 => first | exact Bin.gtN (b := 9) | exact Bin.gtI
    exact K27 _ zcR rfl
  case h9_1 =>
    intro hg27 K27
    refine WL.gskip (u := 27) rfl rfl (sF hg27) ?_
    refine WL.gskip (u := 27) rfl rfl (sF hg27) ?_
    refine WL.gskip (u := 27) rfl rfl (sF hg27) ?_
    exact K27 _ zcR
  case h9_2 => exact Wanted.plain rfl
  refine WL.pur (Pur.assign rfl) ?_
  refine WL.nil ?_
  refine WQ.thn ?_
  first | refine WC.cond rfl (fun hc0 => ?_) (fun hc0 => ?_) | refine WC.condB rfl (fun hc0 => ?_) (fun hc0 => ?_)
  · refine WC.seq ?_
    refine WC.region ?_
    refine WL.pur (Pur.assign rfl) ?_
    refine WL.nil ?_
    refine WQ.thn ?_
    refine WC.ret ?_
    refine WQ.blk_ret ?_
    refine WQ.thn_ret ?_
    refine WQ.ret1 Tryz.results194 rfl [] zsL (View.le_refl _) ?_
    refine ⟨?_, rfl, rfl⟩
    exact intV (by unfold opErr; rw [if_pos (by omega)])
  · refine WC.seq ?_
    refine WC.region ?_
    refine WL.pur (Pur.fieldAddr rfl fo_51_1) ?_
    refine' WL.pur (Pur.load1 rfl ty_9 ?h12_0) ?k12
    case h12_0 => first | (apply Rd.own1; exact zmE; rfl) | (apply RdV.rd; apply RdV.idx (i := 1); assumption; rfl) | (apply RdV.rd; apply RdV.idx (off := 0) (i := 1); assumption; rfl)
    refine WL.pur (Pur.lenS rfl isString_9) ?_
    refine' WL.pur (Pur.bin rfl rfl ?h13_0) ?k13
    case h13_0 => first | exact Bin.gtN (b := 65536) | exact Bin.gtI
    refine WL.pur (Pur.move rfl) ?_
    refine' WL.orp (u := 37) (t := 42) rfl ?h14_0 ?h14_1 ?h14_2 rfl ?k14
    case h14_0 =>
      intro hg37 K37
      refine WL.gpur (u := 37) rfl rfl (gF hg37) (Pur.fieldAddr rfl fo_51_2) ?_
      refine' WL.gpur (u := 37) rfl rfl (gF hg37) (Pur.load1 rfl ty_9 ?h15_0) ?k15
      case h15_0 => first | (apply Rd.own1; exact zmE; rfl) | (apply RdV.rd; apply RdV.idx (i := 2); assumption; rfl) | (apply RdV.rd; apply RdV.idx (off := 0) (i := 2); assumption; rfl)
      refine WL.gpur (u := 37) rfl rfl (gF hg37) (Pur.lenS rfl isString_9) ?_
      refine' WL.gpur (u := 37) rfl rfl (gF hg37) (Pur.bin rfl rfl ?h16_0) ?k16
      case h16_0 => first | exact Bin.gtN (b := 65536) | exact Bin.gtI
      exact K37 _ zcR rfl
    case h14_1 =>
      intro hg37 K37
      refine WL.gskip (u := 37) rfl rfl (sF hg37) ?_
      refine WL.gskip (u := 37) rfl rfl (sF hg37) ?_
      refine WL.gskip (u := 37) rfl rfl (sF hg37) ?_
      refine WL.gskip (u := 37) rfl rfl (sF hg37) ?_
      exact K37 _ zcR
    case h14_2 => exact Wanted.plain rfl
    refine WL.pur (Pur.assign rfl) ?_
    refine WL.nil ?_
    refine WQ.thn ?_
    first | refine WC.cond rfl (fun hc1 => ?_) (fun hc1 => ?_) | refine WC.condB rfl (fun hc1 => ?_) (fun hc1 => ?_)
    · refine WC.seq ?_
      refine WC.region ?_
      refine WL.pur (Pur.assign rfl) ?_
      refine WL.nil ?_
      refine WQ.thn ?_
      refine WC.ret ?_
      refine WQ.blk_ret ?_
      refine WQ.thn_ret ?_
      refine WQ.ret1 Tryz.results194 rfl [] zsL (View.le_refl _) ?_
      refine ⟨?_, rfl, rfl⟩
      exact intV (by unfold opErr; rw [if_neg (by omega), if_pos (by omega)])
    · refine WC.seq ?_
      refine WC.region ?_
      refine WL.pur (Pur.move rfl) ?_
      refine WL.pur (Pur.not rfl) ?_
      refine WL.pur (Pur.move rfl) ?_
      refine' WL.andp (u := 46) (t := 50) rfl ?h17_0 ?h17_1 ?h17_2 rfl ?k17
      case h17_0 =>
        intro hg46 K46
        refine WL.gpur (u := 46) rfl rfl (gT hg46) (Pur.fieldAddr rfl fo_51_2) ?_
        refine' WL.gpur (u := 46) rfl rfl (gT hg46) (Pur.load1 rfl ty_9 ?h18_0) ?k18
        case h18_0 => first | (apply Rd.own1; exact zmE; rfl) | (apply RdV.rd; apply RdV.idx (i := 2); assumption; rfl) | (apply RdV.rd; apply RdV.idx (off := 0) (i := 2); assumption; rfl)
        refine' WL.gpur (u := 46) rfl rfl (gT hg46) (Pur.bin rfl rfl ?h19_0) ?k19
        case h19_0 => exact Bin.neS
        exact K46 _ zcR rfl
      case h17_1 =>
        intro hg46 K46
        refine WL.gskip (u := 46) rfl rfl (sT hg46) ?_
        refine WL.gskip (u := 46) rfl rfl (sT hg46) ?_
        refine WL.gskip (u := 46) rfl rfl (sT hg46) ?_
        exact K46 _ zcR
      case h17_2 => exact Wanted.plain rfl
      refine WL.pur (Pur.move rfl) ?_
      refine' WL.orp (u := 51) (t := 60) rfl ?h20_0 ?h20_1 ?h20_2 rfl ?k20
      case h20_0 =>
        intro hg51 K51
        refine WL.gpur (u := 51) rfl rfl (gF hg51) (Pur.fieldAddr rfl fo_51_0) ?_
        refine' WL.gpur (u := 51) rfl rfl (gF hg51) (Pur.load1 rfl ty_3 ?h21_0) ?k21
        case h21_0 => first | (apply Rd.own1; exact zmE; rfl) | (apply RdV.rd; apply RdV.idx (i := 0); assumption; rfl)
        refine' WL.gpur (u := 51) rfl rfl (gF hg51) (Pur.bin rfl rfl ?h22_0) ?k22
        case h22_0 => first | exact Bin.neN (b := 6) | exact Bin.neI
        refine WL.gpur (u := 51) rfl rfl (gF hg51) (Pur.move rfl) ?_
        refine' WL.andp (u := 55) (t := 59) rfl ?h23_0 ?h23_1 ?h23_2 rfl ?k23
        case h23_0 =>
          intro hg55 K55
          refine WL.gpur (u := 55) rfl rfl (gT hg55) (Pur.fieldAddr rfl fo_51_3) ?_
          refine' WL.gpur (u := 55) rfl rfl (gT hg55) (Pur.load1 rfl ty_2 ?h24_0) ?k24
          case h24_0 => first | (apply Rd.own1; exact zmE; rfl) | (apply RdV.rd; apply RdV.idx (i := 3); assumption; rfl) | (apply RdV.rd; apply RdV.idx (off := 0) (i := 3); assumption; rfl)
          refine' WL.gpur (u := 55) rfl rfl (gT hg55) (Pur.bin rfl rfl ?h25_0) ?k25
          case h25_0 => first | exact Bin.neN (b := 0) | exact Bin.neI
          exact K55 _ zcR rfl
        case h23_1 =>
          intro hg55 K55
          refine WL.gskip (u := 55) rfl rfl (sT hg55) ?_
          refine WL.gskip (u := 55) rfl rfl (sT hg55) ?_
          refine WL.gskip (u := 55) rfl rfl (sT hg55) ?_
          exact K55 _ zcR
        case h23_2 => exact Wanted.guard (u := 51) rfl rfl rfl (gF hg51)
        exact K51 _ zcR rfl
      case h20_1 =>
        intro hg51 K51
        refine WL.gskip (u := 51) rfl rfl (sF hg51) ?_
        refine WL.gskip (u := 51) rfl rfl (sF hg51) ?_
        refine WL.gskip (u := 51) rfl rfl (sF hg51) ?_
        refine WL.gskip (u := 51) rfl rfl (sF hg51) ?_
        refine WL.gskipU (u := 55) rfl rfl ?_
        refine WL.gskipU (u := 55) rfl rfl ?_
        refine WL.gskipU (u := 55) rfl rfl ?_
        refine WL.gskip (u := 51) rfl rfl (sF hg51) ?_
        exact K51 _ zcR
      case h20_2 => exact Wanted.plain rfl
      refine WL.pur (Pur.move rfl) ?_
      refine' WL.orp (u := 61) (t := 68) rfl ?h26_0 ?h26_1 ?h26_2 rfl ?k26
      case h26_0 =>
        intro hg61 K61
        refine WL.gpur (u := 61) rfl rfl (gF hg61) (Pur.move rfl) ?_
        refine WL.gpur (u := 61) rfl rfl (gF hg61) (Pur.not rfl) ?_
        refine WL.gpur (u := 61) rfl rfl (gF hg61) (Pur.move rfl) ?_
        refine' WL.andp (u := 64) (t := 67) rfl ?h27_0 ?h27_1 ?h27_2 rfl ?k27
        case h27_0 =>
          intro hg64 K64
          refine WL.gpur (u := 64) rfl rfl (gT hg64) (Pur.move rfl) ?_
          refine WL.gpur (u := 64) rfl rfl (gT hg64) (Pur.not rfl) ?_
          exact K64 _ zcR rfl
        case h27_1 =>
          intro hg64 K64
          refine WL.gskip (u := 64) rfl rfl (sT hg64) ?_
          refine WL.gskip (u := 64) rfl rfl (sT hg64) ?_
          exact K64 _ zcR
        case h27_2 => exact Wanted.guard (u := 61) rfl rfl rfl (gF hg61)
        exact K61 _ zcR rfl
      case h26_1 =>
        intro hg61 K61
        refine WL.gskip (u := 61) rfl rfl (sF hg61) ?_
        refine WL.gskip (u := 61) rfl rfl (sF hg61) ?_
        refine WL.gskip (u := 61) rfl rfl (sF hg61) ?_
        refine WL.gskipU (u := 64) rfl rfl ?_
        refine WL.gskipU (u := 64) rfl rfl ?_
        refine WL.gskip (u := 61) rfl rfl (sF hg61) ?_
        exact K61 _ zcR
      case h26_2 => exact Wanted.plain rfl
      refine WL.pur (Pur.assign rfl) ?_
      refine WL.nil ?_
      refine WQ.thn ?_
      first | refine WC.cond rfl (fun hc2 => ?_) (fun hc2 => ?_) | refine WC.condB rfl (fun hc2 => ?_) (fun hc2 => ?_)
      · refine WC.seq ?_
        refine WC.region ?_
        refine WL.pur (Pur.assign rfl) ?_
        refine WL.nil ?_
        refine WQ.thn ?_
        refine WC.ret ?_
        refine WQ.blk_ret ?_
        refine WQ.thn_ret ?_
        refine WQ.ret1 Tryz.results194 rfl [] zsL (View.le_refl _) ?_
        refine ⟨?_, rfl, rfl⟩
        exact intV (by unfold opErr; rw [if_neg (by omega), if_neg (by omega), if_pos (by unfold atZero; rcases hc2 with (h | h) | h; exact .inl h; exact .inr (.inl h); exact .inr (.inr h))])
      · refine WC.skip ?_
        refine WQ.blk ?_
        refine WQ.thn ?_
        refine WC.seq ?_
        refine WC.seq ?_
        refine WC.region ?_
        refine WL.pur (Pur.move rfl) ?_
        refine WL.nil ?_
        refine WQ.thn ?_
        first | refine WC.cond rfl (fun hc3 => ?_) (fun hc3 => ?_) | refine WC.condB rfl (fun hc3 => ?_) (fun hc3 => ?_)
        · refine WC.seq ?_
          refine WC.region ?_
          refine WL.pur (Pur.move rfl) ?_
          refine WL.pur (Pur.move rfl) ?_
          refine WL.callP rfl Tryz.call229 (r4_atMay σ _ l i o h' hi) ?_
          refine WL.pur (Pur.assign rfl) ?_
          refine WL.nil ?_
          refine WQ.thn ?_
          refine WC.seq ?_
          refine WC.region ?_
          refine WL.pur (Pur.move rfl) ?_
          refine WL.pur (Pur.not rfl) ?_
          refine WL.nil ?_
          refine WQ.thn ?_
          first | refine WC.cond rfl (fun hc4 => ?_) (fun hc4 => ?_) | refine WC.condB rfl (fun hc4 => ?_) (fun hc4 => ?_)
          · refine WC.seq ?_
            refine WC.region ?_
            refine WL.pur (Pur.assign rfl) ?_
            refine WL.nil ?_
            refine WQ.thn ?_
            refine WC.ret ?_
            refine WQ.thn_ret ?_
            refine WQ.ret1 Tryz.results194 rfl [] zsL (View.le_refl _) ?_
            refine ⟨?_, rfl, rfl⟩
            have g2 := hc2; exact intV (by unfold opErr; rw [if_neg (by omega), if_neg (by omega), if_neg (by unfold atZero; rintro (h | h | h); exact hc2 (.inl (.inl h)); exact hc2 (.inl (.inr h)); exact hc2 (.inr h)), if_pos ⟨hc3, hc4⟩])
          · refine WC.skip ?_
            refine WQ.thn ?_
            refine WC.seq ?_
            refine WC.region ?_
            refine WL.pur (Pur.assign rfl) ?_
            refine WL.nil ?_
            refine WQ.thn ?_
            refine WC.ret ?_
            refine WQ.ret1 Tryz.results194 rfl [] zsL (View.le_refl _) ?_
            refine ⟨?_, rfl, rfl⟩
            exact intV (by unfold opErr; rw [if_neg (by omega), if_neg (by omega), if_neg (by unfold atZero; rintro (h | h | h); exact hc2 (.inl (.inl h)); exact hc2 (.inl (.inr h)); exact hc2 (.inr h)), if_neg (fun h => hc4 h.2)])
        · refine WC.skip ?_
          refine WQ.thn ?_
          refine WC.seq ?_
          refine WC.region ?_
          refine WL.pur (Pur.assign rfl) ?_
          refine WL.nil ?_
          refine WQ.thn ?_
          refine WC.ret ?_
          refine WQ.ret1 Tryz.results194 rfl [] zsL (View.le_refl _) ?_
          refine ⟨?_, rfl, rfl⟩
          exact intV (by unfold opErr; rw [if_neg (by omega), if_neg (by omega), if_neg (by unfold atZero; rintro (h | h | h); exact hc2 (.inl (.inl h)); exact hc2 (.inl (.inr h)); exact hc2 (.inr h)), if_neg (fun h => hc3 h.1)])

theorem r4_Check (σ : View) (lv : Value) (l : List OpD) (h : Ops σ lv l) :
    TriP Tryz.prog 157 #[lv] σ (.tuple #[.int .i64 (opsErr l).1, .int .i64 ((opsErr l).2 : Int)]) := by
  have h' := h
  obtain ⟨a, cap, rfl, hcap, hby⟩ := h.shape
  refine Tri.of_body [(0, .slice a l.length cap)] Tryz.func157 rfl Tryz.ntmps157 (by simp) rfl (fun Hr => ?_)
  rw [List.nil_append]
  refine WC.seq ?_
  refine WC.region ?_
  refine WL.pur (Pur.assign rfl) ?_
  refine WL.pur (Pur.assign rfl) ?_
  refine WL.nil ?_
  refine WQ.thn ?_
  refine WC.seq ?_
  refine WC.seq ?_
  refine WC.region ?_
  refine WL.pur (Pur.move rfl) ?_
  refine WL.pur (Pur.len rfl isSlice_40) ?_
  refine' WL.pur (Pur.bin rfl rfl ?h1_0) ?k1
  case h1_0 => first | exact Bin.gtN (b := 1024) | exact Bin.gtI
  refine WL.nil ?_
  refine WQ.thn ?_
  first | refine WC.cond rfl (fun hc0 => ?_) (fun hc0 => ?_) | refine WC.condB rfl (fun hc0 => ?_) (fun hc0 => ?_)
  · refine WC.seq ?_
    refine WC.region ?_
    refine WL.pur (Pur.assign rfl) ?_
    refine WL.pur (Pur.assign rfl) ?_
    refine WL.nil ?_
    refine WQ.thn ?_
    refine WC.ret ?_
    refine WQ.thn_ret ?_
    refine WQ.ret2 Tryz.results157 rfl rfl [] zsL (View.le_refl _) ?_
    refine ⟨?_, rfl, rfl⟩
    unfold opsErr; rw [if_pos (by omega)]; rfl
  · refine WC.skip ?_
    refine WQ.thn ?_
    refine WC.seq ?_
    refine WC.seq ?_
    refine WC.region ?_
    refine WL.pur (Pur.assign rfl) ?_
    refine WL.nil ?_
    refine WQ.thn ?_
    refine WC.block ?_
    refine WC.loop (fun j m σ' H' => ∃ i : Nat, j = l.length - i ∧ i ≤ l.length ∧ opsErr l = opsErrFrom l i ∧ m = [(0, .slice a l.length cap), (4, .int .i64 (i : Int))] ∧ σ' = σ ∧ H' = Hr) ⟨0, rfl, by omega, by unfold opsErr; rw [if_neg (by omega)], rfl, rfl, rfl⟩ zcV zsL ?_
    rintro _ _ σ _ ⟨i, rfl, hi, herr, rfl, rfl, rfl⟩
    refine WC.seq ?_
    refine WC.seq ?_
    refine WC.region ?_
    refine WL.pur (Pur.move rfl) ?_
    refine WL.pur (Pur.move rfl) ?_
    refine WL.pur (Pur.len rfl isSlice_40) ?_
    refine' WL.pur (Pur.bin rfl rfl ?h2_0) ?k2
    case h2_0 => first | exact Bin.ltN | exact Bin.ltI | exact Bin.ltS
    refine WL.nil ?_
    refine WQ.thn ?_
    first | refine WC.cond rfl (fun hc1 => ?_) (fun hc1 => ?_) | refine WC.condB rfl (fun hc1 => ?_) (fun hc1 => ?_)
    · obtain ⟨o, ho⟩ : ∃ o, l[i]? = some o := ⟨_, List.getElem?_eq_getElem hc1⟩
      have ho' : l[i] = o := by have := List.getElem?_eq_getElem hc1; rw [ho] at this; exact (Option.some.inj this).symm
      have hstep : opsErrFrom l i = if opErr (l.take i) o ≠ 0 then (opErr (l.take i) o, i) else opsErrFrom l (i + 1) := by rw [opsErrFrom, dif_pos hc1, ho']
      refine WC.skip ?_
      refine WQ.thn ?_
      refine WC.seq ?_
      refine WC.block ?_
      refine WC.seq ?_
      refine WC.region ?_
      refine WL.pur (Pur.move rfl) ?_
      refine WL.pur (Pur.move rfl) ?_
      refine WL.callP rfl Tryz.call194 (r4_wrong σ _ l i o h' ho) ?_
      refine WL.pur (Pur.assign rfl) ?_
      refine WL.nil ?_
      refine WQ.thn ?_
      refine WC.seq ?_
      refine WC.region ?_
      refine WL.pur (Pur.move rfl) ?_
      refine' WL.pur (Pur.bin rfl rfl ?h3_0) ?k3
      case h3_0 => first | exact Bin.neN (b := 0) | exact Bin.neI
      refine WL.nil ?_
      refine WQ.thn ?_
      first | refine WC.cond rfl (fun hc2 => ?_) (fun hc2 => ?_) | refine WC.condB rfl (fun hc2 => ?_) (fun hc2 => ?_)
      · refine WC.seq ?_
        refine WC.region ?_
        refine WL.pur (Pur.move rfl) ?_
        refine WL.pur (Pur.move rfl) ?_
        refine WL.pur (Pur.assign rfl) ?_
        refine WL.pur (Pur.assign rfl) ?_
        refine WL.nil ?_
        refine WQ.thn ?_
        refine WC.ret ?_
        refine WQ.blk_ret ?_
        refine WQ.thn_ret ?_
        refine WQ.back_ret ?_
        refine WQ.blk_ret ?_
        refine WQ.thn_ret ?_
        refine WQ.ret2 Tryz.results157 rfl rfl [] zsL (View.le_refl _) ?_
        refine ⟨?_, rfl, rfl⟩
        rw [herr, hstep, if_pos hc2]
      · refine WC.skip ?_
        refine WQ.blk ?_
        refine WQ.thn ?_
        refine WC.region ?_
        refine WL.pur (Pur.move rfl) ?_
        refine' WL.pur (Pur.bin rfl rfl ?h4_0) ?k4
        case h4_0 => first | (refine Bin.addN (b := 1) ?_; omega) | (refine Bin.addI ?_; omega)
        refine WL.pur (Pur.assign rfl) ?_
        refine WL.nil ?_
        refine WQ.back _ ⟨i + 1, rfl, by omega, by rw [herr, hstep, if_neg hc2], rfl, rfl, rfl⟩ (by omega) zcV zsL
    · refine WC.exit ?_
      refine WQ.thn_exit ?_
      refine WQ.back_exit ?_
      refine WQ.blk_here ?_
      refine WQ.thn ?_
      refine WC.seq ?_
      refine WC.region ?_
      refine WL.pur (Pur.assign rfl) ?_
      refine WL.pur (Pur.assign rfl) ?_
      refine WL.nil ?_
      refine WQ.thn ?_
      refine WC.ret ?_
      refine WQ.ret2 Tryz.results157 rfl rfl [] zsL (View.le_refl _) ?_
      refine ⟨?_, rfl, rfl⟩
      rw [herr, opsErrFrom, dif_neg (by omega)]; rfl

end Go.Proofs.YtgoooilgmabkmaaGreat
namespace Go.Proofs.YtgoooilgmabkmaaGreat
open Go Go.Sl
set_option linter.unusedVariables false
set_option linter.unusedSimpArgs false
set_option maxRecDepth 100000

theorem op_fields (σ : View) (k : Int) :
    Tri Tryz.prog 236 #[.int .i64 k] σ [] (fun v σ' H' => (∃ hv ov, v = .tuple #[hv, ov] ∧ SlE σ' eField 3 24 ov (othersOf k)) ∧ H' = []) := by
  refine Tri.of_body [(0, .int .i64 k)] Tryz.func236 rfl Tryz.ntmps236 (by simp) rfl (fun Hr => ?_)
  rw [List.nil_append]
  refine WC.seq ?_
  refine WC.region ?_
  refine WL.pur (Pur.assign rfl) ?_
  refine WL.pur (Pur.assign rfl) ?_
  refine WL.nil ?_
  refine WQ.thn ?_
  refine WC.seq ?_
  refine WC.region ?_
  refine WL.callP rfl Tryz.call250 (op_text σ) ?_
  refine WL.callP rfl Tryz.call251 (op_number σ) ?_
  refine WL.callP rfl Tryz.call252 (op_at σ) ?_
  refine WL.new (New.alloc zc_320) (fun b4 => ?_)
  refine WL.new (New.alloc zc_320) (fun b5 => ?_)
  refine WL.new (New.alloc zc_320) (fun b6 => ?_)
  refine' WL.run0 (Run.storeAll rfl rfl ty_320 ?h1_0 (by first | rfl | assumption) ?h1_1 (by first | rfl | assumption)) ?k1
  case h1_0 => repeat (first | exact Part.one | exact Part.here | apply Part.cons | apply Part.app)
  case h1_1 => first | rfl | assumption
  refine' WL.run0 (Run.storeAll rfl rfl ty_320 ?h2_0 (by first | rfl | assumption) ?h2_1 (by first | rfl | assumption)) ?k2
  case h2_0 => repeat (first | exact Part.one | exact Part.here | apply Part.cons | apply Part.app)
  case h2_1 => first | rfl | assumption
  refine' WL.run0 (Run.storeAll rfl rfl ty_320 ?h3_0 (by first | rfl | assumption) ?h3_1 (by first | rfl | assumption)) ?k3
  case h3_0 => repeat (first | exact Part.one | exact Part.here | apply Part.cons | apply Part.app)
  case h3_1 => first | rfl | assumption
  refine WL.nil ?_
  refine WQ.thn ?_
  refine WC.seq ?_
  refine WC.seq ?_
  refine WC.region ?_
  refine WL.pur (Pur.move rfl) ?_
  refine WL.nil ?_
  refine WQ.thn ?_
  refine WC.block ?_
  refine WC.seq ?_
  refine WC.seq ?_
  refine WC.region ?_
  refine' WL.pur (Pur.bin rfl rfl ?h4_0) ?k4
  case h4_0 => first | exact Bin.eqN (b := 1) | exact Bin.eqI
  refine WL.pur (Pur.assign rfl) ?_
  refine WL.nil ?_
  refine WQ.thn ?_
  first | refine WC.cond rfl (fun hc0 => ?_) (fun hc0 => ?_) | refine WC.condB rfl (fun hc0 => ?_) (fun hc0 => ?_)
  · refine WC.skip ?_
    refine WQ.thn ?_
    first | refine WC.condY hc0 rfl ?_ | refine WC.condT (congrArg (fun x => some (Value.bool x)) hc0) ?_
    refine WC.seq ?_
    refine WC.drawH 7 7 mixed (by kernel_rfl) rfl ?_
    refine' SA.take 0 (by kernel_rfl) rfl rfl rfl (Wanted.plain rfl) zsL (View.le_refl _) (Pur.loadN rfl ty_320 ?h5_0 ?h5_1) ?k5
    case h5_0 => first | (apply Rd.own_sub; exact zmE; exact Sub.refl _) | (apply RdV.rd; assumption)
    case h5_1 => first | rfl | assumption
    refine' SA.take 2 (by kernel_rfl) rfl rfl rfl (Wanted.plain rfl) zsL (View.le_refl _) (Pur.loadN rfl ty_320 ?h6_0 ?h6_1) ?k6
    case h6_0 => first | (apply Rd.own_sub; exact zmE; exact Sub.refl _) | (apply RdV.rd; assumption)
    case h6_1 => first | rfl | assumption
    refine' SA.take 3 (by kernel_rfl) rfl rfl rfl (Wanted.plain rfl) zsL (View.le_refl _) (Pur.loadN rfl ty_320 ?h7_0 ?h7_1) ?k7
    case h7_0 => first | (apply Rd.own_sub; exact zmE; exact Sub.refl _) | (apply RdV.rd; assumption)
    case h7_1 => first | rfl | assumption
    refine SA.two 1 4 (by kernel_rfl) ?_ ?_
    · refine SStep.new 1 rfl rfl rfl (Wanted.plain rfl) (New.buildSliceN (xs := [.tmp 15]) (vss := [fieldC 0]) sl_313 zc_320 rfl rfl rfl (by rfl) (by rfl)) (.inr ⟨zsL, View.le_refl _⟩) (fun b16 => ?_)
      refine SA.take 5 (by kernel_rfl) rfl rfl rfl (Wanted.plain rfl) zsL (View.le_refl _) (Pur.assign rfl) ?_
      refine SA.new 4 rfl rfl rfl (Wanted.plain rfl) (by kernel_rfl) (New.buildSliceN (xs := [.tmp 17, .tmp 18]) (vss := [fieldC 1, fieldC 2]) sl_313 zc_320 rfl rfl rfl (by rfl) (by rfl)) (.inr ⟨zsL, View.le_refl _⟩) (fun b19 => ?_)
      refine SA.take 6 (by kernel_rfl) rfl rfl rfl (Wanted.plain rfl) zsL (View.le_refl _) (Pur.assign rfl) ?_
      refine SA.done (by kernel_rfl) ?_
      refine WQ.thn ?_
      refine WC.ret ?_
      refine WQ.blk_ret ?_
      refine WQ.thn_ret ?_
      first | refine WQ.giveS (byt := 24) (H1 := []) eField_mono (SlO.row (b := b19) (field_row σ [1, 2] (by decide))) (by decide) rfl (fun σ1 hle hsl => ?_) | refine WQ.giveS (byt := 24) (H1 := [_]) eField_mono (SlO.row (b := b19) (field_row σ [1, 2] (by decide))) (by decide) rfl (fun σ1 hle hsl => ?_)
      refine WQ.ret2 Tryz.results236 rfl rfl [] zsL hle ?_
      refine ⟨⟨_, _, rfl, ?_⟩, rfl⟩
      have : othersOf k = [1, 2] := by unfold othersOf; (repeat (first | rw [if_pos (by omega)] | rw [if_neg (by omega)]))
      rw [this]; exact hsl
    · refine SStep.new 4 rfl rfl rfl (Wanted.plain rfl) (New.buildSliceN (xs := [.tmp 17, .tmp 18]) (vss := [fieldC 1, fieldC 2]) sl_313 zc_320 rfl rfl rfl (by rfl) (by rfl)) (.inr ⟨zsL, View.le_refl _⟩) (fun b19 => ?_)
      refine SA.new 1 rfl rfl rfl (Wanted.plain rfl) (by kernel_rfl) (New.buildSliceN (xs := [.tmp 15]) (vss := [fieldC 0]) sl_313 zc_320 rfl rfl rfl (by rfl) (by rfl)) (.inr ⟨zsL, View.le_refl _⟩) (fun b16 => ?_)
      refine SA.take 5 (by kernel_rfl) rfl rfl rfl (Wanted.plain rfl) zsL (View.le_refl _) (Pur.assign rfl) ?_
      refine SA.take 6 (by kernel_rfl) rfl rfl rfl (Wanted.plain rfl) zsL (View.le_refl _) (Pur.assign rfl) ?_
      refine SA.done (by kernel_rfl) ?_
      refine WQ.thn ?_
      refine WC.ret ?_
      refine WQ.blk_ret ?_
      refine WQ.thn_ret ?_
      first | refine WQ.giveS (byt := 24) (H1 := []) eField_mono (SlO.row (b := b19) (field_row σ [1, 2] (by decide))) (by decide) rfl (fun σ1 hle hsl => ?_) | refine WQ.giveS (byt := 24) (H1 := [_]) eField_mono (SlO.row (b := b19) (field_row σ [1, 2] (by decide))) (by decide) rfl (fun σ1 hle hsl => ?_)
      refine WQ.ret2 Tryz.results236 rfl rfl [] zsL hle ?_
      refine ⟨⟨_, _, rfl, ?_⟩, rfl⟩
      have : othersOf k = [1, 2] := by unfold othersOf; (repeat (first | rw [if_pos (by omega)] | rw [if_neg (by omega)]))
      rw [this]; exact hsl
  · refine WC.seq ?_
    refine WC.region ?_
    refine' WL.pur (Pur.bin rfl rfl ?h8_0) ?k8
    case h8_0 => first | exact Bin.eqN (b := 3) | exact Bin.eqI
    refine WL.pur (Pur.assign rfl) ?_
    refine WL.nil ?_
    refine WQ.thn ?_
    first | refine WC.cond rfl (fun hc2 => ?_) (fun hc2 => ?_) | refine WC.condB rfl (fun hc2 => ?_) (fun hc2 => ?_)
    · refine WC.skip ?_
      refine WQ.thn ?_
      first | refine WC.condY hc2 rfl ?_ | refine WC.condT (congrArg (fun x => some (Value.bool x)) hc2) ?_
      refine WC.seq ?_
      refine WC.drawH 7 7 mixed (by kernel_rfl) rfl ?_
      refine' SA.take 0 (by kernel_rfl) rfl rfl rfl (Wanted.plain rfl) zsL (View.le_refl _) (Pur.loadN rfl ty_320 ?h9_0 ?h9_1) ?k9
      case h9_0 => first | (apply Rd.own_sub; exact zmE; exact Sub.refl _) | (apply RdV.rd; assumption)
      case h9_1 => first | rfl | assumption
      refine' SA.take 2 (by kernel_rfl) rfl rfl rfl (Wanted.plain rfl) zsL (View.le_refl _) (Pur.loadN rfl ty_320 ?h10_0 ?h10_1) ?k10
      case h10_0 => first | (apply Rd.own_sub; exact zmE; exact Sub.refl _) | (apply RdV.rd; assumption)
      case h10_1 => first | rfl | assumption
      refine' SA.take 3 (by kernel_rfl) rfl rfl rfl (Wanted.plain rfl) zsL (View.le_refl _) (Pur.loadN rfl ty_320 ?h11_0 ?h11_1) ?k11
      case h11_0 => first | (apply Rd.own_sub; exact zmE; exact Sub.refl _) | (apply RdV.rd; assumption)
      case h11_1 => first | rfl | assumption
      refine SA.two 1 4 (by kernel_rfl) ?_ ?_
      · refine SStep.new 1 rfl rfl rfl (Wanted.plain rfl) (New.buildSliceN (xs := [.tmp 15]) (vss := [fieldC 0]) sl_313 zc_320 rfl rfl rfl (by rfl) (by rfl)) (.inr ⟨zsL, View.le_refl _⟩) (fun b16 => ?_)
        refine SA.take 5 (by kernel_rfl) rfl rfl rfl (Wanted.plain rfl) zsL (View.le_refl _) (Pur.assign rfl) ?_
        refine SA.new 4 rfl rfl rfl (Wanted.plain rfl) (by kernel_rfl) (New.buildSliceN (xs := [.tmp 17, .tmp 18]) (vss := [fieldC 1, fieldC 2]) sl_313 zc_320 rfl rfl rfl (by rfl) (by rfl)) (.inr ⟨zsL, View.le_refl _⟩) (fun b19 => ?_)
        refine SA.take 6 (by kernel_rfl) rfl rfl rfl (Wanted.plain rfl) zsL (View.le_refl _) (Pur.assign rfl) ?_
        refine SA.done (by kernel_rfl) ?_
        refine WQ.thn ?_
        refine WC.ret ?_
        refine WQ.blk_ret ?_
        refine WQ.thn_ret ?_
        first | refine WQ.giveS (byt := 24) (H1 := []) eField_mono (SlO.row (b := b19) (field_row σ [1, 2] (by decide))) (by decide) rfl (fun σ1 hle hsl => ?_) | refine WQ.giveS (byt := 24) (H1 := [_]) eField_mono (SlO.row (b := b19) (field_row σ [1, 2] (by decide))) (by decide) rfl (fun σ1 hle hsl => ?_)
        refine WQ.ret2 Tryz.results236 rfl rfl [] zsL hle ?_
        refine ⟨⟨_, _, rfl, ?_⟩, rfl⟩
        have : othersOf k = [1, 2] := by unfold othersOf; (repeat (first | rw [if_pos (by omega)] | rw [if_neg (by omega)]))
        rw [this]; exact hsl
      · refine SStep.new 4 rfl rfl rfl (Wanted.plain rfl) (New.buildSliceN (xs := [.tmp 17, .tmp 18]) (vss := [fieldC 1, fieldC 2]) sl_313 zc_320 rfl rfl rfl (by rfl) (by rfl)) (.inr ⟨zsL, View.le_refl _⟩) (fun b19 => ?_)
        refine SA.new 1 rfl rfl rfl (Wanted.plain rfl) (by kernel_rfl) (New.buildSliceN (xs := [.tmp 15]) (vss := [fieldC 0]) sl_313 zc_320 rfl rfl rfl (by rfl) (by rfl)) (.inr ⟨zsL, View.le_refl _⟩) (fun b16 => ?_)
        refine SA.take 5 (by kernel_rfl) rfl rfl rfl (Wanted.plain rfl) zsL (View.le_refl _) (Pur.assign rfl) ?_
        refine SA.take 6 (by kernel_rfl) rfl rfl rfl (Wanted.plain rfl) zsL (View.le_refl _) (Pur.assign rfl) ?_
        refine SA.done (by kernel_rfl) ?_
        refine WQ.thn ?_
        refine WC.ret ?_
        refine WQ.blk_ret ?_
        refine WQ.thn_ret ?_
        first | refine WQ.giveS (byt := 24) (H1 := []) eField_mono (SlO.row (b := b19) (field_row σ [1, 2] (by decide))) (by decide) rfl (fun σ1 hle hsl => ?_) | refine WQ.giveS (byt := 24) (H1 := [_]) eField_mono (SlO.row (b := b19) (field_row σ [1, 2] (by decide))) (by decide) rfl (fun σ1 hle hsl => ?_)
        refine WQ.ret2 Tryz.results236 rfl rfl [] zsL hle ?_
        refine ⟨⟨_, _, rfl, ?_⟩, rfl⟩
        have : othersOf k = [1, 2] := by unfold othersOf; (repeat (first | rw [if_pos (by omega)] | rw [if_neg (by omega)]))
        rw [this]; exact hsl
    · refine WC.region ?_
      refine' WL.pur (Pur.bin rfl rfl ?h12_0) ?k12
      case h12_0 => first | exact Bin.eqN (b := 4) | exact Bin.eqI
      refine WL.pur (Pur.assign rfl) ?_
      refine WL.nil ?_
      refine WQ.thn ?_
      first | refine WC.cond rfl (fun hc4 => ?_) (fun hc4 => ?_) | refine WC.condB rfl (fun hc4 => ?_) (fun hc4 => ?_)
      · refine WC.seq ?_
        refine WC.drawH 7 7 mixed (by kernel_rfl) rfl ?_
        refine' SA.take 0 (by kernel_rfl) rfl rfl rfl (Wanted.plain rfl) zsL (View.le_refl _) (Pur.loadN rfl ty_320 ?h13_0 ?h13_1) ?k13
        case h13_0 => first | (apply Rd.own_sub; exact zmE; exact Sub.refl _) | (apply RdV.rd; assumption)
        case h13_1 => first | rfl | assumption
        refine' SA.take 2 (by kernel_rfl) rfl rfl rfl (Wanted.plain rfl) zsL (View.le_refl _) (Pur.loadN rfl ty_320 ?h14_0 ?h14_1) ?k14
        case h14_0 => first | (apply Rd.own_sub; exact zmE; exact Sub.refl _) | (apply RdV.rd; assumption)
        case h14_1 => first | rfl | assumption
        refine' SA.take 3 (by kernel_rfl) rfl rfl rfl (Wanted.plain rfl) zsL (View.le_refl _) (Pur.loadN rfl ty_320 ?h15_0 ?h15_1) ?k15
        case h15_0 => first | (apply Rd.own_sub; exact zmE; exact Sub.refl _) | (apply RdV.rd; assumption)
        case h15_1 => first | rfl | assumption
        refine SA.two 1 4 (by kernel_rfl) ?_ ?_
        · refine SStep.new 1 rfl rfl rfl (Wanted.plain rfl) (New.buildSliceN (xs := [.tmp 15]) (vss := [fieldC 0]) sl_313 zc_320 rfl rfl rfl (by rfl) (by rfl)) (.inr ⟨zsL, View.le_refl _⟩) (fun b16 => ?_)
          refine SA.take 5 (by kernel_rfl) rfl rfl rfl (Wanted.plain rfl) zsL (View.le_refl _) (Pur.assign rfl) ?_
          refine SA.new 4 rfl rfl rfl (Wanted.plain rfl) (by kernel_rfl) (New.buildSliceN (xs := [.tmp 17, .tmp 18]) (vss := [fieldC 1, fieldC 2]) sl_313 zc_320 rfl rfl rfl (by rfl) (by rfl)) (.inr ⟨zsL, View.le_refl _⟩) (fun b19 => ?_)
          refine SA.take 6 (by kernel_rfl) rfl rfl rfl (Wanted.plain rfl) zsL (View.le_refl _) (Pur.assign rfl) ?_
          refine SA.done (by kernel_rfl) ?_
          refine WQ.thn ?_
          refine WC.ret ?_
          refine WQ.blk_ret ?_
          refine WQ.thn_ret ?_
          first | refine WQ.giveS (byt := 24) (H1 := []) eField_mono (SlO.row (b := b19) (field_row σ [1, 2] (by decide))) (by decide) rfl (fun σ1 hle hsl => ?_) | refine WQ.giveS (byt := 24) (H1 := [_]) eField_mono (SlO.row (b := b19) (field_row σ [1, 2] (by decide))) (by decide) rfl (fun σ1 hle hsl => ?_)
          refine WQ.ret2 Tryz.results236 rfl rfl [] zsL hle ?_
          refine ⟨⟨_, _, rfl, ?_⟩, rfl⟩
          have : othersOf k = [1, 2] := by unfold othersOf; (repeat (first | rw [if_pos (by omega)] | rw [if_neg (by omega)]))
          rw [this]; exact hsl
        · refine SStep.new 4 rfl rfl rfl (Wanted.plain rfl) (New.buildSliceN (xs := [.tmp 17, .tmp 18]) (vss := [fieldC 1, fieldC 2]) sl_313 zc_320 rfl rfl rfl (by rfl) (by rfl)) (.inr ⟨zsL, View.le_refl _⟩) (fun b19 => ?_)
          refine SA.new 1 rfl rfl rfl (Wanted.plain rfl) (by kernel_rfl) (New.buildSliceN (xs := [.tmp 15]) (vss := [fieldC 0]) sl_313 zc_320 rfl rfl rfl (by rfl) (by rfl)) (.inr ⟨zsL, View.le_refl _⟩) (fun b16 => ?_)
          refine SA.take 5 (by kernel_rfl) rfl rfl rfl (Wanted.plain rfl) zsL (View.le_refl _) (Pur.assign rfl) ?_
          refine SA.take 6 (by kernel_rfl) rfl rfl rfl (Wanted.plain rfl) zsL (View.le_refl _) (Pur.assign rfl) ?_
          refine SA.done (by kernel_rfl) ?_
          refine WQ.thn ?_
          refine WC.ret ?_
          refine WQ.blk_ret ?_
          refine WQ.thn_ret ?_
          first | refine WQ.giveS (byt := 24) (H1 := []) eField_mono (SlO.row (b := b19) (field_row σ [1, 2] (by decide))) (by decide) rfl (fun σ1 hle hsl => ?_) | refine WQ.giveS (byt := 24) (H1 := [_]) eField_mono (SlO.row (b := b19) (field_row σ [1, 2] (by decide))) (by decide) rfl (fun σ1 hle hsl => ?_)
          refine WQ.ret2 Tryz.results236 rfl rfl [] zsL hle ?_
          refine ⟨⟨_, _, rfl, ?_⟩, rfl⟩
          have : othersOf k = [1, 2] := by unfold othersOf; (repeat (first | rw [if_pos (by omega)] | rw [if_neg (by omega)]))
          rw [this]; exact hsl
      · refine WC.seq ?_
        refine WC.region ?_
        refine' WL.pur (Pur.bin rfl rfl ?h16_0) ?k16
        case h16_0 => first | exact Bin.eqN (b := 6) | exact Bin.eqI
        refine WL.pur (Pur.assign rfl) ?_
        refine WL.nil ?_
        refine WQ.thn ?_
        first | refine WC.cond rfl (fun hc5 => ?_) (fun hc5 => ?_) | refine WC.condB rfl (fun hc5 => ?_) (fun hc5 => ?_)
        · refine WC.seq ?_
          refine WC.drawH 7 7 mixed (by kernel_rfl) rfl ?_
          refine' SA.take 0 (by kernel_rfl) rfl rfl rfl (Wanted.plain rfl) zsL (View.le_refl _) (Pur.loadN rfl ty_320 ?h17_0 ?h17_1) ?k17
          case h17_0 => first | (apply Rd.own_sub; exact zmE; exact Sub.refl _) | (apply RdV.rd; assumption)
          case h17_1 => first | rfl | assumption
          refine' SA.take 2 (by kernel_rfl) rfl rfl rfl (Wanted.plain rfl) zsL (View.le_refl _) (Pur.loadN rfl ty_320 ?h18_0 ?h18_1) ?k18
          case h18_0 => first | (apply Rd.own_sub; exact zmE; exact Sub.refl _) | (apply RdV.rd; assumption)
          case h18_1 => first | rfl | assumption
          refine' SA.take 3 (by kernel_rfl) rfl rfl rfl (Wanted.plain rfl) zsL (View.le_refl _) (Pur.loadN rfl ty_320 ?h19_0 ?h19_1) ?k19
          case h19_0 => first | (apply Rd.own_sub; exact zmE; exact Sub.refl _) | (apply RdV.rd; assumption)
          case h19_1 => first | rfl | assumption
          refine SA.two 1 4 (by kernel_rfl) ?_ ?_
          · refine SStep.new 1 rfl rfl rfl (Wanted.plain rfl) (New.buildSliceN (xs := [.tmp 22]) (vss := [fieldC 1]) sl_313 zc_320 rfl rfl rfl (by rfl) (by rfl)) (.inr ⟨zsL, View.le_refl _⟩) (fun b23 => ?_)
            refine SA.take 5 (by kernel_rfl) rfl rfl rfl (Wanted.plain rfl) zsL (View.le_refl _) (Pur.assign rfl) ?_
            refine SA.new 4 rfl rfl rfl (Wanted.plain rfl) (by kernel_rfl) (New.buildSliceN (xs := [.tmp 24, .tmp 25]) (vss := [fieldC 0, fieldC 2]) sl_313 zc_320 rfl rfl rfl (by rfl) (by rfl)) (.inr ⟨zsL, View.le_refl _⟩) (fun b26 => ?_)
            refine SA.take 6 (by kernel_rfl) rfl rfl rfl (Wanted.plain rfl) zsL (View.le_refl _) (Pur.assign rfl) ?_
            refine SA.done (by kernel_rfl) ?_
            refine WQ.thn ?_
            refine WC.ret ?_
            refine WQ.blk_ret ?_
            refine WQ.thn_ret ?_
            first | refine WQ.giveS (byt := 24) (H1 := []) eField_mono (SlO.row (b := b26) (field_row σ [0, 2] (by decide))) (by decide) rfl (fun σ1 hle hsl => ?_) | refine WQ.giveS (byt := 24) (H1 := [_]) eField_mono (SlO.row (b := b26) (field_row σ [0, 2] (by decide))) (by decide) rfl (fun σ1 hle hsl => ?_)
            refine WQ.ret2 Tryz.results236 rfl rfl [] zsL hle ?_
            refine ⟨⟨_, _, rfl, ?_⟩, rfl⟩
            have : othersOf k = [0, 2] := by unfold othersOf; (repeat (first | rw [if_pos (by omega)] | rw [if_neg (by omega)]))
            rw [this]; exact hsl
          · refine SStep.new 4 rfl rfl rfl (Wanted.plain rfl) (New.buildSliceN (xs := [.tmp 24, .tmp 25]) (vss := [fieldC 0, fieldC 2]) sl_313 zc_320 rfl rfl rfl (by rfl) (by rfl)) (.inr ⟨zsL, View.le_refl _⟩) (fun b26 => ?_)
            refine SA.new 1 rfl rfl rfl (Wanted.plain rfl) (by kernel_rfl) (New.buildSliceN (xs := [.tmp 22]) (vss := [fieldC 1]) sl_313 zc_320 rfl rfl rfl (by rfl) (by rfl)) (.inr ⟨zsL, View.le_refl _⟩) (fun b23 => ?_)
            refine SA.take 5 (by kernel_rfl) rfl rfl rfl (Wanted.plain rfl) zsL (View.le_refl _) (Pur.assign rfl) ?_
            refine SA.take 6 (by kernel_rfl) rfl rfl rfl (Wanted.plain rfl) zsL (View.le_refl _) (Pur.assign rfl) ?_
            refine SA.done (by kernel_rfl) ?_
            refine WQ.thn ?_
            refine WC.ret ?_
            refine WQ.blk_ret ?_
            refine WQ.thn_ret ?_
            first | refine WQ.giveS (byt := 24) (H1 := []) eField_mono (SlO.row (b := b26) (field_row σ [0, 2] (by decide))) (by decide) rfl (fun σ1 hle hsl => ?_) | refine WQ.giveS (byt := 24) (H1 := [_]) eField_mono (SlO.row (b := b26) (field_row σ [0, 2] (by decide))) (by decide) rfl (fun σ1 hle hsl => ?_)
            refine WQ.ret2 Tryz.results236 rfl rfl [] zsL hle ?_
            refine ⟨⟨_, _, rfl, ?_⟩, rfl⟩
            have : othersOf k = [0, 2] := by unfold othersOf; (repeat (first | rw [if_pos (by omega)] | rw [if_neg (by omega)]))
            rw [this]; exact hsl
        · refine WC.seq ?_
          refine WC.region ?_
          refine' WL.pur (Pur.bin rfl rfl ?h20_0) ?k20
          case h20_0 => first | exact Bin.eqN (b := 8) | exact Bin.eqI
          refine WL.pur (Pur.assign rfl) ?_
          refine WL.nil ?_
          refine WQ.thn ?_
          first | refine WC.cond rfl (fun hc6 => ?_) (fun hc6 => ?_) | refine WC.condB rfl (fun hc6 => ?_) (fun hc6 => ?_)
          · refine WC.seq ?_
            refine WC.drawH 7 7 mixed (by kernel_rfl) rfl ?_
            refine' SA.take 0 (by kernel_rfl) rfl rfl rfl (Wanted.plain rfl) zsL (View.le_refl _) (Pur.loadN rfl ty_320 ?h21_0 ?h21_1) ?k21
            case h21_0 => first | (apply Rd.own_sub; exact zmE; exact Sub.refl _) | (apply RdV.rd; assumption)
            case h21_1 => first | rfl | assumption
            refine' SA.take 1 (by kernel_rfl) rfl rfl rfl (Wanted.plain rfl) zsL (View.le_refl _) (Pur.loadN rfl ty_320 ?h22_0 ?h22_1) ?k22
            case h22_0 => first | (apply Rd.own_sub; exact zmE; exact Sub.refl _) | (apply RdV.rd; assumption)
            case h22_1 => first | rfl | assumption
            refine' SA.take 3 (by kernel_rfl) rfl rfl rfl (Wanted.plain rfl) zsL (View.le_refl _) (Pur.loadN rfl ty_320 ?h23_0 ?h23_1) ?k23
            case h23_0 => first | (apply Rd.own_sub; exact zmE; exact Sub.refl _) | (apply RdV.rd; assumption)
            case h23_1 => first | rfl | assumption
            refine SA.two 2 4 (by kernel_rfl) ?_ ?_
            · refine SStep.new 2 rfl rfl rfl (Wanted.plain rfl) (New.buildSliceN (xs := [.tmp 29, .tmp 30]) (vss := [fieldC 0, fieldC 2]) sl_313 zc_320 rfl rfl rfl (by rfl) (by rfl)) (.inr ⟨zsL, View.le_refl _⟩) (fun b31 => ?_)
              refine SA.take 5 (by kernel_rfl) rfl rfl rfl (Wanted.plain rfl) zsL (View.le_refl _) (Pur.assign rfl) ?_
              refine SA.new 4 rfl rfl rfl (Wanted.plain rfl) (by kernel_rfl) (New.buildSliceN (xs := [.tmp 32]) (vss := [fieldC 1]) sl_313 zc_320 rfl rfl rfl (by rfl) (by rfl)) (.inr ⟨zsL, View.le_refl _⟩) (fun b33 => ?_)
              refine SA.take 6 (by kernel_rfl) rfl rfl rfl (Wanted.plain rfl) zsL (View.le_refl _) (Pur.assign rfl) ?_
              refine SA.done (by kernel_rfl) ?_
              refine WQ.thn ?_
              refine WC.ret ?_
              refine WQ.blk_ret ?_
              refine WQ.thn_ret ?_
              first | refine WQ.giveS (byt := 24) (H1 := []) eField_mono (SlO.row (b := b33) (field_row σ [1] (by decide))) (by decide) rfl (fun σ1 hle hsl => ?_) | refine WQ.giveS (byt := 24) (H1 := [_]) eField_mono (SlO.row (b := b33) (field_row σ [1] (by decide))) (by decide) rfl (fun σ1 hle hsl => ?_)
              refine WQ.ret2 Tryz.results236 rfl rfl [] zsL hle ?_
              refine ⟨⟨_, _, rfl, ?_⟩, rfl⟩
              have : othersOf k = [1] := by unfold othersOf; (repeat (first | rw [if_pos (by omega)] | rw [if_neg (by omega)]))
              rw [this]; exact hsl
            · refine SStep.new 4 rfl rfl rfl (Wanted.plain rfl) (New.buildSliceN (xs := [.tmp 32]) (vss := [fieldC 1]) sl_313 zc_320 rfl rfl rfl (by rfl) (by rfl)) (.inr ⟨zsL, View.le_refl _⟩) (fun b33 => ?_)
              refine SA.new 2 rfl rfl rfl (Wanted.plain rfl) (by kernel_rfl) (New.buildSliceN (xs := [.tmp 29, .tmp 30]) (vss := [fieldC 0, fieldC 2]) sl_313 zc_320 rfl rfl rfl (by rfl) (by rfl)) (.inr ⟨zsL, View.le_refl _⟩) (fun b31 => ?_)
              refine SA.take 5 (by kernel_rfl) rfl rfl rfl (Wanted.plain rfl) zsL (View.le_refl _) (Pur.assign rfl) ?_
              refine SA.take 6 (by kernel_rfl) rfl rfl rfl (Wanted.plain rfl) zsL (View.le_refl _) (Pur.assign rfl) ?_
              refine SA.done (by kernel_rfl) ?_
              refine WQ.thn ?_
              refine WC.ret ?_
              refine WQ.blk_ret ?_
              refine WQ.thn_ret ?_
              first | refine WQ.giveS (byt := 24) (H1 := []) eField_mono (SlO.row (b := b33) (field_row σ [1] (by decide))) (by decide) rfl (fun σ1 hle hsl => ?_) | refine WQ.giveS (byt := 24) (H1 := [_]) eField_mono (SlO.row (b := b33) (field_row σ [1] (by decide))) (by decide) rfl (fun σ1 hle hsl => ?_)
              refine WQ.ret2 Tryz.results236 rfl rfl [] zsL hle ?_
              refine ⟨⟨_, _, rfl, ?_⟩, rfl⟩
              have : othersOf k = [1] := by unfold othersOf; (repeat (first | rw [if_pos (by omega)] | rw [if_neg (by omega)]))
              rw [this]; exact hsl
          · refine WC.seq ?_
            refine WC.region ?_
            refine' WL.pur (Pur.bin rfl rfl ?h24_0) ?k24
            case h24_0 => first | exact Bin.eqN (b := 9) | exact Bin.eqI
            refine WL.pur (Pur.assign rfl) ?_
            refine WL.nil ?_
            refine WQ.thn ?_
            first | refine WC.cond rfl (fun hc7 => ?_) (fun hc7 => ?_) | refine WC.condB rfl (fun hc7 => ?_) (fun hc7 => ?_)
            · refine WC.seq ?_
              refine WC.drawH 7 7 mixed (by kernel_rfl) rfl ?_
              refine' SA.take 0 (by kernel_rfl) rfl rfl rfl (Wanted.plain rfl) zsL (View.le_refl _) (Pur.loadN rfl ty_320 ?h25_0 ?h25_1) ?k25
              case h25_0 => first | (apply Rd.own_sub; exact zmE; exact Sub.refl _) | (apply RdV.rd; assumption)
              case h25_1 => first | rfl | assumption
              refine' SA.take 2 (by kernel_rfl) rfl rfl rfl (Wanted.plain rfl) zsL (View.le_refl _) (Pur.loadN rfl ty_320 ?h26_0 ?h26_1) ?k26
              case h26_0 => first | (apply Rd.own_sub; exact zmE; exact Sub.refl _) | (apply RdV.rd; assumption)
              case h26_1 => first | rfl | assumption
              refine' SA.take 3 (by kernel_rfl) rfl rfl rfl (Wanted.plain rfl) zsL (View.le_refl _) (Pur.loadN rfl ty_320 ?h27_0 ?h27_1) ?k27
              case h27_0 => first | (apply Rd.own_sub; exact zmE; exact Sub.refl _) | (apply RdV.rd; assumption)
              case h27_1 => first | rfl | assumption
              refine SA.two 1 4 (by kernel_rfl) ?_ ?_
              · refine SStep.new 1 rfl rfl rfl (Wanted.plain rfl) (New.buildSliceN (xs := [.tmp 36]) (vss := [fieldC 2]) sl_313 zc_320 rfl rfl rfl (by rfl) (by rfl)) (.inr ⟨zsL, View.le_refl _⟩) (fun b37 => ?_)
                refine SA.take 5 (by kernel_rfl) rfl rfl rfl (Wanted.plain rfl) zsL (View.le_refl _) (Pur.assign rfl) ?_
                refine SA.new 4 rfl rfl rfl (Wanted.plain rfl) (by kernel_rfl) (New.buildSliceN (xs := [.tmp 38, .tmp 39]) (vss := [fieldC 0, fieldC 1]) sl_313 zc_320 rfl rfl rfl (by rfl) (by rfl)) (.inr ⟨zsL, View.le_refl _⟩) (fun b40 => ?_)
                refine SA.take 6 (by kernel_rfl) rfl rfl rfl (Wanted.plain rfl) zsL (View.le_refl _) (Pur.assign rfl) ?_
                refine SA.done (by kernel_rfl) ?_
                refine WQ.thn ?_
                refine WC.ret ?_
                refine WQ.blk_ret ?_
                refine WQ.thn_ret ?_
                first | refine WQ.giveS (byt := 24) (H1 := []) eField_mono (SlO.row (b := b40) (field_row σ [0, 1] (by decide))) (by decide) rfl (fun σ1 hle hsl => ?_) | refine WQ.giveS (byt := 24) (H1 := [_]) eField_mono (SlO.row (b := b40) (field_row σ [0, 1] (by decide))) (by decide) rfl (fun σ1 hle hsl => ?_)
                refine WQ.ret2 Tryz.results236 rfl rfl [] zsL hle ?_
                refine ⟨⟨_, _, rfl, ?_⟩, rfl⟩
                have : othersOf k = [0, 1] := by unfold othersOf; (repeat (first | rw [if_pos (by omega)] | rw [if_neg (by omega)]))
                rw [this]; exact hsl
              · refine SStep.new 4 rfl rfl rfl (Wanted.plain rfl) (New.buildSliceN (xs := [.tmp 38, .tmp 39]) (vss := [fieldC 0, fieldC 1]) sl_313 zc_320 rfl rfl rfl (by rfl) (by rfl)) (.inr ⟨zsL, View.le_refl _⟩) (fun b40 => ?_)
                refine SA.new 1 rfl rfl rfl (Wanted.plain rfl) (by kernel_rfl) (New.buildSliceN (xs := [.tmp 36]) (vss := [fieldC 2]) sl_313 zc_320 rfl rfl rfl (by rfl) (by rfl)) (.inr ⟨zsL, View.le_refl _⟩) (fun b37 => ?_)
                refine SA.take 5 (by kernel_rfl) rfl rfl rfl (Wanted.plain rfl) zsL (View.le_refl _) (Pur.assign rfl) ?_
                refine SA.take 6 (by kernel_rfl) rfl rfl rfl (Wanted.plain rfl) zsL (View.le_refl _) (Pur.assign rfl) ?_
                refine SA.done (by kernel_rfl) ?_
                refine WQ.thn ?_
                refine WC.ret ?_
                refine WQ.blk_ret ?_
                refine WQ.thn_ret ?_
                first | refine WQ.giveS (byt := 24) (H1 := []) eField_mono (SlO.row (b := b40) (field_row σ [0, 1] (by decide))) (by decide) rfl (fun σ1 hle hsl => ?_) | refine WQ.giveS (byt := 24) (H1 := [_]) eField_mono (SlO.row (b := b40) (field_row σ [0, 1] (by decide))) (by decide) rfl (fun σ1 hle hsl => ?_)
                refine WQ.ret2 Tryz.results236 rfl rfl [] zsL hle ?_
                refine ⟨⟨_, _, rfl, ?_⟩, rfl⟩
                have : othersOf k = [0, 1] := by unfold othersOf; (repeat (first | rw [if_pos (by omega)] | rw [if_neg (by omega)]))
                rw [this]; exact hsl
            · refine WC.skip ?_
              refine WQ.blk ?_
              refine WQ.thn ?_
              refine WC.seq ?_
              refine WC.drawH 6 6 mixed (by kernel_rfl) rfl ?_
              refine' SA.take 0 (by kernel_rfl) rfl rfl rfl (Wanted.plain rfl) zsL (View.le_refl _) (Pur.loadN rfl ty_320 ?h28_0 ?h28_1) ?k28
              case h28_0 => first | (apply Rd.own_sub; exact zmE; exact Sub.refl _) | (apply RdV.rd; assumption)
              case h28_1 => first | rfl | assumption
              refine' SA.take 1 (by kernel_rfl) rfl rfl rfl (Wanted.plain rfl) zsL (View.le_refl _) (Pur.loadN rfl ty_320 ?h29_0 ?h29_1) ?k29
              case h29_0 => first | (apply Rd.own_sub; exact zmE; exact Sub.refl _) | (apply RdV.rd; assumption)
              case h29_1 => first | rfl | assumption
              refine' SA.take 2 (by kernel_rfl) rfl rfl rfl (Wanted.plain rfl) zsL (View.le_refl _) (Pur.loadN rfl ty_320 ?h30_0 ?h30_1) ?k30
              case h30_0 => first | (apply Rd.own_sub; exact zmE; exact Sub.refl _) | (apply RdV.rd; assumption)
              case h30_1 => first | rfl | assumption
              refine SA.take 4 (by kernel_rfl) rfl rfl rfl (Wanted.plain rfl) zsL (View.le_refl _) (Pur.assign rfl) ?_
              refine SA.new 3 rfl rfl rfl (Wanted.plain rfl) (by kernel_rfl) (New.buildSliceN (xs := [.tmp 41, .tmp 42, .tmp 43]) (vss := [fieldC 0, fieldC 1, fieldC 2]) sl_313 zc_320 rfl rfl rfl (by rfl) (by rfl)) (.inr ⟨zsL, View.le_refl _⟩) (fun b44 => ?_)
              refine SA.take 5 (by kernel_rfl) rfl rfl rfl (Wanted.plain rfl) zsL (View.le_refl _) (Pur.assign rfl) ?_
              refine SA.done (by kernel_rfl) ?_
              refine WQ.thn ?_
              refine WC.ret ?_
              first | refine WQ.giveS (byt := 24) (H1 := []) eField_mono (SlO.row (b := b44) (field_row σ [0, 1, 2] (by decide))) (by decide) rfl (fun σ1 hle hsl => ?_) | refine WQ.giveS (byt := 24) (H1 := [_]) eField_mono (SlO.row (b := b44) (field_row σ [0, 1, 2] (by decide))) (by decide) rfl (fun σ1 hle hsl => ?_)
              refine WQ.ret2 Tryz.results236 rfl rfl [] zsL hle ?_
              refine ⟨⟨_, _, rfl, ?_⟩, rfl⟩
              have : othersOf k = [0, 1, 2] := by unfold othersOf; (repeat (first | rw [if_pos (by omega)] | rw [if_neg (by omega)]))
              rw [this]; exact hsl

end Go.Proofs.YtgoooilgmabkmaaGreat
namespace Go.Proofs.YtgoooilgmabkmaaGreat
open Go Go.Sl
set_option linter.unusedVariables false
set_option linter.unusedSimpArgs false
set_option maxRecDepth 100000

def fieldF (i : Nat) : Nat := if i = 0 then 256 else if i = 1 then 261 else 266
theorem fieldC_length (i : Nat) : (fieldC i).length = 3 := by unfold fieldC; split; rfl; split <;> rfl
theorem fieldC_0 (i : Nat) : (fieldC i)[0]? = some (.func (.func (fieldF i)) #[] #[]) := by unfold fieldC fieldF; split; rfl; split <;> rfl
theorem fieldF_call (i : Nat) (args : Array Value) (w : World) : (callFunc (fieldF i) args).run Tryz.prog w = .ok (.enter (fieldF i) args) w := by
  unfold fieldF; split; exact Tryz.call256 args w; split; exact Tryz.call261 args w; exact Tryz.call266 args w
theorem fieldF_empty (σ : View) (o : OpD) (h : o.ok) (i : Nat) (hi : i < 3) : TriP Tryz.prog (fieldF i) #[.agg o.cells.toArray] σ (.bool (decide (emptyAt o i))) := by
  have : i = 0 ∨ i = 1 ∨ i = 2 := by omega
  rcases this with rfl | rfl | rfl
  · exact op_text1 σ o h
  · exact op_number1 σ o h
  · exact op_at1 σ o h
theorem others_lt (k : Int) : ∀ i ∈ othersOf k, i < 3 := by
  unfold othersOf
  (repeat' split) <;> decide
/-- what the two ways of asking say -/
theorem others_iff (o : OpD) (hk : 1 ≤ o.kind ∧ o.kind ≤ 9) : (∃ i ∈ othersOf o.kind, ¬ emptyAt o i) ↔ ((¬ hasText o.kind ∧ o.text ≠ ByteArray.empty) ∨ (o.kind ≠ 6 ∧ o.n ≠ 0) ∨ (¬ hasAt o.kind ∧ ¬ atZero o)) := by
  have e0 : emptyAt o 0 ↔ o.text = ByteArray.empty := Iff.rfl
  have e1 : emptyAt o 1 ↔ o.n = 0 := Iff.rfl
  have e2 : emptyAt o 2 ↔ atZero o := Iff.rfl
  have hT : hasText o.kind ↔ (o.kind = 1 ∨ o.kind = 3 ∨ o.kind = 4 ∨ o.kind = 8) := Iff.rfl
  have hA : hasAt o.kind ↔ (o.kind = 8 ∨ o.kind = 9) := Iff.rfl
  rw [hT, hA]
  unfold othersOf
  by_cases c1 : o.kind = 1 ∨ o.kind = 3 ∨ o.kind = 4
  · rw [if_pos c1]; simp only [List.mem_cons, List.not_mem_nil, or_false, exists_eq_or_imp, exists_eq_left, e1, e2]
    constructor
    · rintro (h | h); exact .inr (.inl ⟨by omega, h⟩); exact .inr (.inr ⟨by omega, h⟩)
    · rintro (h | h | h); omega; exact .inl h.2; exact .inr h.2
  · rw [if_neg c1]
    by_cases c2 : o.kind = 6
    · rw [if_pos c2]; simp only [List.mem_cons, List.not_mem_nil, or_false, exists_eq_or_imp, exists_eq_left, e0, e2]
      constructor
      · rintro (h | h); exact .inl ⟨by omega, h⟩; exact .inr (.inr ⟨by omega, h⟩)
      · rintro (h | h | h); exact .inl h.2; omega; exact .inr h.2
    · rw [if_neg c2]
      by_cases c3 : o.kind = 8
      · rw [if_pos c3]; simp only [List.mem_cons, List.not_mem_nil, or_false, exists_eq_left, e1]
        constructor
        · intro h; exact .inr (.inl ⟨by omega, h⟩)
        · rintro (h | h | h); omega; exact h.2; omega
      · rw [if_neg c3]
        by_cases c4 : o.kind = 9
        · rw [if_pos c4]; simp only [List.mem_cons, List.not_mem_nil, or_false, exists_eq_or_imp, exists_eq_left, e0, e1]
          constructor
          · rintro (h | h); exact .inl ⟨by omega, h⟩; exact .inr (.inl ⟨by omega, h⟩)
          · rintro (h | h | h); exact .inl h.2; exact .inr h.2; omega
        · rw [if_neg c4]; simp only [List.mem_cons, List.not_mem_nil, or_false, exists_eq_or_imp, exists_eq_left, e0, e1, e2]
          constructor
          · rintro (h | h | h); exact .inl ⟨by omega, h⟩; exact .inr (.inl ⟨by omega, h⟩); exact .inr (.inr ⟨by omega, h⟩)
          · rintro (h | h | h); exact .inl h.2; exact .inr (.inl h.2); exact .inr (.inr h.2)

theorem cell4 {k : Int} : cellOf k = 4 ↔ hasAt k := by
  unfold cellOf hasAt
  (repeat' split) <;> omega

theorem op_right (σ : View) (lv : Value) (l : List OpD) (o : OpD) (h : Ops σ lv l) (ho : o.ok) :
    TriP Tryz.prog 238 #[lv, .agg o.cells.toArray] σ (.bool (decide (atMay l o))) := by
  have h' := h
  obtain ⟨a, cap, rfl, hcap, hby⟩ := h.shape
  obtain ⟨hk, hkey, htext, hn, hatn, hato⟩ := ho
  have h0 := isH0
  unfold I64 at hato
  refine Tri.of_body [(0, .slice a l.length cap), (1, .agg o.cells.toArray)] Tryz.func238 rfl Tryz.ntmps238 (by simp) rfl (fun Hr => ?_)
  rw [List.nil_append]
  refine WC.seq ?_
  refine WC.region ?_
  refine WL.new (New.boxN rfl) (fun b3 => ?_)
  refine WL.pur (Pur.assign rfl) ?_
  refine WL.nil ?_
  refine WQ.thn ?_
  refine WC.seq ?_
  refine WC.block ?_
  refine WC.seq ?_
  refine WC.region ?_
  refine WL.pur (Pur.fieldAddr rfl fo_51_4) ?_
  refine' WL.pur (Pur.loadN rfl ty_49 ?h1_0 ?h1_1) ?k1
  case h1_0 => first | (apply Rd.own_sub; exact zmE; exact Sub.op_ident _ _ _ _ _ _) | (apply RdV.rd; apply RdV.sub (i := 4); assumption; exact Sub.op_ident _ _ _ _ _ _)
  case h1_1 => first | rfl | assumption
  refine WL.pur (Pur.build (l := (identCells 0 0)) pl_49 zc_49 rfl rfl) ?_
  refine' WL.pur (Pur.bin rfl rfl ?h2_0) ?k2
  case h2_0 => (refine Bin.eqId identT_49 ?_ ?_ <;> assumption)
  refine WL.pur (Pur.assign rfl) ?_
  refine WL.nil ?_
  refine WQ.thn ?_
  first | refine WC.cond rfl (fun hc0 => ?_) (fun hc0 => ?_) | refine WC.condB rfl (fun hc0 => ?_) (fun hc0 => ?_)
  · refine WC.seq ?_
    refine WC.region ?_
    refine WL.pur (Pur.fieldAddr rfl fo_51_0) ?_
    refine' WL.pur (Pur.load1 rfl ty_3 ?h3_0) ?k3
    case h3_0 => first | (apply Rd.own1; exact zmE; rfl) | (apply RdV.rd; apply RdV.idx (i := 0); assumption; rfl)
    refine' WL.pur (Pur.bin rfl rfl ?h4_0) ?k4
    case h4_0 => first | exact Bin.eqN (b := 8) | exact Bin.eqI
    refine WL.pur (Pur.assign rfl) ?_
    refine WL.nil ?_
    refine WQ.thn ?_
    refine WC.ret ?_
    refine WQ.blk_ret ?_
    refine WQ.thn_ret ?_
    refine WQ.ret1 Tryz.results238 rfl [] zsL (View.le_refl _) ?_
    refine ⟨?_, rfl, rfl⟩
    exact decB (by unfold atMay; rw [if_pos hc0.1, if_pos hc0.2])
  · refine WC.seq ?_
    refine WC.region ?_
    refine WL.pur (Pur.fieldAddr rfl fo_51_4) ?_
    refine WL.pur (Pur.fieldAddr rfl fo_49_0) ?_
    refine' WL.pur (Pur.loadN rfl ty_39 ?h5_0 ?h5_1) ?k5
    case h5_0 => first | (apply Rd.own_sub; exact zmE; exact Sub.op_hash _ _ _ _ _ _) | (apply RdV.rd; apply RdV.sub (i := 4); assumption; exact Sub.op_hash _ _ _ _ _ _)
    case h5_1 => first | rfl | assumption
    refine WL.pur (Pur.buildA0 zc_39 ar_39) ?_
    refine' WL.pur (Pur.bin rfl rfl ?h6_0) ?k6
    case h6_0 => (refine Bin.neH isHash_39 ?_ ?_ <;> assumption)
    refine WL.pur (Pur.assign rfl) ?_
    refine WL.nil ?_
    refine WQ.thn ?_
    first | refine WC.cond rfl (fun hc1 => ?_) (fun hc1 => ?_) | refine WC.condB rfl (fun hc1 => ?_) (fun hc1 => ?_)
    · refine WC.seq ?_
      refine WC.region ?_
      refine WL.pur (Pur.fieldAddr rfl fo_51_4) ?_
      refine WL.pur (Pur.fieldAddr rfl fo_49_1) ?_
      refine' WL.pur (Pur.load1 rfl ty_3 ?h7_0) ?k7
      case h7_0 => first | (apply Rd.own1; exact zmE; rfl) | (apply RdV.rd; apply RdV.idx (i := 36); assumption; rfl) | (apply RdV.rd; apply RdV.idx (off := 0) (i := 36); assumption; rfl)
      refine' WL.pur (Pur.bin rfl rfl ?h8_0) ?k8
      case h8_0 => first | exact Bin.geN (b := 1) | exact Bin.geI
      refine WL.pur (Pur.move rfl) ?_
      refine' WL.andp (u := 24) (t := 29) rfl ?h9_0 ?h9_1 ?h9_2 rfl ?k9
      case h9_0 =>
        intro hg24 K24
        refine WL.gpur (u := 24) rfl rfl (gT hg24) (Pur.fieldAddr rfl fo_51_4) ?_
        refine WL.gpur (u := 24) rfl rfl (gT hg24) (Pur.fieldAddr rfl fo_49_1) ?_
        refine' WL.gpur (u := 24) rfl rfl (gT hg24) (Pur.load1 rfl ty_3 ?h10_0) ?k10
        case h10_0 => first | (apply Rd.own1; exact zmE; rfl) | (apply RdV.rd; apply RdV.idx (i := 36); assumption; rfl) | (apply RdV.rd; apply RdV.idx (off := 0) (i := 36); assumption; rfl)
        refine' WL.gpur (u := 24) rfl rfl (gT hg24) (Pur.bin rfl rfl ?h11_0) ?k11
        case h11_0 => first | exact Bin.leN (b := 1024) | exact Bin.leI | exact Bin.leS
        exact K24 _ zcR rfl
      case h9_1 =>
        intro hg24 K24
        refine WL.gskip (u := 24) rfl rfl (sT hg24) ?_
        refine WL.gskip (u := 24) rfl rfl (sT hg24) ?_
        refine WL.gskip (u := 24) rfl rfl (sT hg24) ?_
        refine WL.gskip (u := 24) rfl rfl (sT hg24) ?_
        exact K24 _ zcR
      case h9_2 => exact Wanted.plain rfl
      refine WL.pur (Pur.assign rfl) ?_
      refine WL.nil ?_
      refine WQ.thn ?_
      refine WC.ret ?_
      refine WQ.blk_ret ?_
      refine WQ.thn_ret ?_
      refine WQ.ret1 Tryz.results238 rfl [] zsL (View.le_refl _) ?_
      refine ⟨?_, rfl, rfl⟩
      exact decB (by unfold atMay; rw [if_neg hc1])
    · refine WC.seq ?_
      refine WC.region ?_
      refine WL.pur (Pur.fieldAddr rfl fo_51_4) ?_
      refine WL.pur (Pur.fieldAddr rfl fo_49_1) ?_
      refine' WL.pur (Pur.load1 rfl ty_3 ?h12_0) ?k12
      case h12_0 => first | (apply Rd.own1; exact zmE; rfl) | (apply RdV.rd; apply RdV.idx (i := 36); assumption; rfl) | (apply RdV.rd; apply RdV.idx (off := 0) (i := 36); assumption; rfl)
      refine' WL.pur (Pur.bin rfl rfl ?h13_0) ?k13
      case h13_0 => first | exact Bin.ltN (b := 1) | exact Bin.ltI | exact Bin.ltS
      refine WL.pur (Pur.move rfl) ?_
      refine' WL.orp (u := 35) (t := 42) rfl ?h14_0 ?h14_1 ?h14_2 rfl ?k14
      case h14_0 =>
        intro hg35 K35
        refine WL.gpur (u := 35) rfl rfl (gF hg35) (Pur.fieldAddr rfl fo_51_4) ?_
        refine WL.gpur (u := 35) rfl rfl (gF hg35) (Pur.fieldAddr rfl fo_49_1) ?_
        refine' WL.gpur (u := 35) rfl rfl (gF hg35) (Pur.load1 rfl ty_3 ?h15_0) ?k15
        case h15_0 => first | (apply Rd.own1; exact zmE; rfl) | (apply RdV.rd; apply RdV.idx (i := 36); assumption; rfl) | (apply RdV.rd; apply RdV.idx (off := 0) (i := 36); assumption; rfl)
        refine WL.gpur (u := 35) rfl rfl (gF hg35) (Pur.move rfl) ?_
        refine WL.gpur (u := 35) rfl rfl (gF hg35) (Pur.len rfl isSlice_40) ?_
        refine' WL.gpur (u := 35) rfl rfl (gF hg35) (Pur.bin rfl rfl ?h16_0) ?k16
        case h16_0 => first | exact Bin.gtN | exact Bin.gtI
        exact K35 _ zcR rfl
      case h14_1 =>
        intro hg35 K35
        refine WL.gskip (u := 35) rfl rfl (sF hg35) ?_
        refine WL.gskip (u := 35) rfl rfl (sF hg35) ?_
        refine WL.gskip (u := 35) rfl rfl (sF hg35) ?_
        refine WL.gskip (u := 35) rfl rfl (sF hg35) ?_
        refine WL.gskip (u := 35) rfl rfl (sF hg35) ?_
        refine WL.gskip (u := 35) rfl rfl (sF hg35) ?_
        exact K35 _ zcR
      case h14_2 => exact Wanted.plain rfl
      refine WL.pur (Pur.assign rfl) ?_
      refine WL.nil ?_
      refine WQ.thn ?_
      first | refine WC.cond rfl (fun hc2 => ?_) (fun hc2 => ?_) | refine WC.condB rfl (fun hc2 => ?_) (fun hc2 => ?_)
      · refine WC.seq ?_
        refine WC.region ?_
        refine WL.pur (Pur.assign rfl) ?_
        refine WL.nil ?_
        refine WQ.thn ?_
        refine WC.ret ?_
        refine WQ.blk_ret ?_
        refine WQ.thn_ret ?_
        refine WQ.ret1 Tryz.results238 rfl [] zsL (View.le_refl _) ?_
        refine ⟨?_, rfl, rfl⟩
        exact boolF (by unfold atMay; intro h; split at h; split at h; exact hc0 ⟨by assumption, by assumption⟩; omega; exact hc1 (by assumption))
      · obtain ⟨b, off, cap', e, hcap', hby', hat⟩ := h'.at (by omega)
        cases e
        obtain ⟨x, hx⟩ : ∃ x, l[(o.ato - 1).toNat]? = some x := ⟨_, List.getElem?_eq_getElem (by omega)⟩
        obtain ⟨vs, hl, h1, ⟨rfl, hxk, hxkey, hxr⟩, hrd⟩ := hat _ x hx
        refine WC.skip ?_
        refine WQ.blk ?_
        refine WQ.thn ?_
        refine WC.seq ?_
        refine WC.region ?_
        refine WL.pur (Pur.move rfl) ?_
        refine WL.pur (Pur.fieldAddr rfl fo_51_4) ?_
        refine WL.pur (Pur.fieldAddr rfl fo_49_1) ?_
        refine' WL.pur (Pur.load1 rfl ty_3 ?h17_0) ?k17
        case h17_0 => first | (apply Rd.own1; exact zmE; rfl) | (apply RdV.rd; apply RdV.idx (i := 36); assumption; rfl) | (apply RdV.rd; apply RdV.idx (off := 0) (i := 36); assumption; rfl)
        refine' WL.pur (Pur.bin rfl rfl ?h18_0) ?k18
        case h18_0 => exact Bin.subK (c := (o.ato - 1).toNat) (by omega) (by omega)
        refine' WL.pur (Pur.indexAddr rfl rfl sl_40 ?h19_0) ?k19
        case h19_0 => omega
        refine' WL.pur (Pur.loadN rfl ty_51 ?h20_0 ?h20_1) ?k20
        case h20_0 => first | (apply Rd.own_sub; exact zmE; exact Sub.refl _) | (apply RdV.rd; assumption)
        case h20_1 => first | rfl | assumption
        refine WL.new (New.alloc zc_51) (fun b5 => ?_)
        refine' WL.run0 (Run.storeAll rfl rfl ty_51 ?h21_0 (by first | rfl | assumption) ?h21_1 (by first | rfl | assumption)) ?k21
        case h21_0 => repeat (first | exact Part.one | exact Part.here | apply Part.cons | apply Part.app)
        case h21_1 => first | rfl | assumption
        refine WL.nil ?_
        refine WQ.thn ?_
        refine WC.seq ?_
        refine WC.region ?_
        refine WL.pur (Pur.fieldAddr rfl fo_51_0) ?_
        refine' WL.pur (Pur.load1 rfl ty_3 ?h22_0) ?k22
        case h22_0 => first | (apply Rd.own1; exact zmE; rfl) | (apply RdV.rd; apply RdV.idx (i := 0); assumption; rfl)
        refine' WL.pur (Pur.bin rfl rfl ?h23_0) ?k23
        case h23_0 => first | exact Bin.eqN (b := 8) | exact Bin.eqI
        refine WL.pur (Pur.move rfl) ?_
        refine' WL.andp (u := 53) (t := 59) rfl ?h24_0 ?h24_1 ?h24_2 rfl ?k24
        case h24_0 =>
          intro hg53 K53
          refine WL.gpur (u := 53) rfl rfl (gT hg53) (Pur.fieldAddr rfl fo_51_1) ?_
          refine' WL.gpur (u := 53) rfl rfl (gT hg53) (Pur.load1 rfl ty_9 ?h25_0) ?k25
          case h25_0 => first | (apply Rd.own1; exact zmE; rfl) | (apply RdV.rd; apply RdV.idx (i := 1); assumption; rfl) | (apply RdV.rd; apply RdV.idx (off := 0) (i := 1); assumption; rfl)
          refine WL.gpur (u := 53) rfl rfl (gT hg53) (Pur.fieldAddr rfl fo_51_1) ?_
          refine' WL.gpur (u := 53) rfl rfl (gT hg53) (Pur.load1 rfl ty_9 ?h26_0) ?k26
          case h26_0 => first | (apply Rd.own1; exact zmE; rfl) | (apply RdV.rd; apply RdV.idx (i := 1); assumption; rfl) | (apply RdV.rd; apply RdV.idx (off := 0) (i := 1); assumption; rfl)
          refine' WL.gpur (u := 53) rfl rfl (gT hg53) (Pur.bin rfl rfl ?h27_0) ?k27
          case h27_0 => exact Bin.eqS
          exact K53 _ zcR rfl
        case h24_1 =>
          intro hg53 K53
          refine WL.gskip (u := 53) rfl rfl (sT hg53) ?_
          refine WL.gskip (u := 53) rfl rfl (sT hg53) ?_
          refine WL.gskip (u := 53) rfl rfl (sT hg53) ?_
          refine WL.gskip (u := 53) rfl rfl (sT hg53) ?_
          refine WL.gskip (u := 53) rfl rfl (sT hg53) ?_
          exact K53 _ zcR
        case h24_2 => exact Wanted.plain rfl
        refine WL.pur (Pur.assign rfl) ?_
        refine WL.nil ?_
        refine WQ.thn ?_
        refine WC.ret ?_
        refine WQ.ret1 Tryz.results238 rfl [] zsL (View.le_refl _) ?_
        refine ⟨?_, rfl, rfl⟩
        exact decB (by unfold atMay; rw [if_pos (Decidable.not_not.1 hc1), if_neg (fun hz => hc0 ⟨Decidable.not_not.1 hc1, hz⟩)]; exact ⟨fun h => ⟨by omega, by omega, fun y hy => by rw [hx] at hy; cases hy; exact h⟩, fun h => h.2.2 x hx⟩)

theorem op_wrong (σ : View) (lv : Value) (l : List OpD) (o : OpD) (h : Ops σ lv l) (ho : o.ok) :
    TriP Tryz.prog 219 #[lv, .agg o.cells.toArray] σ (.int .i64 (opErr l o)) := by
  have h' := h
  obtain ⟨a, cap, rfl, hcap, hby⟩ := h.shape
  have ho' := ho
  obtain ⟨hk, hkey, htext, hn, hatn, hato⟩ := ho
  unfold StrOk at hkey htext
  refine Tri.of_body [(0, .slice a l.length cap), (1, .agg o.cells.toArray)] Tryz.func219 rfl Tryz.ntmps219 (by simp) rfl (fun Hr => ?_)
  rw [List.nil_append]
  refine WC.seq ?_
  refine WC.region ?_
  refine WL.new (New.boxN rfl) (fun b3 => ?_)
  refine WL.pur (Pur.assign rfl) ?_
  refine WL.nil ?_
  refine WQ.thn ?_
  refine WC.seq ?_
  refine WC.region ?_
  refine WL.pur (Pur.fieldAddr rfl fo_51_0) ?_
  refine' WL.pur (Pur.load1 rfl ty_3 ?h1_0) ?k1
  case h1_0 => first | (apply Rd.own1; exact zmE; rfl) | (apply RdV.rd; apply RdV.idx (i := 0); assumption; rfl)
  refine WL.call (H0 := []) (Hr := _) rfl Tryz.call236 (List.Perm.refl _) (op_fields σ o.kind) ?_
  rintro _ σ1 _ ⟨⟨hv, ov, rfl, hov⟩, rfl⟩ hle
  have h1 := h'.mono eOp_mono hle
  obtain ⟨oa, ocap, rfl, hocap, hoby⟩ := hov.shape
  refine WL.pur (Pur.move rfl) ?_
  refine WL.pur (Pur.extract rfl rfl) ?_
  refine WL.pur (Pur.extract rfl rfl) ?_
  refine WL.pur (Pur.assign rfl) ?_
  refine WL.pur (Pur.assign rfl) ?_
  refine WL.nil ?_
  refine WQ.thn ?_
  refine WC.seq ?_
  refine WC.block ?_
  refine WC.seq ?_
  refine WC.region ?_
  refine WL.pur (Pur.fieldAddr rfl fo_51_0) ?_
  refine' WL.pur (Pur.load1 rfl ty_3 ?h2_0) ?k2
  case h2_0 => first | (apply Rd.own1; exact zmE; rfl) | (apply RdV.rd; apply RdV.idx (i := 0); assumption; rfl)
  refine WL.callP rfl Tryz.call237 (op_known _ _) ?_
  refine WL.pur (Pur.not rfl) ?_
  refine WL.pur (Pur.assign rfl) ?_
  refine WL.nil ?_
  refine WQ.thn ?_
  first | refine WC.cond rfl (fun hc0 => ?_) (fun hc0 => ?_) | refine WC.condB rfl (fun hc0 => ?_) (fun hc0 => ?_)
  · refine WC.seq ?_
    refine WC.region ?_
    refine WL.pur (Pur.assign rfl) ?_
    refine WL.nil ?_
    refine WQ.thn ?_
    refine WC.ret ?_
    refine WQ.blk_ret ?_
    refine WQ.thn_ret ?_
    refine WQ.le hle ?_
    refine WQ.ret1 Tryz.results219 rfl [] zsL (View.le_refl _) ?_
    refine ⟨?_, rfl, rfl⟩
    exact intV (by unfold opErr; rw [if_pos (by omega)])
  · refine WC.seq ?_
    refine WC.region ?_
    refine WL.pur (Pur.fieldAddr rfl fo_51_1) ?_
    refine' WL.pur (Pur.load1 rfl ty_9 ?h3_0) ?k3
    case h3_0 => first | (apply Rd.own1; exact zmE; rfl) | (apply RdV.rd; apply RdV.idx (i := 1); assumption; rfl) | (apply RdV.rd; apply RdV.idx (off := 0) (i := 1); assumption; rfl)
    refine WL.pur (Pur.lenS rfl isString_9) ?_
    refine' WL.pur (Pur.bin rfl rfl ?h4_0) ?k4
    case h4_0 => first | exact Bin.gtN (b := 65536) | exact Bin.gtI
    refine WL.pur (Pur.move rfl) ?_
    refine' WL.orp (u := 25) (t := 30) rfl ?h5_0 ?h5_1 ?h5_2 rfl ?k5
    case h5_0 =>
      intro hg25 K25
      refine WL.gpur (u := 25) rfl rfl (gF hg25) (Pur.fieldAddr rfl fo_51_2) ?_
      refine' WL.gpur (u := 25) rfl rfl (gF hg25) (Pur.load1 rfl ty_9 ?h6_0) ?k6
      case h6_0 => first | (apply Rd.own1; exact zmE; rfl) | (apply RdV.rd; apply RdV.idx (i := 2); assumption; rfl) | (apply RdV.rd; apply RdV.idx (off := 0) (i := 2); assumption; rfl)
      refine WL.gpur (u := 25) rfl rfl (gF hg25) (Pur.lenS rfl isString_9) ?_
      refine' WL.gpur (u := 25) rfl rfl (gF hg25) (Pur.bin rfl rfl ?h7_0) ?k7
      case h7_0 => first | exact Bin.gtN (b := 65536) | exact Bin.gtI
      exact K25 _ zcR rfl
    case h5_1 =>
      intro hg25 K25
      refine WL.gskip (u := 25) rfl rfl (sF hg25) ?_
      refine WL.gskip (u := 25) rfl rfl (sF hg25) ?_
      refine WL.gskip (u := 25) rfl rfl (sF hg25) ?_
      refine WL.gskip (u := 25) rfl rfl (sF hg25) ?_
      exact K25 _ zcR
    case h5_2 => exact Wanted.plain rfl
    refine WL.pur (Pur.assign rfl) ?_
    refine WL.nil ?_
    refine WQ.thn ?_
    first | refine WC.cond rfl (fun hc1 => ?_) (fun hc1 => ?_) | refine WC.condB rfl (fun hc1 => ?_) (fun hc1 => ?_)
    · refine WC.seq ?_
      refine WC.region ?_
      refine WL.pur (Pur.assign rfl) ?_
      refine WL.nil ?_
      refine WQ.thn ?_
      refine WC.ret ?_
      refine WQ.blk_ret ?_
      refine WQ.thn_ret ?_
      refine WQ.le hle ?_
      refine WQ.ret1 Tryz.results219 rfl [] zsL (View.le_refl _) ?_
      refine ⟨?_, rfl, rfl⟩
      exact intV (by unfold opErr; rw [if_neg (by omega), if_pos (by omega)])
    · refine WC.skip ?_
      refine WQ.blk ?_
      refine WQ.thn ?_
      refine WC.seq ?_
      refine WC.seq ?_
      refine WC.region ?_
      refine WL.pur (Pur.move rfl) ?_
      refine WL.pur (Pur.len rfl isSlice_313) ?_
      refine WL.pur (Pur.move rfl) ?_
      refine WL.nil ?_
      refine WQ.thn ?_
      refine WC.block ?_
      refine WC.loop (fun j m σ' H' => ∃ i : Nat, j = (othersOf o.kind).length - i ∧ i ≤ (othersOf o.kind).length ∧ (∀ q ∈ (othersOf o.kind).take i, emptyAt o q) ∧ m = [(0, .slice a l.length cap), (3, .pointer (some ⟨b3, 0, none⟩)), (31, .slice oa (othersOf o.kind).length ocap), (32, .int .i64 ((othersOf o.kind).length : Int)), (33, .int .i64 (i : Int))] ∧ σ' = σ1 ∧ H' = (b3, rowO 51 o.cells) :: Hr) ⟨0, rfl, by omega, by simp, rfl, rfl, rfl⟩ zcV zsL ?_
      rintro _ _ σ _ ⟨i, rfl, hi, hall, rfl, rfl, rfl⟩
      refine WC.seq ?_
      refine WC.region ?_
      refine' WL.pur (Pur.bin rfl rfl ?h8_0) ?k8
      case h8_0 => first | exact Bin.ltN | exact Bin.ltI | exact Bin.ltS
      refine WL.nil ?_
      refine WQ.thn ?_
      refine WC.seq ?_
      first | refine WC.cond rfl (fun hc2 => ?_) (fun hc2 => ?_) | refine WC.condB rfl (fun hc2 => ?_) (fun hc2 => ?_)
      · obtain ⟨ob, oof, oc, e, hocap', hoby', hoat⟩ := hov.at (by omega)
        cases e
        obtain ⟨x, hx⟩ : ∃ x, (othersOf o.kind)[i]? = some x := ⟨_, List.getElem?_eq_getElem (by omega)⟩
        obtain ⟨vs, hl, hone, ⟨rfl, hx3⟩, hrd⟩ := hoat i x hx
        refine WC.skip ?_
        refine WQ.thn ?_
        refine WC.seq ?_
        refine WC.block ?_
        refine WC.seq ?_
        refine WC.region ?_
        refine' WL.pur (Pur.indexAddr rfl rfl sl_313 ?h9_0) ?k9
        case h9_0 => omega
        refine' WL.pur (Pur.loadN rfl ty_320 ?h10_0 ?h10_1) ?k10
        case h10_0 => first | (apply Rd.own_sub; exact zmE; exact Sub.refl _) | (apply RdV.rd; assumption)
        case h10_1 => first | rfl | assumption
        refine WL.new (New.alloc zc_320) (fun b8 => ?_)
        refine' WL.run0 (Run.storeAll rfl rfl ty_320 ?h11_0 (by first | rfl | assumption) ?h11_1 (by first | rfl | assumption)) ?k11
        case h11_0 => repeat (first | exact Part.one | exact Part.here | apply Part.cons | apply Part.app)
        case h11_1 => first | rfl | assumption
        refine WL.nil ?_
        refine WQ.thn ?_
        refine WC.seq ?_
        refine WC.region ?_
        refine WL.pur (Pur.fieldAddr rfl fo_320_0) ?_
        refine' WL.pur (Pur.load1 rfl ty_316 ?h12_0) ?k12
        case h12_0 => apply Rd.own1; exact zmE; exact fieldC_0 x
        refine' WL.pur (Pur.loadN rfl ty_51 ?h13_0 ?h13_1) ?k13
        case h13_0 => first | (apply Rd.own_sub; exact zmE; exact Sub.refl _) | (apply RdV.rd; assumption)
        case h13_1 => first | rfl | assumption
        refine WL.callVP (fs := []) (cs := []) rfl rfl (fieldF_call x) (fieldF_empty _ o ho' x hx3) ?_
        refine WL.pur (Pur.not rfl) ?_
        refine WL.nil ?_
        refine WQ.thn ?_
        first | refine WC.cond rfl (fun hc3 => ?_) (fun hc3 => ?_) | refine WC.condB rfl (fun hc3 => ?_) (fun hc3 => ?_)
        · refine WC.seq ?_
          refine WC.region ?_
          refine WL.pur (Pur.assign rfl) ?_
          refine WL.nil ?_
          refine WQ.thn ?_
          refine WC.ret ?_
          refine WQ.blk_ret ?_
          refine WQ.thn_ret ?_
          refine WQ.back_ret ?_
          refine WQ.blk_ret ?_
          refine WQ.thn_ret ?_
          refine WQ.le hle ?_
          refine WQ.ret1 Tryz.results219 rfl [] zsL (View.le_refl _) ?_
          refine ⟨?_, rfl, rfl⟩
          exact intV (by unfold opErr; rw [if_neg (by omega), if_neg (by omega), if_pos ((others_iff o (by omega)).1 ⟨x, List.mem_of_getElem? hx, hc3⟩)])
        · refine WC.skip ?_
          refine WQ.blk ?_
          refine WQ.thn ?_
          refine WC.region ?_
          refine' WL.pur (Pur.bin rfl rfl ?h14_0) ?k14
          case h14_0 => first | (refine Bin.addN (b := 1) ?_; omega) | (refine Bin.addI ?_; omega)
          refine WL.pur (Pur.move rfl) ?_
          refine WL.nil ?_
          refine WQ.back _ ⟨i + 1, rfl, by omega, by rw [List.take_add_one, hx]; intro q hq; rcases List.mem_append.1 hq with hq | hq; exact hall q hq; simp at hq; subst hq; exact Decidable.not_not.1 hc3, rfl, rfl, rfl⟩ (by omega) zcV zsL
      · refine WC.exit ?_
        refine WQ.thn_exit ?_
        refine WQ.back_exit ?_
        refine WQ.blk_here ?_
        refine WQ.thn ?_
        refine WC.seq ?_
        refine WC.seq ?_
        refine WC.region ?_
        refine WL.pur (Pur.fieldAddr rfl fo_51_0) ?_
        refine' WL.pur (Pur.load1 rfl ty_3 ?h15_0) ?k15
        case h15_0 => first | (apply Rd.own1; exact zmE; rfl) | (apply RdV.rd; apply RdV.idx (i := 0); assumption; rfl)
        refine WL.callP rfl Tryz.call169 (op_Cell _ _) ?_
        refine' WL.pur (Pur.bin rfl rfl ?h16_0) ?k16
        case h16_0 => first | exact Bin.eqN (b := 4) | exact Bin.eqI
        refine WL.pur (Pur.move rfl) ?_
        refine' WL.andp (u := 47) (t := 52) rfl ?h17_0 ?h17_1 ?h17_2 rfl ?k17
        case h17_0 =>
          intro hg47 K47
          refine WL.gpur (u := 47) rfl rfl (gT hg47) (Pur.move rfl) ?_
          refine' WL.gpur (u := 47) rfl rfl (gT hg47) (Pur.loadN rfl ty_51 ?h18_0 ?h18_1) ?k18
          case h18_0 => first | (apply Rd.own_sub; exact zmE; exact Sub.refl _) | (apply RdV.rd; assumption)
          case h18_1 => first | rfl | assumption
          refine WL.gcallP (u := 47) rfl rfl (gT hg47) rfl Tryz.call238 (op_right _ _ l o h1 ho') ?_
          refine WL.gpur (u := 47) rfl rfl (gT hg47) (Pur.not rfl) ?_
          exact K47 _ zcR rfl
        case h17_1 =>
          intro hg47 K47
          refine WL.gskip (u := 47) rfl rfl (sT hg47) ?_
          refine WL.gskip (u := 47) rfl rfl (sT hg47) ?_
          refine WL.gskip (u := 47) rfl rfl (sT hg47) ?_
          refine WL.gskip (u := 47) rfl rfl (sT hg47) ?_
          exact K47 _ zcR
        case h17_2 => exact Wanted.plain rfl
        refine WL.nil ?_
        refine WQ.thn ?_
        first | refine WC.cond rfl (fun hc4 => ?_) (fun hc4 => ?_) | refine WC.condB rfl (fun hc4 => ?_) (fun hc4 => ?_)
        · refine WC.seq ?_
          refine WC.region ?_
          refine WL.pur (Pur.assign rfl) ?_
          refine WL.nil ?_
          refine WQ.thn ?_
          refine WC.ret ?_
          refine WQ.thn_ret ?_
          refine WQ.le hle ?_
          refine WQ.ret1 Tryz.results219 rfl [] zsL (View.le_refl _) ?_
          refine ⟨?_, rfl, rfl⟩
          exact intV (by unfold opErr; rw [if_neg (by omega), if_neg (by omega), if_neg (fun h => by obtain ⟨q, hq, hq2⟩ := (others_iff o (by omega)).2 h; exact hq2 (hall q (by rw [List.take_of_length_le (by omega)]; exact hq))), if_pos ⟨cell4.1 hc4.1, hc4.2⟩])
        · refine WC.skip ?_
          refine WQ.thn ?_
          refine WC.seq ?_
          refine WC.region ?_
          refine WL.pur (Pur.assign rfl) ?_
          refine WL.nil ?_
          refine WQ.thn ?_
          refine WC.ret ?_
          refine WQ.le hle ?_
          refine WQ.ret1 Tryz.results219 rfl [] zsL (View.le_refl _) ?_
          refine ⟨?_, rfl, rfl⟩
          exact intV (by unfold opErr; rw [if_neg (by omega), if_neg (by omega), if_neg (fun h => by obtain ⟨q, hq, hq2⟩ := (others_iff o (by omega)).2 h; exact hq2 (hall q (by rw [List.take_of_length_le (by omega)]; exact hq))), if_neg (fun h => hc4 ⟨cell4.2 h.1, h.2⟩)])

theorem op_Check (σ : View) (lv : Value) (l : List OpD) (h : Ops σ lv l) :
    TriP Tryz.prog 180 #[lv] σ (.tuple #[.int .i64 (opsErr l).1, .int .i64 ((opsErr l).2 : Int)]) := by
  have h' := h
  obtain ⟨a, cap, rfl, hcap, hby⟩ := h.shape
  refine Tri.of_body [(0, .slice a l.length cap)] Tryz.func180 rfl Tryz.ntmps180 (by simp) rfl (fun Hr => ?_)
  rw [List.nil_append]
  refine WC.seq ?_
  refine WC.region ?_
  refine WL.pur (Pur.assign rfl) ?_
  refine WL.pur (Pur.assign rfl) ?_
  refine WL.nil ?_
  refine WQ.thn ?_
  refine WC.seq ?_
  refine WC.seq ?_
  refine WC.region ?_
  refine WL.pur (Pur.move rfl) ?_
  refine WL.pur (Pur.len rfl isSlice_40) ?_
  refine' WL.pur (Pur.bin rfl rfl ?h1_0) ?k1
  case h1_0 => first | exact Bin.gtN (b := 1024) | exact Bin.gtI
  refine WL.nil ?_
  refine WQ.thn ?_
  first | refine WC.cond rfl (fun hc0 => ?_) (fun hc0 => ?_) | refine WC.condB rfl (fun hc0 => ?_) (fun hc0 => ?_)
  · refine WC.seq ?_
    refine WC.region ?_
    refine WL.pur (Pur.assign rfl) ?_
    refine WL.pur (Pur.assign rfl) ?_
    refine WL.nil ?_
    refine WQ.thn ?_
    refine WC.ret ?_
    refine WQ.thn_ret ?_
    refine WQ.ret2 Tryz.results180 rfl rfl [] zsL (View.le_refl _) ?_
    refine ⟨?_, rfl, rfl⟩
    unfold opsErr; rw [if_pos (by omega)]; rfl
  · refine WC.skip ?_
    refine WQ.thn ?_
    refine WC.seq ?_
    refine WC.seq ?_
    refine WC.region ?_
    refine WL.pur (Pur.move rfl) ?_
    refine WL.pur (Pur.len rfl isSlice_40) ?_
    refine WL.pur (Pur.move rfl) ?_
    refine WL.nil ?_
    refine WQ.thn ?_
    refine WC.block ?_
    refine WC.loop (fun j m σ' H' => ∃ i : Nat, j = l.length - i ∧ i ≤ l.length ∧ opsErr l = opsErrFrom l i ∧ m = [(0, .slice a l.length cap), (10, .slice a l.length cap), (11, .int .i64 (l.length : Int)), (12, .int .i64 (i : Int))] ∧ σ' = σ ∧ H' = Hr) ⟨0, rfl, by omega, by unfold opsErr; rw [if_neg (by omega)], rfl, rfl, rfl⟩ zcV zsL ?_
    rintro _ _ σ _ ⟨i, rfl, hi, herr, rfl, rfl, rfl⟩
    refine WC.seq ?_
    refine WC.region ?_
    refine' WL.pur (Pur.bin rfl rfl ?h2_0) ?k2
    case h2_0 => first | exact Bin.ltN | exact Bin.ltI | exact Bin.ltS
    refine WL.nil ?_
    refine WQ.thn ?_
    refine WC.seq ?_
    first | refine WC.cond rfl (fun hc1 => ?_) (fun hc1 => ?_) | refine WC.condB rfl (fun hc1 => ?_) (fun hc1 => ?_)
    · obtain ⟨b, off, cap', e, hcap', hby', hat⟩ := h'.at (by omega)
      cases e
      obtain ⟨o, ho⟩ : ∃ o, l[i]? = some o := ⟨_, List.getElem?_eq_getElem hc1⟩
      obtain ⟨vs, hl, hone, ⟨rfl, hok⟩, hrd⟩ := hat _ o ho
      have ho' : l[i] = o := by have := List.getElem?_eq_getElem hc1; rw [ho] at this; exact (Option.some.inj this).symm
      have hstep : opsErrFrom l i = if opErr (l.take i) o ≠ 0 then (opErr (l.take i) o, i) else opsErrFrom l (i + 1) := by rw [opsErrFrom, dif_pos hc1, ho']
      refine WC.skip ?_
      refine WQ.thn ?_
      refine WC.seq ?_
      refine WC.block ?_
      refine WC.seq ?_
      refine WC.region ?_
      refine WL.pur (Pur.move rfl) ?_
      refine' WL.pur (Pur.indexAddr rfl rfl sl_40 ?h3_0) ?k3
      case h3_0 => omega
      refine' WL.pur (Pur.loadN rfl ty_51 ?h4_0 ?h4_1) ?k4
      case h4_0 => first | (apply Rd.own_sub; exact zmE; exact Sub.refl _) | (apply RdV.rd; assumption)
      case h4_1 => first | rfl | assumption
      refine WL.new (New.alloc zc_51) (fun b5 => ?_)
      refine WL.pur (Pur.assign rfl) ?_
      refine' WL.run0 (Run.storeAll rfl rfl ty_51 ?h5_0 (by first | rfl | assumption) ?h5_1 (by first | rfl | assumption)) ?k5
      case h5_0 => repeat (first | exact Part.one | exact Part.here | apply Part.cons | apply Part.app)
      case h5_1 => first | rfl | assumption
      refine WL.nil ?_
      refine WQ.thn ?_
      refine WC.seq ?_
      refine WC.drawH 6 6 mixed (by kernel_rfl) rfl ?_
      refine SA.take 0 (by kernel_rfl) rfl rfl rfl (Wanted.plain rfl) zsL (View.le_refl _) (Pur.move rfl) ?_
      refine SA.take 1 (by kernel_rfl) rfl rfl rfl (Wanted.plain rfl) zsL (View.le_refl _) (Pur.move rfl) ?_
      refine SA.take 2 (by kernel_rfl) rfl rfl rfl (Wanted.plain rfl) zsL (View.le_refl _) (Pur.sliceT rfl rfl sl_40 (by omega)) ?_
      refine' SA.take 3 (by kernel_rfl) rfl rfl rfl (Wanted.plain rfl) zsL (View.le_refl _) (Pur.loadN rfl ty_51 ?h6_0 ?h6_1) ?k6
      case h6_0 => first | (apply Rd.own_sub; exact zmE; exact Sub.refl _) | (apply RdV.rd; assumption)
      case h6_1 => first | rfl | assumption
      refine SA.callP 4 rfl rfl (Wanted.plain rfl) (by kernel_rfl) rfl Tryz.call219 zsL (View.le_refl _) (op_wrong _ _ (l.take i) o (h'.take i (by omega)) hok) ?_
      refine SA.take 5 (by kernel_rfl) rfl rfl rfl (Wanted.plain rfl) zsL (View.le_refl _) (Pur.assign rfl) ?_
      refine SA.done (by kernel_rfl) ?_
      refine WQ.thn ?_
      refine WC.seq ?_
      refine WC.region ?_
      refine WL.pur (Pur.move rfl) ?_
      refine' WL.pur (Pur.bin rfl rfl ?h7_0) ?k7
      case h7_0 => first | exact Bin.neN (b := 0) | exact Bin.neI
      refine WL.nil ?_
      refine WQ.thn ?_
      first | refine WC.cond rfl (fun hc2 => ?_) (fun hc2 => ?_) | refine WC.condB rfl (fun hc2 => ?_) (fun hc2 => ?_)
      · refine WC.seq ?_
        refine WC.region ?_
        refine WL.pur (Pur.move rfl) ?_
        refine WL.pur (Pur.move rfl) ?_
        refine WL.pur (Pur.assign rfl) ?_
        refine WL.pur (Pur.assign rfl) ?_
        refine WL.nil ?_
        refine WQ.thn ?_
        refine WC.ret ?_
        refine WQ.blk_ret ?_
        refine WQ.thn_ret ?_
        refine WQ.back_ret ?_
        refine WQ.blk_ret ?_
        refine WQ.thn_ret ?_
        refine WQ.ret2 Tryz.results180 rfl rfl [] zsL (View.le_refl _) ?_
        refine ⟨?_, rfl, rfl⟩
        rw [herr, hstep, if_pos hc2]
      · refine WC.skip ?_
        refine WQ.blk ?_
        refine WQ.thn ?_
        refine WC.region ?_
        refine' WL.pur (Pur.bin rfl rfl ?h8_0) ?k8
        case h8_0 => first | (refine Bin.addN (b := 1) ?_; omega) | (refine Bin.addI ?_; omega)
        refine WL.pur (Pur.move rfl) ?_
        refine WL.nil ?_
        refine WQ.back _ ⟨i + 1, rfl, by omega, by rw [herr, hstep, if_neg hc2], rfl, rfl, rfl⟩ (by omega) zcV zsL
    · refine WC.exit ?_
      refine WQ.thn_exit ?_
      refine WQ.back_exit ?_
      refine WQ.blk_here ?_
      refine WQ.thn ?_
      refine WC.seq ?_
      refine WC.region ?_
      refine WL.pur (Pur.assign rfl) ?_
      refine WL.pur (Pur.assign rfl) ?_
      refine WL.nil ?_
      refine WQ.thn ?_
      refine WC.ret ?_
      refine WQ.ret2 Tryz.results180 rfl rfl [] zsL (View.le_refl _) ?_
      refine ⟨?_, rfl, rfl⟩
      rw [herr, opsErrFrom, dif_neg (by omega)]; rfl

end Go.Proofs.YtgoooilgmabkmaaGreat
namespace Go.Proofs.YtgoooilgmabkmaaGreat
open Go Go.Sl
set_option linter.unusedVariables false
set_option linter.unusedSimpArgs false
set_option maxRecDepth 100000

theorem ext248 (args : Array Value) (w : World) : (callFunc 248 args).run Tryz.prog w = ((do pure (.value (← Extern.BytealgCompare.compare args))) : Sem Next).run Tryz.prog w := by kernel_rfl
theorem cmpH_ge {x y : Nat} : cmpH x y ≥ 0 ↔ ¬ x < y := by unfold cmpH; split; omega; split <;> omega
theorem cmpH_lt {x y : Nat} : cmpH x y < 0 ↔ x < y := by unfold cmpH; split; omega; split <;> omega
theorem cmpH_self {x : Nat} : cmpH x x = 0 := by unfold cmpH; simp
theorem rises_take0 (l : List Nat) : Rises (l.take 1) := by
  cases l with
  | nil => simp [Rises]
  | cons a l => simp [Rises]
theorem rises_step {l : List Nat} {i x y : Nat} (h : Rises (l.take i)) (h1 : 1 ≤ i) (hx : l[i - 1]? = some x) (hy : l[i]? = some y) (hxy : x < y) : Rises (l.take (i + 1)) := by
  unfold Rises at *
  rw [List.take_add_one, hy]
  refine List.pairwise_append.2 ⟨h, by simp, fun a ha b hb => ?_⟩
  simp at hb; subst hb
  obtain ⟨j, hj⟩ := List.getElem?_of_mem ha
  have hjl := (List.getElem?_eq_some_iff.1 hj).1
  have hlen : (l.take i).length = i := by
    have := (List.getElem?_eq_some_iff.1 hy).1
    simp; omega
  by_cases hji : j = i - 1
  · subst hji
    rw [List.getElem?_take_of_lt (by omega)] at hj
    rw [hx] at hj; cases hj; exact hxy
  · have hx' : (l.take i)[i - 1]? = some x := by rw [List.getElem?_take_of_lt (by omega)]; exact hx
    have := (List.pairwise_iff_getElem.1 h) j (i - 1) (by omega) (by omega) (by omega)
    rw [(List.getElem?_eq_some_iff.1 hj).2, (List.getElem?_eq_some_iff.1 hx').2] at this
    omega
theorem rises_not {l : List Nat} {i x y : Nat} (h1 : 1 ≤ i) (hx : l[i - 1]? = some x) (hy : l[i]? = some y) (hxy : ¬ x < y) : ¬ Rises l := by
  intro h
  obtain ⟨h2, e2⟩ := List.getElem?_eq_some_iff.1 hx
  obtain ⟨h3, e3⟩ := List.getElem?_eq_some_iff.1 hy
  have := (List.pairwise_iff_getElem.1 h) (i - 1) i h2 h3 (by omega)
  rw [e2, e3] at this; exact hxy this

theorem bytes_Compare (σ : View) (a b ba bb T : Nat) (ha : IsH a) (hb : IsH b) :
    Tri Tryz.prog 231 #[.slice (some ⟨ba, 0, none⟩) 32 32, .slice (some ⟨bb, 0, none⟩) 32 32] σ [(bb, rowO T (hashCells b)), (ba, rowO T (hashCells a))] (fun v σ' H' => v = .int .i64 (cmpH a b) ∧ σ' = σ ∧ H' = []) := by
  refine Tri.of_body [(0, .slice (some ⟨ba, 0, none⟩) 32 32), (1, .slice (some ⟨bb, 0, none⟩) 32 32)] Tryz.func231 rfl Tryz.ntmps231 (by simp) rfl (fun Hr => ?_)
  simp only [List.cons_append, List.nil_append]
  refine WC.seq ?_
  refine WC.region ?_
  refine WL.pur (Pur.assign rfl) ?_
  refine WL.nil ?_
  refine WQ.thn ?_
  refine WC.seq ?_
  refine WC.region ?_
  refine WL.pur (Pur.move rfl) ?_
  refine WL.pur (Pur.move rfl) ?_
  refine WL.pur (Pur.cmpHash rfl rfl ext248 ha hb (by apply Rd.own_sub; exact zmE; exact Sub.refl _) (by apply Rd.own_sub; exact zmE; exact Sub.refl _)) ?_
  refine WL.pur (Pur.assign rfl) ?_
  refine WL.nil ?_
  refine WQ.thn ?_
  refine WC.ret ?_
  refine WQ.ret1 Tryz.results231 rfl [] zsL (View.le_refl _) ?_
  refine ⟨?_, rfl, rfl⟩
  rfl

theorem sha_Compare (σ : View) (a b : Nat) (ha : IsH a) (hb : IsH b) :
    TriP Tryz.prog 200 #[hashV a, hashV b] σ (.int .i64 (cmpH a b)) := by
  refine Tri.of_body [(0, hashV a), (1, hashV b)] Tryz.func200 rfl Tryz.ntmps200 (by simp) rfl (fun Hr => ?_)
  rw [List.nil_append]
  refine WC.seq ?_
  refine WC.region ?_
  refine WL.new (New.boxN rfl) (fun b2 => ?_)
  refine WL.new (New.boxN rfl) (fun b3 => ?_)
  refine WL.pur (Pur.assign rfl) ?_
  refine WL.nil ?_
  refine WQ.thn ?_
  refine WC.seq ?_
  refine WC.seq ?_
  refine WC.region ?_
  refine' WL.pur (Pur.loadN rfl ty_39 ?h1_0 ?h1_1) ?k1
  case h1_0 => first | (apply Rd.own_sub; exact zmE; exact Sub.refl _) | (apply RdV.rd; assumption)
  case h1_1 => first | rfl | assumption
  refine' WL.pur (Pur.loadN rfl ty_39 ?h2_0 ?h2_1) ?k2
  case h2_0 => first | (apply Rd.own_sub; exact zmE; exact Sub.refl _) | (apply RdV.rd; assumption)
  case h2_1 => first | rfl | assumption
  refine' WL.pur (Pur.bin rfl rfl ?h3_0) ?k3
  case h3_0 => (refine Bin.eqH isHash_39 ?_ ?_ <;> assumption)
  refine WL.nil ?_
  refine WQ.thn ?_
  first | refine WC.cond rfl (fun hc0 => ?_) (fun hc0 => ?_) | refine WC.condB rfl (fun hc0 => ?_) (fun hc0 => ?_)
  · refine WC.seq ?_
    refine WC.region ?_
    refine WL.pur (Pur.assign rfl) ?_
    refine WL.nil ?_
    refine WQ.thn ?_
    refine WC.ret ?_
    refine WQ.thn_ret ?_
    refine WQ.ret1 Tryz.results200 rfl [] zsL (View.le_refl _) ?_
    refine ⟨?_, rfl, rfl⟩
    rw [hc0]; exact intV cmpH_self.symm
  · refine WC.skip ?_
    refine WQ.thn ?_
    refine WC.seq ?_
    refine WC.draw 4 4 (Hr) mixed (by kernel_rfl) rfl ?_
    refine SA.take 0 (by kernel_rfl) rfl rfl rfl (Wanted.plain rfl) zsL (View.le_refl _) (Pur.sliceArr rfl ar_39 (by decide)) ?_
    refine SA.take 1 (by kernel_rfl) rfl rfl rfl (Wanted.plain rfl) zsL (View.le_refl _) (Pur.sliceArr rfl ar_39 (by decide)) ?_
    refine SA.callR 2 (H1 := [(b3, rowO 39 (hashCells b)), (b2, rowO 39 (hashCells a))]) (Hr := Hr) rfl rfl (Wanted.plain rfl) (by kernel_rfl) rfl Tryz.call231 (List.Perm.refl _) (.inr ⟨List.Sublist.refl _, View.le_refl _⟩) (bytes_Compare σ a b b2 b3 39 ha hb) ?_
    rintro _ _ _ ⟨rfl, rfl, rfl⟩ _
    rw [List.nil_append]
    refine SA.take 3 (by kernel_rfl) rfl rfl rfl (Wanted.plain rfl) zsL (View.le_refl _) (Pur.assign rfl) ?_
    refine SA.done (by kernel_rfl) ?_
    refine WQ.thn ?_
    refine WC.ret ?_
    refine WQ.ret1 Tryz.results200 rfl [] zsL (View.le_refl _) ?_
    refine ⟨?_, rfl, rfl⟩
    rfl

theorem sha_Rising (σ : View) (lv : Value) (l : List Nat) (h : Hashes σ lv l) :
    TriP Tryz.prog 179 #[lv] σ (.bool (decide (Rises l))) := by
  have h' := h
  obtain ⟨a, cap, rfl, hcap, hby⟩ := h.shape
  refine Tri.of_body [(0, .slice a l.length cap)] Tryz.func179 rfl Tryz.ntmps179 (by simp) rfl (fun Hr => ?_)
  rw [List.nil_append]
  refine WC.seq ?_
  refine WC.region ?_
  refine WL.pur (Pur.assign rfl) ?_
  refine WL.nil ?_
  refine WQ.thn ?_
  refine WC.seq ?_
  refine WC.seq ?_
  refine WC.region ?_
  refine WL.pur (Pur.assign rfl) ?_
  refine WL.nil ?_
  refine WQ.thn ?_
  refine WC.block ?_
  refine WC.loop (fun j m σ' H' => ∃ i : Nat, j = l.length + 1 - i ∧ 1 ≤ i ∧ (i ≤ l.length ∨ i = 1) ∧ Rises (l.take i) ∧ m = [(0, .slice a l.length cap), (3, .int .i64 (i : Int))] ∧ σ' = σ ∧ H' = Hr) ⟨1, rfl, by omega, by omega, rises_take0 l, rfl, rfl, rfl⟩ zcV zsL ?_
  rintro _ _ σ _ ⟨i, rfl, hi1, hi, hr, rfl, rfl, rfl⟩
  refine WC.seq ?_
  refine WC.seq ?_
  refine WC.region ?_
  refine WL.pur (Pur.move rfl) ?_
  refine WL.pur (Pur.move rfl) ?_
  refine WL.pur (Pur.len rfl isSlice_41) ?_
  refine' WL.pur (Pur.bin rfl rfl ?h1_0) ?k1
  case h1_0 => first | exact Bin.ltN | exact Bin.ltI | exact Bin.ltS
  refine WL.nil ?_
  refine WQ.thn ?_
  first | refine WC.cond rfl (fun hc0 => ?_) (fun hc0 => ?_) | refine WC.condB rfl (fun hc0 => ?_) (fun hc0 => ?_)
  · obtain ⟨b, off, cap', e, hcap', hby', hat⟩ := h'.at (by omega)
    cases e
    obtain ⟨x, hx⟩ : ∃ x, l[i - 1]? = some x := ⟨_, List.getElem?_eq_getElem (by omega)⟩
    obtain ⟨y, hy⟩ : ∃ y, l[i]? = some y := ⟨_, List.getElem?_eq_getElem (by omega)⟩
    obtain ⟨vx, hvl, hvo, ⟨rfl, hxH⟩, hrx⟩ := hat _ x hx
    obtain ⟨vy, hvl', hvo', ⟨rfl, hyH⟩, hry⟩ := hat _ y hy
    have hcmp : cmpH x y ≥ 0 ↔ ¬ x < y := cmpH_ge
    refine WC.skip ?_
    refine WQ.thn ?_
    refine WC.seq ?_
    refine WC.block ?_
    refine WC.seq ?_
    refine WC.drawH 11 11 mixed (by kernel_rfl) rfl ?_
    refine SA.take 0 (by kernel_rfl) rfl rfl rfl (Wanted.plain rfl) zsL (View.le_refl _) (Pur.move rfl) ?_
    refine SA.take 1 (by kernel_rfl) rfl rfl rfl (Wanted.plain rfl) zsL (View.le_refl _) (Pur.move rfl) ?_
    refine' SA.take 2 (by kernel_rfl) rfl rfl rfl (Wanted.plain rfl) zsL (View.le_refl _) (Pur.bin rfl rfl ?h2_0) ?k2
    case h2_0 => exact Bin.subK (c := i - 1) (by omega) (by omega)
    refine' SA.take 3 (by kernel_rfl) rfl rfl rfl (Wanted.plain rfl) zsL (View.le_refl _) (Pur.indexAddr rfl rfl sl_41 ?h3_0) ?k3
    case h3_0 => omega
    refine' SA.take 4 (by kernel_rfl) rfl rfl rfl (Wanted.plain rfl) zsL (View.le_refl _) (Pur.loadN rfl ty_39 ?h4_0 ?h4_1) ?k4
    case h4_0 => first | (apply Rd.own_sub; exact zmE; exact Sub.refl _) | (apply RdV.rd; assumption)
    case h4_1 => first | rfl | assumption
    refine SA.take 5 (by kernel_rfl) rfl rfl rfl (Wanted.plain rfl) zsL (View.le_refl _) (Pur.move rfl) ?_
    refine SA.take 6 (by kernel_rfl) rfl rfl rfl (Wanted.plain rfl) zsL (View.le_refl _) (Pur.move rfl) ?_
    refine' SA.take 7 (by kernel_rfl) rfl rfl rfl (Wanted.plain rfl) zsL (View.le_refl _) (Pur.indexAddr rfl rfl sl_41 ?h5_0) ?k5
    case h5_0 => omega
    refine' SA.take 8 (by kernel_rfl) rfl rfl rfl (Wanted.plain rfl) zsL (View.le_refl _) (Pur.loadN rfl ty_39 ?h6_0 ?h6_1) ?k6
    case h6_0 => first | (apply Rd.own_sub; exact zmE; exact Sub.refl _) | (apply RdV.rd; assumption)
    case h6_1 => first | rfl | assumption
    refine SA.callP 9 rfl rfl (Wanted.plain rfl) (by kernel_rfl) rfl Tryz.call200 zsL (View.le_refl _) (sha_Compare _ _ _ hxH hyH) ?_
    refine' SA.take 10 (by kernel_rfl) rfl rfl rfl (Wanted.plain rfl) zsL (View.le_refl _) (Pur.bin rfl rfl ?h7_0) ?k7
    case h7_0 => first | exact Bin.geN (b := 0) | exact Bin.geI
    refine SA.done (by kernel_rfl) ?_
    refine WQ.thn ?_
    first | refine WC.cond rfl (fun hc1 => ?_) (fun hc1 => ?_) | refine WC.condB rfl (fun hc1 => ?_) (fun hc1 => ?_)
    · refine WC.seq ?_
      refine WC.region ?_
      refine WL.pur (Pur.assign rfl) ?_
      refine WL.nil ?_
      refine WQ.thn ?_
      refine WC.ret ?_
      refine WQ.blk_ret ?_
      refine WQ.thn_ret ?_
      refine WQ.back_ret ?_
      refine WQ.blk_ret ?_
      refine WQ.thn_ret ?_
      refine WQ.ret1 Tryz.results179 rfl [] zsL (View.le_refl _) ?_
      refine ⟨?_, rfl, rfl⟩
      exact boolF (rises_not hi1 hx hy (by omega))
    · refine WC.skip ?_
      refine WQ.blk ?_
      refine WQ.thn ?_
      refine WC.region ?_
      refine WL.pur (Pur.move rfl) ?_
      refine' WL.pur (Pur.bin rfl rfl ?h8_0) ?k8
      case h8_0 => first | (refine Bin.addN (b := 1) ?_; omega) | (refine Bin.addI ?_; omega)
      refine WL.pur (Pur.assign rfl) ?_
      refine WL.nil ?_
      refine WQ.back _ ⟨i + 1, rfl, by omega, by omega, rises_step hr hi1 hx hy (by omega), rfl, rfl, rfl⟩ (by omega) zcV zsL
  · refine WC.exit ?_
    refine WQ.thn_exit ?_
    refine WQ.back_exit ?_
    refine WQ.blk_here ?_
    refine WQ.thn ?_
    refine WC.seq ?_
    refine WC.region ?_
    refine WL.pur (Pur.assign rfl) ?_
    refine WL.nil ?_
    refine WQ.thn ?_
    refine WC.ret ?_
    refine WQ.ret1 Tryz.results179 rfl [] zsL (View.le_refl _) ?_
    refine ⟨?_, rfl, rfl⟩
    exact boolT (by rw [List.take_of_length_le (by omega)] at hr; exact hr)

end Go.Proofs.YtgoooilgmabkmaaGreat
namespace Go.Proofs.YtgoooilgmabkmaaGreat
open Go Go.Sl
set_option linter.unusedVariables false
set_option linter.unusedSimpArgs false
set_option maxRecDepth 100000

theorem nil_len {α : Type} {l : List α} : l = [] ↔ l.length = 0 := by cases l <;> simp
theorem dec_ne {p q : Prop} {_ip : Decidable p} {_iq : Decidable q} : decide p ≠ decide q ↔ ¬ (p ↔ q) := by
  by_cases hp : p <;> by_cases hq : q <;> simp [hp, hq]
/-- what the second question of a node's check says -/
theorem node51 {x : NodeD} : ((x.cl < 1 ∨ x.cl > 4096) ∨ decide (x.cl = 1) ≠ decide (x.ps.length = 0)) ↔ (x.cl < 1 ∨ 4096 < x.cl ∨ ¬ (x.cl = 1 ↔ x.ps = [])) := by
  rw [dec_ne, nil_len]; omega

theorem node_Check (σ : View) (x : NodeD) (pv ov : Value) (h : NodeR σ x pv ov) :
    TriP Tryz.prog 149 #[.agg (nodeCells x.au x.cl pv ov).toArray] σ (.int .i64 (nodeErr x)) := by
  obtain ⟨hps, hops, hau, hcl⟩ := h
  have hps' := hps
  obtain ⟨pa, pc, rfl, hpc, hpb⟩ := hps.shape
  refine Tri.of_body [(0, .agg (nodeCells x.au x.cl (.slice pa x.ps.length pc) ov).toArray)] Tryz.func149 rfl Tryz.ntmps149 (by simp) rfl (fun Hr => ?_)
  rw [List.nil_append]
  refine WC.seq ?_
  refine WC.region ?_
  refine WL.new (New.boxN rfl) (fun b1 => ?_)
  refine WL.pur (Pur.assign rfl) ?_
  refine WL.nil ?_
  refine WQ.thn ?_
  refine WC.seq ?_
  refine WC.block ?_
  refine WC.seq ?_
  refine WC.region ?_
  refine WL.pur (Pur.fieldAddr rfl fo_43_0) ?_
  refine' WL.pur (Pur.load1 rfl ty_3 ?h1_0) ?k1
  case h1_0 => first | (apply Rd.own1; exact zmE; rfl) | (apply RdV.rd; apply RdV.idx (i := 0); assumption; rfl)
  refine' WL.pur (Pur.bin rfl rfl ?h2_0) ?k2
  case h2_0 => first | exact Bin.ltN (b := 1) | exact Bin.ltI | exact Bin.ltS
  refine WL.pur (Pur.move rfl) ?_
  refine' WL.orp (u := 9) (t := 13) rfl ?h3_0 ?h3_1 ?h3_2 rfl ?k3
  case h3_0 =>
    intro hg9 K9
    refine WL.gpur (u := 9) rfl rfl (gF hg9) (Pur.fieldAddr rfl fo_43_0) ?_
    refine' WL.gpur (u := 9) rfl rfl (gF hg9) (Pur.load1 rfl ty_3 ?h4_0) ?k4
    case h4_0 => first | (apply Rd.own1; exact zmE; rfl) | (apply RdV.rd; apply RdV.idx (i := 0); assumption; rfl)
    refine' WL.gpur (u := 9) rfl rfl (gF hg9) (Pur.bin rfl rfl ?h5_0) ?k5
    case h5_0 => first | exact Bin.gtN (b := 8) | exact Bin.gtI
    exact K9 _ zcR rfl
  case h3_1 =>
    intro hg9 K9
    refine WL.gskip (u := 9) rfl rfl (sF hg9) ?_
    refine WL.gskip (u := 9) rfl rfl (sF hg9) ?_
    refine WL.gskip (u := 9) rfl rfl (sF hg9) ?_
    exact K9 _ zcR
  case h3_2 => exact Wanted.plain rfl
  refine WL.pur (Pur.assign rfl) ?_
  refine WL.nil ?_
  refine WQ.thn ?_
  first | refine WC.cond rfl (fun hc0 => ?_) (fun hc0 => ?_) | refine WC.condB rfl (fun hc0 => ?_) (fun hc0 => ?_)
  · refine WC.seq ?_
    refine WC.region ?_
    refine WL.pur (Pur.assign rfl) ?_
    refine WL.nil ?_
    refine WQ.thn ?_
    refine WC.ret ?_
    refine WQ.blk_ret ?_
    refine WQ.thn_ret ?_
    refine WQ.ret1 Tryz.results149 rfl [] zsL (View.le_refl _) ?_
    refine ⟨?_, rfl, rfl⟩
    exact intV (by unfold nodeErr; rw [if_pos (by omega)])
  · refine WC.seq ?_
    refine WC.region ?_
    refine WL.pur (Pur.fieldAddr rfl fo_43_1) ?_
    refine' WL.pur (Pur.load1 rfl ty_3 ?h6_0) ?k6
    case h6_0 => first | (apply Rd.own1; exact zmE; rfl) | (apply RdV.rd; apply RdV.idx (i := 1); assumption; rfl) | (apply RdV.rd; apply RdV.idx (off := 0) (i := 1); assumption; rfl)
    refine' WL.pur (Pur.bin rfl rfl ?h7_0) ?k7
    case h7_0 => first | exact Bin.ltN (b := 1) | exact Bin.ltI | exact Bin.ltS
    refine WL.pur (Pur.move rfl) ?_
    refine' WL.orp (u := 18) (t := 22) rfl ?h8_0 ?h8_1 ?h8_2 rfl ?k8
    case h8_0 =>
      intro hg18 K18
      refine WL.gpur (u := 18) rfl rfl (gF hg18) (Pur.fieldAddr rfl fo_43_1) ?_
      refine' WL.gpur (u := 18) rfl rfl (gF hg18) (Pur.load1 rfl ty_3 ?h9_0) ?k9
      case h9_0 => first | (apply Rd.own1; exact zmE; rfl) | (apply RdV.rd; apply RdV.idx (i := 1); assumption; rfl) | (apply RdV.rd; apply RdV.idx (off := 0) (i := 1); assumption; rfl)
      refine' WL.gpur (u := 18) rfl rfl (gF hg18) (Pur.bin rfl rfl ?h10_0) ?k10
      case h10_0 => first | exact Bin.gtN (b := 4096) | exact Bin.gtI
      exact K18 _ zcR rfl
    case h8_1 =>
      intro hg18 K18
      refine WL.gskip (u := 18) rfl rfl (sF hg18) ?_
      refine WL.gskip (u := 18) rfl rfl (sF hg18) ?_
      refine WL.gskip (u := 18) rfl rfl (sF hg18) ?_
      exact K18 _ zcR
    case h8_2 => exact Wanted.plain rfl
    refine WL.pur (Pur.move rfl) ?_
    refine' WL.orp (u := 23) (t := 32) rfl ?h11_0 ?h11_1 ?h11_2 rfl ?k11
    case h11_0 =>
      intro hg23 K23
      refine WL.gpur (u := 23) rfl rfl (gF hg23) (Pur.fieldAddr rfl fo_43_1) ?_
      refine' WL.gpur (u := 23) rfl rfl (gF hg23) (Pur.load1 rfl ty_3 ?h12_0) ?k12
      case h12_0 => first | (apply Rd.own1; exact zmE; rfl) | (apply RdV.rd; apply RdV.idx (i := 1); assumption; rfl) | (apply RdV.rd; apply RdV.idx (off := 0) (i := 1); assumption; rfl)
      refine' WL.gpur (u := 23) rfl rfl (gF hg23) (Pur.bin rfl rfl ?h13_0) ?k13
      case h13_0 => first | exact Bin.eqN (b := 1) | exact Bin.eqI
      refine WL.gpur (u := 23) rfl rfl (gF hg23) (Pur.fieldAddr rfl fo_43_2) ?_
      refine' WL.gpur (u := 23) rfl rfl (gF hg23) (Pur.load1 rfl ty_41 ?h14_0) ?k14
      case h14_0 => first | (apply Rd.own1; exact zmE; rfl) | (apply RdV.rd; apply RdV.idx (i := 2); assumption; rfl) | (apply RdV.rd; apply RdV.idx (off := 0) (i := 2); assumption; rfl)
      refine WL.gpur (u := 23) rfl rfl (gF hg23) (Pur.len rfl isSlice_41) ?_
      refine' WL.gpur (u := 23) rfl rfl (gF hg23) (Pur.bin rfl rfl ?h15_0) ?k15
      case h15_0 => first | exact Bin.eqN (b := 0) | exact Bin.eqI
      refine' WL.gpur (u := 23) rfl rfl (gF hg23) (Pur.bin rfl rfl ?h16_0) ?k16
      case h16_0 => exact Bin.neB isBool_4
      exact K23 _ zcR rfl
    case h11_1 =>
      intro hg23 K23
      refine WL.gskip (u := 23) rfl rfl (sF hg23) ?_
      refine WL.gskip (u := 23) rfl rfl (sF hg23) ?_
      refine WL.gskip (u := 23) rfl rfl (sF hg23) ?_
      refine WL.gskip (u := 23) rfl rfl (sF hg23) ?_
      refine WL.gskip (u := 23) rfl rfl (sF hg23) ?_
      refine WL.gskip (u := 23) rfl rfl (sF hg23) ?_
      refine WL.gskip (u := 23) rfl rfl (sF hg23) ?_
      refine WL.gskip (u := 23) rfl rfl (sF hg23) ?_
      exact K23 _ zcR
    case h11_2 => exact Wanted.plain rfl
    refine WL.pur (Pur.assign rfl) ?_
    refine WL.nil ?_
    refine WQ.thn ?_
    first | refine WC.cond rfl (fun hc1 => ?_) (fun hc1 => ?_) | refine WC.condB rfl (fun hc1 => ?_) (fun hc1 => ?_)
    · refine WC.seq ?_
      refine WC.region ?_
      refine WL.pur (Pur.assign rfl) ?_
      refine WL.nil ?_
      refine WQ.thn ?_
      refine WC.ret ?_
      refine WQ.blk_ret ?_
      refine WQ.thn_ret ?_
      refine WQ.ret1 Tryz.results149 rfl [] zsL (View.le_refl _) ?_
      refine ⟨?_, rfl, rfl⟩
      exact intV (by unfold nodeErr; rw [if_neg (by omega), if_pos (node51.1 hc1)])
    · refine WC.seq ?_
      refine WC.region ?_
      refine WL.pur (Pur.fieldAddr rfl fo_43_2) ?_
      refine' WL.pur (Pur.load1 rfl ty_41 ?h17_0) ?k17
      case h17_0 => first | (apply Rd.own1; exact zmE; rfl) | (apply RdV.rd; apply RdV.idx (i := 2); assumption; rfl) | (apply RdV.rd; apply RdV.idx (off := 0) (i := 2); assumption; rfl)
      refine WL.pur (Pur.len rfl isSlice_41) ?_
      refine' WL.pur (Pur.bin rfl rfl ?h18_0) ?k18
      case h18_0 => first | exact Bin.gtN (b := 64) | exact Bin.gtI
      refine WL.pur (Pur.move rfl) ?_
      refine' WL.orp (u := 38) (t := 43) rfl ?h19_0 ?h19_1 ?h19_2 rfl ?k19
      case h19_0 =>
        intro hg38 K38
        refine WL.gpur (u := 38) rfl rfl (gF hg38) (Pur.fieldAddr rfl fo_43_2) ?_
        refine' WL.gpur (u := 38) rfl rfl (gF hg38) (Pur.load1 rfl ty_41 ?h20_0) ?k20
        case h20_0 => first | (apply Rd.own1; exact zmE; rfl) | (apply RdV.rd; apply RdV.idx (i := 2); assumption; rfl) | (apply RdV.rd; apply RdV.idx (off := 0) (i := 2); assumption; rfl)
        refine WL.gcallP (u := 38) rfl rfl (gF hg38) rfl Tryz.call179 (sha_Rising _ _ x.ps hps') ?_
        refine WL.gpur (u := 38) rfl rfl (gF hg38) (Pur.not rfl) ?_
        exact K38 _ zcR rfl
      case h19_1 =>
        intro hg38 K38
        refine WL.gskip (u := 38) rfl rfl (sF hg38) ?_
        refine WL.gskip (u := 38) rfl rfl (sF hg38) ?_
        refine WL.gskip (u := 38) rfl rfl (sF hg38) ?_
        refine WL.gskip (u := 38) rfl rfl (sF hg38) ?_
        exact K38 _ zcR
      case h19_2 => exact Wanted.plain rfl
      refine WL.pur (Pur.assign rfl) ?_
      refine WL.nil ?_
      refine WQ.thn ?_
      first | refine WC.cond rfl (fun hc2 => ?_) (fun hc2 => ?_) | refine WC.condB rfl (fun hc2 => ?_) (fun hc2 => ?_)
      · refine WC.seq ?_
        refine WC.region ?_
        refine WL.pur (Pur.assign rfl) ?_
        refine WL.nil ?_
        refine WQ.thn ?_
        refine WC.ret ?_
        refine WQ.blk_ret ?_
        refine WQ.thn_ret ?_
        refine WQ.ret1 Tryz.results149 rfl [] zsL (View.le_refl _) ?_
        refine ⟨?_, rfl, rfl⟩
        exact intV (by unfold nodeErr; rw [if_neg (by omega), if_neg (fun h => hc1 (node51.2 h)), if_pos (by exact hc2)])
      · refine WC.skip ?_
        refine WQ.blk ?_
        refine WQ.thn ?_
        refine WC.seq ?_
        refine WC.region ?_
        refine WL.pur (Pur.fieldAddr rfl fo_43_3) ?_
        refine' WL.pur (Pur.load1 rfl ty_40 ?h21_0) ?k21
        case h21_0 => first | (apply Rd.own1; exact zmE; rfl) | (apply RdV.rd; apply RdV.idx (i := 3); assumption; rfl) | (apply RdV.rd; apply RdV.idx (off := 0) (i := 3); assumption; rfl)
        refine WL.callP rfl Tryz.call180 (op_Check _ _ x.ops hops) ?_
        refine WL.pur (Pur.move rfl) ?_
        refine WL.pur (Pur.extract rfl rfl) ?_
        refine WL.pur (Pur.extract rfl rfl) ?_
        refine WL.pur (Pur.assign rfl) ?_
        refine WL.pur (Pur.assign rfl) ?_
        refine WL.nil ?_
        refine WQ.thn ?_
        refine WC.seq ?_
        refine WC.region ?_
        refine WL.pur (Pur.move rfl) ?_
        refine WL.pur (Pur.assign rfl) ?_
        refine WL.nil ?_
        refine WQ.thn ?_
        refine WC.ret ?_
        refine WQ.ret1 Tryz.results149 rfl [] zsL (View.le_refl _) ?_
        refine ⟨?_, rfl, rfl⟩
        exact intV (by unfold nodeErr; rw [if_neg (by omega), if_neg (fun h => hc1 (node51.2 h)), if_neg (by exact hc2)])

theorem r5_Check (σ : View) (x : NodeD) (pv ov : Value) (h : NodeR σ x pv ov) :
    TriP Tryz.prog 108 #[.agg (nodeCells x.au x.cl pv ov).toArray] σ (.int .i64 (nodeErr x)) := by
  obtain ⟨hps, hops, hau, hcl⟩ := h
  have hps' := hps
  obtain ⟨pa, pc, rfl, hpc, hpb⟩ := hps.shape
  refine Tri.of_body [(0, .agg (nodeCells x.au x.cl (.slice pa x.ps.length pc) ov).toArray)] Tryz.func108 rfl Tryz.ntmps108 (by simp) rfl (fun Hr => ?_)
  rw [List.nil_append]
  refine WC.seq ?_
  refine WC.region ?_
  refine WL.new (New.boxN rfl) (fun b1 => ?_)
  refine WL.pur (Pur.assign rfl) ?_
  refine WL.nil ?_
  refine WQ.thn ?_
  refine WC.seq ?_
  refine WC.seq ?_
  refine WC.region ?_
  refine WL.pur (Pur.fieldAddr rfl fo_43_0) ?_
  refine' WL.pur (Pur.load1 rfl ty_3 ?h1_0) ?k1
  case h1_0 => first | (apply Rd.own1; exact zmE; rfl) | (apply RdV.rd; apply RdV.idx (i := 0); assumption; rfl)
  refine' WL.pur (Pur.bin rfl rfl ?h2_0) ?k2
  case h2_0 => first | exact Bin.ltN (b := 1) | exact Bin.ltI | exact Bin.ltS
  refine WL.pur (Pur.move rfl) ?_
  refine' WL.orp (u := 9) (t := 13) rfl ?h3_0 ?h3_1 ?h3_2 rfl ?k3
  case h3_0 =>
    intro hg9 K9
    refine WL.gpur (u := 9) rfl rfl (gF hg9) (Pur.fieldAddr rfl fo_43_0) ?_
    refine' WL.gpur (u := 9) rfl rfl (gF hg9) (Pur.load1 rfl ty_3 ?h4_0) ?k4
    case h4_0 => first | (apply Rd.own1; exact zmE; rfl) | (apply RdV.rd; apply RdV.idx (i := 0); assumption; rfl)
    refine' WL.gpur (u := 9) rfl rfl (gF hg9) (Pur.bin rfl rfl ?h5_0) ?k5
    case h5_0 => first | exact Bin.gtN (b := 8) | exact Bin.gtI
    exact K9 _ zcR rfl
  case h3_1 =>
    intro hg9 K9
    refine WL.gskip (u := 9) rfl rfl (sF hg9) ?_
    refine WL.gskip (u := 9) rfl rfl (sF hg9) ?_
    refine WL.gskip (u := 9) rfl rfl (sF hg9) ?_
    exact K9 _ zcR
  case h3_2 => exact Wanted.plain rfl
  refine WL.nil ?_
  refine WQ.thn ?_
  first | refine WC.cond rfl (fun hc0 => ?_) (fun hc0 => ?_) | refine WC.condB rfl (fun hc0 => ?_) (fun hc0 => ?_)
  · refine WC.seq ?_
    refine WC.region ?_
    refine WL.pur (Pur.assign rfl) ?_
    refine WL.nil ?_
    refine WQ.thn ?_
    refine WC.ret ?_
    refine WQ.thn_ret ?_
    refine WQ.ret1 Tryz.results108 rfl [] zsL (View.le_refl _) ?_
    refine ⟨?_, rfl, rfl⟩
    exact intV (by unfold nodeErr; rw [if_pos (by omega)])
  · refine WC.skip ?_
    refine WQ.thn ?_
    refine WC.seq ?_
    refine WC.seq ?_
    refine WC.region ?_
    refine WL.pur (Pur.fieldAddr rfl fo_43_1) ?_
    refine' WL.pur (Pur.load1 rfl ty_3 ?h6_0) ?k6
    case h6_0 => first | (apply Rd.own1; exact zmE; rfl) | (apply RdV.rd; apply RdV.idx (i := 1); assumption; rfl) | (apply RdV.rd; apply RdV.idx (off := 0) (i := 1); assumption; rfl)
    refine' WL.pur (Pur.bin rfl rfl ?h7_0) ?k7
    case h7_0 => first | exact Bin.ltN (b := 1) | exact Bin.ltI | exact Bin.ltS
    refine WL.pur (Pur.move rfl) ?_
    refine' WL.orp (u := 17) (t := 21) rfl ?h8_0 ?h8_1 ?h8_2 rfl ?k8
    case h8_0 =>
      intro hg17 K17
      refine WL.gpur (u := 17) rfl rfl (gF hg17) (Pur.fieldAddr rfl fo_43_1) ?_
      refine' WL.gpur (u := 17) rfl rfl (gF hg17) (Pur.load1 rfl ty_3 ?h9_0) ?k9
      case h9_0 => first | (apply Rd.own1; exact zmE; rfl) | (apply RdV.rd; apply RdV.idx (i := 1); assumption; rfl) | (apply RdV.rd; apply RdV.idx (off := 0) (i := 1); assumption; rfl)
      refine' WL.gpur (u := 17) rfl rfl (gF hg17) (Pur.bin rfl rfl ?h10_0) ?k10
      case h10_0 => first | exact Bin.gtN (b := 4096) | exact Bin.gtI
      exact K17 _ zcR rfl
    case h8_1 =>
      intro hg17 K17
      refine WL.gskip (u := 17) rfl rfl (sF hg17) ?_
      refine WL.gskip (u := 17) rfl rfl (sF hg17) ?_
      refine WL.gskip (u := 17) rfl rfl (sF hg17) ?_
      exact K17 _ zcR
    case h8_2 => exact Wanted.plain rfl
    refine WL.pur (Pur.move rfl) ?_
    refine' WL.orp (u := 22) (t := 31) rfl ?h11_0 ?h11_1 ?h11_2 rfl ?k11
    case h11_0 =>
      intro hg22 K22
      refine WL.gpur (u := 22) rfl rfl (gF hg22) (Pur.fieldAddr rfl fo_43_1) ?_
      refine' WL.gpur (u := 22) rfl rfl (gF hg22) (Pur.load1 rfl ty_3 ?h12_0) ?k12
      case h12_0 => first | (apply Rd.own1; exact zmE; rfl) | (apply RdV.rd; apply RdV.idx (i := 1); assumption; rfl) | (apply RdV.rd; apply RdV.idx (off := 0) (i := 1); assumption; rfl)
      refine' WL.gpur (u := 22) rfl rfl (gF hg22) (Pur.bin rfl rfl ?h13_0) ?k13
      case h13_0 => first | exact Bin.eqN (b := 1) | exact Bin.eqI
      refine WL.gpur (u := 22) rfl rfl (gF hg22) (Pur.fieldAddr rfl fo_43_2) ?_
      refine' WL.gpur (u := 22) rfl rfl (gF hg22) (Pur.load1 rfl ty_41 ?h14_0) ?k14
      case h14_0 => first | (apply Rd.own1; exact zmE; rfl) | (apply RdV.rd; apply RdV.idx (i := 2); assumption; rfl) | (apply RdV.rd; apply RdV.idx (off := 0) (i := 2); assumption; rfl)
      refine WL.gpur (u := 22) rfl rfl (gF hg22) (Pur.len rfl isSlice_41) ?_
      refine' WL.gpur (u := 22) rfl rfl (gF hg22) (Pur.bin rfl rfl ?h15_0) ?k15
      case h15_0 => first | exact Bin.eqN (b := 0) | exact Bin.eqI
      refine' WL.gpur (u := 22) rfl rfl (gF hg22) (Pur.bin rfl rfl ?h16_0) ?k16
      case h16_0 => exact Bin.neB isBool_4
      exact K22 _ zcR rfl
    case h11_1 =>
      intro hg22 K22
      refine WL.gskip (u := 22) rfl rfl (sF hg22) ?_
      refine WL.gskip (u := 22) rfl rfl (sF hg22) ?_
      refine WL.gskip (u := 22) rfl rfl (sF hg22) ?_
      refine WL.gskip (u := 22) rfl rfl (sF hg22) ?_
      refine WL.gskip (u := 22) rfl rfl (sF hg22) ?_
      refine WL.gskip (u := 22) rfl rfl (sF hg22) ?_
      refine WL.gskip (u := 22) rfl rfl (sF hg22) ?_
      refine WL.gskip (u := 22) rfl rfl (sF hg22) ?_
      exact K22 _ zcR
    case h11_2 => exact Wanted.plain rfl
    refine WL.nil ?_
    refine WQ.thn ?_
    first | refine WC.cond rfl (fun hc1 => ?_) (fun hc1 => ?_) | refine WC.condB rfl (fun hc1 => ?_) (fun hc1 => ?_)
    · refine WC.seq ?_
      refine WC.region ?_
      refine WL.pur (Pur.assign rfl) ?_
      refine WL.nil ?_
      refine WQ.thn ?_
      refine WC.ret ?_
      refine WQ.thn_ret ?_
      refine WQ.ret1 Tryz.results108 rfl [] zsL (View.le_refl _) ?_
      refine ⟨?_, rfl, rfl⟩
      exact intV (by unfold nodeErr; rw [if_neg (by omega), if_pos (node51.1 hc1)])
    · refine WC.skip ?_
      refine WQ.thn ?_
      refine WC.seq ?_
      refine WC.seq ?_
      refine WC.region ?_
      refine WL.pur (Pur.fieldAddr rfl fo_43_2) ?_
      refine' WL.pur (Pur.load1 rfl ty_41 ?h17_0) ?k17
      case h17_0 => first | (apply Rd.own1; exact zmE; rfl) | (apply RdV.rd; apply RdV.idx (i := 2); assumption; rfl) | (apply RdV.rd; apply RdV.idx (off := 0) (i := 2); assumption; rfl)
      refine WL.pur (Pur.len rfl isSlice_41) ?_
      refine' WL.pur (Pur.bin rfl rfl ?h18_0) ?k18
      case h18_0 => first | exact Bin.gtN (b := 64) | exact Bin.gtI
      refine WL.nil ?_
      refine WQ.thn ?_
      first | refine WC.cond rfl (fun hc2 => ?_) (fun hc2 => ?_) | refine WC.condB rfl (fun hc2 => ?_) (fun hc2 => ?_)
      · refine WC.seq ?_
        refine WC.region ?_
        refine WL.pur (Pur.assign rfl) ?_
        refine WL.nil ?_
        refine WQ.thn ?_
        refine WC.ret ?_
        refine WQ.thn_ret ?_
        refine WQ.ret1 Tryz.results108 rfl [] zsL (View.le_refl _) ?_
        refine ⟨?_, rfl, rfl⟩
        exact intV (by unfold nodeErr; rw [if_neg (by omega), if_neg (fun h => hc1 (node51.2 h)), if_pos (.inl (by omega))])
      · refine WC.skip ?_
        refine WQ.thn ?_
        refine WC.seq ?_
        refine WC.seq ?_
        refine WC.region ?_
        refine WL.pur (Pur.assign rfl) ?_
        refine WL.nil ?_
        refine WQ.thn ?_
        refine WC.block ?_
        refine WC.loop (fun j m σ' H' => ∃ i : Nat, j = x.ps.length + 1 - i ∧ 1 ≤ i ∧ (i ≤ x.ps.length ∨ i = 1) ∧ Rises (x.ps.take i) ∧ m = [(1, .pointer (some ⟨b1, 0, none⟩)), (3, .int .i64 (i : Int))] ∧ σ' = σ ∧ H' = (b1, rowO 43 (nodeCells x.au x.cl (.slice pa x.ps.length pc) ov)) :: Hr) ⟨1, rfl, by omega, by omega, rises_take0 x.ps, rfl, rfl, rfl⟩ zcV zsL ?_
        rintro _ _ σ _ ⟨i, rfl, hi1, hi, hr, rfl, rfl, rfl⟩
        refine WC.seq ?_
        refine WC.seq ?_
        refine WC.region ?_
        refine WL.pur (Pur.move rfl) ?_
        refine WL.pur (Pur.fieldAddr rfl fo_43_2) ?_
        refine' WL.pur (Pur.load1 rfl ty_41 ?h19_0) ?k19
        case h19_0 => first | (apply Rd.own1; exact zmE; rfl) | (apply RdV.rd; apply RdV.idx (i := 2); assumption; rfl) | (apply RdV.rd; apply RdV.idx (off := 0) (i := 2); assumption; rfl)
        refine WL.pur (Pur.len rfl isSlice_41) ?_
        refine' WL.pur (Pur.bin rfl rfl ?h20_0) ?k20
        case h20_0 => first | exact Bin.ltN | exact Bin.ltI | exact Bin.ltS
        refine WL.nil ?_
        refine WQ.thn ?_
        first | refine WC.cond rfl (fun hc3 => ?_) (fun hc3 => ?_) | refine WC.condB rfl (fun hc3 => ?_) (fun hc3 => ?_)
        · obtain ⟨b, off, cap', e, hcap', hby', hat⟩ := hps'.at (by omega)
          cases e
          obtain ⟨y0, hx⟩ : ∃ y, x.ps[i - 1]? = some y := ⟨_, List.getElem?_eq_getElem (by omega)⟩
          obtain ⟨y1, hy⟩ : ∃ y, x.ps[i]? = some y := ⟨_, List.getElem?_eq_getElem (by omega)⟩
          obtain ⟨vx, hvl, hvo, ⟨rfl, hxH⟩, hrx⟩ := hat _ y0 hx
          obtain ⟨vy, hvl', hvo', ⟨rfl, hyH⟩, hry⟩ := hat _ y1 hy
          have hcmp : cmpH y0 y1 ≥ 0 ↔ ¬ y0 < y1 := cmpH_ge
          refine WC.skip ?_
          refine WQ.thn ?_
          refine WC.seq ?_
          refine WC.block ?_
          refine WC.seq ?_
          refine WC.drawH 13 13 mixed (by kernel_rfl) rfl ?_
          refine SA.take 0 (by kernel_rfl) rfl rfl rfl (Wanted.plain rfl) zsL (View.le_refl _) (Pur.fieldAddr rfl fo_43_2) ?_
          refine' SA.take 1 (by kernel_rfl) rfl rfl rfl (Wanted.plain rfl) zsL (View.le_refl _) (Pur.load1 rfl ty_41 ?h21_0) ?k21
          case h21_0 => first | (apply Rd.own1; exact zmE; rfl) | (apply RdV.rd; apply RdV.idx (i := 2); assumption; rfl) | (apply RdV.rd; apply RdV.idx (off := 0) (i := 2); assumption; rfl)
          refine SA.take 2 (by kernel_rfl) rfl rfl rfl (Wanted.plain rfl) zsL (View.le_refl _) (Pur.move rfl) ?_
          refine' SA.take 3 (by kernel_rfl) rfl rfl rfl (Wanted.plain rfl) zsL (View.le_refl _) (Pur.bin rfl rfl ?h22_0) ?k22
          case h22_0 => exact Bin.subK (c := i - 1) (by omega) (by omega)
          refine' SA.take 4 (by kernel_rfl) rfl rfl rfl (Wanted.plain rfl) zsL (View.le_refl _) (Pur.indexAddr rfl rfl sl_41 ?h23_0) ?k23
          case h23_0 => omega
          refine' SA.take 5 (by kernel_rfl) rfl rfl rfl (Wanted.plain rfl) zsL (View.le_refl _) (Pur.loadN rfl ty_39 ?h24_0 ?h24_1) ?k24
          case h24_0 => first | (apply Rd.own_sub; exact zmE; exact Sub.refl _) | (apply RdV.rd; assumption)
          case h24_1 => first | rfl | assumption
          refine SA.take 6 (by kernel_rfl) rfl rfl rfl (Wanted.plain rfl) zsL (View.le_refl _) (Pur.fieldAddr rfl fo_43_2) ?_
          refine' SA.take 7 (by kernel_rfl) rfl rfl rfl (Wanted.plain rfl) zsL (View.le_refl _) (Pur.load1 rfl ty_41 ?h25_0) ?k25
          case h25_0 => first | (apply Rd.own1; exact zmE; rfl) | (apply RdV.rd; apply RdV.idx (i := 2); assumption; rfl) | (apply RdV.rd; apply RdV.idx (off := 0) (i := 2); assumption; rfl)
          refine SA.take 8 (by kernel_rfl) rfl rfl rfl (Wanted.plain rfl) zsL (View.le_refl _) (Pur.move rfl) ?_
          refine' SA.take 9 (by kernel_rfl) rfl rfl rfl (Wanted.plain rfl) zsL (View.le_refl _) (Pur.indexAddr rfl rfl sl_41 ?h26_0) ?k26
          case h26_0 => omega
          refine' SA.take 10 (by kernel_rfl) rfl rfl rfl (Wanted.plain rfl) zsL (View.le_refl _) (Pur.loadN rfl ty_39 ?h27_0 ?h27_1) ?k27
          case h27_0 => first | (apply Rd.own_sub; exact zmE; exact Sub.refl _) | (apply RdV.rd; assumption)
          case h27_1 => first | rfl | assumption
          refine SA.callP 11 rfl rfl (Wanted.plain rfl) (by kernel_rfl) rfl Tryz.call154 zsL (View.le_refl _) (r1_compare _ _ _ hxH hyH) ?_
          refine' SA.take 12 (by kernel_rfl) rfl rfl rfl (Wanted.plain rfl) zsL (View.le_refl _) (Pur.bin rfl rfl ?h28_0) ?k28
          case h28_0 => first | exact Bin.geN (b := 0) | exact Bin.geI
          refine SA.done (by kernel_rfl) ?_
          refine WQ.thn ?_
          first | refine WC.cond rfl (fun hc4 => ?_) (fun hc4 => ?_) | refine WC.condB rfl (fun hc4 => ?_) (fun hc4 => ?_)
          · refine WC.seq ?_
            refine WC.region ?_
            refine WL.pur (Pur.assign rfl) ?_
            refine WL.nil ?_
            refine WQ.thn ?_
            refine WC.ret ?_
            refine WQ.blk_ret ?_
            refine WQ.thn_ret ?_
            refine WQ.back_ret ?_
            refine WQ.blk_ret ?_
            refine WQ.thn_ret ?_
            refine WQ.ret1 Tryz.results108 rfl [] zsL (View.le_refl _) ?_
            refine ⟨?_, rfl, rfl⟩
            exact intV (by unfold nodeErr; rw [if_neg (by omega), if_neg (fun h => hc1 (node51.2 h)), if_pos (.inr (rises_not hi1 hx hy (by omega)))])
          · refine WC.skip ?_
            refine WQ.blk ?_
            refine WQ.thn ?_
            refine WC.region ?_
            refine WL.pur (Pur.move rfl) ?_
            refine' WL.pur (Pur.bin rfl rfl ?h29_0) ?k29
            case h29_0 => first | (refine Bin.addN (b := 1) ?_; omega) | (refine Bin.addI ?_; omega)
            refine WL.pur (Pur.assign rfl) ?_
            refine WL.nil ?_
            refine WQ.back _ ⟨i + 1, rfl, by omega, by omega, rises_step hr hi1 hx hy (by omega), rfl, rfl, rfl⟩ (by omega) zcV zsL
        · refine WC.exit ?_
          refine WQ.thn_exit ?_
          refine WQ.back_exit ?_
          refine WQ.blk_here ?_
          refine WQ.thn ?_
          refine WC.seq ?_
          refine WC.region ?_
          refine WL.pur (Pur.fieldAddr rfl fo_43_3) ?_
          refine' WL.pur (Pur.load1 rfl ty_40 ?h30_0) ?k30
          case h30_0 => first | (apply Rd.own1; exact zmE; rfl) | (apply RdV.rd; apply RdV.idx (i := 3); assumption; rfl) | (apply RdV.rd; apply RdV.idx (off := 0) (i := 3); assumption; rfl)
          refine WL.callP rfl Tryz.call157 (r4_Check _ _ x.ops hops) ?_
          refine WL.pur (Pur.move rfl) ?_
          refine WL.pur (Pur.extract rfl rfl) ?_
          refine WL.pur (Pur.extract rfl rfl) ?_
          refine WL.pur (Pur.assign rfl) ?_
          refine WL.pur (Pur.assign rfl) ?_
          refine WL.nil ?_
          refine WQ.thn ?_
          refine WC.seq ?_
          refine WC.region ?_
          refine WL.pur (Pur.move rfl) ?_
          refine WL.pur (Pur.assign rfl) ?_
          refine WL.nil ?_
          refine WQ.thn ?_
          refine WC.ret ?_
          refine WQ.ret1 Tryz.results108 rfl [] zsL (View.le_refl _) ?_
          refine ⟨?_, rfl, rfl⟩
          rw [List.take_of_length_le (by omega)] at hr; exact intV (by unfold nodeErr; rw [if_neg (by omega), if_neg (fun h => hc1 (node51.2 h)), if_neg (by rintro (h | h); omega; exact h hr)])

end Go.Proofs.YtgoooilgmabkmaaGreat
