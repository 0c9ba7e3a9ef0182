/-
  Contracts of the functions of the program and of its references: what each call hands back, from what is known and owned.
-/
import Derived.Test.YtgoooilgmabkmaaGreatCc
set_option linter.unusedVariables false
set_option linter.unusedSimpArgs false
set_option linter.unusedSectionVars false
namespace Go.Proofs.YtgoooilgmabkmaaGreat
open Go Go.Sl
set_option maxRecDepth 100000
theorem and_t {a b : Bool} (h : a = true) (k : b = true) : (a && b) = true := by rw [h, k]; rfl
theorem rc1 : (laidOutB Tryz.prog) = true := by kernel_rfl
theorem rc2 : (mapsRowed Tryz.prog) = true := by kernel_rfl
theorem rc6 : ((Tryz.prog.stops == [])) = true := by kernel_rfl
theorem rc8 : ((Tryz.prog.stopKnobs == [])) = true := by kernel_rfl
theorem rc22 : ((Rows.regReadsRow.plainKeys == Tryz.prog.plainKeys)) = true := by kernel_rfl
theorem rc24 : (Tryz.prog.stopsHeard) = true := by kernel_rfl
theorem rc25 : (Tryz.prog.mayEnter) = true := by kernel_rfl
theorem rc26 : ((Rows.regReadsRow.lifted == Tryz.prog.liftsFinal)) = true := by kernel_rfl
theorem rc27 : ((Tryz.prog.make == some Rows.regReadsRow.make)) = true := by kernel_rfl
end Go.Proofs.YtgoooilgmabkmaaGreat
