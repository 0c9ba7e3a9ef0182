/-
  Contracts of the functions of the program: what each call hands back, from what is known and owned.
-/
import Derived.Test.YtgoooilgmabkmaaCb
set_option linter.unusedVariables false
set_option linter.unusedSimpArgs false
set_option linter.unusedSectionVars false
namespace Go.Proofs.Ytgoooilgmabkmaa
open Go Go.Sl
set_option maxRecDepth 100000
theorem and_t {a b : Bool} (h : a = true) (k : b = true) : (a && b) = true := by rw [h, k]; rfl
theorem rc1 : (laidOutB Try.prog) = true := by kernel_rfl
theorem rc2 : (mapsRowed Try.prog) = true := by kernel_rfl
theorem rc6 : ((Try.prog.stops == [])) = true := by kernel_rfl
theorem rc8 : ((Try.prog.stopKnobs == [])) = true := by kernel_rfl
theorem rc22 : ((Rows.pastNamesRow.plainKeys == Try.prog.plainKeys)) = true := by kernel_rfl
theorem rc24 : (Try.prog.stopsHeard) = true := by kernel_rfl
theorem rc25 : (Try.prog.mayEnter) = true := by kernel_rfl
theorem rc26 : ((Rows.pastNamesRow.lifted == Try.prog.liftsFinal)) = true := by kernel_rfl
theorem rc27 : ((Try.prog.make == some Rows.pastNamesRow.make)) = true := by kernel_rfl
end Go.Proofs.Ytgoooilgmabkmaa
