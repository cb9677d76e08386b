/- Steps towards the law: the machine, contracts of functions and facts of lists. -/
import Derived.Test.YtalddljlemppnaaAb10
import Derived.Test.YtalddljlemppnaaRows
set_option linter.unusedSimpArgs false
set_option linter.unusedVariables false
namespace Go.Ab
open Go Go.RowKit Go.Proofs
attribute [local irreducible] XC Rdr IntKind.wrap xw xos xqs xr xd
set_option maxRecDepth 100000
end Go.Ab
namespace Go.Proofs.Ytalddljlemppnaa
open Go Go.RowKit Go.ChangeShapes Go.WideShapes Go.ChangeAt Go.Ab
set_option maxRecDepth 100000
theorem and_mk {a b : Bool} (h1 : a = true) (h2 : b = true) : (a && b) = true := by rw [h1, h2]; rfl
theorem fac1 : (laidOutB Try.checked.prog) = true := by kernel_rfl
theorem fac2 : (mapsRowed Try.checked.prog) = true := by kernel_rfl
theorem fac6 : ((Try.checked.prog.stops == [])) = true := by kernel_rfl
theorem fac8 : ((Try.checked.prog.stopKnobs == [])) = true := by kernel_rfl
theorem fac24 : (Try.checked.prog.stopsHeard) = true := by kernel_rfl
theorem fac25 : (Try.checked.prog.mayEnter) = true := by kernel_rfl
theorem fac26 : ((Rows.fnExactStewValidRow.lifted == Try.checked.prog.liftsFinal)) = true := by kernel_rfl
theorem fac27 : ((Try.checked.prog.make == some Rows.fnExactStewValidRow.make)) = true := by kernel_rfl
end Go.Proofs.Ytalddljlemppnaa
