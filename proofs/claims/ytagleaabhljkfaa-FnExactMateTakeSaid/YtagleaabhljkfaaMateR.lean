/- Steps towards the law: contracts of functions and facts of lists. -/
import Derived.Test.YtagleaabhljkfaaMateY
import Derived.Test.YtagleaabhljkfaaRows
set_option linter.unusedSimpArgs false
set_option linter.unusedVariables false
namespace Go.Ab
open Go Go.RowKit Go.Proofs
attribute [local irreducible] XC Rdr IntKind.wrap xw xos xqs xr xd
set_option maxRecDepth 100000

/-- laws.markMateWantS -/
def cf87 : CF := ⟨64, [.t 4],
  (.seq (.ops [⟨some 4, .mv (.k (.int .i64 0)), none⟩])
  (.seq (.seq (.ops [⟨some 5, .mv (.k (.int .i64 0)), none⟩])
  (.block 0 (.loop (.seq (.seq (.ops [⟨some 6, .mv (.t 5), none⟩,
    ⟨some 7, .mv (.t 0), none⟩,
    ⟨some 8, .lenl (.t 7), none⟩,
    ⟨some 9, .bin .lss (.t 6) (.t 8), none⟩])
  (.cond (.t 9)
  .skip
  (.exit 0)))
  (.seq (.block 1 (.seq (.ops [⟨some 12, .mv (.t 0), none⟩,
    ⟨some 13, .mv (.t 5), none⟩,
    ⟨some 14, .mv (.t 1), none⟩,
    ⟨some 15, .call 77 [(.t 14)], none⟩,
    ⟨some 16, .ix 7 (.t 12) (.t 13), none⟩,
    ⟨some 17, .fa 0 1 0 (.t 16), none⟩,
    ⟨none, .st 1 (.t 17) (.t 15), none⟩])
  (.seq (.ops [⟨some 18, .mv (.t 1), none⟩,
    ⟨some 19, .bin .add (.t 18) (.k (.int .i64 1)), none⟩,
    ⟨some 1, .mv (.t 19), none⟩])
  (.seq (.ops [⟨some 20, .mv (.t 0), none⟩,
    ⟨some 21, .mv (.t 5), none⟩,
    ⟨some 22, .mv (.t 1), none⟩,
    ⟨some 23, .ix 7 (.t 20) (.t 21), none⟩,
    ⟨some 24, .fa 1 1 1 (.t 23), none⟩,
    ⟨none, .st 1 (.t 24) (.t 22), none⟩])
  (.seq (.ops [⟨some 25, .mv (.t 1), none⟩,
    ⟨some 26, .bin .add (.t 25) (.k (.int .i64 1)), none⟩,
    ⟨some 1, .mv (.t 26), none⟩])
  (.seq (.ops [⟨some 27, .mv (.t 0), none⟩,
    ⟨some 28, .mv (.t 5), none⟩,
    ⟨some 29, .mv (.t 1), none⟩,
    ⟨some 30, .call 77 [(.t 29)], none⟩,
    ⟨some 31, .ix 7 (.t 27) (.t 28), none⟩,
    ⟨some 32, .fa 2 1 2 (.t 31), none⟩,
    ⟨none, .st 1 (.t 32) (.t 30), none⟩])
  (.seq (.ops [⟨some 33, .mv (.t 1), none⟩,
    ⟨some 34, .bin .add (.t 33) (.k (.int .i64 1)), none⟩,
    ⟨some 1, .mv (.t 34), none⟩])
  (.seq (.ops [⟨some 35, .mv (.t 0), none⟩,
    ⟨some 36, .mv (.t 5), none⟩,
    ⟨some 37, .mv (.t 1), none⟩,
    ⟨some 38, .ix 7 (.t 35) (.t 36), none⟩,
    ⟨some 39, .fa 3 1 3 (.t 38), none⟩,
    ⟨none, .st 1 (.t 39) (.t 37), none⟩])
  (.seq (.ops [⟨some 40, .mv (.t 1), none⟩,
    ⟨some 41, .bin .add (.t 40) (.k (.int .i64 1)), none⟩,
    ⟨some 1, .mv (.t 41), none⟩])
  (.seq (.ops [⟨some 42, .mv (.t 0), none⟩,
    ⟨some 43, .mv (.t 5), none⟩,
    ⟨some 44, .mv (.t 1), none⟩,
    ⟨some 45, .ix 7 (.t 42) (.t 43), none⟩,
    ⟨some 46, .fa 4 1 4 (.t 45), none⟩,
    ⟨none, .st 1 (.t 46) (.t 44), none⟩])
  (.seq (.ops [⟨some 47, .mv (.t 1), none⟩,
    ⟨some 48, .bin .add (.t 47) (.k (.int .i64 1)), none⟩,
    ⟨some 1, .mv (.t 48), none⟩])
  (.seq (.ops [⟨some 49, .mv (.t 0), none⟩,
    ⟨some 50, .mv (.t 5), none⟩,
    ⟨some 51, .mv (.t 1), none⟩,
    ⟨some 52, .ix 7 (.t 49) (.t 50), none⟩,
    ⟨some 53, .fa 5 1 5 (.t 52), none⟩,
    ⟨none, .st 1 (.t 53) (.t 51), none⟩])
  (.seq (.ops [⟨some 54, .mv (.t 1), none⟩,
    ⟨some 55, .bin .add (.t 54) (.k (.int .i64 1)), none⟩,
    ⟨some 1, .mv (.t 55), none⟩])
  (.seq (.ops [⟨some 56, .mv (.t 0), none⟩,
    ⟨some 57, .mv (.t 5), none⟩,
    ⟨some 58, .mv (.t 1), none⟩,
    ⟨some 59, .ix 7 (.t 56) (.t 57), none⟩,
    ⟨some 60, .fa 6 1 6 (.t 59), none⟩,
    ⟨none, .st 1 (.t 60) (.t 58), none⟩])
  (.ops [⟨some 61, .mv (.t 1), none⟩,
    ⟨some 62, .bin .add (.t 61) (.k (.int .i64 1)), none⟩,
    ⟨some 1, .mv (.t 62), none⟩])))))))))))))))
  (.ops [⟨some 10, .mv (.t 5), none⟩,
    ⟨some 11, .bin .add (.t 10) (.k (.int .i64 1)), none⟩,
    ⟨some 5, .mv (.t 11), none⟩]))))))
  (.seq (.ops [⟨some 63, .mv (.t 1), none⟩,
    ⟨some 4, .mv (.t 63), none⟩])
  .ret)))⟩
theorem c87 : compileF Try.prog [] 87 = some cf87 := by kernel_rfl
/-- laws.heldMateWantS -/
def cf89 : CF := ⟨78, [.t 4],
  (.seq (.ops [⟨some 4, .mv (.k (.int .i64 0)), none⟩])
  (.seq (.seq (.ops [⟨some 5, .mv (.k (.int .i64 0)), none⟩])
  (.block 0 (.loop (.seq (.seq (.ops [⟨some 6, .mv (.t 5), none⟩,
    ⟨some 7, .mv (.t 0), none⟩,
    ⟨some 8, .lenl (.t 7), none⟩,
    ⟨some 9, .bin .lss (.t 6) (.t 8), none⟩])
  (.cond (.t 9)
  .skip
  (.exit 0)))
  (.seq (.block 1 (.seq (.seq (.quiet [⟨some 12, .mv (.t 0), none⟩,
    ⟨some 13, .mv (.t 5), none⟩,
    ⟨some 14, .ix 7 (.t 12) (.t 13), none⟩,
    ⟨some 15, .fa 0 1 0 (.t 14), none⟩,
    ⟨some 16, .ld 1 false (.t 15), none⟩,
    ⟨some 17, .mv (.t 1), none⟩,
    ⟨some 18, .call 77 [(.t 17)], none⟩,
    ⟨some 19, .bin .neq (.t 16) (.t 18), none⟩])
  (.cond (.t 19)
  (.seq (.ops [⟨some 4, .mv (.k (.int .i64 (-1))), none⟩])
  .ret)
  .skip))
  (.seq (.ops [⟨some 20, .mv (.t 1), none⟩,
    ⟨some 21, .bin .add (.t 20) (.k (.int .i64 1)), none⟩,
    ⟨some 1, .mv (.t 21), none⟩])
  (.seq (.seq (.ops [⟨some 22, .mv (.t 0), none⟩,
    ⟨some 23, .mv (.t 5), none⟩,
    ⟨some 24, .ix 7 (.t 22) (.t 23), none⟩,
    ⟨some 25, .fa 1 1 1 (.t 24), none⟩,
    ⟨some 26, .ld 1 false (.t 25), none⟩,
    ⟨some 27, .mv (.t 1), none⟩,
    ⟨some 28, .bin .neq (.t 26) (.t 27), none⟩])
  (.cond (.t 28)
  (.seq (.ops [⟨some 4, .mv (.k (.int .i64 (-1))), none⟩])
  .ret)
  .skip))
  (.seq (.ops [⟨some 29, .mv (.t 1), none⟩,
    ⟨some 30, .bin .add (.t 29) (.k (.int .i64 1)), none⟩,
    ⟨some 1, .mv (.t 30), none⟩])
  (.seq (.seq (.quiet [⟨some 31, .mv (.t 0), none⟩,
    ⟨some 32, .mv (.t 5), none⟩,
    ⟨some 33, .ix 7 (.t 31) (.t 32), none⟩,
    ⟨some 34, .fa 2 1 2 (.t 33), none⟩,
    ⟨some 35, .ld 1 false (.t 34), none⟩,
    ⟨some 36, .mv (.t 1), none⟩,
    ⟨some 37, .call 77 [(.t 36)], none⟩,
    ⟨some 38, .bin .neq (.t 35) (.t 37), none⟩])
  (.cond (.t 38)
  (.seq (.ops [⟨some 4, .mv (.k (.int .i64 (-1))), none⟩])
  .ret)
  .skip))
  (.seq (.ops [⟨some 39, .mv (.t 1), none⟩,
    ⟨some 40, .bin .add (.t 39) (.k (.int .i64 1)), none⟩,
    ⟨some 1, .mv (.t 40), none⟩])
  (.seq (.seq (.ops [⟨some 41, .mv (.t 0), none⟩,
    ⟨some 42, .mv (.t 5), none⟩,
    ⟨some 43, .ix 7 (.t 41) (.t 42), none⟩,
    ⟨some 44, .fa 3 1 3 (.t 43), none⟩,
    ⟨some 45, .ld 1 false (.t 44), none⟩,
    ⟨some 46, .mv (.t 1), none⟩,
    ⟨some 47, .bin .neq (.t 45) (.t 46), none⟩])
  (.cond (.t 47)
  (.seq (.ops [⟨some 4, .mv (.k (.int .i64 (-1))), none⟩])
  .ret)
  .skip))
  (.seq (.ops [⟨some 48, .mv (.t 1), none⟩,
    ⟨some 49, .bin .add (.t 48) (.k (.int .i64 1)), none⟩,
    ⟨some 1, .mv (.t 49), none⟩])
  (.seq (.seq (.ops [⟨some 50, .mv (.t 0), none⟩,
    ⟨some 51, .mv (.t 5), none⟩,
    ⟨some 52, .ix 7 (.t 50) (.t 51), none⟩,
    ⟨some 53, .fa 4 1 4 (.t 52), none⟩,
    ⟨some 54, .ld 1 false (.t 53), none⟩,
    ⟨some 55, .mv (.t 1), none⟩,
    ⟨some 56, .bin .neq (.t 54) (.t 55), none⟩])
  (.cond (.t 56)
  (.seq (.ops [⟨some 4, .mv (.k (.int .i64 (-1))), none⟩])
  .ret)
  .skip))
  (.seq (.ops [⟨some 57, .mv (.t 1), none⟩,
    ⟨some 58, .bin .add (.t 57) (.k (.int .i64 1)), none⟩,
    ⟨some 1, .mv (.t 58), none⟩])
  (.seq (.seq (.ops [⟨some 59, .mv (.t 0), none⟩,
    ⟨some 60, .mv (.t 5), none⟩,
    ⟨some 61, .ix 7 (.t 59) (.t 60), none⟩,
    ⟨some 62, .fa 5 1 5 (.t 61), none⟩,
    ⟨some 63, .ld 1 false (.t 62), none⟩,
    ⟨some 64, .mv (.t 1), none⟩,
    ⟨some 65, .bin .neq (.t 63) (.t 64), none⟩])
  (.cond (.t 65)
  (.seq (.ops [⟨some 4, .mv (.k (.int .i64 (-1))), none⟩])
  .ret)
  .skip))
  (.seq (.ops [⟨some 66, .mv (.t 1), none⟩,
    ⟨some 67, .bin .add (.t 66) (.k (.int .i64 1)), none⟩,
    ⟨some 1, .mv (.t 67), none⟩])
  (.seq (.seq (.ops [⟨some 68, .mv (.t 0), none⟩,
    ⟨some 69, .mv (.t 5), none⟩,
    ⟨some 70, .ix 7 (.t 68) (.t 69), none⟩,
    ⟨some 71, .fa 6 1 6 (.t 70), none⟩,
    ⟨some 72, .ld 1 false (.t 71), none⟩,
    ⟨some 73, .mv (.t 1), none⟩,
    ⟨some 74, .bin .neq (.t 72) (.t 73), none⟩])
  (.cond (.t 74)
  (.seq (.ops [⟨some 4, .mv (.k (.int .i64 (-1))), none⟩])
  .ret)
  .skip))
  (.ops [⟨some 75, .mv (.t 1), none⟩,
    ⟨some 76, .bin .add (.t 75) (.k (.int .i64 1)), none⟩,
    ⟨some 1, .mv (.t 76), none⟩])))))))))))))))
  (.ops [⟨some 10, .mv (.t 5), none⟩,
    ⟨some 11, .bin .add (.t 10) (.k (.int .i64 1)), none⟩,
    ⟨some 5, .mv (.t 11), none⟩]))))))
  (.seq (.ops [⟨some 77, .mv (.t 1), none⟩,
    ⟨some 4, .mv (.t 77), none⟩])
  .ret)))⟩
theorem c89 : compileF Try.prog [] 89 = some cf89 := by kernel_rfl
/-- laws.markMateAskS -/
def cf88 : CF := ⟨43, [.t 4],
  (.seq (.ops [⟨some 4, .mv (.k (.int .i64 0)), none⟩])
  (.seq (.seq (.ops [⟨some 5, .mv (.k (.int .i64 0)), none⟩])
  (.block 0 (.loop (.seq (.seq (.ops [⟨some 6, .mv (.t 5), none⟩,
    ⟨some 7, .mv (.t 0), none⟩,
    ⟨some 8, .lenl (.t 7), none⟩,
    ⟨some 9, .bin .lss (.t 6) (.t 8), none⟩])
  (.cond (.t 9)
  .skip
  (.exit 0)))
  (.seq (.block 1 (.seq (.ops [⟨some 12, .mv (.t 0), none⟩,
    ⟨some 13, .mv (.t 5), none⟩,
    ⟨some 14, .mv (.t 1), none⟩,
    ⟨some 15, .call 77 [(.t 14)], none⟩,
    ⟨some 16, .ix 4 (.t 12) (.t 13), none⟩,
    ⟨some 17, .fa 0 1 0 (.t 16), none⟩,
    ⟨none, .st 1 (.t 17) (.t 15), none⟩])
  (.seq (.ops [⟨some 18, .mv (.t 1), none⟩,
    ⟨some 19, .bin .add (.t 18) (.k (.int .i64 1)), none⟩,
    ⟨some 1, .mv (.t 19), none⟩])
  (.seq (.ops [⟨some 20, .mv (.t 0), none⟩,
    ⟨some 21, .mv (.t 5), none⟩,
    ⟨some 22, .mv (.t 1), none⟩,
    ⟨some 23, .call 77 [(.t 22)], none⟩,
    ⟨some 24, .ix 4 (.t 20) (.t 21), none⟩,
    ⟨some 25, .fa 1 1 1 (.t 24), none⟩,
    ⟨none, .st 1 (.t 25) (.t 23), none⟩])
  (.seq (.ops [⟨some 26, .mv (.t 1), none⟩,
    ⟨some 27, .bin .add (.t 26) (.k (.int .i64 1)), none⟩,
    ⟨some 1, .mv (.t 27), none⟩])
  (.seq (.ops [⟨some 28, .mv (.t 0), none⟩,
    ⟨some 29, .mv (.t 5), none⟩,
    ⟨some 30, .mv (.t 1), none⟩,
    ⟨some 31, .ix 4 (.t 28) (.t 29), none⟩,
    ⟨some 32, .fa 2 1 2 (.t 31), none⟩,
    ⟨none, .st 1 (.t 32) (.t 30), none⟩])
  (.seq (.ops [⟨some 33, .mv (.t 1), none⟩,
    ⟨some 34, .bin .add (.t 33) (.k (.int .i64 1)), none⟩,
    ⟨some 1, .mv (.t 34), none⟩])
  (.seq (.ops [⟨some 35, .mv (.t 0), none⟩,
    ⟨some 36, .mv (.t 5), none⟩,
    ⟨some 37, .mv (.t 1), none⟩,
    ⟨some 38, .ix 4 (.t 35) (.t 36), none⟩,
    ⟨some 39, .fa 3 1 3 (.t 38), none⟩,
    ⟨none, .st 1 (.t 39) (.t 37), none⟩])
  (.ops [⟨some 40, .mv (.t 1), none⟩,
    ⟨some 41, .bin .add (.t 40) (.k (.int .i64 1)), none⟩,
    ⟨some 1, .mv (.t 41), none⟩])))))))))
  (.ops [⟨some 10, .mv (.t 5), none⟩,
    ⟨some 11, .bin .add (.t 10) (.k (.int .i64 1)), none⟩,
    ⟨some 5, .mv (.t 11), none⟩]))))))
  (.seq (.ops [⟨some 42, .mv (.t 1), none⟩,
    ⟨some 4, .mv (.t 42), none⟩])
  .ret)))⟩
theorem c88 : compileF Try.prog [] 88 = some cf88 := by kernel_rfl
/-- laws.heldMateAskS -/
def cf90 : CF := ⟨51, [.t 4],
  (.seq (.ops [⟨some 4, .mv (.k (.int .i64 0)), none⟩])
  (.seq (.seq (.ops [⟨some 5, .mv (.k (.int .i64 0)), none⟩])
  (.block 0 (.loop (.seq (.seq (.ops [⟨some 6, .mv (.t 5), none⟩,
    ⟨some 7, .mv (.t 0), none⟩,
    ⟨some 8, .lenl (.t 7), none⟩,
    ⟨some 9, .bin .lss (.t 6) (.t 8), none⟩])
  (.cond (.t 9)
  .skip
  (.exit 0)))
  (.seq (.block 1 (.seq (.seq (.quiet [⟨some 12, .mv (.t 0), none⟩,
    ⟨some 13, .mv (.t 5), none⟩,
    ⟨some 14, .ix 4 (.t 12) (.t 13), none⟩,
    ⟨some 15, .fa 0 1 0 (.t 14), none⟩,
    ⟨some 16, .ld 1 false (.t 15), none⟩,
    ⟨some 17, .mv (.t 1), none⟩,
    ⟨some 18, .call 77 [(.t 17)], none⟩,
    ⟨some 19, .bin .neq (.t 16) (.t 18), none⟩])
  (.cond (.t 19)
  (.seq (.ops [⟨some 4, .mv (.k (.int .i64 (-1))), none⟩])
  .ret)
  .skip))
  (.seq (.ops [⟨some 20, .mv (.t 1), none⟩,
    ⟨some 21, .bin .add (.t 20) (.k (.int .i64 1)), none⟩,
    ⟨some 1, .mv (.t 21), none⟩])
  (.seq (.seq (.quiet [⟨some 22, .mv (.t 0), none⟩,
    ⟨some 23, .mv (.t 5), none⟩,
    ⟨some 24, .ix 4 (.t 22) (.t 23), none⟩,
    ⟨some 25, .fa 1 1 1 (.t 24), none⟩,
    ⟨some 26, .ld 1 false (.t 25), none⟩,
    ⟨some 27, .mv (.t 1), none⟩,
    ⟨some 28, .call 77 [(.t 27)], none⟩,
    ⟨some 29, .bin .neq (.t 26) (.t 28), none⟩])
  (.cond (.t 29)
  (.seq (.ops [⟨some 4, .mv (.k (.int .i64 (-1))), none⟩])
  .ret)
  .skip))
  (.seq (.ops [⟨some 30, .mv (.t 1), none⟩,
    ⟨some 31, .bin .add (.t 30) (.k (.int .i64 1)), none⟩,
    ⟨some 1, .mv (.t 31), none⟩])
  (.seq (.seq (.ops [⟨some 32, .mv (.t 0), none⟩,
    ⟨some 33, .mv (.t 5), none⟩,
    ⟨some 34, .ix 4 (.t 32) (.t 33), none⟩,
    ⟨some 35, .fa 2 1 2 (.t 34), none⟩,
    ⟨some 36, .ld 1 false (.t 35), none⟩,
    ⟨some 37, .mv (.t 1), none⟩,
    ⟨some 38, .bin .neq (.t 36) (.t 37), none⟩])
  (.cond (.t 38)
  (.seq (.ops [⟨some 4, .mv (.k (.int .i64 (-1))), none⟩])
  .ret)
  .skip))
  (.seq (.ops [⟨some 39, .mv (.t 1), none⟩,
    ⟨some 40, .bin .add (.t 39) (.k (.int .i64 1)), none⟩,
    ⟨some 1, .mv (.t 40), none⟩])
  (.seq (.seq (.ops [⟨some 41, .mv (.t 0), none⟩,
    ⟨some 42, .mv (.t 5), none⟩,
    ⟨some 43, .ix 4 (.t 41) (.t 42), none⟩,
    ⟨some 44, .fa 3 1 3 (.t 43), none⟩,
    ⟨some 45, .ld 1 false (.t 44), none⟩,
    ⟨some 46, .mv (.t 1), none⟩,
    ⟨some 47, .bin .neq (.t 45) (.t 46), none⟩])
  (.cond (.t 47)
  (.seq (.ops [⟨some 4, .mv (.k (.int .i64 (-1))), none⟩])
  .ret)
  .skip))
  (.ops [⟨some 48, .mv (.t 1), none⟩,
    ⟨some 49, .bin .add (.t 48) (.k (.int .i64 1)), none⟩,
    ⟨some 1, .mv (.t 49), none⟩])))))))))
  (.ops [⟨some 10, .mv (.t 5), none⟩,
    ⟨some 11, .bin .add (.t 10) (.k (.int .i64 1)), none⟩,
    ⟨some 5, .mv (.t 11), none⟩]))))))
  (.seq (.ops [⟨some 50, .mv (.t 1), none⟩,
    ⟨some 4, .mv (.t 50), none⟩])
  .ret)))⟩
theorem c90 : compileF Try.prog [] 90 = some cf90 := by kernel_rfl
def mk_MateWant (x : MateWant) (k : Int) : MateWant := { x with fCopy := mtext k, fVersion := (k + 1), fHold := mtext ((k + 1) + 1), fPull := (((k + 1) + 1) + 1), fStart := ((((k + 1) + 1) + 1) + 1), fDies := (((((k + 1) + 1) + 1) + 1) + 1), fGrace := ((((((k + 1) + 1) + 1) + 1) + 1) + 1) }
set_option maxHeartbeats 8000000 in
theorem mark_MateWantS (xs : List MateWant) (b0 c0 : Nat) (k : Int) (hk : 1 ≤ k) (hl : xs.length ≤ 1048576) (hB : k + (7 * xs.length : Nat) ≤ 50000000) : XC Try.prog 87 [.lsl 0 b0 xs.length c0, .int .i64 k] [(0, b0, .arr 7 (xs.map MateWant.D) c0)] (fun d ls => d = .int .i64 (k + (7 * xs.length : Nat)) ∧ ls = [(0, b0, .arr 7 ((mkS mk_MateWant 7 xs k).map MateWant.D) c0)]) := by
  refine XC.intro' hm [0] rfl c87 (Nat.le_of_ble_eq_true rfl) ?_
  conv => whnf
  repeat' (first | (refine g_op ?_; conv => whnf) | (refine And.intro ?_ ?_; (focus (first | exact rfl | exact Nat.le_of_ble_eq_true rfl | decide | omega | fail)); conv => whnf) | (refine g_seq ?_) | (refine XS.go ?_) | (refine g_ops ?_) | (refine g_loop ?_) | (refine g_nil ?_; conv => whnf) | (refine g_block ?_) | fail)
  refine XLc.mkG (α := Nat) (fun i gs => i ≤ xs.length ∧ gs 0 = b0) (fun i => xs.length - i) (fun i gs => [.lsl 0 (gs 0) xs.length c0, .int .i64 (k + (7 * i : Nat)), .any, .any, .any, .int .i64 (i : Int)]) (fun i gs => [(0, .arr 7 ((mkP mk_MateWant 7 xs k i).map MateWant.D) c0)]) 0 ⟨Nat.zero_le _, rfl⟩ ?_ ?_
  · refine ⟨?_, ?_⟩
    · repeat' (first | exact True.intro | refine And.intro rfl ?_ | refine And.intro (congrArg (D.int .i64) (by simp)) ?_)
    · exact And.intro (by rw [mkP_zero]; rfl) True.intro
  intro i gs hI
  obtain ⟨hi0, hg⟩ := hI
  subst hg
  repeat' (first | (refine g_op ?_; conv => whnf) | (refine And.intro ?_ ?_; (focus (first | exact rfl | exact Nat.le_of_ble_eq_true rfl | decide | omega | fail)); conv => whnf) | (refine g_seq ?_) | (refine XS.go ?_) | (refine g_ops ?_) | (refine g_nil ?_; conv => whnf) | (refine g_cond ?_; conv => whnf) | fail)
  refine Br.mk (fun hb => ?_) (fun hb => ?_)
  · have hlt : i < xs.length := by simpa using hb
    have hj0 : i < ((mkP mk_MateWant 7 xs k i).map MateWant.D).length := by rw [List.length_map, mkP_len]; exact hlt
    have he0 : ((mkP mk_MateWant 7 xs k i).map MateWant.D).getD i .any = (xs.getD i default).D := by
      rw [elt_map (by rw [mkP_len]; exact hlt), mkP_get _ hlt]
    have hfin : ∀ d, d = (mk_MateWant (xs.getD i default) (k + (7 * i : Nat))).D → ((mkP mk_MateWant 7 xs k i).map MateWant.D).set i d = (mkP mk_MateWant 7 xs k (i + 1)).map MateWant.D := fun d h => by
      rw [h, ← mkP_set default hlt, List.map_set]
    have hKe : k + (7 * (i + 1) : Nat) = k + (7 * i : Nat) + 7 := by omega
    have hK0 : 1 ≤ k + (7 * i : Nat) := by omega
    have hK1 : k + (7 * i : Nat) + 7 ≤ 50000000 := by omega
    generalize hK : k + (7 * i : Nat) = K at hfin hK0 hK1 hKe ⊢
    have hw1 : IntKind.wrap .i64 (K + 1) = (K + 1) := wrap_ok (by omega) (by omega)
    have hw2 : IntKind.wrap .i64 ((K + 1) + 1) = ((K + 1) + 1) := wrap_ok (by omega) (by omega)
    have hw3 : IntKind.wrap .i64 (((K + 1) + 1) + 1) = (((K + 1) + 1) + 1) := wrap_ok (by omega) (by omega)
    have hw4 : IntKind.wrap .i64 ((((K + 1) + 1) + 1) + 1) = ((((K + 1) + 1) + 1) + 1) := wrap_ok (by omega) (by omega)
    have hw5 : IntKind.wrap .i64 (((((K + 1) + 1) + 1) + 1) + 1) = (((((K + 1) + 1) + 1) + 1) + 1) := wrap_ok (by omega) (by omega)
    have hw6 : IntKind.wrap .i64 ((((((K + 1) + 1) + 1) + 1) + 1) + 1) = ((((((K + 1) + 1) + 1) + 1) + 1) + 1) := wrap_ok (by omega) (by omega)
    have hw7 : IntKind.wrap .i64 (((((((K + 1) + 1) + 1) + 1) + 1) + 1) + 1) = (((((((K + 1) + 1) + 1) + 1) + 1) + 1) + 1) := wrap_ok (by omega) (by omega)
    have ht0 := mark_text K (by first | omega | (simp only [hw1, hw2, hw3, hw4, hw5, hw6, hw7]; omega)) (by first | omega | (simp only [hw1, hw2, hw3, hw4, hw5, hw6, hw7]; omega))
    have ht2 := mark_text (IntKind.wrap .i64 ((IntKind.wrap .i64 (K + 1)) + 1)) (by first | omega | (simp only [hw1, hw2, hw3, hw4, hw5, hw6, hw7]; omega)) (by first | omega | (simp only [hw1, hw2, hw3, hw4, hw5, hw6, hw7]; omega))
    conv => whnf
    repeat' (first | (refine z_st1 ?_; first | (refine z_st rfl rfl rfl (by first | (simp only [List.length_set]; assumption) | assumption | omega) (by first | exact elt_set (by first | assumption | (simp only [List.length_set]; assumption)) | assumption) rfl rfl ?_; conv => whnf) | (refine z_st0 ?_; conv => whnf)) | (refine z_ix1 ?_; first | (refine z_ix rfl rfl rfl rfl rfl ⟨by first | omega | (simp only [decide_eq_true_eq, Bool.not_eq_true', Bool.or_eq_false_iff, decide_eq_false_iff_not, Bool.and_eq_true, Bool.not_eq_false'] at *; omega), by first | omega | (simp only [decide_eq_true_eq, Bool.not_eq_true', Bool.or_eq_false_iff, decide_eq_false_iff_not, Bool.and_eq_true, Bool.not_eq_false'] at *; omega)⟩ ?_; conv => whnf) | (refine z_ix0 rfl rfl ?_; conv => whnf)) | (refine z_op ?_ ?_; (focus exact rfl); conv => whnf) | (refine zs_ops ?_ ?_; (focus exact rfl)) | (refine z_nil fun vals => ?_; conv => whnf) | (refine z_call ?_ ?_; (focus exact rfl)) | (refine RC.of (ht0) ?_ ?_; (focus exact rfl); conv => whnf) | (refine RC.of (ht2) ?_ ?_; (focus exact rfl); conv => whnf) | (refine g_op ?_; conv => whnf) | (refine And.intro ?_ ?_; (focus (first | exact rfl | exact Nat.le_of_ble_eq_true rfl | decide | omega | fail)); conv => whnf) | (refine g_seq ?_) | (refine XS.go ?_) | (refine g_ops ?_) | (refine g_nil ?_; conv => whnf) | (refine g_skip ?_; conv => whnf) | (refine g_block ?_) | fail)
    have hw : IntKind.wrap .i64 ((i : Int) + 1) = ((i + 1 : Nat) : Int) := by rw [wrap_ok (by omega) (by omega)]; rfl
    refine ⟨i + 1, ⟨by omega, rfl⟩, by omega, ?_, ?_⟩
    · repeat' (first | exact True.intro | refine And.intro (congrArg (D.int .i64) hw) ?_ | refine And.intro rfl ?_ | refine And.intro (congrArg (D.int .i64) (by simp only [hw1, hw2, hw3, hw4, hw5, hw6, hw7]; omega)) ?_)
    · refine And.intro ?_ True.intro
      refine congrArg (fun l => some (D.arr 7 l c0)) ?_
      simp only [List.set_set]
      exact hfin _ (by simp only [hw1, hw2, hw3, hw4, hw5, hw6, hw7]; rfl)
  have hi : i = xs.length := by
    have : ¬ i < xs.length := by simpa using hb
    omega
  subst hi
  rw [mkP_all]
  conv => whnf
  repeat' (first | (refine g_op ?_; conv => whnf) | (refine And.intro ?_ ?_; (focus (first | exact rfl | exact Nat.le_of_ble_eq_true rfl | decide | omega | fail)); conv => whnf) | (refine g_seq ?_) | (refine XS.go ?_) | (refine g_ops ?_) | (refine g_nil ?_; conv => whnf) | (refine g_ret ?_; conv => whnf) | (refine g_exit ?_; conv => whnf) | (refine r_t ?_; conv => whnf) | (refine r_nil ?_; conv => whnf) | fail)
  first | exact ⟨rfl, rfl⟩ | exact rfl
set_option maxHeartbeats 8000000 in
theorem held_MateWantS (xs : List MateWant) (k : Int) (hk : 1 ≤ k) (hl : xs.length ≤ 1048576) (hB : k + (7 * xs.length : Nat) ≤ 50000000) : Rdr Try.prog 89 [.ro 7 ((mkS mk_MateWant 7 xs k).map MateWant.D), .int .i64 k] (.int .i64 (k + (7 * xs.length : Nat))) := by
  have hml : (mkS mk_MateWant 7 xs k).length = xs.length := mkS_len
  refine Rdr.intro' hm c89 (Nat.le_of_ble_eq_true rfl) ?_
  conv => whnf
  repeat' (first | (refine g_op ?_; conv => whnf) | (refine And.intro ?_ ?_; (focus (first | exact rfl | exact Nat.le_of_ble_eq_true rfl | decide | omega | fail)); conv => whnf) | (refine g_seq ?_) | (refine XS.go ?_) | (refine g_ops ?_) | (refine g_loop ?_) | (refine g_nil ?_; conv => whnf) | (refine g_block ?_) | fail)
  refine XLc.mkA (α := Nat) (fun i => i ≤ xs.length) (fun i => xs.length - i) (fun i gs => [.ro 7 ((mkS mk_MateWant 7 xs k).map MateWant.D), .int .i64 (k + (7 * i : Nat)), .any, .any, .any, .int .i64 (i : Int)]) (fun i gs => []) 0 (Nat.zero_le _) ?_ ?_
  · refine ⟨?_, True.intro⟩
    · repeat' (first | exact True.intro | refine And.intro rfl ?_ | refine And.intro (congrArg (D.int .i64) (by simp)) ?_)
  intro i gs hi0
  repeat' (first | (refine g_op ?_; conv => whnf) | (refine And.intro ?_ ?_; (focus (first | exact rfl | exact Nat.le_of_ble_eq_true rfl | decide | omega | fail)); conv => whnf) | (refine g_seq ?_) | (refine XS.go ?_) | (refine g_ops ?_) | (refine g_nil ?_; conv => whnf) | (refine g_cond ?_; conv => whnf) | fail)
  refine Br.mk (fun hb => ?_) (fun hb => ?_)
  · have hlt : i < xs.length := by simpa [mkS_len] using hb
    have hel : (mkS mk_MateWant 7 xs k).getD i default = mk_MateWant (xs.getD i default) (k + (7 * i : Nat)) := mkS_get default hlt
    have hlt' : i < (mkS mk_MateWant 7 xs k).length := by rw [hml]; exact hlt
    have hKe : k + (7 * (i + 1) : Nat) = k + (7 * i : Nat) + 7 := by omega
    have hK0 : 1 ≤ k + (7 * i : Nat) := by omega
    have hK1 : k + (7 * i : Nat) + 7 ≤ 50000000 := by omega
    generalize hK : k + (7 * i : Nat) = K at hel hK0 hK1 hKe ⊢
    have hw1 : IntKind.wrap .i64 (K + 1) = (K + 1) := wrap_ok (by omega) (by omega)
    have hw2 : IntKind.wrap .i64 ((K + 1) + 1) = ((K + 1) + 1) := wrap_ok (by omega) (by omega)
    have hw3 : IntKind.wrap .i64 (((K + 1) + 1) + 1) = (((K + 1) + 1) + 1) := wrap_ok (by omega) (by omega)
    have hw4 : IntKind.wrap .i64 ((((K + 1) + 1) + 1) + 1) = ((((K + 1) + 1) + 1) + 1) := wrap_ok (by omega) (by omega)
    have hw5 : IntKind.wrap .i64 (((((K + 1) + 1) + 1) + 1) + 1) = (((((K + 1) + 1) + 1) + 1) + 1) := wrap_ok (by omega) (by omega)
    have hw6 : IntKind.wrap .i64 ((((((K + 1) + 1) + 1) + 1) + 1) + 1) = ((((((K + 1) + 1) + 1) + 1) + 1) + 1) := wrap_ok (by omega) (by omega)
    have hw7 : IntKind.wrap .i64 (((((((K + 1) + 1) + 1) + 1) + 1) + 1) + 1) = (((((((K + 1) + 1) + 1) + 1) + 1) + 1) + 1) := wrap_ok (by omega) (by omega)
    have ht0 := mark_text K (by first | omega | (simp only [hw1, hw2, hw3, hw4, hw5, hw6, hw7]; omega)) (by first | omega | (simp only [hw1, hw2, hw3, hw4, hw5, hw6, hw7]; omega))
    have ht2 := mark_text (IntKind.wrap .i64 ((IntKind.wrap .i64 (K + 1)) + 1)) (by first | omega | (simp only [hw1, hw2, hw3, hw4, hw5, hw6, hw7]; omega)) (by first | omega | (simp only [hw1, hw2, hw3, hw4, hw5, hw6, hw7]; omega))
    conv => whnf
    repeat' (first | (refine z_ld1 ?_; first | (refine z_ld rfl rfl rfl rfl (by first | (simp only [List.length_set]; assumption) | assumption | omega) (by first | exact elt_set (by first | assumption | (simp only [List.length_set]; assumption)) | assumption) ?_; conv => whnf) | (refine z_ld0 rfl ?_; conv => whnf)) | (refine z_ix1 ?_; first | (refine z_ix rfl rfl rfl rfl rfl ⟨by first | omega | (simp only [decide_eq_true_eq, Bool.not_eq_true', Bool.or_eq_false_iff, decide_eq_false_iff_not, Bool.and_eq_true, Bool.not_eq_false'] at *; omega), by first | omega | (simp only [decide_eq_true_eq, Bool.not_eq_true', Bool.or_eq_false_iff, decide_eq_false_iff_not, Bool.and_eq_true, Bool.not_eq_false'] at *; omega)⟩ ?_; conv => whnf) | (refine z_ix0 rfl rfl ?_; conv => whnf)) | (refine z_op ?_ ?_; (focus exact rfl); conv => whnf) | (refine zs_ops ?_ ?_; (focus exact rfl)) | (refine zs_quiet ?_ ?_; (focus exact rfl)) | (refine z_nil fun vals => ?_; conv => whnf) | (refine z_call ?_ ?_; (focus exact rfl)) | (refine RC.of (ht0) ?_ ?_; (focus exact rfl); conv => whnf) | (refine RC.of (ht2) ?_ ?_; (focus exact rfl); conv => whnf) | (refine g_op ?_; conv => whnf) | (refine And.intro ?_ ?_; (focus (first | exact rfl | exact Nat.le_of_ble_eq_true rfl | decide | omega | fail)); conv => whnf) | (refine g_seq ?_) | (refine XS.go ?_) | (refine g_ops ?_) | (refine g_nil ?_; conv => whnf) | (refine g_cond ?_; conv => whnf) | (refine g_skip ?_; conv => whnf) | (refine g_block ?_) | (refine Br.f (by simp only [Int.toNat_natCast, hel, hw1, hw2, hw3, hw4, hw5, hw6, hw7, mk_MateWant] <;> simp) ?_; conv => whnf) | fail)
    have hw : IntKind.wrap .i64 ((i : Int) + 1) = ((i + 1 : Nat) : Int) := by rw [wrap_ok (by omega) (by omega)]; rfl
    refine ⟨i + 1, by omega, by omega, ?_, True.intro⟩
    · repeat' (first | exact True.intro | refine And.intro (congrArg (D.int .i64) hw) ?_ | refine And.intro rfl ?_ | refine And.intro (congrArg (D.int .i64) (by simp only [hw1, hw2, hw3, hw4, hw5, hw6, hw7]; omega)) ?_)
  have hi : i = xs.length := by
    have : ¬ i < xs.length := by simpa [mkS_len] using hb
    omega
  subst hi
  conv => whnf
  repeat' (first | (refine g_op ?_; conv => whnf) | (refine And.intro ?_ ?_; (focus (first | exact rfl | exact Nat.le_of_ble_eq_true rfl | decide | omega | fail)); conv => whnf) | (refine g_seq ?_) | (refine XS.go ?_) | (refine g_ops ?_) | (refine g_nil ?_; conv => whnf) | (refine g_ret ?_; conv => whnf) | (refine g_exit ?_; conv => whnf) | (refine r_t ?_; conv => whnf) | (refine r_nil ?_; conv => whnf) | fail)
  rfl
def mk_MateAsk (x : MateAsk) (k : Int) : MateAsk := { x with fHold := mtext k, fCopy := mtext (k + 1), fFirst := ((k + 1) + 1), fAt := (((k + 1) + 1) + 1) }
set_option maxHeartbeats 8000000 in
theorem mark_MateAskS (xs : List MateAsk) (b0 c0 : Nat) (k : Int) (hk : 1 ≤ k) (hl : xs.length ≤ 1048576) (hB : k + (4 * xs.length : Nat) ≤ 50000000) : XC Try.prog 88 [.lsl 0 b0 xs.length c0, .int .i64 k] [(0, b0, .arr 4 (xs.map MateAsk.D) c0)] (fun d ls => d = .int .i64 (k + (4 * xs.length : Nat)) ∧ ls = [(0, b0, .arr 4 ((mkS mk_MateAsk 4 xs k).map MateAsk.D) c0)]) := by
  refine XC.intro' hm [0] rfl c88 (Nat.le_of_ble_eq_true rfl) ?_
  conv => whnf
  repeat' (first | (refine g_op ?_; conv => whnf) | (refine And.intro ?_ ?_; (focus (first | exact rfl | exact Nat.le_of_ble_eq_true rfl | decide | omega | fail)); conv => whnf) | (refine g_seq ?_) | (refine XS.go ?_) | (refine g_ops ?_) | (refine g_loop ?_) | (refine g_nil ?_; conv => whnf) | (refine g_block ?_) | fail)
  refine XLc.mkG (α := Nat) (fun i gs => i ≤ xs.length ∧ gs 0 = b0) (fun i => xs.length - i) (fun i gs => [.lsl 0 (gs 0) xs.length c0, .int .i64 (k + (4 * i : Nat)), .any, .any, .any, .int .i64 (i : Int)]) (fun i gs => [(0, .arr 4 ((mkP mk_MateAsk 4 xs k i).map MateAsk.D) c0)]) 0 ⟨Nat.zero_le _, rfl⟩ ?_ ?_
  · refine ⟨?_, ?_⟩
    · repeat' (first | exact True.intro | refine And.intro rfl ?_ | refine And.intro (congrArg (D.int .i64) (by simp)) ?_)
    · exact And.intro (by rw [mkP_zero]; rfl) True.intro
  intro i gs hI
  obtain ⟨hi0, hg⟩ := hI
  subst hg
  repeat' (first | (refine g_op ?_; conv => whnf) | (refine And.intro ?_ ?_; (focus (first | exact rfl | exact Nat.le_of_ble_eq_true rfl | decide | omega | fail)); conv => whnf) | (refine g_seq ?_) | (refine XS.go ?_) | (refine g_ops ?_) | (refine g_nil ?_; conv => whnf) | (refine g_cond ?_; conv => whnf) | fail)
  refine Br.mk (fun hb => ?_) (fun hb => ?_)
  · have hlt : i < xs.length := by simpa using hb
    have hj0 : i < ((mkP mk_MateAsk 4 xs k i).map MateAsk.D).length := by rw [List.length_map, mkP_len]; exact hlt
    have he0 : ((mkP mk_MateAsk 4 xs k i).map MateAsk.D).getD i .any = (xs.getD i default).D := by
      rw [elt_map (by rw [mkP_len]; exact hlt), mkP_get _ hlt]
    have hfin : ∀ d, d = (mk_MateAsk (xs.getD i default) (k + (4 * i : Nat))).D → ((mkP mk_MateAsk 4 xs k i).map MateAsk.D).set i d = (mkP mk_MateAsk 4 xs k (i + 1)).map MateAsk.D := fun d h => by
      rw [h, ← mkP_set default hlt, List.map_set]
    have hKe : k + (4 * (i + 1) : Nat) = k + (4 * i : Nat) + 4 := by omega
    have hK0 : 1 ≤ k + (4 * i : Nat) := by omega
    have hK1 : k + (4 * i : Nat) + 4 ≤ 50000000 := by omega
    generalize hK : k + (4 * i : Nat) = K at hfin hK0 hK1 hKe ⊢
    have hw1 : IntKind.wrap .i64 (K + 1) = (K + 1) := wrap_ok (by omega) (by omega)
    have hw2 : IntKind.wrap .i64 ((K + 1) + 1) = ((K + 1) + 1) := wrap_ok (by omega) (by omega)
    have hw3 : IntKind.wrap .i64 (((K + 1) + 1) + 1) = (((K + 1) + 1) + 1) := wrap_ok (by omega) (by omega)
    have hw4 : IntKind.wrap .i64 ((((K + 1) + 1) + 1) + 1) = ((((K + 1) + 1) + 1) + 1) := wrap_ok (by omega) (by omega)
    have ht0 := mark_text K (by first | omega | (simp only [hw1, hw2, hw3, hw4]; omega)) (by first | omega | (simp only [hw1, hw2, hw3, hw4]; omega))
    have ht1 := mark_text (IntKind.wrap .i64 (K + 1)) (by first | omega | (simp only [hw1, hw2, hw3, hw4]; omega)) (by first | omega | (simp only [hw1, hw2, hw3, hw4]; omega))
    conv => whnf
    repeat' (first | (refine z_st1 ?_; first | (refine z_st rfl rfl rfl (by first | (simp only [List.length_set]; assumption) | assumption | omega) (by first | exact elt_set (by first | assumption | (simp only [List.length_set]; assumption)) | assumption) rfl rfl ?_; conv => whnf) | (refine z_st0 ?_; conv => whnf)) | (refine z_ix1 ?_; first | (refine z_ix rfl rfl rfl rfl rfl ⟨by first | omega | (simp only [decide_eq_true_eq, Bool.not_eq_true', Bool.or_eq_false_iff, decide_eq_false_iff_not, Bool.and_eq_true, Bool.not_eq_false'] at *; omega), by first | omega | (simp only [decide_eq_true_eq, Bool.not_eq_true', Bool.or_eq_false_iff, decide_eq_false_iff_not, Bool.and_eq_true, Bool.not_eq_false'] at *; omega)⟩ ?_; conv => whnf) | (refine z_ix0 rfl rfl ?_; conv => whnf)) | (refine z_op ?_ ?_; (focus exact rfl); conv => whnf) | (refine zs_ops ?_ ?_; (focus exact rfl)) | (refine z_nil fun vals => ?_; conv => whnf) | (refine z_call ?_ ?_; (focus exact rfl)) | (refine RC.of (ht0) ?_ ?_; (focus exact rfl); conv => whnf) | (refine RC.of (ht1) ?_ ?_; (focus exact rfl); conv => whnf) | (refine g_op ?_; conv => whnf) | (refine And.intro ?_ ?_; (focus (first | exact rfl | exact Nat.le_of_ble_eq_true rfl | decide | omega | fail)); conv => whnf) | (refine g_seq ?_) | (refine XS.go ?_) | (refine g_ops ?_) | (refine g_nil ?_; conv => whnf) | (refine g_skip ?_; conv => whnf) | (refine g_block ?_) | fail)
    have hw : IntKind.wrap .i64 ((i : Int) + 1) = ((i + 1 : Nat) : Int) := by rw [wrap_ok (by omega) (by omega)]; rfl
    refine ⟨i + 1, ⟨by omega, rfl⟩, by omega, ?_, ?_⟩
    · repeat' (first | exact True.intro | refine And.intro (congrArg (D.int .i64) hw) ?_ | refine And.intro rfl ?_ | refine And.intro (congrArg (D.int .i64) (by simp only [hw1, hw2, hw3, hw4]; omega)) ?_)
    · refine And.intro ?_ True.intro
      refine congrArg (fun l => some (D.arr 4 l c0)) ?_
      simp only [List.set_set]
      exact hfin _ (by simp only [hw1, hw2, hw3, hw4]; rfl)
  have hi : i = xs.length := by
    have : ¬ i < xs.length := by simpa using hb
    omega
  subst hi
  rw [mkP_all]
  conv => whnf
  repeat' (first | (refine g_op ?_; conv => whnf) | (refine And.intro ?_ ?_; (focus (first | exact rfl | exact Nat.le_of_ble_eq_true rfl | decide | omega | fail)); conv => whnf) | (refine g_seq ?_) | (refine XS.go ?_) | (refine g_ops ?_) | (refine g_nil ?_; conv => whnf) | (refine g_ret ?_; conv => whnf) | (refine g_exit ?_; conv => whnf) | (refine r_t ?_; conv => whnf) | (refine r_nil ?_; conv => whnf) | fail)
  first | exact ⟨rfl, rfl⟩ | exact rfl
set_option maxHeartbeats 8000000 in
theorem held_MateAskS (xs : List MateAsk) (k : Int) (hk : 1 ≤ k) (hl : xs.length ≤ 1048576) (hB : k + (4 * xs.length : Nat) ≤ 50000000) : Rdr Try.prog 90 [.ro 4 ((mkS mk_MateAsk 4 xs k).map MateAsk.D), .int .i64 k] (.int .i64 (k + (4 * xs.length : Nat))) := by
  have hml : (mkS mk_MateAsk 4 xs k).length = xs.length := mkS_len
  refine Rdr.intro' hm c90 (Nat.le_of_ble_eq_true rfl) ?_
  conv => whnf
  repeat' (first | (refine g_op ?_; conv => whnf) | (refine And.intro ?_ ?_; (focus (first | exact rfl | exact Nat.le_of_ble_eq_true rfl | decide | omega | fail)); conv => whnf) | (refine g_seq ?_) | (refine XS.go ?_) | (refine g_ops ?_) | (refine g_loop ?_) | (refine g_nil ?_; conv => whnf) | (refine g_block ?_) | fail)
  refine XLc.mkA (α := Nat) (fun i => i ≤ xs.length) (fun i => xs.length - i) (fun i gs => [.ro 4 ((mkS mk_MateAsk 4 xs k).map MateAsk.D), .int .i64 (k + (4 * i : Nat)), .any, .any, .any, .int .i64 (i : Int)]) (fun i gs => []) 0 (Nat.zero_le _) ?_ ?_
  · refine ⟨?_, True.intro⟩
    · repeat' (first | exact True.intro | refine And.intro rfl ?_ | refine And.intro (congrArg (D.int .i64) (by simp)) ?_)
  intro i gs hi0
  repeat' (first | (refine g_op ?_; conv => whnf) | (refine And.intro ?_ ?_; (focus (first | exact rfl | exact Nat.le_of_ble_eq_true rfl | decide | omega | fail)); conv => whnf) | (refine g_seq ?_) | (refine XS.go ?_) | (refine g_ops ?_) | (refine g_nil ?_; conv => whnf) | (refine g_cond ?_; conv => whnf) | fail)
  refine Br.mk (fun hb => ?_) (fun hb => ?_)
  · have hlt : i < xs.length := by simpa [mkS_len] using hb
    have hel : (mkS mk_MateAsk 4 xs k).getD i default = mk_MateAsk (xs.getD i default) (k + (4 * i : Nat)) := mkS_get default hlt
    have hlt' : i < (mkS mk_MateAsk 4 xs k).length := by rw [hml]; exact hlt
    have hKe : k + (4 * (i + 1) : Nat) = k + (4 * i : Nat) + 4 := by omega
    have hK0 : 1 ≤ k + (4 * i : Nat) := by omega
    have hK1 : k + (4 * i : Nat) + 4 ≤ 50000000 := by omega
    generalize hK : k + (4 * i : Nat) = K at hel hK0 hK1 hKe ⊢
    have hw1 : IntKind.wrap .i64 (K + 1) = (K + 1) := wrap_ok (by omega) (by omega)
    have hw2 : IntKind.wrap .i64 ((K + 1) + 1) = ((K + 1) + 1) := wrap_ok (by omega) (by omega)
    have hw3 : IntKind.wrap .i64 (((K + 1) + 1) + 1) = (((K + 1) + 1) + 1) := wrap_ok (by omega) (by omega)
    have hw4 : IntKind.wrap .i64 ((((K + 1) + 1) + 1) + 1) = ((((K + 1) + 1) + 1) + 1) := wrap_ok (by omega) (by omega)
    have ht0 := mark_text K (by first | omega | (simp only [hw1, hw2, hw3, hw4]; omega)) (by first | omega | (simp only [hw1, hw2, hw3, hw4]; omega))
    have ht1 := mark_text (IntKind.wrap .i64 (K + 1)) (by first | omega | (simp only [hw1, hw2, hw3, hw4]; omega)) (by first | omega | (simp only [hw1, hw2, hw3, hw4]; omega))
    conv => whnf
    repeat' (first | (refine z_ld1 ?_; first | (refine z_ld rfl rfl rfl rfl (by first | (simp only [List.length_set]; assumption) | assumption | omega) (by first | exact elt_set (by first | assumption | (simp only [List.length_set]; assumption)) | assumption) ?_; conv => whnf) | (refine z_ld0 rfl ?_; conv => whnf)) | (refine z_ix1 ?_; first | (refine z_ix rfl rfl rfl rfl rfl ⟨by first | omega | (simp only [decide_eq_true_eq, Bool.not_eq_true', Bool.or_eq_false_iff, decide_eq_false_iff_not, Bool.and_eq_true, Bool.not_eq_false'] at *; omega), by first | omega | (simp only [decide_eq_true_eq, Bool.not_eq_true', Bool.or_eq_false_iff, decide_eq_false_iff_not, Bool.and_eq_true, Bool.not_eq_false'] at *; omega)⟩ ?_; conv => whnf) | (refine z_ix0 rfl rfl ?_; conv => whnf)) | (refine z_op ?_ ?_; (focus exact rfl); conv => whnf) | (refine zs_ops ?_ ?_; (focus exact rfl)) | (refine zs_quiet ?_ ?_; (focus exact rfl)) | (refine z_nil fun vals => ?_; conv => whnf) | (refine z_call ?_ ?_; (focus exact rfl)) | (refine RC.of (ht0) ?_ ?_; (focus exact rfl); conv => whnf) | (refine RC.of (ht1) ?_ ?_; (focus exact rfl); conv => whnf) | (refine g_op ?_; conv => whnf) | (refine And.intro ?_ ?_; (focus (first | exact rfl | exact Nat.le_of_ble_eq_true rfl | decide | omega | fail)); conv => whnf) | (refine g_seq ?_) | (refine XS.go ?_) | (refine g_ops ?_) | (refine g_nil ?_; conv => whnf) | (refine g_cond ?_; conv => whnf) | (refine g_skip ?_; conv => whnf) | (refine g_block ?_) | (refine Br.f (by simp only [Int.toNat_natCast, hel, hw1, hw2, hw3, hw4, mk_MateAsk] <;> simp) ?_; conv => whnf) | fail)
    have hw : IntKind.wrap .i64 ((i : Int) + 1) = ((i + 1 : Nat) : Int) := by rw [wrap_ok (by omega) (by omega)]; rfl
    refine ⟨i + 1, by omega, by omega, ?_, True.intro⟩
    · repeat' (first | exact True.intro | refine And.intro (congrArg (D.int .i64) hw) ?_ | refine And.intro rfl ?_ | refine And.intro (congrArg (D.int .i64) (by simp only [hw1, hw2, hw3, hw4]; omega)) ?_)
  have hi : i = xs.length := by
    have : ¬ i < xs.length := by simpa [mkS_len] using hb
    omega
  subst hi
  conv => whnf
  repeat' (first | (refine g_op ?_; conv => whnf) | (refine And.intro ?_ ?_; (focus (first | exact rfl | exact Nat.le_of_ble_eq_true rfl | decide | omega | fail)); conv => whnf) | (refine g_seq ?_) | (refine XS.go ?_) | (refine g_ops ?_) | (refine g_nil ?_; conv => whnf) | (refine g_ret ?_; conv => whnf) | (refine g_exit ?_; conv => whnf) | (refine r_t ?_; conv => whnf) | (refine r_nil ?_; conv => whnf) | fail)
  rfl
theorem Bor.rowM {α : Type} {st : St} {s b n c es : Nat} {F : α → D} {xs : List α} {cp : Nat} (hl : st.lc s = some (.arr es (xs.map F) cp)) (hb : st.gen s = b) (hn : n = xs.length) (hf : ∀ x, (F x).froz = F x) : Bor st (.lsl s b n c) (.ro es (xs.map F)) := by
  have hn' : n = (xs.map F).length := by rw [List.length_map]; exact hn
  have h := Bor.row (c := c) hl hb hn'
  rw [D.frozs_map hf] at h
  exact h
theorem HolL.ren {U : Nat → Prop} {w : World} : ∀ {ls ls2 : List Loan} {F : List Nat}, ls2.map (·.2) = ls.map (·.2) → HolL U w ls F → HolL U w ls2 F
  | [], [], F, _, h => h
  | l :: ls, l2 :: ls2, F, e, h => by
    simp only [List.map_cons, List.cons.injEq] at e
    obtain ⟨F1, F2, h1, h2, h3⟩ := h
    exact ⟨F1, F2, h1, by rw [e.1]; exact h2, HolL.ren e.2 h3⟩
  | [], _ :: _, _, e, _ => by simp at e
  | _ :: _, [], _, e, _ => by simp at e
theorem HolL.snil {U : Nat → Prop} {w : World} (s b es : Nat) : ∀ {ls : List Loan} {F : List Nat}, HolL U w ls F → HolL U w ((s, b, .arr es [] 0) :: ls) F
  | _, F, h => ⟨[], F, rfl, .inl ⟨rfl, rfl, rfl⟩, h⟩
theorem z_close {P : Program} {q : Bool} {n : Nat} {st : St} {e : List En} {K : St → Prop} {os : List COp} (h : ∀ vals : Nat → D, LZ P q n os (fillS st e vals) [] K) : LZ P q n os st e K := by
  refine ⟨fun fr hI => ?_⟩
  have e1 : fillS st e fr = { st with fr := fr } := by
    unfold fillS
    congr 1
    funext i
    cases hf : En.find e i with
    | none => exact (hI.no i hf).symm
    | some r => rfl
  have := (h fr).start
  rw [e1] at this
  exact this
/-- A contract under other names. -/
theorem XC.ren {P : Program} {f : FuncId} {ds ds2 : List D} {ls ls2 : List Loan} {K K2 : D → List Loan → Prop} (h : XC P f ds ls K)
    (hd : ∀ U w vs, RelT U w ds2 vs → RelT U w ds vs) (hl : ls.map (·.2) = ls2.map (·.2))
    (hk : ∀ d l, K d l → ∃ d2 l2, K2 d2 l2 ∧ (∀ U w F, HolL U w l F → HolL U w l2 F) ∧ ∀ U w v, RelV U w d v → RelV U w d2 v) : XC P f ds2 ls2 K2 := by
  unfold XC at h ⊢
  refine ⟨h.1, fun U w vs F hU hH hn hF hT => (h.2 U w vs F hU (hH.ren hl) hn hF (hd _ _ _ hT)).mono fun e w' ⟨v, d, l, U', F', h1, h2, h3, h4, h5, h6, h7, h8, h9⟩ => ?_⟩
  obtain ⟨d2, l2, k1, k2, k3⟩ := hk d l h9
  exact ⟨v, d2, l2, U', F', h1, k2 _ _ _ h2, h3, h4, k3 _ _ _ h5, h6, h7, h8, k1⟩
theorem nil_ro {U : Nat → Prop} {w : World} {es : Nat} {cs : List Value} (h : RelC U w .nil cs) : RelC U w (.ro es []) cs := by
  simp only [RelC] at h ⊢
  obtain ⟨a, rfl⟩ := h
  exact ⟨a, 0, rfl, Nat.le_refl _, .inl trivial⟩
theorem nil_lsl {U : Nat → Prop} {w : World} {s b : Nat} {cs : List Value} (h : RelC U w .nil cs) : RelC U w (.lsl s b 0 0) cs := by
  simp only [RelC] at h ⊢
  obtain ⟨a, rfl⟩ := h
  exact ⟨a, rfl, Nat.le_refl _, fun h => absurd rfl h⟩
theorem RelF.imp {U : Nat → Prop} {w : World} {d d' : D} {ds ds' : List D} (h1 : ∀ cs, RelC U w d cs → RelC U w d' cs) (h2 : ∀ cs, RelF U w ds cs → RelF U w ds' cs) (cs : List Value) (h : RelF U w (d :: ds) cs) : RelF U w (d' :: ds') cs := by
  simp only [RelF] at h ⊢
  obtain ⟨c1, c2, e, q1, q2⟩ := h
  exact ⟨c1, c2, e, h1 _ q1, h2 _ q2⟩
theorem RelV.aggImp {U : Nat → Prop} {w : World} {fs fs' : List D} (h : ∀ cs, RelF U w fs cs → RelF U w fs' cs) (v : Value) (hv : RelV U w (.agg fs) v) : RelV U w (.agg fs') v := by
  obtain ⟨cs, e, q⟩ := hv
  exact ⟨cs, e, h _ q⟩
/-- An answer under a wider reading. -/
theorem Rdr.imp {P : Program} {f : FuncId} {ds : List D} {d d2 : D} (h : Rdr P f ds d) (hd : ∀ U w v, RelV U w d v → RelV U w d2 v) : Rdr P f ds d2 := by
  unfold Rdr at h ⊢
  exact ⟨h.1, fun U w vs hU hT => (h.2 U w vs hU hT).mono fun e w' ⟨v, h1, h2, h3⟩ => ⟨v, h1, hd _ _ _ h2, h3⟩⟩
theorem HolL.app {U : Nat → Prop} {w : World} {ls2 : List Loan} (h2 : HolL U w ls2 []) : ∀ {ls : List Loan} {F : List Nat}, HolL U w ls F → HolL U w (ls ++ ls2) F
  | [], F, h => by
    have h : F = [] := h
    subst h
    exact h2
  | l :: ls, F, ⟨F1, F2, e, h, hs⟩ => ⟨F1, F2, e, h, HolL.app h2 hs⟩
end Go.Ab
