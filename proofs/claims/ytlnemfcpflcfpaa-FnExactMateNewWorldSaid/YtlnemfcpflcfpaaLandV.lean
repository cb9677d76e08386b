/- Steps towards the law: contracts of functions and facts of lists. -/
import Derived.Test.YtlnemfcpflcfpaaLandU
import Derived.Test.YtlnemfcpflcfpaaLandW
import Derived.Test.YtlnemfcpflcfpaaRows
set_option linter.unusedSimpArgs false
set_option linter.unusedVariables false
namespace Go.Ab
open Go Go.RowKit Go.Proofs
attribute [local irreducible] XC Rdr IntKind.wrap xw xos xqs xr xd
set_option maxRecDepth 100000

/-- laws.markMateWorld -/
def cf43 : CF := ⟨18, [.t 4],
  (.seq (.ops [⟨some 2, .bx (.t 0), none⟩,
    ⟨some 4, .mv (.k (.int .i64 0)), none⟩])
  (.seq (.ops [⟨some 5, .fa 0 3 0 (.t 2), none⟩,
    ⟨some 6, .ld 3 true (.t 5), none⟩,
    ⟨some 7, .mv (.t 1), none⟩,
    ⟨some 8, .call 20 [(.t 6), (.t 7)], none⟩,
    ⟨some 1, .mv (.t 8), none⟩])
  (.seq (.ops [⟨some 9, .fa 3 1 1 (.t 2), none⟩,
    ⟨some 10, .ld 1 false (.t 9), none⟩,
    ⟨some 11, .mv (.t 1), none⟩,
    ⟨some 12, .call 97 [(.t 10), (.t 11)], none⟩,
    ⟨some 1, .mv (.t 12), none⟩])
  (.seq (.ops [⟨some 13, .fa 4 1 2 (.t 2), none⟩,
    ⟨some 14, .ld 1 false (.t 13), none⟩,
    ⟨some 15, .mv (.t 1), none⟩,
    ⟨some 16, .call 42 [(.t 14), (.t 15)], none⟩,
    ⟨some 1, .mv (.t 16), none⟩])
  (.seq (.ops [⟨some 17, .mv (.t 1), none⟩,
    ⟨some 4, .mv (.t 17), none⟩])
  .ret)))))⟩
theorem c43 : compileF Try.prog [] 43 = some cf43 := by kernel_rfl
/-- laws.heldMateWorld -/
def cf44 : CF := ⟨24, [.t 4],
  (.seq (.ops [⟨some 2, .bx (.t 0), none⟩,
    ⟨some 4, .mv (.k (.int .i64 0)), none⟩])
  (.seq (.ops [⟨some 5, .fa 0 3 0 (.t 2), none⟩,
    ⟨some 6, .ld 3 true (.t 5), none⟩,
    ⟨some 7, .mv (.t 1), none⟩,
    ⟨some 8, .call 22 [(.t 6), (.t 7)], none⟩,
    ⟨some 1, .mv (.t 8), none⟩])
  (.seq (.seq (.ops [⟨some 9, .mv (.t 1), none⟩,
    ⟨some 10, .bin .lss (.t 9) (.k (.int .i64 0)), none⟩])
  (.cond (.t 10)
  (.seq (.ops [⟨some 4, .mv (.k (.int .i64 (-1))), none⟩])
  .ret)
  .skip))
  (.seq (.ops [⟨some 11, .fa 3 1 1 (.t 2), none⟩,
    ⟨some 12, .ld 1 false (.t 11), none⟩,
    ⟨some 13, .mv (.t 1), none⟩,
    ⟨some 14, .call 98 [(.t 12), (.t 13)], none⟩,
    ⟨some 1, .mv (.t 14), none⟩])
  (.seq (.seq (.ops [⟨some 15, .mv (.t 1), none⟩,
    ⟨some 16, .bin .lss (.t 15) (.k (.int .i64 0)), none⟩])
  (.cond (.t 16)
  (.seq (.ops [⟨some 4, .mv (.k (.int .i64 (-1))), none⟩])
  .ret)
  .skip))
  (.seq (.ops [⟨some 17, .fa 4 1 2 (.t 2), none⟩,
    ⟨some 18, .ld 1 false (.t 17), none⟩,
    ⟨some 19, .mv (.t 1), none⟩,
    ⟨some 20, .call 99 [(.t 18), (.t 19)], none⟩,
    ⟨some 1, .mv (.t 20), none⟩])
  (.seq (.seq (.ops [⟨some 21, .mv (.t 1), none⟩,
    ⟨some 22, .bin .lss (.t 21) (.k (.int .i64 0)), none⟩])
  (.cond (.t 22)
  (.seq (.ops [⟨some 4, .mv (.k (.int .i64 (-1))), none⟩])
  .ret)
  .skip))
  (.seq (.ops [⟨some 23, .mv (.t 1), none⟩,
    ⟨some 4, .mv (.t 23), none⟩])
  .ret))))))))⟩
theorem c44 : compileF Try.prog [] 44 = some cf44 := by kernel_rfl
/-- laws.markMateS -/
def cf97 : CF := ⟨81, [.t 4],
  (.seq (.ops [⟨some 4, .mv (.k (.int .i64 0)), none⟩])
  (.seq (.seq (.ops [⟨some 5, .mv (.k (.int .i64 0)), none⟩])
  (.block 0 (.loop (.seq (.seq (.ops [⟨some 6, .mv (.t 5), none⟩,
    ⟨some 7, .mv (.t 0), none⟩,
    ⟨some 8, .lenl (.t 7), none⟩,
    ⟨some 9, .bin .lss (.t 6) (.t 8), none⟩])
  (.cond (.t 9)
  .skip
  (.exit 0)))
  (.seq (.block 1 (.seq (.ops [⟨some 12, .mv (.t 0), none⟩,
    ⟨some 13, .mv (.t 5), none⟩,
    ⟨some 14, .mv (.t 1), none⟩,
    ⟨some 15, .call 76 [(.t 14)], none⟩,
    ⟨some 16, .ix 9 (.t 12) (.t 13), none⟩,
    ⟨some 17, .fa 0 1 0 (.t 16), none⟩,
    ⟨none, .st 1 (.t 17) (.t 15), none⟩])
  (.seq (.ops [⟨some 18, .mv (.t 1), none⟩,
    ⟨some 19, .bin .add (.t 18) (.k (.int .i64 1)), none⟩,
    ⟨some 1, .mv (.t 19), none⟩])
  (.seq (.ops [⟨some 20, .mv (.t 0), none⟩,
    ⟨some 21, .mv (.t 5), none⟩,
    ⟨some 22, .mv (.t 1), none⟩,
    ⟨some 23, .bin .rem (.t 22) (.k (.int .i64 3)), none⟩,
    ⟨some 24, .bin .eql (.t 23) (.k (.int .i64 0)), none⟩,
    ⟨some 25, .ix 9 (.t 20) (.t 21), none⟩,
    ⟨some 26, .fa 1 1 1 (.t 25), none⟩,
    ⟨none, .st 1 (.t 26) (.t 24), none⟩])
  (.seq (.ops [⟨some 27, .mv (.t 1), none⟩,
    ⟨some 28, .bin .add (.t 27) (.k (.int .i64 1)), none⟩,
    ⟨some 1, .mv (.t 28), none⟩])
  (.seq (.ops [⟨some 29, .mv (.t 0), none⟩,
    ⟨some 30, .mv (.t 5), none⟩,
    ⟨some 31, .mv (.t 1), none⟩,
    ⟨some 32, .ix 9 (.t 29) (.t 30), none⟩,
    ⟨some 33, .fa 2 1 2 (.t 32), none⟩,
    ⟨none, .st 1 (.t 33) (.t 31), none⟩])
  (.seq (.ops [⟨some 34, .mv (.t 1), none⟩,
    ⟨some 35, .bin .add (.t 34) (.k (.int .i64 1)), none⟩,
    ⟨some 1, .mv (.t 35), none⟩])
  (.seq (.ops [⟨some 36, .mv (.t 0), none⟩,
    ⟨some 37, .mv (.t 5), none⟩,
    ⟨some 38, .mv (.t 1), none⟩,
    ⟨some 39, .bin .rem (.t 38) (.k (.int .i64 3)), none⟩,
    ⟨some 40, .bin .eql (.t 39) (.k (.int .i64 0)), none⟩,
    ⟨some 41, .ix 9 (.t 36) (.t 37), none⟩,
    ⟨some 42, .fa 3 1 3 (.t 41), none⟩,
    ⟨none, .st 1 (.t 42) (.t 40), none⟩])
  (.seq (.ops [⟨some 43, .mv (.t 1), none⟩,
    ⟨some 44, .bin .add (.t 43) (.k (.int .i64 1)), none⟩,
    ⟨some 1, .mv (.t 44), none⟩])
  (.seq (.ops [⟨some 45, .mv (.t 0), none⟩,
    ⟨some 46, .mv (.t 5), none⟩,
    ⟨some 47, .mv (.t 1), none⟩,
    ⟨some 48, .ix 9 (.t 45) (.t 46), none⟩,
    ⟨some 49, .fa 4 1 4 (.t 48), none⟩,
    ⟨none, .st 1 (.t 49) (.t 47), none⟩])
  (.seq (.ops [⟨some 50, .mv (.t 1), none⟩,
    ⟨some 51, .bin .add (.t 50) (.k (.int .i64 1)), none⟩,
    ⟨some 1, .mv (.t 51), none⟩])
  (.seq (.ops [⟨some 52, .mv (.t 0), none⟩,
    ⟨some 53, .mv (.t 5), none⟩,
    ⟨some 54, .ix 9 (.t 52) (.t 53), none⟩,
    ⟨some 55, .fa 5 1 5 (.t 54), none⟩,
    ⟨some 56, .ld 1 false (.t 55), none⟩,
    ⟨some 57, .mv (.t 1), none⟩,
    ⟨some 58, .call 29 [(.t 56), (.t 57)], none⟩,
    ⟨some 1, .mv (.t 58), none⟩])
  (.seq (.ops [⟨some 59, .mv (.t 0), none⟩,
    ⟨some 60, .mv (.t 5), none⟩,
    ⟨some 61, .ix 9 (.t 59) (.t 60), none⟩,
    ⟨some 62, .fa 6 1 6 (.t 61), none⟩,
    ⟨some 63, .ld 1 false (.t 62), none⟩,
    ⟨some 64, .mv (.t 1), none⟩,
    ⟨some 65, .call 135 [(.t 63), (.t 64)], none⟩,
    ⟨some 1, .mv (.t 65), none⟩])
  (.seq (.ops [⟨some 66, .mv (.t 0), none⟩,
    ⟨some 67, .mv (.t 5), none⟩,
    ⟨some 68, .ix 9 (.t 66) (.t 67), none⟩,
    ⟨some 69, .fa 7 1 7 (.t 68), none⟩,
    ⟨some 70, .ld 1 false (.t 69), none⟩,
    ⟨some 71, .mv (.t 1), none⟩,
    ⟨some 72, .call 136 [(.t 70), (.t 71)], none⟩,
    ⟨some 1, .mv (.t 72), none⟩])
  (.ops [⟨some 73, .mv (.t 0), none⟩,
    ⟨some 74, .mv (.t 5), none⟩,
    ⟨some 75, .ix 9 (.t 73) (.t 74), none⟩,
    ⟨some 76, .fa 8 1 8 (.t 75), none⟩,
    ⟨some 77, .ld 1 false (.t 76), none⟩,
    ⟨some 78, .mv (.t 1), none⟩,
    ⟨some 79, .call 136 [(.t 77), (.t 78)], none⟩,
    ⟨some 1, .mv (.t 79), none⟩])))))))))))))))
  (.ops [⟨some 10, .mv (.t 5), none⟩,
    ⟨some 11, .bin .add (.t 10) (.k (.int .i64 1)), none⟩,
    ⟨some 5, .mv (.t 11), none⟩]))))))
  (.seq (.ops [⟨some 80, .mv (.t 1), none⟩,
    ⟨some 4, .mv (.t 80), none⟩])
  .ret)))⟩
theorem c97 : compileF Try.prog [] 97 = some cf97 := by kernel_rfl
/-- laws.heldMateS -/
def cf98 : CF := ⟨99, [.t 4],
  (.seq (.ops [⟨some 4, .mv (.k (.int .i64 0)), none⟩])
  (.seq (.seq (.ops [⟨some 5, .mv (.k (.int .i64 0)), none⟩])
  (.block 0 (.loop (.seq (.seq (.ops [⟨some 6, .mv (.t 5), none⟩,
    ⟨some 7, .mv (.t 0), none⟩,
    ⟨some 8, .lenl (.t 7), none⟩,
    ⟨some 9, .bin .lss (.t 6) (.t 8), none⟩])
  (.cond (.t 9)
  .skip
  (.exit 0)))
  (.seq (.block 1 (.seq (.seq (.quiet [⟨some 12, .mv (.t 0), none⟩,
    ⟨some 13, .mv (.t 5), none⟩,
    ⟨some 14, .ix 9 (.t 12) (.t 13), none⟩,
    ⟨some 15, .fa 0 1 0 (.t 14), none⟩,
    ⟨some 16, .ld 1 false (.t 15), none⟩,
    ⟨some 17, .mv (.t 1), none⟩,
    ⟨some 18, .call 76 [(.t 17)], none⟩,
    ⟨some 19, .bin .neq (.t 16) (.t 18), none⟩])
  (.cond (.t 19)
  (.seq (.ops [⟨some 4, .mv (.k (.int .i64 (-1))), none⟩])
  .ret)
  .skip))
  (.seq (.ops [⟨some 20, .mv (.t 1), none⟩,
    ⟨some 21, .bin .add (.t 20) (.k (.int .i64 1)), none⟩,
    ⟨some 1, .mv (.t 21), none⟩])
  (.seq (.seq (.ops [⟨some 22, .mv (.t 0), none⟩,
    ⟨some 23, .mv (.t 5), none⟩,
    ⟨some 24, .ix 9 (.t 22) (.t 23), none⟩,
    ⟨some 25, .fa 1 1 1 (.t 24), none⟩,
    ⟨some 26, .ld 1 false (.t 25), none⟩,
    ⟨some 27, .mv (.t 1), none⟩,
    ⟨some 28, .bin .rem (.t 27) (.k (.int .i64 3)), none⟩,
    ⟨some 29, .bin .eql (.t 28) (.k (.int .i64 0)), none⟩,
    ⟨some 30, .binb true (.t 26) (.t 29), none⟩])
  (.cond (.t 30)
  (.seq (.ops [⟨some 4, .mv (.k (.int .i64 (-1))), none⟩])
  .ret)
  .skip))
  (.seq (.ops [⟨some 31, .mv (.t 1), none⟩,
    ⟨some 32, .bin .add (.t 31) (.k (.int .i64 1)), none⟩,
    ⟨some 1, .mv (.t 32), none⟩])
  (.seq (.seq (.ops [⟨some 33, .mv (.t 0), none⟩,
    ⟨some 34, .mv (.t 5), none⟩,
    ⟨some 35, .ix 9 (.t 33) (.t 34), none⟩,
    ⟨some 36, .fa 2 1 2 (.t 35), none⟩,
    ⟨some 37, .ld 1 false (.t 36), none⟩,
    ⟨some 38, .mv (.t 1), none⟩,
    ⟨some 39, .bin .neq (.t 37) (.t 38), none⟩])
  (.cond (.t 39)
  (.seq (.ops [⟨some 4, .mv (.k (.int .i64 (-1))), none⟩])
  .ret)
  .skip))
  (.seq (.ops [⟨some 40, .mv (.t 1), none⟩,
    ⟨some 41, .bin .add (.t 40) (.k (.int .i64 1)), none⟩,
    ⟨some 1, .mv (.t 41), none⟩])
  (.seq (.seq (.ops [⟨some 42, .mv (.t 0), none⟩,
    ⟨some 43, .mv (.t 5), none⟩,
    ⟨some 44, .ix 9 (.t 42) (.t 43), none⟩,
    ⟨some 45, .fa 3 1 3 (.t 44), none⟩,
    ⟨some 46, .ld 1 false (.t 45), none⟩,
    ⟨some 47, .mv (.t 1), none⟩,
    ⟨some 48, .bin .rem (.t 47) (.k (.int .i64 3)), none⟩,
    ⟨some 49, .bin .eql (.t 48) (.k (.int .i64 0)), none⟩,
    ⟨some 50, .binb true (.t 46) (.t 49), none⟩])
  (.cond (.t 50)
  (.seq (.ops [⟨some 4, .mv (.k (.int .i64 (-1))), none⟩])
  .ret)
  .skip))
  (.seq (.ops [⟨some 51, .mv (.t 1), none⟩,
    ⟨some 52, .bin .add (.t 51) (.k (.int .i64 1)), none⟩,
    ⟨some 1, .mv (.t 52), none⟩])
  (.seq (.seq (.ops [⟨some 53, .mv (.t 0), none⟩,
    ⟨some 54, .mv (.t 5), none⟩,
    ⟨some 55, .ix 9 (.t 53) (.t 54), none⟩,
    ⟨some 56, .fa 4 1 4 (.t 55), none⟩,
    ⟨some 57, .ld 1 false (.t 56), none⟩,
    ⟨some 58, .mv (.t 1), none⟩,
    ⟨some 59, .bin .neq (.t 57) (.t 58), none⟩])
  (.cond (.t 59)
  (.seq (.ops [⟨some 4, .mv (.k (.int .i64 (-1))), none⟩])
  .ret)
  .skip))
  (.seq (.ops [⟨some 60, .mv (.t 1), none⟩,
    ⟨some 61, .bin .add (.t 60) (.k (.int .i64 1)), none⟩,
    ⟨some 1, .mv (.t 61), none⟩])
  (.seq (.ops [⟨some 62, .mv (.t 0), none⟩,
    ⟨some 63, .mv (.t 5), none⟩,
    ⟨some 64, .ix 9 (.t 62) (.t 63), none⟩,
    ⟨some 65, .fa 5 1 5 (.t 64), none⟩,
    ⟨some 66, .ld 1 false (.t 65), none⟩,
    ⟨some 67, .mv (.t 1), none⟩,
    ⟨some 68, .call 79 [(.t 66), (.t 67)], none⟩,
    ⟨some 1, .mv (.t 68), none⟩])
  (.seq (.seq (.ops [⟨some 69, .mv (.t 1), none⟩,
    ⟨some 70, .bin .lss (.t 69) (.k (.int .i64 0)), none⟩])
  (.cond (.t 70)
  (.seq (.ops [⟨some 4, .mv (.k (.int .i64 (-1))), none⟩])
  .ret)
  .skip))
  (.seq (.ops [⟨some 71, .mv (.t 0), none⟩,
    ⟨some 72, .mv (.t 5), none⟩,
    ⟨some 73, .ix 9 (.t 71) (.t 72), none⟩,
    ⟨some 74, .fa 6 1 6 (.t 73), none⟩,
    ⟨some 75, .ld 1 false (.t 74), none⟩,
    ⟨some 76, .mv (.t 1), none⟩,
    ⟨some 77, .call 137 [(.t 75), (.t 76)], none⟩,
    ⟨some 1, .mv (.t 77), none⟩])
  (.seq (.seq (.ops [⟨some 78, .mv (.t 1), none⟩,
    ⟨some 79, .bin .lss (.t 78) (.k (.int .i64 0)), none⟩])
  (.cond (.t 79)
  (.seq (.ops [⟨some 4, .mv (.k (.int .i64 (-1))), none⟩])
  .ret)
  .skip))
  (.seq (.ops [⟨some 80, .mv (.t 0), none⟩,
    ⟨some 81, .mv (.t 5), none⟩,
    ⟨some 82, .ix 9 (.t 80) (.t 81), none⟩,
    ⟨some 83, .fa 7 1 7 (.t 82), none⟩,
    ⟨some 84, .ld 1 false (.t 83), none⟩,
    ⟨some 85, .mv (.t 1), none⟩,
    ⟨some 86, .call 138 [(.t 84), (.t 85)], none⟩,
    ⟨some 1, .mv (.t 86), none⟩])
  (.seq (.seq (.ops [⟨some 87, .mv (.t 1), none⟩,
    ⟨some 88, .bin .lss (.t 87) (.k (.int .i64 0)), none⟩])
  (.cond (.t 88)
  (.seq (.ops [⟨some 4, .mv (.k (.int .i64 (-1))), none⟩])
  .ret)
  .skip))
  (.seq (.ops [⟨some 89, .mv (.t 0), none⟩,
    ⟨some 90, .mv (.t 5), none⟩,
    ⟨some 91, .ix 9 (.t 89) (.t 90), none⟩,
    ⟨some 92, .fa 8 1 8 (.t 91), none⟩,
    ⟨some 93, .ld 1 false (.t 92), none⟩,
    ⟨some 94, .mv (.t 1), none⟩,
    ⟨some 95, .call 138 [(.t 93), (.t 94)], none⟩,
    ⟨some 1, .mv (.t 95), none⟩])
  (.seq (.ops [⟨some 96, .mv (.t 1), none⟩,
    ⟨some 97, .bin .lss (.t 96) (.k (.int .i64 0)), none⟩])
  (.cond (.t 97)
  (.seq (.ops [⟨some 4, .mv (.k (.int .i64 (-1))), none⟩])
  .ret)
  .skip))))))))))))))))))))
  (.ops [⟨some 10, .mv (.t 5), none⟩,
    ⟨some 11, .bin .add (.t 10) (.k (.int .i64 1)), none⟩,
    ⟨some 5, .mv (.t 11), none⟩]))))))
  (.seq (.ops [⟨some 98, .mv (.t 1), none⟩,
    ⟨some 4, .mv (.t 98), none⟩])
  .ret)))⟩
theorem c98 : compileF Try.prog [] 98 = some cf98 := by kernel_rfl
/-- laws.markMateLand -/
def cf20 : CF := ⟨14, [.t 4],
  (.seq (.ops [⟨some 2, .bx (.t 0), none⟩,
    ⟨some 4, .mv (.k (.int .i64 0)), none⟩])
  (.seq (.ops [⟨some 5, .fa 1 1 1 (.t 2), none⟩,
    ⟨some 6, .ld 1 false (.t 5), none⟩,
    ⟨some 7, .mv (.t 1), none⟩,
    ⟨some 8, .call 74 [(.t 6), (.t 7)], none⟩,
    ⟨some 1, .mv (.t 8), none⟩])
  (.seq (.ops [⟨some 9, .fa 2 1 2 (.t 2), none⟩,
    ⟨some 10, .ld 1 false (.t 9), none⟩,
    ⟨some 11, .mv (.t 1), none⟩,
    ⟨some 12, .call 75 [(.t 10), (.t 11)], none⟩,
    ⟨some 1, .mv (.t 12), none⟩])
  (.seq (.ops [⟨some 13, .mv (.t 1), none⟩,
    ⟨some 4, .mv (.t 13), none⟩])
  .ret))))⟩
theorem c20 : compileF Try.prog [] 20 = some cf20 := by kernel_rfl
/-- laws.heldMateLand -/
def cf22 : CF := ⟨18, [.t 4],
  (.seq (.ops [⟨some 2, .bx (.t 0), none⟩,
    ⟨some 4, .mv (.k (.int .i64 0)), none⟩])
  (.seq (.ops [⟨some 5, .fa 1 1 1 (.t 2), none⟩,
    ⟨some 6, .ld 1 false (.t 5), none⟩,
    ⟨some 7, .mv (.t 1), none⟩,
    ⟨some 8, .call 77 [(.t 6), (.t 7)], none⟩,
    ⟨some 1, .mv (.t 8), none⟩])
  (.seq (.seq (.ops [⟨some 9, .mv (.t 1), none⟩,
    ⟨some 10, .bin .lss (.t 9) (.k (.int .i64 0)), none⟩])
  (.cond (.t 10)
  (.seq (.ops [⟨some 4, .mv (.k (.int .i64 (-1))), none⟩])
  .ret)
  .skip))
  (.seq (.ops [⟨some 11, .fa 2 1 2 (.t 2), none⟩,
    ⟨some 12, .ld 1 false (.t 11), none⟩,
    ⟨some 13, .mv (.t 1), none⟩,
    ⟨some 14, .call 78 [(.t 12), (.t 13)], none⟩,
    ⟨some 1, .mv (.t 14), none⟩])
  (.seq (.seq (.ops [⟨some 15, .mv (.t 1), none⟩,
    ⟨some 16, .bin .lss (.t 15) (.k (.int .i64 0)), none⟩])
  (.cond (.t 16)
  (.seq (.ops [⟨some 4, .mv (.k (.int .i64 (-1))), none⟩])
  .ret)
  .skip))
  (.seq (.ops [⟨some 17, .mv (.t 1), none⟩,
    ⟨some 4, .mv (.t 17), none⟩])
  .ret))))))⟩
theorem c22 : compileF Try.prog [] 22 = some cf22 := by kernel_rfl
/-- laws.markMateWantS -/
def cf29 : CF := ⟨64, [.t 4],
  (.seq (.ops [⟨some 4, .mv (.k (.int .i64 0)), none⟩])
  (.seq (.seq (.ops [⟨some 5, .mv (.k (.int .i64 0)), none⟩])
  (.block 0 (.loop (.seq (.seq (.ops [⟨some 6, .mv (.t 5), none⟩,
    ⟨some 7, .mv (.t 0), none⟩,
    ⟨some 8, .lenl (.t 7), none⟩,
    ⟨some 9, .bin .lss (.t 6) (.t 8), none⟩])
  (.cond (.t 9)
  .skip
  (.exit 0)))
  (.seq (.block 1 (.seq (.ops [⟨some 12, .mv (.t 0), none⟩,
    ⟨some 13, .mv (.t 5), none⟩,
    ⟨some 14, .mv (.t 1), none⟩,
    ⟨some 15, .call 76 [(.t 14)], none⟩,
    ⟨some 16, .ix 7 (.t 12) (.t 13), none⟩,
    ⟨some 17, .fa 0 1 0 (.t 16), none⟩,
    ⟨none, .st 1 (.t 17) (.t 15), none⟩])
  (.seq (.ops [⟨some 18, .mv (.t 1), none⟩,
    ⟨some 19, .bin .add (.t 18) (.k (.int .i64 1)), none⟩,
    ⟨some 1, .mv (.t 19), none⟩])
  (.seq (.ops [⟨some 20, .mv (.t 0), none⟩,
    ⟨some 21, .mv (.t 5), none⟩,
    ⟨some 22, .mv (.t 1), none⟩,
    ⟨some 23, .ix 7 (.t 20) (.t 21), none⟩,
    ⟨some 24, .fa 1 1 1 (.t 23), none⟩,
    ⟨none, .st 1 (.t 24) (.t 22), none⟩])
  (.seq (.ops [⟨some 25, .mv (.t 1), none⟩,
    ⟨some 26, .bin .add (.t 25) (.k (.int .i64 1)), none⟩,
    ⟨some 1, .mv (.t 26), none⟩])
  (.seq (.ops [⟨some 27, .mv (.t 0), none⟩,
    ⟨some 28, .mv (.t 5), none⟩,
    ⟨some 29, .mv (.t 1), none⟩,
    ⟨some 30, .call 76 [(.t 29)], none⟩,
    ⟨some 31, .ix 7 (.t 27) (.t 28), none⟩,
    ⟨some 32, .fa 2 1 2 (.t 31), none⟩,
    ⟨none, .st 1 (.t 32) (.t 30), none⟩])
  (.seq (.ops [⟨some 33, .mv (.t 1), none⟩,
    ⟨some 34, .bin .add (.t 33) (.k (.int .i64 1)), none⟩,
    ⟨some 1, .mv (.t 34), none⟩])
  (.seq (.ops [⟨some 35, .mv (.t 0), none⟩,
    ⟨some 36, .mv (.t 5), none⟩,
    ⟨some 37, .mv (.t 1), none⟩,
    ⟨some 38, .ix 7 (.t 35) (.t 36), none⟩,
    ⟨some 39, .fa 3 1 3 (.t 38), none⟩,
    ⟨none, .st 1 (.t 39) (.t 37), none⟩])
  (.seq (.ops [⟨some 40, .mv (.t 1), none⟩,
    ⟨some 41, .bin .add (.t 40) (.k (.int .i64 1)), none⟩,
    ⟨some 1, .mv (.t 41), none⟩])
  (.seq (.ops [⟨some 42, .mv (.t 0), none⟩,
    ⟨some 43, .mv (.t 5), none⟩,
    ⟨some 44, .mv (.t 1), none⟩,
    ⟨some 45, .ix 7 (.t 42) (.t 43), none⟩,
    ⟨some 46, .fa 4 1 4 (.t 45), none⟩,
    ⟨none, .st 1 (.t 46) (.t 44), none⟩])
  (.seq (.ops [⟨some 47, .mv (.t 1), none⟩,
    ⟨some 48, .bin .add (.t 47) (.k (.int .i64 1)), none⟩,
    ⟨some 1, .mv (.t 48), none⟩])
  (.seq (.ops [⟨some 49, .mv (.t 0), none⟩,
    ⟨some 50, .mv (.t 5), none⟩,
    ⟨some 51, .mv (.t 1), none⟩,
    ⟨some 52, .ix 7 (.t 49) (.t 50), none⟩,
    ⟨some 53, .fa 5 1 5 (.t 52), none⟩,
    ⟨none, .st 1 (.t 53) (.t 51), none⟩])
  (.seq (.ops [⟨some 54, .mv (.t 1), none⟩,
    ⟨some 55, .bin .add (.t 54) (.k (.int .i64 1)), none⟩,
    ⟨some 1, .mv (.t 55), none⟩])
  (.seq (.ops [⟨some 56, .mv (.t 0), none⟩,
    ⟨some 57, .mv (.t 5), none⟩,
    ⟨some 58, .mv (.t 1), none⟩,
    ⟨some 59, .ix 7 (.t 56) (.t 57), none⟩,
    ⟨some 60, .fa 6 1 6 (.t 59), none⟩,
    ⟨none, .st 1 (.t 60) (.t 58), none⟩])
  (.ops [⟨some 61, .mv (.t 1), none⟩,
    ⟨some 62, .bin .add (.t 61) (.k (.int .i64 1)), none⟩,
    ⟨some 1, .mv (.t 62), none⟩])))))))))))))))
  (.ops [⟨some 10, .mv (.t 5), none⟩,
    ⟨some 11, .bin .add (.t 10) (.k (.int .i64 1)), none⟩,
    ⟨some 5, .mv (.t 11), none⟩]))))))
  (.seq (.ops [⟨some 63, .mv (.t 1), none⟩,
    ⟨some 4, .mv (.t 63), none⟩])
  .ret)))⟩
theorem c29 : compileF Try.prog [] 29 = some cf29 := by kernel_rfl
/-- laws.heldMateWantS -/
def cf79 : CF := ⟨78, [.t 4],
  (.seq (.ops [⟨some 4, .mv (.k (.int .i64 0)), none⟩])
  (.seq (.seq (.ops [⟨some 5, .mv (.k (.int .i64 0)), none⟩])
  (.block 0 (.loop (.seq (.seq (.ops [⟨some 6, .mv (.t 5), none⟩,
    ⟨some 7, .mv (.t 0), none⟩,
    ⟨some 8, .lenl (.t 7), none⟩,
    ⟨some 9, .bin .lss (.t 6) (.t 8), none⟩])
  (.cond (.t 9)
  .skip
  (.exit 0)))
  (.seq (.block 1 (.seq (.seq (.quiet [⟨some 12, .mv (.t 0), none⟩,
    ⟨some 13, .mv (.t 5), none⟩,
    ⟨some 14, .ix 7 (.t 12) (.t 13), none⟩,
    ⟨some 15, .fa 0 1 0 (.t 14), none⟩,
    ⟨some 16, .ld 1 false (.t 15), none⟩,
    ⟨some 17, .mv (.t 1), none⟩,
    ⟨some 18, .call 76 [(.t 17)], none⟩,
    ⟨some 19, .bin .neq (.t 16) (.t 18), none⟩])
  (.cond (.t 19)
  (.seq (.ops [⟨some 4, .mv (.k (.int .i64 (-1))), none⟩])
  .ret)
  .skip))
  (.seq (.ops [⟨some 20, .mv (.t 1), none⟩,
    ⟨some 21, .bin .add (.t 20) (.k (.int .i64 1)), none⟩,
    ⟨some 1, .mv (.t 21), none⟩])
  (.seq (.seq (.ops [⟨some 22, .mv (.t 0), none⟩,
    ⟨some 23, .mv (.t 5), none⟩,
    ⟨some 24, .ix 7 (.t 22) (.t 23), none⟩,
    ⟨some 25, .fa 1 1 1 (.t 24), none⟩,
    ⟨some 26, .ld 1 false (.t 25), none⟩,
    ⟨some 27, .mv (.t 1), none⟩,
    ⟨some 28, .bin .neq (.t 26) (.t 27), none⟩])
  (.cond (.t 28)
  (.seq (.ops [⟨some 4, .mv (.k (.int .i64 (-1))), none⟩])
  .ret)
  .skip))
  (.seq (.ops [⟨some 29, .mv (.t 1), none⟩,
    ⟨some 30, .bin .add (.t 29) (.k (.int .i64 1)), none⟩,
    ⟨some 1, .mv (.t 30), none⟩])
  (.seq (.seq (.quiet [⟨some 31, .mv (.t 0), none⟩,
    ⟨some 32, .mv (.t 5), none⟩,
    ⟨some 33, .ix 7 (.t 31) (.t 32), none⟩,
    ⟨some 34, .fa 2 1 2 (.t 33), none⟩,
    ⟨some 35, .ld 1 false (.t 34), none⟩,
    ⟨some 36, .mv (.t 1), none⟩,
    ⟨some 37, .call 76 [(.t 36)], none⟩,
    ⟨some 38, .bin .neq (.t 35) (.t 37), none⟩])
  (.cond (.t 38)
  (.seq (.ops [⟨some 4, .mv (.k (.int .i64 (-1))), none⟩])
  .ret)
  .skip))
  (.seq (.ops [⟨some 39, .mv (.t 1), none⟩,
    ⟨some 40, .bin .add (.t 39) (.k (.int .i64 1)), none⟩,
    ⟨some 1, .mv (.t 40), none⟩])
  (.seq (.seq (.ops [⟨some 41, .mv (.t 0), none⟩,
    ⟨some 42, .mv (.t 5), none⟩,
    ⟨some 43, .ix 7 (.t 41) (.t 42), none⟩,
    ⟨some 44, .fa 3 1 3 (.t 43), none⟩,
    ⟨some 45, .ld 1 false (.t 44), none⟩,
    ⟨some 46, .mv (.t 1), none⟩,
    ⟨some 47, .bin .neq (.t 45) (.t 46), none⟩])
  (.cond (.t 47)
  (.seq (.ops [⟨some 4, .mv (.k (.int .i64 (-1))), none⟩])
  .ret)
  .skip))
  (.seq (.ops [⟨some 48, .mv (.t 1), none⟩,
    ⟨some 49, .bin .add (.t 48) (.k (.int .i64 1)), none⟩,
    ⟨some 1, .mv (.t 49), none⟩])
  (.seq (.seq (.ops [⟨some 50, .mv (.t 0), none⟩,
    ⟨some 51, .mv (.t 5), none⟩,
    ⟨some 52, .ix 7 (.t 50) (.t 51), none⟩,
    ⟨some 53, .fa 4 1 4 (.t 52), none⟩,
    ⟨some 54, .ld 1 false (.t 53), none⟩,
    ⟨some 55, .mv (.t 1), none⟩,
    ⟨some 56, .bin .neq (.t 54) (.t 55), none⟩])
  (.cond (.t 56)
  (.seq (.ops [⟨some 4, .mv (.k (.int .i64 (-1))), none⟩])
  .ret)
  .skip))
  (.seq (.ops [⟨some 57, .mv (.t 1), none⟩,
    ⟨some 58, .bin .add (.t 57) (.k (.int .i64 1)), none⟩,
    ⟨some 1, .mv (.t 58), none⟩])
  (.seq (.seq (.ops [⟨some 59, .mv (.t 0), none⟩,
    ⟨some 60, .mv (.t 5), none⟩,
    ⟨some 61, .ix 7 (.t 59) (.t 60), none⟩,
    ⟨some 62, .fa 5 1 5 (.t 61), none⟩,
    ⟨some 63, .ld 1 false (.t 62), none⟩,
    ⟨some 64, .mv (.t 1), none⟩,
    ⟨some 65, .bin .neq (.t 63) (.t 64), none⟩])
  (.cond (.t 65)
  (.seq (.ops [⟨some 4, .mv (.k (.int .i64 (-1))), none⟩])
  .ret)
  .skip))
  (.seq (.ops [⟨some 66, .mv (.t 1), none⟩,
    ⟨some 67, .bin .add (.t 66) (.k (.int .i64 1)), none⟩,
    ⟨some 1, .mv (.t 67), none⟩])
  (.seq (.seq (.ops [⟨some 68, .mv (.t 0), none⟩,
    ⟨some 69, .mv (.t 5), none⟩,
    ⟨some 70, .ix 7 (.t 68) (.t 69), none⟩,
    ⟨some 71, .fa 6 1 6 (.t 70), none⟩,
    ⟨some 72, .ld 1 false (.t 71), none⟩,
    ⟨some 73, .mv (.t 1), none⟩,
    ⟨some 74, .bin .neq (.t 72) (.t 73), none⟩])
  (.cond (.t 74)
  (.seq (.ops [⟨some 4, .mv (.k (.int .i64 (-1))), none⟩])
  .ret)
  .skip))
  (.ops [⟨some 75, .mv (.t 1), none⟩,
    ⟨some 76, .bin .add (.t 75) (.k (.int .i64 1)), none⟩,
    ⟨some 1, .mv (.t 76), none⟩])))))))))))))))
  (.ops [⟨some 10, .mv (.t 5), none⟩,
    ⟨some 11, .bin .add (.t 10) (.k (.int .i64 1)), none⟩,
    ⟨some 5, .mv (.t 11), none⟩]))))))
  (.seq (.ops [⟨some 77, .mv (.t 1), none⟩,
    ⟨some 4, .mv (.t 77), none⟩])
  .ret)))⟩
theorem c79 : compileF Try.prog [] 79 = some cf79 := by kernel_rfl
/-- laws.markMateRunS -/
def cf135 : CF := ⟨99, [.t 4],
  (.seq (.ops [⟨some 4, .mv (.k (.int .i64 0)), none⟩])
  (.seq (.seq (.ops [⟨some 5, .mv (.k (.int .i64 0)), none⟩])
  (.block 0 (.loop (.seq (.seq (.ops [⟨some 6, .mv (.t 5), none⟩,
    ⟨some 7, .mv (.t 0), none⟩,
    ⟨some 8, .lenl (.t 7), none⟩,
    ⟨some 9, .bin .lss (.t 6) (.t 8), none⟩])
  (.cond (.t 9)
  .skip
  (.exit 0)))
  (.seq (.block 1 (.seq (.ops [⟨some 12, .mv (.t 0), none⟩,
    ⟨some 13, .mv (.t 5), none⟩,
    ⟨some 14, .mv (.t 1), none⟩,
    ⟨some 15, .call 76 [(.t 14)], none⟩,
    ⟨some 16, .ix 11 (.t 12) (.t 13), none⟩,
    ⟨some 17, .fa 0 7 0 (.t 16), none⟩,
    ⟨some 18, .fa 0 1 0 (.t 17), none⟩,
    ⟨none, .st 1 (.t 18) (.t 15), none⟩])
  (.seq (.ops [⟨some 19, .mv (.t 1), none⟩,
    ⟨some 20, .bin .add (.t 19) (.k (.int .i64 1)), none⟩,
    ⟨some 1, .mv (.t 20), none⟩])
  (.seq (.ops [⟨some 21, .mv (.t 0), none⟩,
    ⟨some 22, .mv (.t 5), none⟩,
    ⟨some 23, .mv (.t 1), none⟩,
    ⟨some 24, .ix 11 (.t 21) (.t 22), none⟩,
    ⟨some 25, .fa 0 7 0 (.t 24), none⟩,
    ⟨some 26, .fa 1 1 1 (.t 25), none⟩,
    ⟨none, .st 1 (.t 26) (.t 23), none⟩])
  (.seq (.ops [⟨some 27, .mv (.t 1), none⟩,
    ⟨some 28, .bin .add (.t 27) (.k (.int .i64 1)), none⟩,
    ⟨some 1, .mv (.t 28), none⟩])
  (.seq (.ops [⟨some 29, .mv (.t 0), none⟩,
    ⟨some 30, .mv (.t 5), none⟩,
    ⟨some 31, .mv (.t 1), none⟩,
    ⟨some 32, .call 76 [(.t 31)], none⟩,
    ⟨some 33, .ix 11 (.t 29) (.t 30), none⟩,
    ⟨some 34, .fa 0 7 0 (.t 33), none⟩,
    ⟨some 35, .fa 2 1 2 (.t 34), none⟩,
    ⟨none, .st 1 (.t 35) (.t 32), none⟩])
  (.seq (.ops [⟨some 36, .mv (.t 1), none⟩,
    ⟨some 37, .bin .add (.t 36) (.k (.int .i64 1)), none⟩,
    ⟨some 1, .mv (.t 37), none⟩])
  (.seq (.ops [⟨some 38, .mv (.t 0), none⟩,
    ⟨some 39, .mv (.t 5), none⟩,
    ⟨some 40, .mv (.t 1), none⟩,
    ⟨some 41, .ix 11 (.t 38) (.t 39), none⟩,
    ⟨some 42, .fa 0 7 0 (.t 41), none⟩,
    ⟨some 43, .fa 3 1 3 (.t 42), none⟩,
    ⟨none, .st 1 (.t 43) (.t 40), none⟩])
  (.seq (.ops [⟨some 44, .mv (.t 1), none⟩,
    ⟨some 45, .bin .add (.t 44) (.k (.int .i64 1)), none⟩,
    ⟨some 1, .mv (.t 45), none⟩])
  (.seq (.ops [⟨some 46, .mv (.t 0), none⟩,
    ⟨some 47, .mv (.t 5), none⟩,
    ⟨some 48, .mv (.t 1), none⟩,
    ⟨some 49, .ix 11 (.t 46) (.t 47), none⟩,
    ⟨some 50, .fa 0 7 0 (.t 49), none⟩,
    ⟨some 51, .fa 4 1 4 (.t 50), none⟩,
    ⟨none, .st 1 (.t 51) (.t 48), none⟩])
  (.seq (.ops [⟨some 52, .mv (.t 1), none⟩,
    ⟨some 53, .bin .add (.t 52) (.k (.int .i64 1)), none⟩,
    ⟨some 1, .mv (.t 53), none⟩])
  (.seq (.ops [⟨some 54, .mv (.t 0), none⟩,
    ⟨some 55, .mv (.t 5), none⟩,
    ⟨some 56, .mv (.t 1), none⟩,
    ⟨some 57, .ix 11 (.t 54) (.t 55), none⟩,
    ⟨some 58, .fa 0 7 0 (.t 57), none⟩,
    ⟨some 59, .fa 5 1 5 (.t 58), none⟩,
    ⟨none, .st 1 (.t 59) (.t 56), none⟩])
  (.seq (.ops [⟨some 60, .mv (.t 1), none⟩,
    ⟨some 61, .bin .add (.t 60) (.k (.int .i64 1)), none⟩,
    ⟨some 1, .mv (.t 61), none⟩])
  (.seq (.ops [⟨some 62, .mv (.t 0), none⟩,
    ⟨some 63, .mv (.t 5), none⟩,
    ⟨some 64, .mv (.t 1), none⟩,
    ⟨some 65, .ix 11 (.t 62) (.t 63), none⟩,
    ⟨some 66, .fa 0 7 0 (.t 65), none⟩,
    ⟨some 67, .fa 6 1 6 (.t 66), none⟩,
    ⟨none, .st 1 (.t 67) (.t 64), none⟩])
  (.seq (.ops [⟨some 68, .mv (.t 1), none⟩,
    ⟨some 69, .bin .add (.t 68) (.k (.int .i64 1)), none⟩,
    ⟨some 1, .mv (.t 69), none⟩])
  (.seq (.ops [⟨some 70, .mv (.t 0), none⟩,
    ⟨some 71, .mv (.t 5), none⟩,
    ⟨some 72, .mv (.t 1), none⟩,
    ⟨some 73, .ix 11 (.t 70) (.t 71), none⟩,
    ⟨some 74, .fa 7 1 1 (.t 73), none⟩,
    ⟨none, .st 1 (.t 74) (.t 72), none⟩])
  (.seq (.ops [⟨some 75, .mv (.t 1), none⟩,
    ⟨some 76, .bin .add (.t 75) (.k (.int .i64 1)), none⟩,
    ⟨some 1, .mv (.t 76), none⟩])
  (.seq (.ops [⟨some 77, .mv (.t 0), none⟩,
    ⟨some 78, .mv (.t 5), none⟩,
    ⟨some 79, .mv (.t 1), none⟩,
    ⟨some 80, .ix 11 (.t 77) (.t 78), none⟩,
    ⟨some 81, .fa 8 1 2 (.t 80), none⟩,
    ⟨none, .st 1 (.t 81) (.t 79), none⟩])
  (.seq (.ops [⟨some 82, .mv (.t 1), none⟩,
    ⟨some 83, .bin .add (.t 82) (.k (.int .i64 1)), none⟩,
    ⟨some 1, .mv (.t 83), none⟩])
  (.seq (.ops [⟨some 84, .mv (.t 0), none⟩,
    ⟨some 85, .mv (.t 5), none⟩,
    ⟨some 86, .mv (.t 1), none⟩,
    ⟨some 87, .ix 11 (.t 84) (.t 85), none⟩,
    ⟨some 88, .fa 9 1 3 (.t 87), none⟩,
    ⟨none, .st 1 (.t 88) (.t 86), none⟩])
  (.seq (.ops [⟨some 89, .mv (.t 1), none⟩,
    ⟨some 90, .bin .add (.t 89) (.k (.int .i64 1)), none⟩,
    ⟨some 1, .mv (.t 90), none⟩])
  (.seq (.ops [⟨some 91, .mv (.t 0), none⟩,
    ⟨some 92, .mv (.t 5), none⟩,
    ⟨some 93, .mv (.t 1), none⟩,
    ⟨some 94, .ix 11 (.t 91) (.t 92), none⟩,
    ⟨some 95, .fa 10 1 4 (.t 94), none⟩,
    ⟨none, .st 1 (.t 95) (.t 93), none⟩])
  (.ops [⟨some 96, .mv (.t 1), none⟩,
    ⟨some 97, .bin .add (.t 96) (.k (.int .i64 1)), none⟩,
    ⟨some 1, .mv (.t 97), none⟩])))))))))))))))))))))))
  (.ops [⟨some 10, .mv (.t 5), none⟩,
    ⟨some 11, .bin .add (.t 10) (.k (.int .i64 1)), none⟩,
    ⟨some 5, .mv (.t 11), none⟩]))))))
  (.seq (.ops [⟨some 98, .mv (.t 1), none⟩,
    ⟨some 4, .mv (.t 98), none⟩])
  .ret)))⟩
theorem c135 : compileF Try.prog [] 135 = some cf135 := by kernel_rfl
/-- laws.heldMateRunS -/
def cf137 : CF := ⟨121, [.t 4],
  (.seq (.ops [⟨some 4, .mv (.k (.int .i64 0)), none⟩])
  (.seq (.seq (.ops [⟨some 5, .mv (.k (.int .i64 0)), none⟩])
  (.block 0 (.loop (.seq (.seq (.ops [⟨some 6, .mv (.t 5), none⟩,
    ⟨some 7, .mv (.t 0), none⟩,
    ⟨some 8, .lenl (.t 7), none⟩,
    ⟨some 9, .bin .lss (.t 6) (.t 8), none⟩])
  (.cond (.t 9)
  .skip
  (.exit 0)))
  (.seq (.block 1 (.seq (.seq (.quiet [⟨some 12, .mv (.t 0), none⟩,
    ⟨some 13, .mv (.t 5), none⟩,
    ⟨some 14, .ix 11 (.t 12) (.t 13), none⟩,
    ⟨some 15, .fa 0 7 0 (.t 14), none⟩,
    ⟨some 16, .fa 0 1 0 (.t 15), none⟩,
    ⟨some 17, .ld 1 false (.t 16), none⟩,
    ⟨some 18, .mv (.t 1), none⟩,
    ⟨some 19, .call 76 [(.t 18)], none⟩,
    ⟨some 20, .bin .neq (.t 17) (.t 19), none⟩])
  (.cond (.t 20)
  (.seq (.ops [⟨some 4, .mv (.k (.int .i64 (-1))), none⟩])
  .ret)
  .skip))
  (.seq (.ops [⟨some 21, .mv (.t 1), none⟩,
    ⟨some 22, .bin .add (.t 21) (.k (.int .i64 1)), none⟩,
    ⟨some 1, .mv (.t 22), none⟩])
  (.seq (.seq (.ops [⟨some 23, .mv (.t 0), none⟩,
    ⟨some 24, .mv (.t 5), none⟩,
    ⟨some 25, .ix 11 (.t 23) (.t 24), none⟩,
    ⟨some 26, .fa 0 7 0 (.t 25), none⟩,
    ⟨some 27, .fa 1 1 1 (.t 26), none⟩,
    ⟨some 28, .ld 1 false (.t 27), none⟩,
    ⟨some 29, .mv (.t 1), none⟩,
    ⟨some 30, .bin .neq (.t 28) (.t 29), none⟩])
  (.cond (.t 30)
  (.seq (.ops [⟨some 4, .mv (.k (.int .i64 (-1))), none⟩])
  .ret)
  .skip))
  (.seq (.ops [⟨some 31, .mv (.t 1), none⟩,
    ⟨some 32, .bin .add (.t 31) (.k (.int .i64 1)), none⟩,
    ⟨some 1, .mv (.t 32), none⟩])
  (.seq (.seq (.quiet [⟨some 33, .mv (.t 0), none⟩,
    ⟨some 34, .mv (.t 5), none⟩,
    ⟨some 35, .ix 11 (.t 33) (.t 34), none⟩,
    ⟨some 36, .fa 0 7 0 (.t 35), none⟩,
    ⟨some 37, .fa 2 1 2 (.t 36), none⟩,
    ⟨some 38, .ld 1 false (.t 37), none⟩,
    ⟨some 39, .mv (.t 1), none⟩,
    ⟨some 40, .call 76 [(.t 39)], none⟩,
    ⟨some 41, .bin .neq (.t 38) (.t 40), none⟩])
  (.cond (.t 41)
  (.seq (.ops [⟨some 4, .mv (.k (.int .i64 (-1))), none⟩])
  .ret)
  .skip))
  (.seq (.ops [⟨some 42, .mv (.t 1), none⟩,
    ⟨some 43, .bin .add (.t 42) (.k (.int .i64 1)), none⟩,
    ⟨some 1, .mv (.t 43), none⟩])
  (.seq (.seq (.ops [⟨some 44, .mv (.t 0), none⟩,
    ⟨some 45, .mv (.t 5), none⟩,
    ⟨some 46, .ix 11 (.t 44) (.t 45), none⟩,
    ⟨some 47, .fa 0 7 0 (.t 46), none⟩,
    ⟨some 48, .fa 3 1 3 (.t 47), none⟩,
    ⟨some 49, .ld 1 false (.t 48), none⟩,
    ⟨some 50, .mv (.t 1), none⟩,
    ⟨some 51, .bin .neq (.t 49) (.t 50), none⟩])
  (.cond (.t 51)
  (.seq (.ops [⟨some 4, .mv (.k (.int .i64 (-1))), none⟩])
  .ret)
  .skip))
  (.seq (.ops [⟨some 52, .mv (.t 1), none⟩,
    ⟨some 53, .bin .add (.t 52) (.k (.int .i64 1)), none⟩,
    ⟨some 1, .mv (.t 53), none⟩])
  (.seq (.seq (.ops [⟨some 54, .mv (.t 0), none⟩,
    ⟨some 55, .mv (.t 5), none⟩,
    ⟨some 56, .ix 11 (.t 54) (.t 55), none⟩,
    ⟨some 57, .fa 0 7 0 (.t 56), none⟩,
    ⟨some 58, .fa 4 1 4 (.t 57), none⟩,
    ⟨some 59, .ld 1 false (.t 58), none⟩,
    ⟨some 60, .mv (.t 1), none⟩,
    ⟨some 61, .bin .neq (.t 59) (.t 60), none⟩])
  (.cond (.t 61)
  (.seq (.ops [⟨some 4, .mv (.k (.int .i64 (-1))), none⟩])
  .ret)
  .skip))
  (.seq (.ops [⟨some 62, .mv (.t 1), none⟩,
    ⟨some 63, .bin .add (.t 62) (.k (.int .i64 1)), none⟩,
    ⟨some 1, .mv (.t 63), none⟩])
  (.seq (.seq (.ops [⟨some 64, .mv (.t 0), none⟩,
    ⟨some 65, .mv (.t 5), none⟩,
    ⟨some 66, .ix 11 (.t 64) (.t 65), none⟩,
    ⟨some 67, .fa 0 7 0 (.t 66), none⟩,
    ⟨some 68, .fa 5 1 5 (.t 67), none⟩,
    ⟨some 69, .ld 1 false (.t 68), none⟩,
    ⟨some 70, .mv (.t 1), none⟩,
    ⟨some 71, .bin .neq (.t 69) (.t 70), none⟩])
  (.cond (.t 71)
  (.seq (.ops [⟨some 4, .mv (.k (.int .i64 (-1))), none⟩])
  .ret)
  .skip))
  (.seq (.ops [⟨some 72, .mv (.t 1), none⟩,
    ⟨some 73, .bin .add (.t 72) (.k (.int .i64 1)), none⟩,
    ⟨some 1, .mv (.t 73), none⟩])
  (.seq (.seq (.ops [⟨some 74, .mv (.t 0), none⟩,
    ⟨some 75, .mv (.t 5), none⟩,
    ⟨some 76, .ix 11 (.t 74) (.t 75), none⟩,
    ⟨some 77, .fa 0 7 0 (.t 76), none⟩,
    ⟨some 78, .fa 6 1 6 (.t 77), none⟩,
    ⟨some 79, .ld 1 false (.t 78), none⟩,
    ⟨some 80, .mv (.t 1), none⟩,
    ⟨some 81, .bin .neq (.t 79) (.t 80), none⟩])
  (.cond (.t 81)
  (.seq (.ops [⟨some 4, .mv (.k (.int .i64 (-1))), none⟩])
  .ret)
  .skip))
  (.seq (.ops [⟨some 82, .mv (.t 1), none⟩,
    ⟨some 83, .bin .add (.t 82) (.k (.int .i64 1)), none⟩,
    ⟨some 1, .mv (.t 83), none⟩])
  (.seq (.seq (.ops [⟨some 84, .mv (.t 0), none⟩,
    ⟨some 85, .mv (.t 5), none⟩,
    ⟨some 86, .ix 11 (.t 84) (.t 85), none⟩,
    ⟨some 87, .fa 7 1 1 (.t 86), none⟩,
    ⟨some 88, .ld 1 false (.t 87), none⟩,
    ⟨some 89, .mv (.t 1), none⟩,
    ⟨some 90, .bin .neq (.t 88) (.t 89), none⟩])
  (.cond (.t 90)
  (.seq (.ops [⟨some 4, .mv (.k (.int .i64 (-1))), none⟩])
  .ret)
  .skip))
  (.seq (.ops [⟨some 91, .mv (.t 1), none⟩,
    ⟨some 92, .bin .add (.t 91) (.k (.int .i64 1)), none⟩,
    ⟨some 1, .mv (.t 92), none⟩])
  (.seq (.seq (.ops [⟨some 93, .mv (.t 0), none⟩,
    ⟨some 94, .mv (.t 5), none⟩,
    ⟨some 95, .ix 11 (.t 93) (.t 94), none⟩,
    ⟨some 96, .fa 8 1 2 (.t 95), none⟩,
    ⟨some 97, .ld 1 false (.t 96), none⟩,
    ⟨some 98, .mv (.t 1), none⟩,
    ⟨some 99, .bin .neq (.t 97) (.t 98), none⟩])
  (.cond (.t 99)
  (.seq (.ops [⟨some 4, .mv (.k (.int .i64 (-1))), none⟩])
  .ret)
  .skip))
  (.seq (.ops [⟨some 100, .mv (.t 1), none⟩,
    ⟨some 101, .bin .add (.t 100) (.k (.int .i64 1)), none⟩,
    ⟨some 1, .mv (.t 101), none⟩])
  (.seq (.seq (.ops [⟨some 102, .mv (.t 0), none⟩,
    ⟨some 103, .mv (.t 5), none⟩,
    ⟨some 104, .ix 11 (.t 102) (.t 103), none⟩,
    ⟨some 105, .fa 9 1 3 (.t 104), none⟩,
    ⟨some 106, .ld 1 false (.t 105), none⟩,
    ⟨some 107, .mv (.t 1), none⟩,
    ⟨some 108, .bin .neq (.t 106) (.t 107), none⟩])
  (.cond (.t 108)
  (.seq (.ops [⟨some 4, .mv (.k (.int .i64 (-1))), none⟩])
  .ret)
  .skip))
  (.seq (.ops [⟨some 109, .mv (.t 1), none⟩,
    ⟨some 110, .bin .add (.t 109) (.k (.int .i64 1)), none⟩,
    ⟨some 1, .mv (.t 110), none⟩])
  (.seq (.seq (.ops [⟨some 111, .mv (.t 0), none⟩,
    ⟨some 112, .mv (.t 5), none⟩,
    ⟨some 113, .ix 11 (.t 111) (.t 112), none⟩,
    ⟨some 114, .fa 10 1 4 (.t 113), none⟩,
    ⟨some 115, .ld 1 false (.t 114), none⟩,
    ⟨some 116, .mv (.t 1), none⟩,
    ⟨some 117, .bin .neq (.t 115) (.t 116), none⟩])
  (.cond (.t 117)
  (.seq (.ops [⟨some 4, .mv (.k (.int .i64 (-1))), none⟩])
  .ret)
  .skip))
  (.ops [⟨some 118, .mv (.t 1), none⟩,
    ⟨some 119, .bin .add (.t 118) (.k (.int .i64 1)), none⟩,
    ⟨some 1, .mv (.t 119), none⟩])))))))))))))))))))))))
  (.ops [⟨some 10, .mv (.t 5), none⟩,
    ⟨some 11, .bin .add (.t 10) (.k (.int .i64 1)), none⟩,
    ⟨some 5, .mv (.t 11), none⟩]))))))
  (.seq (.ops [⟨some 120, .mv (.t 1), none⟩,
    ⟨some 4, .mv (.t 120), none⟩])
  .ret)))⟩
theorem c137 : compileF Try.prog [] 137 = some cf137 := by kernel_rfl
/-- laws.markMateAskS -/
def cf136 : CF := ⟨43, [.t 4],
  (.seq (.ops [⟨some 4, .mv (.k (.int .i64 0)), none⟩])
  (.seq (.seq (.ops [⟨some 5, .mv (.k (.int .i64 0)), none⟩])
  (.block 0 (.loop (.seq (.seq (.ops [⟨some 6, .mv (.t 5), none⟩,
    ⟨some 7, .mv (.t 0), none⟩,
    ⟨some 8, .lenl (.t 7), none⟩,
    ⟨some 9, .bin .lss (.t 6) (.t 8), none⟩])
  (.cond (.t 9)
  .skip
  (.exit 0)))
  (.seq (.block 1 (.seq (.ops [⟨some 12, .mv (.t 0), none⟩,
    ⟨some 13, .mv (.t 5), none⟩,
    ⟨some 14, .mv (.t 1), none⟩,
    ⟨some 15, .call 76 [(.t 14)], none⟩,
    ⟨some 16, .ix 4 (.t 12) (.t 13), none⟩,
    ⟨some 17, .fa 0 1 0 (.t 16), none⟩,
    ⟨none, .st 1 (.t 17) (.t 15), none⟩])
  (.seq (.ops [⟨some 18, .mv (.t 1), none⟩,
    ⟨some 19, .bin .add (.t 18) (.k (.int .i64 1)), none⟩,
    ⟨some 1, .mv (.t 19), none⟩])
  (.seq (.ops [⟨some 20, .mv (.t 0), none⟩,
    ⟨some 21, .mv (.t 5), none⟩,
    ⟨some 22, .mv (.t 1), none⟩,
    ⟨some 23, .call 76 [(.t 22)], none⟩,
    ⟨some 24, .ix 4 (.t 20) (.t 21), none⟩,
    ⟨some 25, .fa 1 1 1 (.t 24), none⟩,
    ⟨none, .st 1 (.t 25) (.t 23), none⟩])
  (.seq (.ops [⟨some 26, .mv (.t 1), none⟩,
    ⟨some 27, .bin .add (.t 26) (.k (.int .i64 1)), none⟩,
    ⟨some 1, .mv (.t 27), none⟩])
  (.seq (.ops [⟨some 28, .mv (.t 0), none⟩,
    ⟨some 29, .mv (.t 5), none⟩,
    ⟨some 30, .mv (.t 1), none⟩,
    ⟨some 31, .ix 4 (.t 28) (.t 29), none⟩,
    ⟨some 32, .fa 2 1 2 (.t 31), none⟩,
    ⟨none, .st 1 (.t 32) (.t 30), none⟩])
  (.seq (.ops [⟨some 33, .mv (.t 1), none⟩,
    ⟨some 34, .bin .add (.t 33) (.k (.int .i64 1)), none⟩,
    ⟨some 1, .mv (.t 34), none⟩])
  (.seq (.ops [⟨some 35, .mv (.t 0), none⟩,
    ⟨some 36, .mv (.t 5), none⟩,
    ⟨some 37, .mv (.t 1), none⟩,
    ⟨some 38, .ix 4 (.t 35) (.t 36), none⟩,
    ⟨some 39, .fa 3 1 3 (.t 38), none⟩,
    ⟨none, .st 1 (.t 39) (.t 37), none⟩])
  (.ops [⟨some 40, .mv (.t 1), none⟩,
    ⟨some 41, .bin .add (.t 40) (.k (.int .i64 1)), none⟩,
    ⟨some 1, .mv (.t 41), none⟩])))))))))
  (.ops [⟨some 10, .mv (.t 5), none⟩,
    ⟨some 11, .bin .add (.t 10) (.k (.int .i64 1)), none⟩,
    ⟨some 5, .mv (.t 11), none⟩]))))))
  (.seq (.ops [⟨some 42, .mv (.t 1), none⟩,
    ⟨some 4, .mv (.t 42), none⟩])
  .ret)))⟩
theorem c136 : compileF Try.prog [] 136 = some cf136 := by kernel_rfl
/-- laws.heldMateAskS -/
def cf138 : CF := ⟨51, [.t 4],
  (.seq (.ops [⟨some 4, .mv (.k (.int .i64 0)), none⟩])
  (.seq (.seq (.ops [⟨some 5, .mv (.k (.int .i64 0)), none⟩])
  (.block 0 (.loop (.seq (.seq (.ops [⟨some 6, .mv (.t 5), none⟩,
    ⟨some 7, .mv (.t 0), none⟩,
    ⟨some 8, .lenl (.t 7), none⟩,
    ⟨some 9, .bin .lss (.t 6) (.t 8), none⟩])
  (.cond (.t 9)
  .skip
  (.exit 0)))
  (.seq (.block 1 (.seq (.seq (.quiet [⟨some 12, .mv (.t 0), none⟩,
    ⟨some 13, .mv (.t 5), none⟩,
    ⟨some 14, .ix 4 (.t 12) (.t 13), none⟩,
    ⟨some 15, .fa 0 1 0 (.t 14), none⟩,
    ⟨some 16, .ld 1 false (.t 15), none⟩,
    ⟨some 17, .mv (.t 1), none⟩,
    ⟨some 18, .call 76 [(.t 17)], none⟩,
    ⟨some 19, .bin .neq (.t 16) (.t 18), none⟩])
  (.cond (.t 19)
  (.seq (.ops [⟨some 4, .mv (.k (.int .i64 (-1))), none⟩])
  .ret)
  .skip))
  (.seq (.ops [⟨some 20, .mv (.t 1), none⟩,
    ⟨some 21, .bin .add (.t 20) (.k (.int .i64 1)), none⟩,
    ⟨some 1, .mv (.t 21), none⟩])
  (.seq (.seq (.quiet [⟨some 22, .mv (.t 0), none⟩,
    ⟨some 23, .mv (.t 5), none⟩,
    ⟨some 24, .ix 4 (.t 22) (.t 23), none⟩,
    ⟨some 25, .fa 1 1 1 (.t 24), none⟩,
    ⟨some 26, .ld 1 false (.t 25), none⟩,
    ⟨some 27, .mv (.t 1), none⟩,
    ⟨some 28, .call 76 [(.t 27)], none⟩,
    ⟨some 29, .bin .neq (.t 26) (.t 28), none⟩])
  (.cond (.t 29)
  (.seq (.ops [⟨some 4, .mv (.k (.int .i64 (-1))), none⟩])
  .ret)
  .skip))
  (.seq (.ops [⟨some 30, .mv (.t 1), none⟩,
    ⟨some 31, .bin .add (.t 30) (.k (.int .i64 1)), none⟩,
    ⟨some 1, .mv (.t 31), none⟩])
  (.seq (.seq (.ops [⟨some 32, .mv (.t 0), none⟩,
    ⟨some 33, .mv (.t 5), none⟩,
    ⟨some 34, .ix 4 (.t 32) (.t 33), none⟩,
    ⟨some 35, .fa 2 1 2 (.t 34), none⟩,
    ⟨some 36, .ld 1 false (.t 35), none⟩,
    ⟨some 37, .mv (.t 1), none⟩,
    ⟨some 38, .bin .neq (.t 36) (.t 37), none⟩])
  (.cond (.t 38)
  (.seq (.ops [⟨some 4, .mv (.k (.int .i64 (-1))), none⟩])
  .ret)
  .skip))
  (.seq (.ops [⟨some 39, .mv (.t 1), none⟩,
    ⟨some 40, .bin .add (.t 39) (.k (.int .i64 1)), none⟩,
    ⟨some 1, .mv (.t 40), none⟩])
  (.seq (.seq (.ops [⟨some 41, .mv (.t 0), none⟩,
    ⟨some 42, .mv (.t 5), none⟩,
    ⟨some 43, .ix 4 (.t 41) (.t 42), none⟩,
    ⟨some 44, .fa 3 1 3 (.t 43), none⟩,
    ⟨some 45, .ld 1 false (.t 44), none⟩,
    ⟨some 46, .mv (.t 1), none⟩,
    ⟨some 47, .bin .neq (.t 45) (.t 46), none⟩])
  (.cond (.t 47)
  (.seq (.ops [⟨some 4, .mv (.k (.int .i64 (-1))), none⟩])
  .ret)
  .skip))
  (.ops [⟨some 48, .mv (.t 1), none⟩,
    ⟨some 49, .bin .add (.t 48) (.k (.int .i64 1)), none⟩,
    ⟨some 1, .mv (.t 49), none⟩])))))))))
  (.ops [⟨some 10, .mv (.t 5), none⟩,
    ⟨some 11, .bin .add (.t 10) (.k (.int .i64 1)), none⟩,
    ⟨some 5, .mv (.t 11), none⟩]))))))
  (.seq (.ops [⟨some 50, .mv (.t 1), none⟩,
    ⟨some 4, .mv (.t 50), none⟩])
  .ret)))⟩
theorem c138 : compileF Try.prog [] 138 = some cf138 := by kernel_rfl
/-- laws.markMateGrantS -/
def cf74 : CF := ⟨51, [.t 4],
  (.seq (.ops [⟨some 4, .mv (.k (.int .i64 0)), none⟩])
  (.seq (.seq (.ops [⟨some 5, .mv (.k (.int .i64 0)), none⟩])
  (.block 0 (.loop (.seq (.seq (.ops [⟨some 6, .mv (.t 5), none⟩,
    ⟨some 7, .mv (.t 0), none⟩,
    ⟨some 8, .lenl (.t 7), none⟩,
    ⟨some 9, .bin .lss (.t 6) (.t 8), none⟩])
  (.cond (.t 9)
  .skip
  (.exit 0)))
  (.seq (.block 1 (.seq (.ops [⟨some 12, .mv (.t 0), none⟩,
    ⟨some 13, .mv (.t 5), none⟩,
    ⟨some 14, .mv (.t 1), none⟩,
    ⟨some 15, .call 76 [(.t 14)], none⟩,
    ⟨some 16, .ix 5 (.t 12) (.t 13), none⟩,
    ⟨some 17, .fa 0 1 0 (.t 16), none⟩,
    ⟨none, .st 1 (.t 17) (.t 15), none⟩])
  (.seq (.ops [⟨some 18, .mv (.t 1), none⟩,
    ⟨some 19, .bin .add (.t 18) (.k (.int .i64 1)), none⟩,
    ⟨some 1, .mv (.t 19), none⟩])
  (.seq (.ops [⟨some 20, .mv (.t 0), none⟩,
    ⟨some 21, .mv (.t 5), none⟩,
    ⟨some 22, .mv (.t 1), none⟩,
    ⟨some 23, .call 76 [(.t 22)], none⟩,
    ⟨some 24, .ix 5 (.t 20) (.t 21), none⟩,
    ⟨some 25, .fa 1 1 1 (.t 24), none⟩,
    ⟨none, .st 1 (.t 25) (.t 23), none⟩])
  (.seq (.ops [⟨some 26, .mv (.t 1), none⟩,
    ⟨some 27, .bin .add (.t 26) (.k (.int .i64 1)), none⟩,
    ⟨some 1, .mv (.t 27), none⟩])
  (.seq (.ops [⟨some 28, .mv (.t 0), none⟩,
    ⟨some 29, .mv (.t 5), none⟩,
    ⟨some 30, .mv (.t 1), none⟩,
    ⟨some 31, .call 76 [(.t 30)], none⟩,
    ⟨some 32, .ix 5 (.t 28) (.t 29), none⟩,
    ⟨some 33, .fa 2 1 2 (.t 32), none⟩,
    ⟨none, .st 1 (.t 33) (.t 31), none⟩])
  (.seq (.ops [⟨some 34, .mv (.t 1), none⟩,
    ⟨some 35, .bin .add (.t 34) (.k (.int .i64 1)), none⟩,
    ⟨some 1, .mv (.t 35), none⟩])
  (.seq (.ops [⟨some 36, .mv (.t 0), none⟩,
    ⟨some 37, .mv (.t 5), none⟩,
    ⟨some 38, .mv (.t 1), none⟩,
    ⟨some 39, .ix 5 (.t 36) (.t 37), none⟩,
    ⟨some 40, .fa 3 1 3 (.t 39), none⟩,
    ⟨none, .st 1 (.t 40) (.t 38), none⟩])
  (.seq (.ops [⟨some 41, .mv (.t 1), none⟩,
    ⟨some 42, .bin .add (.t 41) (.k (.int .i64 1)), none⟩,
    ⟨some 1, .mv (.t 42), none⟩])
  (.seq (.ops [⟨some 43, .mv (.t 0), none⟩,
    ⟨some 44, .mv (.t 5), none⟩,
    ⟨some 45, .mv (.t 1), none⟩,
    ⟨some 46, .ix 5 (.t 43) (.t 44), none⟩,
    ⟨some 47, .fa 4 1 4 (.t 46), none⟩,
    ⟨none, .st 1 (.t 47) (.t 45), none⟩])
  (.ops [⟨some 48, .mv (.t 1), none⟩,
    ⟨some 49, .bin .add (.t 48) (.k (.int .i64 1)), none⟩,
    ⟨some 1, .mv (.t 49), none⟩])))))))))))
  (.ops [⟨some 10, .mv (.t 5), none⟩,
    ⟨some 11, .bin .add (.t 10) (.k (.int .i64 1)), none⟩,
    ⟨some 5, .mv (.t 11), none⟩]))))))
  (.seq (.ops [⟨some 50, .mv (.t 1), none⟩,
    ⟨some 4, .mv (.t 50), none⟩])
  .ret)))⟩
theorem c74 : compileF Try.prog [] 74 = some cf74 := by kernel_rfl
/-- laws.heldMateGrantS -/
def cf77 : CF := ⟨61, [.t 4],
  (.seq (.ops [⟨some 4, .mv (.k (.int .i64 0)), none⟩])
  (.seq (.seq (.ops [⟨some 5, .mv (.k (.int .i64 0)), none⟩])
  (.block 0 (.loop (.seq (.seq (.ops [⟨some 6, .mv (.t 5), none⟩,
    ⟨some 7, .mv (.t 0), none⟩,
    ⟨some 8, .lenl (.t 7), none⟩,
    ⟨some 9, .bin .lss (.t 6) (.t 8), none⟩])
  (.cond (.t 9)
  .skip
  (.exit 0)))
  (.seq (.block 1 (.seq (.seq (.quiet [⟨some 12, .mv (.t 0), none⟩,
    ⟨some 13, .mv (.t 5), none⟩,
    ⟨some 14, .ix 5 (.t 12) (.t 13), none⟩,
    ⟨some 15, .fa 0 1 0 (.t 14), none⟩,
    ⟨some 16, .ld 1 false (.t 15), none⟩,
    ⟨some 17, .mv (.t 1), none⟩,
    ⟨some 18, .call 76 [(.t 17)], none⟩,
    ⟨some 19, .bin .neq (.t 16) (.t 18), none⟩])
  (.cond (.t 19)
  (.seq (.ops [⟨some 4, .mv (.k (.int .i64 (-1))), none⟩])
  .ret)
  .skip))
  (.seq (.ops [⟨some 20, .mv (.t 1), none⟩,
    ⟨some 21, .bin .add (.t 20) (.k (.int .i64 1)), none⟩,
    ⟨some 1, .mv (.t 21), none⟩])
  (.seq (.seq (.quiet [⟨some 22, .mv (.t 0), none⟩,
    ⟨some 23, .mv (.t 5), none⟩,
    ⟨some 24, .ix 5 (.t 22) (.t 23), none⟩,
    ⟨some 25, .fa 1 1 1 (.t 24), none⟩,
    ⟨some 26, .ld 1 false (.t 25), none⟩,
    ⟨some 27, .mv (.t 1), none⟩,
    ⟨some 28, .call 76 [(.t 27)], none⟩,
    ⟨some 29, .bin .neq (.t 26) (.t 28), none⟩])
  (.cond (.t 29)
  (.seq (.ops [⟨some 4, .mv (.k (.int .i64 (-1))), none⟩])
  .ret)
  .skip))
  (.seq (.ops [⟨some 30, .mv (.t 1), none⟩,
    ⟨some 31, .bin .add (.t 30) (.k (.int .i64 1)), none⟩,
    ⟨some 1, .mv (.t 31), none⟩])
  (.seq (.seq (.quiet [⟨some 32, .mv (.t 0), none⟩,
    ⟨some 33, .mv (.t 5), none⟩,
    ⟨some 34, .ix 5 (.t 32) (.t 33), none⟩,
    ⟨some 35, .fa 2 1 2 (.t 34), none⟩,
    ⟨some 36, .ld 1 false (.t 35), none⟩,
    ⟨some 37, .mv (.t 1), none⟩,
    ⟨some 38, .call 76 [(.t 37)], none⟩,
    ⟨some 39, .bin .neq (.t 36) (.t 38), none⟩])
  (.cond (.t 39)
  (.seq (.ops [⟨some 4, .mv (.k (.int .i64 (-1))), none⟩])
  .ret)
  .skip))
  (.seq (.ops [⟨some 40, .mv (.t 1), none⟩,
    ⟨some 41, .bin .add (.t 40) (.k (.int .i64 1)), none⟩,
    ⟨some 1, .mv (.t 41), none⟩])
  (.seq (.seq (.ops [⟨some 42, .mv (.t 0), none⟩,
    ⟨some 43, .mv (.t 5), none⟩,
    ⟨some 44, .ix 5 (.t 42) (.t 43), none⟩,
    ⟨some 45, .fa 3 1 3 (.t 44), none⟩,
    ⟨some 46, .ld 1 false (.t 45), none⟩,
    ⟨some 47, .mv (.t 1), none⟩,
    ⟨some 48, .bin .neq (.t 46) (.t 47), none⟩])
  (.cond (.t 48)
  (.seq (.ops [⟨some 4, .mv (.k (.int .i64 (-1))), none⟩])
  .ret)
  .skip))
  (.seq (.ops [⟨some 49, .mv (.t 1), none⟩,
    ⟨some 50, .bin .add (.t 49) (.k (.int .i64 1)), none⟩,
    ⟨some 1, .mv (.t 50), none⟩])
  (.seq (.seq (.ops [⟨some 51, .mv (.t 0), none⟩,
    ⟨some 52, .mv (.t 5), none⟩,
    ⟨some 53, .ix 5 (.t 51) (.t 52), none⟩,
    ⟨some 54, .fa 4 1 4 (.t 53), none⟩,
    ⟨some 55, .ld 1 false (.t 54), none⟩,
    ⟨some 56, .mv (.t 1), none⟩,
    ⟨some 57, .bin .neq (.t 55) (.t 56), none⟩])
  (.cond (.t 57)
  (.seq (.ops [⟨some 4, .mv (.k (.int .i64 (-1))), none⟩])
  .ret)
  .skip))
  (.ops [⟨some 58, .mv (.t 1), none⟩,
    ⟨some 59, .bin .add (.t 58) (.k (.int .i64 1)), none⟩,
    ⟨some 1, .mv (.t 59), none⟩])))))))))))
  (.ops [⟨some 10, .mv (.t 5), none⟩,
    ⟨some 11, .bin .add (.t 10) (.k (.int .i64 1)), none⟩,
    ⟨some 5, .mv (.t 11), none⟩]))))))
  (.seq (.ops [⟨some 60, .mv (.t 1), none⟩,
    ⟨some 4, .mv (.t 60), none⟩])
  .ret)))⟩
theorem c77 : compileF Try.prog [] 77 = some cf77 := by kernel_rfl
/-- laws.markMatePlaceS -/
def cf75 : CF := ⟨35, [.t 4],
  (.seq (.ops [⟨some 4, .mv (.k (.int .i64 0)), none⟩])
  (.seq (.seq (.ops [⟨some 5, .mv (.k (.int .i64 0)), none⟩])
  (.block 0 (.loop (.seq (.seq (.ops [⟨some 6, .mv (.t 5), none⟩,
    ⟨some 7, .mv (.t 0), none⟩,
    ⟨some 8, .lenl (.t 7), none⟩,
    ⟨some 9, .bin .lss (.t 6) (.t 8), none⟩])
  (.cond (.t 9)
  .skip
  (.exit 0)))
  (.seq (.block 1 (.seq (.ops [⟨some 12, .mv (.t 0), none⟩,
    ⟨some 13, .mv (.t 5), none⟩,
    ⟨some 14, .mv (.t 1), none⟩,
    ⟨some 15, .call 76 [(.t 14)], none⟩,
    ⟨some 16, .ix 3 (.t 12) (.t 13), none⟩,
    ⟨some 17, .fa 0 1 0 (.t 16), none⟩,
    ⟨none, .st 1 (.t 17) (.t 15), none⟩])
  (.seq (.ops [⟨some 18, .mv (.t 1), none⟩,
    ⟨some 19, .bin .add (.t 18) (.k (.int .i64 1)), none⟩,
    ⟨some 1, .mv (.t 19), none⟩])
  (.seq (.ops [⟨some 20, .mv (.t 0), none⟩,
    ⟨some 21, .mv (.t 5), none⟩,
    ⟨some 22, .mv (.t 1), none⟩,
    ⟨some 23, .ix 3 (.t 20) (.t 21), none⟩,
    ⟨some 24, .fa 1 1 1 (.t 23), none⟩,
    ⟨none, .st 1 (.t 24) (.t 22), none⟩])
  (.seq (.ops [⟨some 25, .mv (.t 1), none⟩,
    ⟨some 26, .bin .add (.t 25) (.k (.int .i64 1)), none⟩,
    ⟨some 1, .mv (.t 26), none⟩])
  (.ops [⟨some 27, .mv (.t 0), none⟩,
    ⟨some 28, .mv (.t 5), none⟩,
    ⟨some 29, .ix 3 (.t 27) (.t 28), none⟩,
    ⟨some 30, .fa 2 1 2 (.t 29), none⟩,
    ⟨some 31, .ld 1 false (.t 30), none⟩,
    ⟨some 32, .mv (.t 1), none⟩,
    ⟨some 33, .call 29 [(.t 31), (.t 32)], none⟩,
    ⟨some 1, .mv (.t 33), none⟩]))))))
  (.ops [⟨some 10, .mv (.t 5), none⟩,
    ⟨some 11, .bin .add (.t 10) (.k (.int .i64 1)), none⟩,
    ⟨some 5, .mv (.t 11), none⟩]))))))
  (.seq (.ops [⟨some 34, .mv (.t 1), none⟩,
    ⟨some 4, .mv (.t 34), none⟩])
  .ret)))⟩
theorem c75 : compileF Try.prog [] 75 = some cf75 := by kernel_rfl
/-- laws.heldMatePlaceS -/
def cf78 : CF := ⟨41, [.t 4],
  (.seq (.ops [⟨some 4, .mv (.k (.int .i64 0)), none⟩])
  (.seq (.seq (.ops [⟨some 5, .mv (.k (.int .i64 0)), none⟩])
  (.block 0 (.loop (.seq (.seq (.ops [⟨some 6, .mv (.t 5), none⟩,
    ⟨some 7, .mv (.t 0), none⟩,
    ⟨some 8, .lenl (.t 7), none⟩,
    ⟨some 9, .bin .lss (.t 6) (.t 8), none⟩])
  (.cond (.t 9)
  .skip
  (.exit 0)))
  (.seq (.block 1 (.seq (.seq (.quiet [⟨some 12, .mv (.t 0), none⟩,
    ⟨some 13, .mv (.t 5), none⟩,
    ⟨some 14, .ix 3 (.t 12) (.t 13), none⟩,
    ⟨some 15, .fa 0 1 0 (.t 14), none⟩,
    ⟨some 16, .ld 1 false (.t 15), none⟩,
    ⟨some 17, .mv (.t 1), none⟩,
    ⟨some 18, .call 76 [(.t 17)], none⟩,
    ⟨some 19, .bin .neq (.t 16) (.t 18), none⟩])
  (.cond (.t 19)
  (.seq (.ops [⟨some 4, .mv (.k (.int .i64 (-1))), none⟩])
  .ret)
  .skip))
  (.seq (.ops [⟨some 20, .mv (.t 1), none⟩,
    ⟨some 21, .bin .add (.t 20) (.k (.int .i64 1)), none⟩,
    ⟨some 1, .mv (.t 21), none⟩])
  (.seq (.seq (.ops [⟨some 22, .mv (.t 0), none⟩,
    ⟨some 23, .mv (.t 5), none⟩,
    ⟨some 24, .ix 3 (.t 22) (.t 23), none⟩,
    ⟨some 25, .fa 1 1 1 (.t 24), none⟩,
    ⟨some 26, .ld 1 false (.t 25), none⟩,
    ⟨some 27, .mv (.t 1), none⟩,
    ⟨some 28, .bin .neq (.t 26) (.t 27), none⟩])
  (.cond (.t 28)
  (.seq (.ops [⟨some 4, .mv (.k (.int .i64 (-1))), none⟩])
  .ret)
  .skip))
  (.seq (.ops [⟨some 29, .mv (.t 1), none⟩,
    ⟨some 30, .bin .add (.t 29) (.k (.int .i64 1)), none⟩,
    ⟨some 1, .mv (.t 30), none⟩])
  (.seq (.ops [⟨some 31, .mv (.t 0), none⟩,
    ⟨some 32, .mv (.t 5), none⟩,
    ⟨some 33, .ix 3 (.t 31) (.t 32), none⟩,
    ⟨some 34, .fa 2 1 2 (.t 33), none⟩,
    ⟨some 35, .ld 1 false (.t 34), none⟩,
    ⟨some 36, .mv (.t 1), none⟩,
    ⟨some 37, .call 79 [(.t 35), (.t 36)], none⟩,
    ⟨some 1, .mv (.t 37), none⟩])
  (.seq (.ops [⟨some 38, .mv (.t 1), none⟩,
    ⟨some 39, .bin .lss (.t 38) (.k (.int .i64 0)), none⟩])
  (.cond (.t 39)
  (.seq (.ops [⟨some 4, .mv (.k (.int .i64 (-1))), none⟩])
  .ret)
  .skip))))))))
  (.ops [⟨some 10, .mv (.t 5), none⟩,
    ⟨some 11, .bin .add (.t 10) (.k (.int .i64 1)), none⟩,
    ⟨some 5, .mv (.t 11), none⟩]))))))
  (.seq (.ops [⟨some 40, .mv (.t 1), none⟩,
    ⟨some 4, .mv (.t 40), none⟩])
  .ret)))⟩
theorem c78 : compileF Try.prog [] 78 = some cf78 := by kernel_rfl
/-- laws.markStringS -/
def cf42 : CF := ⟨20, [.t 4],
  (.seq (.ops [⟨some 4, .mv (.k (.int .i64 0)), none⟩])
  (.seq (.seq (.ops [⟨some 5, .mv (.k (.int .i64 0)), none⟩])
  (.block 0 (.loop (.seq (.seq (.ops [⟨some 6, .mv (.t 5), none⟩,
    ⟨some 7, .mv (.t 0), none⟩,
    ⟨some 8, .lenl (.t 7), none⟩,
    ⟨some 9, .bin .lss (.t 6) (.t 8), none⟩])
  (.cond (.t 9)
  .skip
  (.exit 0)))
  (.seq (.block 1 (.seq (.ops [⟨some 12, .mv (.t 0), none⟩,
    ⟨some 13, .mv (.t 5), none⟩,
    ⟨some 14, .mv (.t 1), none⟩,
    ⟨some 15, .call 76 [(.t 14)], none⟩,
    ⟨some 16, .ix 1 (.t 12) (.t 13), none⟩,
    ⟨none, .st 1 (.t 16) (.t 15), none⟩])
  (.ops [⟨some 17, .mv (.t 1), none⟩,
    ⟨some 18, .bin .add (.t 17) (.k (.int .i64 1)), none⟩,
    ⟨some 1, .mv (.t 18), none⟩])))
  (.ops [⟨some 10, .mv (.t 5), none⟩,
    ⟨some 11, .bin .add (.t 10) (.k (.int .i64 1)), none⟩,
    ⟨some 5, .mv (.t 11), none⟩]))))))
  (.seq (.ops [⟨some 19, .mv (.t 1), none⟩,
    ⟨some 4, .mv (.t 19), none⟩])
  .ret)))⟩
theorem c42 : compileF Try.prog [] 42 = some cf42 := by kernel_rfl
/-- laws.heldStringS -/
def cf99 : CF := ⟨22, [.t 4],
  (.seq (.ops [⟨some 4, .mv (.k (.int .i64 0)), none⟩])
  (.seq (.seq (.ops [⟨some 5, .mv (.k (.int .i64 0)), none⟩])
  (.block 0 (.loop (.seq (.seq (.ops [⟨some 6, .mv (.t 5), none⟩,
    ⟨some 7, .mv (.t 0), none⟩,
    ⟨some 8, .lenl (.t 7), none⟩,
    ⟨some 9, .bin .lss (.t 6) (.t 8), none⟩])
  (.cond (.t 9)
  .skip
  (.exit 0)))
  (.seq (.block 1 (.seq (.seq (.quiet [⟨some 12, .mv (.t 0), none⟩,
    ⟨some 13, .mv (.t 5), none⟩,
    ⟨some 14, .ix 1 (.t 12) (.t 13), none⟩,
    ⟨some 15, .ld 1 false (.t 14), none⟩,
    ⟨some 16, .mv (.t 1), none⟩,
    ⟨some 17, .call 76 [(.t 16)], none⟩,
    ⟨some 18, .bin .neq (.t 15) (.t 17), none⟩])
  (.cond (.t 18)
  (.seq (.ops [⟨some 4, .mv (.k (.int .i64 (-1))), none⟩])
  .ret)
  .skip))
  (.ops [⟨some 19, .mv (.t 1), none⟩,
    ⟨some 20, .bin .add (.t 19) (.k (.int .i64 1)), none⟩,
    ⟨some 1, .mv (.t 20), none⟩])))
  (.ops [⟨some 10, .mv (.t 5), none⟩,
    ⟨some 11, .bin .add (.t 10) (.k (.int .i64 1)), none⟩,
    ⟨some 5, .mv (.t 11), none⟩]))))))
  (.seq (.ops [⟨some 21, .mv (.t 1), none⟩,
    ⟨some 4, .mv (.t 21), none⟩])
  .ret)))⟩
theorem c99 : compileF Try.prog [] 99 = some cf99 := by kernel_rfl
theorem nil_args {U : Nat → Prop} {w : World} {es : Nat} {k : Int} {vs : List Value} (h : RelT U w [.nil, .int .i64 k] vs) : RelT U w [.ro es [], .int .i64 k] vs := by
  obtain ⟨v, r, e, h1, h2⟩ := h
  exact ⟨v, r, e, nil_ro h1, h2⟩
theorem mark0_MateWantS (d : D) (hd : d = .nil ∨ ∃ es, d = .ro es []) (k : Int) : Rdr Try.prog 29 [d, .int .i64 k] (.int .i64 k) := by
  have hz : ∀ es, Rdr Try.prog 29 [.ro es [], .int .i64 k] (.int .i64 k) := fun es => by
    refine Rdr.intro' hm c29 (Nat.le_of_ble_eq_true rfl) ?_
    conv => whnf
    repeat' (first | (refine g_op ?_; conv => whnf) | (refine And.intro ?_ ?_; (focus (first | exact rfl | exact Nat.le_of_ble_eq_true rfl | decide | omega | fail)); conv => whnf) | (refine g_seq ?_) | (refine XS.go ?_) | (refine g_ops ?_) | (refine g_loop ?_) | (refine g_nil ?_; conv => whnf) | (refine g_block ?_) | fail)
    refine XLc.mkA (α := Unit) (fun _ => True) (fun _ => 0) (fun _ gs => [.ro es [], .int .i64 k, .any, .any, .any, .int .i64 0]) (fun _ gs => []) () True.intro ?_ ?_
    · refine ⟨?_, True.intro⟩
      repeat' (first | exact True.intro | refine And.intro rfl ?_)
    intro _ gs _
    repeat' (first | (refine g_op ?_; conv => whnf) | (refine And.intro ?_ ?_; (focus (first | exact rfl | exact Nat.le_of_ble_eq_true rfl | decide | omega | fail)); conv => whnf) | (refine g_seq ?_) | (refine XS.go ?_) | (refine g_ops ?_) | (refine g_nil ?_; conv => whnf) | (refine Br.f ?_ ?_; (focus (first | assumption | exact rfl)); conv => whnf) | (refine g_cond ?_; conv => whnf) | (refine g_ret ?_; conv => whnf) | (refine g_exit ?_; conv => whnf) | (refine r_t ?_; conv => whnf) | (refine r_nil ?_; conv => whnf) | fail)
    rfl
  rcases hd with rfl | ⟨es, rfl⟩
  · have h := hz 1
    unfold Rdr at h ⊢
    exact ⟨h.1, fun U w vs hU hT => h.2 U w vs hU (nil_args hT)⟩
  · exact hz es
theorem held0_MateWantS (d : D) (hd : d = .nil ∨ ∃ es, d = .ro es []) (k : Int) : Rdr Try.prog 79 [d, .int .i64 k] (.int .i64 k) := by
  have hz : ∀ es, Rdr Try.prog 79 [.ro es [], .int .i64 k] (.int .i64 k) := fun es => by
    refine Rdr.intro' hm c79 (Nat.le_of_ble_eq_true rfl) ?_
    conv => whnf
    repeat' (first | (refine g_op ?_; conv => whnf) | (refine And.intro ?_ ?_; (focus (first | exact rfl | exact Nat.le_of_ble_eq_true rfl | decide | omega | fail)); conv => whnf) | (refine g_seq ?_) | (refine XS.go ?_) | (refine g_ops ?_) | (refine g_loop ?_) | (refine g_nil ?_; conv => whnf) | (refine g_block ?_) | fail)
    refine XLc.mkA (α := Unit) (fun _ => True) (fun _ => 0) (fun _ gs => [.ro es [], .int .i64 k, .any, .any, .any, .int .i64 0]) (fun _ gs => []) () True.intro ?_ ?_
    · refine ⟨?_, True.intro⟩
      repeat' (first | exact True.intro | refine And.intro rfl ?_)
    intro _ gs _
    repeat' (first | (refine g_op ?_; conv => whnf) | (refine And.intro ?_ ?_; (focus (first | exact rfl | exact Nat.le_of_ble_eq_true rfl | decide | omega | fail)); conv => whnf) | (refine g_seq ?_) | (refine XS.go ?_) | (refine g_ops ?_) | (refine g_nil ?_; conv => whnf) | (refine Br.f ?_ ?_; (focus (first | assumption | exact rfl)); conv => whnf) | (refine g_cond ?_; conv => whnf) | (refine g_ret ?_; conv => whnf) | (refine g_exit ?_; conv => whnf) | (refine r_t ?_; conv => whnf) | (refine r_nil ?_; conv => whnf) | fail)
    rfl
  rcases hd with rfl | ⟨es, rfl⟩
  · have h := hz 1
    unfold Rdr at h ⊢
    exact ⟨h.1, fun U w vs hU hT => h.2 U w vs hU (nil_args hT)⟩
  · exact hz es
theorem mark0_MateRunS (d : D) (hd : d = .nil ∨ ∃ es, d = .ro es []) (k : Int) : Rdr Try.prog 135 [d, .int .i64 k] (.int .i64 k) := by
  have hz : ∀ es, Rdr Try.prog 135 [.ro es [], .int .i64 k] (.int .i64 k) := fun es => by
    refine Rdr.intro' hm c135 (Nat.le_of_ble_eq_true rfl) ?_
    conv => whnf
    repeat' (first | (refine g_op ?_; conv => whnf) | (refine And.intro ?_ ?_; (focus (first | exact rfl | exact Nat.le_of_ble_eq_true rfl | decide | omega | fail)); conv => whnf) | (refine g_seq ?_) | (refine XS.go ?_) | (refine g_ops ?_) | (refine g_loop ?_) | (refine g_nil ?_; conv => whnf) | (refine g_block ?_) | fail)
    refine XLc.mkA (α := Unit) (fun _ => True) (fun _ => 0) (fun _ gs => [.ro es [], .int .i64 k, .any, .any, .any, .int .i64 0]) (fun _ gs => []) () True.intro ?_ ?_
    · refine ⟨?_, True.intro⟩
      repeat' (first | exact True.intro | refine And.intro rfl ?_)
    intro _ gs _
    repeat' (first | (refine g_op ?_; conv => whnf) | (refine And.intro ?_ ?_; (focus (first | exact rfl | exact Nat.le_of_ble_eq_true rfl | decide | omega | fail)); conv => whnf) | (refine g_seq ?_) | (refine XS.go ?_) | (refine g_ops ?_) | (refine g_nil ?_; conv => whnf) | (refine Br.f ?_ ?_; (focus (first | assumption | exact rfl)); conv => whnf) | (refine g_cond ?_; conv => whnf) | (refine g_ret ?_; conv => whnf) | (refine g_exit ?_; conv => whnf) | (refine r_t ?_; conv => whnf) | (refine r_nil ?_; conv => whnf) | fail)
    rfl
  rcases hd with rfl | ⟨es, rfl⟩
  · have h := hz 1
    unfold Rdr at h ⊢
    exact ⟨h.1, fun U w vs hU hT => h.2 U w vs hU (nil_args hT)⟩
  · exact hz es
theorem held0_MateRunS (d : D) (hd : d = .nil ∨ ∃ es, d = .ro es []) (k : Int) : Rdr Try.prog 137 [d, .int .i64 k] (.int .i64 k) := by
  have hz : ∀ es, Rdr Try.prog 137 [.ro es [], .int .i64 k] (.int .i64 k) := fun es => by
    refine Rdr.intro' hm c137 (Nat.le_of_ble_eq_true rfl) ?_
    conv => whnf
    repeat' (first | (refine g_op ?_; conv => whnf) | (refine And.intro ?_ ?_; (focus (first | exact rfl | exact Nat.le_of_ble_eq_true rfl | decide | omega | fail)); conv => whnf) | (refine g_seq ?_) | (refine XS.go ?_) | (refine g_ops ?_) | (refine g_loop ?_) | (refine g_nil ?_; conv => whnf) | (refine g_block ?_) | fail)
    refine XLc.mkA (α := Unit) (fun _ => True) (fun _ => 0) (fun _ gs => [.ro es [], .int .i64 k, .any, .any, .any, .int .i64 0]) (fun _ gs => []) () True.intro ?_ ?_
    · refine ⟨?_, True.intro⟩
      repeat' (first | exact True.intro | refine And.intro rfl ?_)
    intro _ gs _
    repeat' (first | (refine g_op ?_; conv => whnf) | (refine And.intro ?_ ?_; (focus (first | exact rfl | exact Nat.le_of_ble_eq_true rfl | decide | omega | fail)); conv => whnf) | (refine g_seq ?_) | (refine XS.go ?_) | (refine g_ops ?_) | (refine g_nil ?_; conv => whnf) | (refine Br.f ?_ ?_; (focus (first | assumption | exact rfl)); conv => whnf) | (refine g_cond ?_; conv => whnf) | (refine g_ret ?_; conv => whnf) | (refine g_exit ?_; conv => whnf) | (refine r_t ?_; conv => whnf) | (refine r_nil ?_; conv => whnf) | fail)
    rfl
  rcases hd with rfl | ⟨es, rfl⟩
  · have h := hz 1
    unfold Rdr at h ⊢
    exact ⟨h.1, fun U w vs hU hT => h.2 U w vs hU (nil_args hT)⟩
  · exact hz es
theorem mark0_MateAskS (d : D) (hd : d = .nil ∨ ∃ es, d = .ro es []) (k : Int) : Rdr Try.prog 136 [d, .int .i64 k] (.int .i64 k) := by
  have hz : ∀ es, Rdr Try.prog 136 [.ro es [], .int .i64 k] (.int .i64 k) := fun es => by
    refine Rdr.intro' hm c136 (Nat.le_of_ble_eq_true rfl) ?_
    conv => whnf
    repeat' (first | (refine g_op ?_; conv => whnf) | (refine And.intro ?_ ?_; (focus (first | exact rfl | exact Nat.le_of_ble_eq_true rfl | decide | omega | fail)); conv => whnf) | (refine g_seq ?_) | (refine XS.go ?_) | (refine g_ops ?_) | (refine g_loop ?_) | (refine g_nil ?_; conv => whnf) | (refine g_block ?_) | fail)
    refine XLc.mkA (α := Unit) (fun _ => True) (fun _ => 0) (fun _ gs => [.ro es [], .int .i64 k, .any, .any, .any, .int .i64 0]) (fun _ gs => []) () True.intro ?_ ?_
    · refine ⟨?_, True.intro⟩
      repeat' (first | exact True.intro | refine And.intro rfl ?_)
    intro _ gs _
    repeat' (first | (refine g_op ?_; conv => whnf) | (refine And.intro ?_ ?_; (focus (first | exact rfl | exact Nat.le_of_ble_eq_true rfl | decide | omega | fail)); conv => whnf) | (refine g_seq ?_) | (refine XS.go ?_) | (refine g_ops ?_) | (refine g_nil ?_; conv => whnf) | (refine Br.f ?_ ?_; (focus (first | assumption | exact rfl)); conv => whnf) | (refine g_cond ?_; conv => whnf) | (refine g_ret ?_; conv => whnf) | (refine g_exit ?_; conv => whnf) | (refine r_t ?_; conv => whnf) | (refine r_nil ?_; conv => whnf) | fail)
    rfl
  rcases hd with rfl | ⟨es, rfl⟩
  · have h := hz 1
    unfold Rdr at h ⊢
    exact ⟨h.1, fun U w vs hU hT => h.2 U w vs hU (nil_args hT)⟩
  · exact hz es
theorem held0_MateAskS (d : D) (hd : d = .nil ∨ ∃ es, d = .ro es []) (k : Int) : Rdr Try.prog 138 [d, .int .i64 k] (.int .i64 k) := by
  have hz : ∀ es, Rdr Try.prog 138 [.ro es [], .int .i64 k] (.int .i64 k) := fun es => by
    refine Rdr.intro' hm c138 (Nat.le_of_ble_eq_true rfl) ?_
    conv => whnf
    repeat' (first | (refine g_op ?_; conv => whnf) | (refine And.intro ?_ ?_; (focus (first | exact rfl | exact Nat.le_of_ble_eq_true rfl | decide | omega | fail)); conv => whnf) | (refine g_seq ?_) | (refine XS.go ?_) | (refine g_ops ?_) | (refine g_loop ?_) | (refine g_nil ?_; conv => whnf) | (refine g_block ?_) | fail)
    refine XLc.mkA (α := Unit) (fun _ => True) (fun _ => 0) (fun _ gs => [.ro es [], .int .i64 k, .any, .any, .any, .int .i64 0]) (fun _ gs => []) () True.intro ?_ ?_
    · refine ⟨?_, True.intro⟩
      repeat' (first | exact True.intro | refine And.intro rfl ?_)
    intro _ gs _
    repeat' (first | (refine g_op ?_; conv => whnf) | (refine And.intro ?_ ?_; (focus (first | exact rfl | exact Nat.le_of_ble_eq_true rfl | decide | omega | fail)); conv => whnf) | (refine g_seq ?_) | (refine XS.go ?_) | (refine g_ops ?_) | (refine g_nil ?_; conv => whnf) | (refine Br.f ?_ ?_; (focus (first | assumption | exact rfl)); conv => whnf) | (refine g_cond ?_; conv => whnf) | (refine g_ret ?_; conv => whnf) | (refine g_exit ?_; conv => whnf) | (refine r_t ?_; conv => whnf) | (refine r_nil ?_; conv => whnf) | fail)
    rfl
  rcases hd with rfl | ⟨es, rfl⟩
  · have h := hz 1
    unfold Rdr at h ⊢
    exact ⟨h.1, fun U w vs hU hT => h.2 U w vs hU (nil_args hT)⟩
  · exact hz es
theorem mark0_MateGrantS (d : D) (hd : d = .nil ∨ ∃ es, d = .ro es []) (k : Int) : Rdr Try.prog 74 [d, .int .i64 k] (.int .i64 k) := by
  have hz : ∀ es, Rdr Try.prog 74 [.ro es [], .int .i64 k] (.int .i64 k) := fun es => by
    refine Rdr.intro' hm c74 (Nat.le_of_ble_eq_true rfl) ?_
    conv => whnf
    repeat' (first | (refine g_op ?_; conv => whnf) | (refine And.intro ?_ ?_; (focus (first | exact rfl | exact Nat.le_of_ble_eq_true rfl | decide | omega | fail)); conv => whnf) | (refine g_seq ?_) | (refine XS.go ?_) | (refine g_ops ?_) | (refine g_loop ?_) | (refine g_nil ?_; conv => whnf) | (refine g_block ?_) | fail)
    refine XLc.mkA (α := Unit) (fun _ => True) (fun _ => 0) (fun _ gs => [.ro es [], .int .i64 k, .any, .any, .any, .int .i64 0]) (fun _ gs => []) () True.intro ?_ ?_
    · refine ⟨?_, True.intro⟩
      repeat' (first | exact True.intro | refine And.intro rfl ?_)
    intro _ gs _
    repeat' (first | (refine g_op ?_; conv => whnf) | (refine And.intro ?_ ?_; (focus (first | exact rfl | exact Nat.le_of_ble_eq_true rfl | decide | omega | fail)); conv => whnf) | (refine g_seq ?_) | (refine XS.go ?_) | (refine g_ops ?_) | (refine g_nil ?_; conv => whnf) | (refine Br.f ?_ ?_; (focus (first | assumption | exact rfl)); conv => whnf) | (refine g_cond ?_; conv => whnf) | (refine g_ret ?_; conv => whnf) | (refine g_exit ?_; conv => whnf) | (refine r_t ?_; conv => whnf) | (refine r_nil ?_; conv => whnf) | fail)
    rfl
  rcases hd with rfl | ⟨es, rfl⟩
  · have h := hz 1
    unfold Rdr at h ⊢
    exact ⟨h.1, fun U w vs hU hT => h.2 U w vs hU (nil_args hT)⟩
  · exact hz es
theorem held0_MateGrantS (d : D) (hd : d = .nil ∨ ∃ es, d = .ro es []) (k : Int) : Rdr Try.prog 77 [d, .int .i64 k] (.int .i64 k) := by
  have hz : ∀ es, Rdr Try.prog 77 [.ro es [], .int .i64 k] (.int .i64 k) := fun es => by
    refine Rdr.intro' hm c77 (Nat.le_of_ble_eq_true rfl) ?_
    conv => whnf
    repeat' (first | (refine g_op ?_; conv => whnf) | (refine And.intro ?_ ?_; (focus (first | exact rfl | exact Nat.le_of_ble_eq_true rfl | decide | omega | fail)); conv => whnf) | (refine g_seq ?_) | (refine XS.go ?_) | (refine g_ops ?_) | (refine g_loop ?_) | (refine g_nil ?_; conv => whnf) | (refine g_block ?_) | fail)
    refine XLc.mkA (α := Unit) (fun _ => True) (fun _ => 0) (fun _ gs => [.ro es [], .int .i64 k, .any, .any, .any, .int .i64 0]) (fun _ gs => []) () True.intro ?_ ?_
    · refine ⟨?_, True.intro⟩
      repeat' (first | exact True.intro | refine And.intro rfl ?_)
    intro _ gs _
    repeat' (first | (refine g_op ?_; conv => whnf) | (refine And.intro ?_ ?_; (focus (first | exact rfl | exact Nat.le_of_ble_eq_true rfl | decide | omega | fail)); conv => whnf) | (refine g_seq ?_) | (refine XS.go ?_) | (refine g_ops ?_) | (refine g_nil ?_; conv => whnf) | (refine Br.f ?_ ?_; (focus (first | assumption | exact rfl)); conv => whnf) | (refine g_cond ?_; conv => whnf) | (refine g_ret ?_; conv => whnf) | (refine g_exit ?_; conv => whnf) | (refine r_t ?_; conv => whnf) | (refine r_nil ?_; conv => whnf) | fail)
    rfl
  rcases hd with rfl | ⟨es, rfl⟩
  · have h := hz 1
    unfold Rdr at h ⊢
    exact ⟨h.1, fun U w vs hU hT => h.2 U w vs hU (nil_args hT)⟩
  · exact hz es
theorem mark0_MatePlaceS (d : D) (hd : d = .nil ∨ ∃ es, d = .ro es []) (k : Int) : Rdr Try.prog 75 [d, .int .i64 k] (.int .i64 k) := by
  have hz : ∀ es, Rdr Try.prog 75 [.ro es [], .int .i64 k] (.int .i64 k) := fun es => by
    refine Rdr.intro' hm c75 (Nat.le_of_ble_eq_true rfl) ?_
    conv => whnf
    repeat' (first | (refine g_op ?_; conv => whnf) | (refine And.intro ?_ ?_; (focus (first | exact rfl | exact Nat.le_of_ble_eq_true rfl | decide | omega | fail)); conv => whnf) | (refine g_seq ?_) | (refine XS.go ?_) | (refine g_ops ?_) | (refine g_loop ?_) | (refine g_nil ?_; conv => whnf) | (refine g_block ?_) | fail)
    refine XLc.mkA (α := Unit) (fun _ => True) (fun _ => 0) (fun _ gs => [.ro es [], .int .i64 k, .any, .any, .any, .int .i64 0]) (fun _ gs => []) () True.intro ?_ ?_
    · refine ⟨?_, True.intro⟩
      repeat' (first | exact True.intro | refine And.intro rfl ?_)
    intro _ gs _
    repeat' (first | (refine g_op ?_; conv => whnf) | (refine And.intro ?_ ?_; (focus (first | exact rfl | exact Nat.le_of_ble_eq_true rfl | decide | omega | fail)); conv => whnf) | (refine g_seq ?_) | (refine XS.go ?_) | (refine g_ops ?_) | (refine g_nil ?_; conv => whnf) | (refine Br.f ?_ ?_; (focus (first | assumption | exact rfl)); conv => whnf) | (refine g_cond ?_; conv => whnf) | (refine g_ret ?_; conv => whnf) | (refine g_exit ?_; conv => whnf) | (refine r_t ?_; conv => whnf) | (refine r_nil ?_; conv => whnf) | fail)
    rfl
  rcases hd with rfl | ⟨es, rfl⟩
  · have h := hz 1
    unfold Rdr at h ⊢
    exact ⟨h.1, fun U w vs hU hT => h.2 U w vs hU (nil_args hT)⟩
  · exact hz es
theorem held0_MatePlaceS (d : D) (hd : d = .nil ∨ ∃ es, d = .ro es []) (k : Int) : Rdr Try.prog 78 [d, .int .i64 k] (.int .i64 k) := by
  have hz : ∀ es, Rdr Try.prog 78 [.ro es [], .int .i64 k] (.int .i64 k) := fun es => by
    refine Rdr.intro' hm c78 (Nat.le_of_ble_eq_true rfl) ?_
    conv => whnf
    repeat' (first | (refine g_op ?_; conv => whnf) | (refine And.intro ?_ ?_; (focus (first | exact rfl | exact Nat.le_of_ble_eq_true rfl | decide | omega | fail)); conv => whnf) | (refine g_seq ?_) | (refine XS.go ?_) | (refine g_ops ?_) | (refine g_loop ?_) | (refine g_nil ?_; conv => whnf) | (refine g_block ?_) | fail)
    refine XLc.mkA (α := Unit) (fun _ => True) (fun _ => 0) (fun _ gs => [.ro es [], .int .i64 k, .any, .any, .any, .int .i64 0]) (fun _ gs => []) () True.intro ?_ ?_
    · refine ⟨?_, True.intro⟩
      repeat' (first | exact True.intro | refine And.intro rfl ?_)
    intro _ gs _
    repeat' (first | (refine g_op ?_; conv => whnf) | (refine And.intro ?_ ?_; (focus (first | exact rfl | exact Nat.le_of_ble_eq_true rfl | decide | omega | fail)); conv => whnf) | (refine g_seq ?_) | (refine XS.go ?_) | (refine g_ops ?_) | (refine g_nil ?_; conv => whnf) | (refine Br.f ?_ ?_; (focus (first | assumption | exact rfl)); conv => whnf) | (refine g_cond ?_; conv => whnf) | (refine g_ret ?_; conv => whnf) | (refine g_exit ?_; conv => whnf) | (refine r_t ?_; conv => whnf) | (refine r_nil ?_; conv => whnf) | fail)
    rfl
  rcases hd with rfl | ⟨es, rfl⟩
  · have h := hz 1
    unfold Rdr at h ⊢
    exact ⟨h.1, fun U w vs hU hT => h.2 U w vs hU (nil_args hT)⟩
  · exact hz es
theorem mark0_StringS (d : D) (hd : d = .nil ∨ ∃ es, d = .ro es []) (k : Int) : Rdr Try.prog 42 [d, .int .i64 k] (.int .i64 k) := by
  have hz : ∀ es, Rdr Try.prog 42 [.ro es [], .int .i64 k] (.int .i64 k) := fun es => by
    refine Rdr.intro' hm c42 (Nat.le_of_ble_eq_true rfl) ?_
    conv => whnf
    repeat' (first | (refine g_op ?_; conv => whnf) | (refine And.intro ?_ ?_; (focus (first | exact rfl | exact Nat.le_of_ble_eq_true rfl | decide | omega | fail)); conv => whnf) | (refine g_seq ?_) | (refine XS.go ?_) | (refine g_ops ?_) | (refine g_loop ?_) | (refine g_nil ?_; conv => whnf) | (refine g_block ?_) | fail)
    refine XLc.mkA (α := Unit) (fun _ => True) (fun _ => 0) (fun _ gs => [.ro es [], .int .i64 k, .any, .any, .any, .int .i64 0]) (fun _ gs => []) () True.intro ?_ ?_
    · refine ⟨?_, True.intro⟩
      repeat' (first | exact True.intro | refine And.intro rfl ?_)
    intro _ gs _
    repeat' (first | (refine g_op ?_; conv => whnf) | (refine And.intro ?_ ?_; (focus (first | exact rfl | exact Nat.le_of_ble_eq_true rfl | decide | omega | fail)); conv => whnf) | (refine g_seq ?_) | (refine XS.go ?_) | (refine g_ops ?_) | (refine g_nil ?_; conv => whnf) | (refine Br.f ?_ ?_; (focus (first | assumption | exact rfl)); conv => whnf) | (refine g_cond ?_; conv => whnf) | (refine g_ret ?_; conv => whnf) | (refine g_exit ?_; conv => whnf) | (refine r_t ?_; conv => whnf) | (refine r_nil ?_; conv => whnf) | fail)
    rfl
  rcases hd with rfl | ⟨es, rfl⟩
  · have h := hz 1
    unfold Rdr at h ⊢
    exact ⟨h.1, fun U w vs hU hT => h.2 U w vs hU (nil_args hT)⟩
  · exact hz es
theorem held0_StringS (d : D) (hd : d = .nil ∨ ∃ es, d = .ro es []) (k : Int) : Rdr Try.prog 99 [d, .int .i64 k] (.int .i64 k) := by
  have hz : ∀ es, Rdr Try.prog 99 [.ro es [], .int .i64 k] (.int .i64 k) := fun es => by
    refine Rdr.intro' hm c99 (Nat.le_of_ble_eq_true rfl) ?_
    conv => whnf
    repeat' (first | (refine g_op ?_; conv => whnf) | (refine And.intro ?_ ?_; (focus (first | exact rfl | exact Nat.le_of_ble_eq_true rfl | decide | omega | fail)); conv => whnf) | (refine g_seq ?_) | (refine XS.go ?_) | (refine g_ops ?_) | (refine g_loop ?_) | (refine g_nil ?_; conv => whnf) | (refine g_block ?_) | fail)
    refine XLc.mkA (α := Unit) (fun _ => True) (fun _ => 0) (fun _ gs => [.ro es [], .int .i64 k, .any, .any, .any, .int .i64 0]) (fun _ gs => []) () True.intro ?_ ?_
    · refine ⟨?_, True.intro⟩
      repeat' (first | exact True.intro | refine And.intro rfl ?_)
    intro _ gs _
    repeat' (first | (refine g_op ?_; conv => whnf) | (refine And.intro ?_ ?_; (focus (first | exact rfl | exact Nat.le_of_ble_eq_true rfl | decide | omega | fail)); conv => whnf) | (refine g_seq ?_) | (refine XS.go ?_) | (refine g_ops ?_) | (refine g_nil ?_; conv => whnf) | (refine Br.f ?_ ?_; (focus (first | assumption | exact rfl)); conv => whnf) | (refine g_cond ?_; conv => whnf) | (refine g_ret ?_; conv => whnf) | (refine g_exit ?_; conv => whnf) | (refine r_t ?_; conv => whnf) | (refine r_nil ?_; conv => whnf) | fail)
    rfl
  rcases hd with rfl | ⟨es, rfl⟩
  · have h := hz 1
    unfold Rdr at h ⊢
    exact ⟨h.1, fun U w vs hU hT => h.2 U w vs hU (nil_args hT)⟩
  · exact hz es
theorem newM_inner (l : List ByteArray) (i : Nat) : ((l.map newM).getD i default).fWants = [] ∧ ((l.map newM).getD i default).fRuns = [] ∧ ((l.map newM).getD i default).fAsks = [] ∧ ((l.map newM).getD i default).fGives = [] := by
  by_cases h : i < l.length
  · have : (l.map newM).getD i default = newM (l.getD i default) := by simp [h]
    rw [this]
    exact ⟨rfl, rfl, rfl, rfl⟩
  · have : (l.map newM).getD i default = default := by simp [h]
    rw [this]
    exact ⟨rfl, rfl, rfl, rfl⟩
def mk_Mate (x : Mate) (k : Int) : Mate := { x with fName := mtext k, fUp := ((k + 1).tmod 3 == 0), fClock := ((k + 1) + 1), fKnown := ((((k + 1) + 1) + 1).tmod 3 == 0), fSeen := ((((k + 1) + 1) + 1) + 1) }
set_option maxHeartbeats 8000000 in
theorem mark_MateS (l : List ByteArray) (xs : List Mate) (hxs : xs = l.map newM) (b0 c0 : Nat) (k : Int) (hk : 1 ≤ k) (hl : xs.length ≤ 1048576) (hB : k + (5 * xs.length : Nat) ≤ 50000000) : XC Try.prog 97 [.lsl 0 b0 xs.length c0, .int .i64 k] [(0, b0, .arr 9 (xs.map Mate.D) c0)] (fun d ls => d = .int .i64 (k + (5 * xs.length : Nat)) ∧ ls = [(0, b0, .arr 9 ((mkS mk_Mate 5 xs k).map Mate.D) c0)]) := by
  refine XC.intro' hm [0] rfl c97 (Nat.le_of_ble_eq_true rfl) ?_
  conv => whnf
  repeat' (first | (refine g_op ?_; conv => whnf) | (refine And.intro ?_ ?_; (focus (first | exact rfl | exact Nat.le_of_ble_eq_true rfl | decide | omega | fail)); conv => whnf) | (refine g_seq ?_) | (refine XS.go ?_) | (refine g_ops ?_) | (refine g_loop ?_) | (refine g_nil ?_; conv => whnf) | (refine g_block ?_) | fail)
  refine XLc.mkG (α := Nat) (fun i gs => i ≤ xs.length ∧ gs 0 = b0) (fun i => xs.length - i) (fun i gs => [.lsl 0 (gs 0) xs.length c0, .int .i64 (k + (5 * i : Nat)), .any, .any, .any, .int .i64 (i : Int)]) (fun i gs => [(0, .arr 9 ((mkP mk_Mate 5 xs k i).map Mate.D) c0)]) 0 ⟨Nat.zero_le _, rfl⟩ ?_ ?_
  · refine ⟨?_, ?_⟩
    · repeat' (first | exact True.intro | refine And.intro rfl ?_ | refine And.intro (congrArg (D.int .i64) (by simp)) ?_)
    · exact And.intro (by rw [mkP_zero]; rfl) True.intro
  intro i gs hI
  obtain ⟨hi0, hg⟩ := hI
  subst hg
  repeat' (first | (refine g_op ?_; conv => whnf) | (refine And.intro ?_ ?_; (focus (first | exact rfl | exact Nat.le_of_ble_eq_true rfl | decide | omega | fail)); conv => whnf) | (refine g_seq ?_) | (refine XS.go ?_) | (refine g_ops ?_) | (refine g_nil ?_; conv => whnf) | (refine g_cond ?_; conv => whnf) | fail)
  refine Br.mk (fun hb => ?_) (fun hb => ?_)
  · have hlt : i < xs.length := by simpa using hb
    have hj0 : i < ((mkP mk_Mate 5 xs k i).map Mate.D).length := by rw [List.length_map, mkP_len]; exact hlt
    have he0 : ((mkP mk_Mate 5 xs k i).map Mate.D).getD i .any = (xs.getD i default).D := by
      rw [elt_map (by rw [mkP_len]; exact hlt), mkP_get _ hlt]
    have hfin : ∀ d, d = (mk_Mate (xs.getD i default) (k + (5 * i : Nat))).D → ((mkP mk_Mate 5 xs k i).map Mate.D).set i d = (mkP mk_Mate 5 xs k (i + 1)).map Mate.D := fun d h => by
      rw [h, ← mkP_set default hlt, List.map_set]
    have hKe : k + (5 * (i + 1) : Nat) = k + (5 * i : Nat) + 5 := by omega
    have hK0 : 1 ≤ k + (5 * i : Nat) := by omega
    have hK1 : k + (5 * i : Nat) + 5 ≤ 50000000 := by omega
    generalize hK : k + (5 * i : Nat) = K at hfin hK0 hK1 hKe ⊢
    have hw1 : IntKind.wrap .i64 (K + 1) = (K + 1) := wrap_ok (by omega) (by omega)
    have hw2 : IntKind.wrap .i64 ((K + 1) + 1) = ((K + 1) + 1) := wrap_ok (by omega) (by omega)
    have hw3 : IntKind.wrap .i64 (((K + 1) + 1) + 1) = (((K + 1) + 1) + 1) := wrap_ok (by omega) (by omega)
    have hw4 : IntKind.wrap .i64 ((((K + 1) + 1) + 1) + 1) = ((((K + 1) + 1) + 1) + 1) := wrap_ok (by omega) (by omega)
    have hw5 : IntKind.wrap .i64 (((((K + 1) + 1) + 1) + 1) + 1) = (((((K + 1) + 1) + 1) + 1) + 1) := wrap_ok (by omega) (by omega)
    have ht0 := mark_text K (by first | omega | (simp only [hw1, hw2, hw3, hw4, hw5]; omega)) (by first | omega | (simp only [hw1, hw2, hw3, hw4, hw5]; omega))
    have hin := newM_inner l i
    have hq0 : Rdr Try.prog 29 [.ro 7 ((xs.getD i default).fWants.map MateWant.D), .int .i64 (IntKind.wrap .i64 ((IntKind.wrap .i64 ((IntKind.wrap .i64 ((IntKind.wrap .i64 ((IntKind.wrap .i64 (K + 1)) + 1)) + 1)) + 1)) + 1))] (.int .i64 (IntKind.wrap .i64 ((IntKind.wrap .i64 ((IntKind.wrap .i64 ((IntKind.wrap .i64 ((IntKind.wrap .i64 (K + 1)) + 1)) + 1)) + 1)) + 1))) := by
      rw [hxs, hin.1]
      exact mark0_MateWantS _ (.inr ⟨_, rfl⟩) _
    have hq1 : Rdr Try.prog 135 [.ro 11 ((xs.getD i default).fRuns.map MateRun.D), .int .i64 (IntKind.wrap .i64 ((IntKind.wrap .i64 ((IntKind.wrap .i64 ((IntKind.wrap .i64 ((IntKind.wrap .i64 (K + 1)) + 1)) + 1)) + 1)) + 1))] (.int .i64 (IntKind.wrap .i64 ((IntKind.wrap .i64 ((IntKind.wrap .i64 ((IntKind.wrap .i64 ((IntKind.wrap .i64 (K + 1)) + 1)) + 1)) + 1)) + 1))) := by
      rw [hxs, hin.2.1]
      exact mark0_MateRunS _ (.inr ⟨_, rfl⟩) _
    have hq2 : Rdr Try.prog 136 [.ro 4 ((xs.getD i default).fAsks.map MateAsk.D), .int .i64 (IntKind.wrap .i64 ((IntKind.wrap .i64 ((IntKind.wrap .i64 ((IntKind.wrap .i64 ((IntKind.wrap .i64 (K + 1)) + 1)) + 1)) + 1)) + 1))] (.int .i64 (IntKind.wrap .i64 ((IntKind.wrap .i64 ((IntKind.wrap .i64 ((IntKind.wrap .i64 ((IntKind.wrap .i64 (K + 1)) + 1)) + 1)) + 1)) + 1))) := by
      rw [hxs, hin.2.2.1]
      exact mark0_MateAskS _ (.inr ⟨_, rfl⟩) _
    have hq3 : Rdr Try.prog 136 [.ro 4 ((xs.getD i default).fGives.map MateAsk.D), .int .i64 (IntKind.wrap .i64 ((IntKind.wrap .i64 ((IntKind.wrap .i64 ((IntKind.wrap .i64 ((IntKind.wrap .i64 (K + 1)) + 1)) + 1)) + 1)) + 1))] (.int .i64 (IntKind.wrap .i64 ((IntKind.wrap .i64 ((IntKind.wrap .i64 ((IntKind.wrap .i64 ((IntKind.wrap .i64 (K + 1)) + 1)) + 1)) + 1)) + 1))) := by
      rw [hxs, hin.2.2.2]
      exact mark0_MateAskS _ (.inr ⟨_, rfl⟩) _
    clear hin
    conv => whnf
    repeat' (first | (refine z_ld1 ?_; first | (refine z_ld rfl rfl rfl rfl (by first | (simp only [List.length_set]; assumption) | assumption | omega) (by first | exact elt_set (by first | assumption | (simp only [List.length_set]; assumption)) | assumption) ?_; conv => whnf) | (refine z_ld0 rfl ?_; conv => whnf)) | (refine z_st1 ?_; first | (refine z_st rfl rfl rfl (by first | (simp only [List.length_set]; assumption) | assumption | omega) (by first | exact elt_set (by first | assumption | (simp only [List.length_set]; assumption)) | assumption) rfl rfl ?_; conv => whnf) | (refine z_st0 ?_; conv => whnf)) | (refine z_ix1 ?_; first | (refine z_ix rfl rfl rfl rfl rfl ⟨by first | omega | (simp only [decide_eq_true_eq, Bool.not_eq_true', Bool.or_eq_false_iff, decide_eq_false_iff_not, Bool.and_eq_true, Bool.not_eq_false'] at *; omega), by first | omega | (simp only [decide_eq_true_eq, Bool.not_eq_true', Bool.or_eq_false_iff, decide_eq_false_iff_not, Bool.and_eq_true, Bool.not_eq_false'] at *; omega)⟩ ?_; conv => whnf) | (refine z_ix0 rfl rfl ?_; conv => whnf)) | (refine z_op ?_ ?_; (focus exact rfl); conv => whnf) | (refine zs_ops ?_ ?_; (focus exact rfl)) | (refine z_nil fun vals => ?_; conv => whnf) | (refine z_call ?_ ?_; (focus exact rfl)) | (refine RC.of (ht0) ?_ ?_; (focus exact rfl); conv => whnf) | (refine RC.of (hq0) ?_ ?_; (focus exact rfl); conv => whnf) | (refine RC.of (hq1) ?_ ?_; (focus exact rfl); conv => whnf) | (refine RC.of (hq2) ?_ ?_; (focus exact rfl); conv => whnf) | (refine RC.of (hq3) ?_ ?_; (focus exact rfl); conv => whnf) | (refine g_op ?_; conv => whnf) | (refine And.intro ?_ ?_; (focus (first | exact rfl | exact Nat.le_of_ble_eq_true rfl | decide | omega | fail)); conv => whnf) | (refine g_seq ?_) | (refine XS.go ?_) | (refine g_ops ?_) | (refine g_nil ?_; conv => whnf) | (refine g_skip ?_; conv => whnf) | (refine g_block ?_) | fail)
    have hw : IntKind.wrap .i64 ((i : Int) + 1) = ((i + 1 : Nat) : Int) := by rw [wrap_ok (by omega) (by omega)]; rfl
    refine ⟨i + 1, ⟨by omega, rfl⟩, by omega, ?_, ?_⟩
    · repeat' (first | exact True.intro | refine And.intro (congrArg (D.int .i64) hw) ?_ | refine And.intro rfl ?_ | refine And.intro (congrArg (D.int .i64) (by simp only [hw1, hw2, hw3, hw4, hw5]; omega)) ?_)
    · refine And.intro ?_ True.intro
      refine congrArg (fun l => some (D.arr 9 l c0)) ?_
      simp only [List.set_set]
      exact hfin _ (by simp only [hw1, hw2, hw3, hw4, hw5]; rfl)
  have hi : i = xs.length := by
    have : ¬ i < xs.length := by simpa using hb
    omega
  subst hi
  rw [mkP_all]
  conv => whnf
  repeat' (first | (refine g_op ?_; conv => whnf) | (refine And.intro ?_ ?_; (focus (first | exact rfl | exact Nat.le_of_ble_eq_true rfl | decide | omega | fail)); conv => whnf) | (refine g_seq ?_) | (refine XS.go ?_) | (refine g_ops ?_) | (refine g_nil ?_; conv => whnf) | (refine g_ret ?_; conv => whnf) | (refine g_exit ?_; conv => whnf) | (refine r_t ?_; conv => whnf) | (refine r_nil ?_; conv => whnf) | fail)
  first | exact ⟨rfl, rfl⟩ | exact rfl
theorem markx_MateS (s : Nat) (l : List ByteArray) (b0 c0 n : Nat) (hn : n = (l.map newM).length) (k : Int) (hk : 1 ≤ k) (hl : (l.map newM).length ≤ 1048576) (hB : k + (5 * (l.map newM).length : Nat) ≤ 50000000) : XC Try.prog 97 [.lsl s b0 n c0, .int .i64 k] [(s, b0, .arr 9 ((l.map newM).map Mate.D) c0)] (fun d ls => d = .int .i64 (k + (5 * (l.map newM).length : Nat)) ∧ ls = [(s, b0, .arr 9 ((mkS mk_Mate 5 (l.map newM) k).map Mate.D) c0)]) := by
  subst hn
  refine (mark_MateS l (l.map newM) rfl b0 c0 k hk hl hB).ren (fun _ _ _ h => h) rfl (fun d ls ⟨h1, h2⟩ => ?_)
  subst h1 h2
  exact ⟨_, _, ⟨rfl, rfl⟩, fun _ _ _ h => HolL.ren rfl h, fun _ _ _ h => h⟩
set_option maxHeartbeats 8000000 in
theorem held_MateS (l : List ByteArray) (xs : List Mate) (hxs : xs = l.map newM) (k : Int) (hk : 1 ≤ k) (hl : xs.length ≤ 1048576) (hB : k + (5 * xs.length : Nat) ≤ 50000000) : Rdr Try.prog 98 [.ro 9 ((mkS mk_Mate 5 xs k).map Mate.D), .int .i64 k] (.int .i64 (k + (5 * xs.length : Nat))) := by
  have hml : (mkS mk_Mate 5 xs k).length = xs.length := mkS_len
  refine Rdr.intro' hm c98 (Nat.le_of_ble_eq_true rfl) ?_
  conv => whnf
  repeat' (first | (refine g_op ?_; conv => whnf) | (refine And.intro ?_ ?_; (focus (first | exact rfl | exact Nat.le_of_ble_eq_true rfl | decide | omega | fail)); conv => whnf) | (refine g_seq ?_) | (refine XS.go ?_) | (refine g_ops ?_) | (refine g_loop ?_) | (refine g_nil ?_; conv => whnf) | (refine g_block ?_) | fail)
  refine XLc.mkA (α := Nat) (fun i => i ≤ xs.length) (fun i => xs.length - i) (fun i gs => [.ro 9 ((mkS mk_Mate 5 xs k).map Mate.D), .int .i64 (k + (5 * i : Nat)), .any, .any, .any, .int .i64 (i : Int)]) (fun i gs => []) 0 (Nat.zero_le _) ?_ ?_
  · refine ⟨?_, True.intro⟩
    · repeat' (first | exact True.intro | refine And.intro rfl ?_ | refine And.intro (congrArg (D.int .i64) (by simp)) ?_)
  intro i gs hi0
  repeat' (first | (refine g_op ?_; conv => whnf) | (refine And.intro ?_ ?_; (focus (first | exact rfl | exact Nat.le_of_ble_eq_true rfl | decide | omega | fail)); conv => whnf) | (refine g_seq ?_) | (refine XS.go ?_) | (refine g_ops ?_) | (refine g_nil ?_; conv => whnf) | (refine g_cond ?_; conv => whnf) | fail)
  refine Br.mk (fun hb => ?_) (fun hb => ?_)
  · have hlt : i < xs.length := by simpa [mkS_len] using hb
    have hel : (mkS mk_Mate 5 xs k).getD i default = mk_Mate (xs.getD i default) (k + (5 * i : Nat)) := mkS_get default hlt
    have hlt' : i < (mkS mk_Mate 5 xs k).length := by rw [hml]; exact hlt
    have hKe : k + (5 * (i + 1) : Nat) = k + (5 * i : Nat) + 5 := by omega
    have hK0 : 1 ≤ k + (5 * i : Nat) := by omega
    have hK1 : k + (5 * i : Nat) + 5 ≤ 50000000 := by omega
    generalize hK : k + (5 * i : Nat) = K at hel hK0 hK1 hKe ⊢
    have hw1 : IntKind.wrap .i64 (K + 1) = (K + 1) := wrap_ok (by omega) (by omega)
    have hw2 : IntKind.wrap .i64 ((K + 1) + 1) = ((K + 1) + 1) := wrap_ok (by omega) (by omega)
    have hw3 : IntKind.wrap .i64 (((K + 1) + 1) + 1) = (((K + 1) + 1) + 1) := wrap_ok (by omega) (by omega)
    have hw4 : IntKind.wrap .i64 ((((K + 1) + 1) + 1) + 1) = ((((K + 1) + 1) + 1) + 1) := wrap_ok (by omega) (by omega)
    have hw5 : IntKind.wrap .i64 (((((K + 1) + 1) + 1) + 1) + 1) = (((((K + 1) + 1) + 1) + 1) + 1) := wrap_ok (by omega) (by omega)
    have ht0 := mark_text K (by first | omega | (simp only [hw1, hw2, hw3, hw4, hw5]; omega)) (by first | omega | (simp only [hw1, hw2, hw3, hw4, hw5]; omega))
    have hin := newM_inner l i
    have hq0 : Rdr Try.prog 79 [.ro 7 (((mkS mk_Mate 5 xs k).getD i default).fWants.map MateWant.D), .int .i64 (IntKind.wrap .i64 ((IntKind.wrap .i64 ((IntKind.wrap .i64 ((IntKind.wrap .i64 ((IntKind.wrap .i64 (K + 1)) + 1)) + 1)) + 1)) + 1))] (.int .i64 (IntKind.wrap .i64 ((IntKind.wrap .i64 ((IntKind.wrap .i64 ((IntKind.wrap .i64 ((IntKind.wrap .i64 (K + 1)) + 1)) + 1)) + 1)) + 1))) := by
      rw [hel]
      show Rdr _ _ [.ro 7 ((xs.getD i default).fWants.map MateWant.D), _] _
      rw [hxs, hin.1]
      exact held0_MateWantS _ (.inr ⟨_, rfl⟩) _
    have hq1 : Rdr Try.prog 137 [.ro 11 (((mkS mk_Mate 5 xs k).getD i default).fRuns.map MateRun.D), .int .i64 (IntKind.wrap .i64 ((IntKind.wrap .i64 ((IntKind.wrap .i64 ((IntKind.wrap .i64 ((IntKind.wrap .i64 (K + 1)) + 1)) + 1)) + 1)) + 1))] (.int .i64 (IntKind.wrap .i64 ((IntKind.wrap .i64 ((IntKind.wrap .i64 ((IntKind.wrap .i64 ((IntKind.wrap .i64 (K + 1)) + 1)) + 1)) + 1)) + 1))) := by
      rw [hel]
      show Rdr _ _ [.ro 11 ((xs.getD i default).fRuns.map MateRun.D), _] _
      rw [hxs, hin.2.1]
      exact held0_MateRunS _ (.inr ⟨_, rfl⟩) _
    have hq2 : Rdr Try.prog 138 [.ro 4 (((mkS mk_Mate 5 xs k).getD i default).fAsks.map MateAsk.D), .int .i64 (IntKind.wrap .i64 ((IntKind.wrap .i64 ((IntKind.wrap .i64 ((IntKind.wrap .i64 ((IntKind.wrap .i64 (K + 1)) + 1)) + 1)) + 1)) + 1))] (.int .i64 (IntKind.wrap .i64 ((IntKind.wrap .i64 ((IntKind.wrap .i64 ((IntKind.wrap .i64 ((IntKind.wrap .i64 (K + 1)) + 1)) + 1)) + 1)) + 1))) := by
      rw [hel]
      show Rdr _ _ [.ro 4 ((xs.getD i default).fAsks.map MateAsk.D), _] _
      rw [hxs, hin.2.2.1]
      exact held0_MateAskS _ (.inr ⟨_, rfl⟩) _
    have hq3 : Rdr Try.prog 138 [.ro 4 (((mkS mk_Mate 5 xs k).getD i default).fGives.map MateAsk.D), .int .i64 (IntKind.wrap .i64 ((IntKind.wrap .i64 ((IntKind.wrap .i64 ((IntKind.wrap .i64 ((IntKind.wrap .i64 (K + 1)) + 1)) + 1)) + 1)) + 1))] (.int .i64 (IntKind.wrap .i64 ((IntKind.wrap .i64 ((IntKind.wrap .i64 ((IntKind.wrap .i64 ((IntKind.wrap .i64 (K + 1)) + 1)) + 1)) + 1)) + 1))) := by
      rw [hel]
      show Rdr _ _ [.ro 4 ((xs.getD i default).fGives.map MateAsk.D), _] _
      rw [hxs, hin.2.2.2]
      exact held0_MateAskS _ (.inr ⟨_, rfl⟩) _
    have hp5 : decide ((IntKind.wrap .i64 ((IntKind.wrap .i64 ((IntKind.wrap .i64 ((IntKind.wrap .i64 ((IntKind.wrap .i64 (K + 1)) + 1)) + 1)) + 1)) + 1)) < 0) = false := by
      simp only [hw1, hw2, hw3, hw4, hw5]
      exact decide_eq_false (by omega)
    clear hin
    conv => whnf
    repeat' (first | (refine z_ld1 ?_; first | (refine z_ld rfl rfl rfl rfl (by first | (simp only [List.length_set]; assumption) | assumption | omega) (by first | exact elt_set (by first | assumption | (simp only [List.length_set]; assumption)) | assumption) ?_; conv => whnf) | (refine z_ld0 rfl ?_; conv => whnf)) | (refine z_ix1 ?_; first | (refine z_ix rfl rfl rfl rfl rfl ⟨by first | omega | (simp only [decide_eq_true_eq, Bool.not_eq_true', Bool.or_eq_false_iff, decide_eq_false_iff_not, Bool.and_eq_true, Bool.not_eq_false'] at *; omega), by first | omega | (simp only [decide_eq_true_eq, Bool.not_eq_true', Bool.or_eq_false_iff, decide_eq_false_iff_not, Bool.and_eq_true, Bool.not_eq_false'] at *; omega)⟩ ?_; conv => whnf) | (refine z_ix0 rfl rfl ?_; conv => whnf)) | (refine z_op ?_ ?_; (focus exact rfl); conv => whnf) | (refine zs_ops ?_ ?_; (focus exact rfl)) | (refine zs_quiet ?_ ?_; (focus exact rfl)) | (refine z_nil fun vals => ?_; conv => whnf) | (refine z_call ?_ ?_; (focus exact rfl)) | (refine RC.of (ht0) ?_ ?_; (focus exact rfl); conv => whnf) | (refine RC.of (hq0) ?_ ?_; (focus exact rfl); conv => whnf) | (refine RC.of (hq1) ?_ ?_; (focus exact rfl); conv => whnf) | (refine RC.of (hq2) ?_ ?_; (focus exact rfl); conv => whnf) | (refine RC.of (hq3) ?_ ?_; (focus exact rfl); conv => whnf) | (refine g_op ?_; conv => whnf) | (refine And.intro ?_ ?_; (focus (first | exact rfl | exact Nat.le_of_ble_eq_true rfl | decide | omega | fail)); conv => whnf) | (refine g_seq ?_) | (refine XS.go ?_) | (refine g_ops ?_) | (refine g_nil ?_; conv => whnf) | (refine Br.f ?_ ?_; (focus (first | assumption | exact rfl)); conv => whnf) | (refine g_cond ?_; conv => whnf) | (refine g_skip ?_; conv => whnf) | (refine g_block ?_) | (refine Br.f (by simp only [Int.toNat_natCast, hel, hw1, hw2, hw3, hw4, hw5, mk_Mate] <;> simp) ?_; conv => whnf) | fail)
    have hw : IntKind.wrap .i64 ((i : Int) + 1) = ((i + 1 : Nat) : Int) := by rw [wrap_ok (by omega) (by omega)]; rfl
    refine ⟨i + 1, by omega, by omega, ?_, True.intro⟩
    · repeat' (first | exact True.intro | refine And.intro (congrArg (D.int .i64) hw) ?_ | refine And.intro rfl ?_ | refine And.intro (congrArg (D.int .i64) (by simp only [hw1, hw2, hw3, hw4, hw5]; omega)) ?_)
  have hi : i = xs.length := by
    have : ¬ i < xs.length := by simpa [mkS_len] using hb
    omega
  subst hi
  conv => whnf
  repeat' (first | (refine g_op ?_; conv => whnf) | (refine And.intro ?_ ?_; (focus (first | exact rfl | exact Nat.le_of_ble_eq_true rfl | decide | omega | fail)); conv => whnf) | (refine g_seq ?_) | (refine XS.go ?_) | (refine g_ops ?_) | (refine g_nil ?_; conv => whnf) | (refine g_ret ?_; conv => whnf) | (refine g_exit ?_; conv => whnf) | (refine r_t ?_; conv => whnf) | (refine r_nil ?_; conv => whnf) | fail)
  rfl
theorem mark_Land0 (k : Int) : Rdr Try.prog 20 [.agg [.int .i64 0, .nil, .nil], .int .i64 k] (.int .i64 k) := by
  have h1 := mark0_MateGrantS _ (.inl rfl) k
  have h2 := mark0_MatePlaceS _ (.inl rfl) k
  refine Rdr.intro' hm c20 (Nat.le_of_ble_eq_true rfl) ?_
  conv => whnf
  repeat' (first | (refine g_op ?_; conv => whnf) | (refine And.intro ?_ ?_; (focus (first | exact rfl | exact Nat.le_of_ble_eq_true rfl | decide | omega | fail)); conv => whnf) | (refine g_seq ?_) | (refine g_ops ?_) | (refine g_nil ?_; conv => whnf) | (refine fun _ => ?_; conv => whnf) | fail)
  refine XS.freezeB 2 rfl ?_
  repeat' (first | (refine z_ld1 ?_; first | (refine z_ld rfl rfl rfl rfl (by first | (simp only [List.length_set]; assumption) | assumption | omega) (by first | exact elt_set (by first | assumption | (simp only [List.length_set]; assumption)) | assumption) ?_; conv => whnf) | (refine z_ld0 rfl ?_; conv => whnf)) | (refine z_op ?_ ?_; (focus exact rfl); conv => whnf) | (refine zs_ops ?_ ?_; (focus exact rfl)) | (refine z_nil fun vals => ?_; conv => whnf) | (refine z_call ?_ ?_; (focus exact rfl)) | (refine RC.of (h1) ?_ ?_; (focus exact rfl); conv => whnf) | (refine RC.of (h2) ?_ ?_; (focus exact rfl); conv => whnf) | (refine g_op ?_; conv => whnf) | (refine And.intro ?_ ?_; (focus (first | exact rfl | exact Nat.le_of_ble_eq_true rfl | decide | omega | fail)); conv => whnf) | (refine g_seq ?_) | (refine XS.go ?_) | (refine g_ops ?_) | (refine g_nil ?_; conv => whnf) | (refine g_ret ?_; conv => whnf) | (refine r_t ?_; conv => whnf) | (refine r_nil ?_; conv => whnf) | fail)
  rfl
theorem held_Land0 (k : Int) (hk : 1 ≤ k) : Rdr Try.prog 22 [.agg [.int .i64 0, .ro 5 [], .ro 3 []], .int .i64 k] (.int .i64 k) := by
  have h1 := held0_MateGrantS _ (.inr ⟨5, rfl⟩) k
  have h2 := held0_MatePlaceS _ (.inr ⟨3, rfl⟩) k
  have hp : decide (k < 0) = false := decide_eq_false (by omega)
  refine Rdr.intro' hm c22 (Nat.le_of_ble_eq_true rfl) ?_
  conv => whnf
  repeat' (first | (refine g_op ?_; conv => whnf) | (refine And.intro ?_ ?_; (focus (first | exact rfl | exact Nat.le_of_ble_eq_true rfl | decide | omega | fail)); conv => whnf) | (refine g_seq ?_) | (refine g_ops ?_) | (refine g_nil ?_; conv => whnf) | (refine fun _ => ?_; conv => whnf) | fail)
  refine XS.freezeB 2 rfl ?_
  repeat' (first | (refine z_ld1 ?_; first | (refine z_ld rfl rfl rfl rfl (by first | (simp only [List.length_set]; assumption) | assumption | omega) (by first | exact elt_set (by first | assumption | (simp only [List.length_set]; assumption)) | assumption) ?_; conv => whnf) | (refine z_ld0 rfl ?_; conv => whnf)) | (refine z_op ?_ ?_; (focus exact rfl); conv => whnf) | (refine zs_ops ?_ ?_; (focus exact rfl)) | (refine z_nil fun vals => ?_; conv => whnf) | (refine z_call ?_ ?_; (focus exact rfl)) | (refine RC.of (h1) ?_ ?_; (focus exact rfl); conv => whnf) | (refine RC.of (h2) ?_ ?_; (focus exact rfl); conv => whnf) | (refine g_op ?_; conv => whnf) | (refine And.intro ?_ ?_; (focus (first | exact rfl | exact Nat.le_of_ble_eq_true rfl | decide | omega | fail)); conv => whnf) | (refine g_seq ?_) | (refine XS.go ?_) | (refine g_ops ?_) | (refine g_nil ?_; conv => whnf) | (refine Br.f ?_ ?_; (focus (first | assumption | exact rfl)); conv => whnf) | (refine g_cond ?_; conv => whnf) | (refine g_skip ?_; conv => whnf) | (refine g_ret ?_; conv => whnf) | (refine r_t ?_; conv => whnf) | (refine r_nil ?_; conv => whnf) | fail)
  rfl
def nwM (l : List ByteArray) (k : Int) : MateWorld := { fLand := { fTime := 0, fGrants := [], fPlaces := [] }, fMates := mkS mk_Mate 5 (l.map newM) k, fFlight := [] }
theorem Bor.nwM {st : St} {l : List ByteArray} {m : Int} {s b c k n : Nat} (h : st.lc s = some (.arr 9 ((mkS mk_Mate 5 (l.map newM) m).map Mate.D) k)) (g : st.gen s = b) (hn : n = l.length) : Bor st (nwO s b n c) (nwM l m).D :=
  Bor.agg (.cons (Bor.agg (.cons (Bor.refl _ _) (.cons Bor.nil (.cons Bor.nil .nil))) rfl rfl rfl) (.cons (Bor.rowM h g (by rw [hn]; show _ = (mkS mk_Mate 5 (l.map newM) m).length; rw [mkS_len, List.length_map]) (fun _ => rfl)) (.cons Bor.nil .nil))) rfl rfl rfl
theorem mark_World (l : List ByteArray) (b c : Nat) (k : Int) (hk : 1 ≤ k) (hl : l.length ≤ 1048576) (hB : k + (5 * l.length : Nat) ≤ 50000000) : XC Try.prog 43 [nwO 41 b l.length c, .int .i64 k] [(41, b, .arr 9 ((l.map newM).map Mate.D) c)] (fun d ls => d = .int .i64 (k + (5 * l.length : Nat)) ∧ ls = [(41, b, .arr 9 ((mkS mk_Mate 5 (l.map newM) k).map Mate.D) c)]) := by
  have hlm : (l.map newM).length = l.length := List.length_map _
  have h1 := mark_Land0 k
  have h3 := mark0_StringS _ (.inl rfl) (k + (5 * (l.map newM).length : Nat))
  have h2 := markx_MateS 41 l b c l.length hlm.symm k hk (by omega) (by omega)
  rw [← hlm]
  rw [hlm] at h2
  simp only [nwO, hlm] at *
  refine XC.intro' hm [41] rfl c43 (Nat.le_of_ble_eq_true rfl) ?_
  conv => whnf
  repeat' (first | (refine g_op ?_; conv => whnf) | (refine And.intro ?_ ?_; (focus (first | exact rfl | exact Nat.le_of_ble_eq_true rfl | decide | omega | fail)); conv => whnf) | (refine g_seq ?_) | (refine XS.go ?_) | (refine g_ops ?_) | (refine g_nil ?_; conv => whnf) | (refine fun _ => ?_; conv => whnf) | (refine XCL.of_rdr (h1) ?_; conv => whnf) | fail)
  refine XCL.of_XC (ls := [(41, b, .arr 9 ((l.map newM).map Mate.D) c)]) ⟨rfl, rfl, rfl, True.intro⟩ (h2.mono fun d ls h => ?_)
  obtain ⟨rfl, rfl⟩ := h
  conv => whnf
  repeat' (first | (refine g_op ?_; conv => whnf) | (refine And.intro ?_ ?_; (focus (first | exact rfl | exact Nat.le_of_ble_eq_true rfl | decide | omega | fail)); conv => whnf) | (refine g_seq ?_) | (refine XS.go ?_) | (refine g_ops ?_) | (refine g_nil ?_; conv => whnf) | (refine g_ret ?_; conv => whnf) | (refine r_t ?_; conv => whnf) | (refine r_nil ?_; conv => whnf) | (refine XCL.of_rdr (h3) ?_; conv => whnf) | fail)
  first | exact ⟨rfl, rfl⟩ | exact rfl
theorem held_World (l : List ByteArray) (k : Int) (hk : 1 ≤ k) (hl : l.length ≤ 1048576) (hB : k + (5 * l.length : Nat) ≤ 50000000) : Rdr Try.prog 44 [(nwM l k).D, .int .i64 k] (.int .i64 (k + (5 * l.length : Nat))) := by
  have hlm : (l.map newM).length = l.length := List.length_map _
  have h1 := held_Land0 k hk
  have h2 := held_MateS l (l.map newM) rfl k hk (by omega) (by omega)
  rw [hlm] at h2
  have h3 := held0_StringS _ (.inr ⟨1, rfl⟩) (k + (5 * l.length : Nat))
  have hp1 : decide (k < 0) = false := decide_eq_false (by omega)
  have hp2 : decide (k + (5 * l.length : Nat) < 0) = false := decide_eq_false (by omega)
  refine Rdr.intro' hm c44 (Nat.le_of_ble_eq_true rfl) ?_
  conv => whnf
  repeat' (first | (refine g_op ?_; conv => whnf) | (refine And.intro ?_ ?_; (focus (first | exact rfl | exact Nat.le_of_ble_eq_true rfl | decide | omega | fail)); conv => whnf) | (refine g_seq ?_) | (refine XS.go ?_) | (refine g_ops ?_) | (refine g_nil ?_; conv => whnf) | (refine Br.f ?_ ?_; (focus (first | assumption | exact rfl)); conv => whnf) | (refine g_cond ?_; conv => whnf) | (refine g_skip ?_; conv => whnf) | (refine g_ret ?_; conv => whnf) | (refine r_t ?_; conv => whnf) | (refine r_nil ?_; conv => whnf) | (refine fun _ => ?_; conv => whnf) | (refine XCL.of_rdr (h1) ?_; conv => whnf) | (refine XCL.of_rdr (h2) ?_; conv => whnf) | (refine XCL.of_rdr (h3) ?_; conv => whnf) | fail)
  rfl
end Go.Ab
