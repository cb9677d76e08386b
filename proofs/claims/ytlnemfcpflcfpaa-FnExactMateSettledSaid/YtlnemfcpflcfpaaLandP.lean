/- Steps towards the law: contracts of functions and facts of lists. -/
import Derived.Test.YtlnemfcpflcfpaaLandK
import Derived.Test.YtlnemfcpflcfpaaRows
set_option linter.unusedSimpArgs false
set_option linter.unusedVariables false
namespace Go.Ab
open Go Go.RowKit Go.Proofs
attribute [local irreducible] XC Rdr IntKind.wrap xw xos xqs xr xd
set_option maxRecDepth 100000

/-- spec.MateSettled -/
def cf51 : CF := ⟨83, [.t 2],
  (.seq (.ops [⟨some 1, .bx (.t 0), none⟩,
    ⟨some 2, .mv (.k (.bool false)), none⟩])
  (.seq (.seq (.ops [⟨some 9, .ld 5 true (.t 1), none⟩,
    ⟨some 10, .call 46 [(.t 9)], none⟩,
    ⟨some 11, .not (.t 10), none⟩])
  (.cond (.t 11)
  (.seq (.ops [⟨some 2, .mv (.k (.bool false)), none⟩])
  .ret)
  .skip))
  (.seq (.seq (.ops [⟨some 3, .mv (.k (.int .i64 0)), none⟩])
  (.block 0 (.loop (.seq (.seq (.ops [⟨some 12, .mv (.t 3), none⟩,
    ⟨some 13, .fa 3 1 1 (.t 1), none⟩,
    ⟨some 14, .ld 1 false (.t 13), none⟩,
    ⟨some 15, .lenl (.t 14), none⟩,
    ⟨some 16, .bin .lss (.t 12) (.t 15), none⟩])
  (.cond (.t 16)
  .skip
  (.exit 0)))
  (.seq (.block 1 (.seq (.ops [⟨some 19, .fa 3 1 1 (.t 1), none⟩,
    ⟨some 20, .ld 1 false (.t 19), none⟩,
    ⟨some 21, .mv (.t 3), none⟩,
    ⟨some 22, .ix 9 (.t 20) (.t 21), none⟩,
    ⟨some 23, .ld 9 true (.t 22), none⟩,
    ⟨some 4, .al (.agg [.str ⟨#[]⟩, .bool false, .int .i64 0, .bool false, .int .i64 0, .nil, .nil, .nil, .nil]), none⟩,
    ⟨none, .st 9 (.t 4) (.t 23), none⟩])
  (.seq (.ops [⟨some 24, .bsl (.agg [.str ⟨#[]⟩, .int .i64 0, .str ⟨#[]⟩, .int .i64 0, .int .i64 0, .int .i64 0, .int .i64 0]) 0 [], none⟩,
    ⟨some 5, .mv (.t 24), none⟩])
  (.seq (.seq (.ops [⟨some 6, .mv (.k (.int .i64 0)), none⟩])
  (.block 2 (.loop (.seq (.seq (.ops [⟨some 25, .mv (.t 6), none⟩,
    ⟨some 26, .fa 0 3 0 (.t 1), none⟩,
    ⟨some 27, .fa 2 1 2 (.t 26), none⟩,
    ⟨some 28, .ld 1 false (.t 27), none⟩,
    ⟨some 29, .lenl (.t 28), none⟩,
    ⟨some 30, .bin .lss (.t 25) (.t 29), none⟩])
  (.cond (.t 30)
  .skip
  (.exit 2)))
  (.seq (.block 3 (.seq (.quiet [⟨some 33, .fa 0 3 0 (.t 1), none⟩,
    ⟨some 34, .fa 2 1 2 (.t 33), none⟩,
    ⟨some 35, .ld 1 false (.t 34), none⟩,
    ⟨some 36, .mv (.t 6), none⟩,
    ⟨some 37, .ix 3 (.t 35) (.t 36), none⟩,
    ⟨some 38, .fa 0 1 0 (.t 37), none⟩,
    ⟨some 39, .ld 1 false (.t 38), none⟩,
    ⟨some 40, .fa 0 1 0 (.t 4), none⟩,
    ⟨some 41, .ld 1 false (.t 40), none⟩,
    ⟨some 42, .bin .eql (.t 39) (.t 41), none⟩])
  (.cond (.t 42)
  (.ops [⟨some 43, .fa 0 3 0 (.t 1), none⟩,
    ⟨some 44, .fa 2 1 2 (.t 43), none⟩,
    ⟨some 45, .ld 1 false (.t 44), none⟩,
    ⟨some 46, .mv (.t 6), none⟩,
    ⟨some 47, .ix 3 (.t 45) (.t 46), none⟩,
    ⟨some 48, .fa 2 1 2 (.t 47), none⟩,
    ⟨some 49, .ld 1 false (.t 48), none⟩,
    ⟨some 5, .mv (.t 49), none⟩])
  .skip)))
  (.ops [⟨some 31, .mv (.t 6), none⟩,
    ⟨some 32, .bin .add (.t 31) (.k (.int .i64 1)), none⟩,
    ⟨some 6, .mv (.t 32), none⟩]))))))
  (.seq (.ops [⟨some 50, .bsl (.agg [.str ⟨#[]⟩, .int .i64 0, .str ⟨#[]⟩, .int .i64 0, .int .i64 0, .int .i64 0, .int .i64 0]) 0 [], none⟩,
    ⟨some 7, .mv (.t 50), none⟩])
  (.seq (.seq (.ops [⟨some 8, .mv (.k (.int .i64 0)), none⟩])
  (.block 4 (.loop (.seq (.seq (.ops [⟨some 51, .mv (.t 8), none⟩,
    ⟨some 52, .fa 6 1 6 (.t 4), none⟩,
    ⟨some 53, .ld 1 false (.t 52), none⟩,
    ⟨some 54, .lenl (.t 53), none⟩,
    ⟨some 55, .bin .lss (.t 51) (.t 54), none⟩])
  (.cond (.t 55)
  .skip
  (.exit 4)))
  (.seq (.block 5 (.seq (.ops [⟨some 58, .mv (.t 7), none⟩,
    ⟨some 59, .fa 6 1 6 (.t 4), none⟩,
    ⟨some 60, .ld 1 false (.t 59), none⟩,
    ⟨some 61, .mv (.t 8), none⟩,
    ⟨some 62, .ix 11 (.t 60) (.t 61), none⟩,
    ⟨some 63, .fa 0 7 0 (.t 62), none⟩,
    ⟨some 64, .ld 7 true (.t 63), none⟩,
    ⟨some 65, .bsl (.agg [.str ⟨#[]⟩, .int .i64 0, .str ⟨#[]⟩, .int .i64 0, .int .i64 0, .int .i64 0, .int .i64 0]) 1 [(0, (.t 64))], none⟩,
    ⟨some 66, .app 7 72 (.t 58) (.t 65), none⟩,
    ⟨some 7, .mv (.t 66), none⟩])
  (.seq (.ops [⟨some 67, .fa 6 1 6 (.t 4), none⟩,
    ⟨some 68, .ld 1 false (.t 67), none⟩,
    ⟨some 69, .mv (.t 8), none⟩,
    ⟨some 70, .ix 11 (.t 68) (.t 69), none⟩,
    ⟨some 71, .fa 7 1 1 (.t 70), none⟩,
    ⟨some 72, .ld 1 false (.t 71), none⟩,
    ⟨some 73, .bin .neq (.t 72) (.k (.int .i64 4)), none⟩])
  (.cond (.t 73)
  (.seq (.ops [⟨some 2, .mv (.k (.bool false)), none⟩])
  .ret)
  .skip))))
  (.ops [⟨some 56, .mv (.t 8), none⟩,
    ⟨some 57, .bin .add (.t 56) (.k (.int .i64 1)), none⟩,
    ⟨some 8, .mv (.t 57), none⟩]))))))
  (.seq (.ops [⟨some 74, .fa 1 1 1 (.t 4), none⟩,
    ⟨some 75, .ld 1 false (.t 74), none⟩,
    ⟨some 76, .not (.t 75), none⟩,
    ⟨some 77, .mv (.t 76), none⟩,
    ⟨some 78, .mv (.t 7), some (77, false)⟩,
    ⟨some 79, .mv (.t 5), some (77, false)⟩,
    ⟨some 80, .call 106 [(.t 78), (.t 79)], some (77, false)⟩,
    ⟨some 81, .not (.t 80), some (77, false)⟩,
    ⟨some 82, .pick (.t 77) (.k (.bool true)) (.t 81), none⟩])
  (.cond (.t 82)
  (.seq (.ops [⟨some 2, .mv (.k (.bool false)), none⟩])
  .ret)
  .skip))))))))
  (.ops [⟨some 17, .mv (.t 3), none⟩,
    ⟨some 18, .bin .add (.t 17) (.k (.int .i64 1)), none⟩,
    ⟨some 3, .mv (.t 18), none⟩]))))))
  (.seq (.ops [⟨some 2, .mv (.k (.bool true)), none⟩])
  .ret))))⟩
theorem c51 : compileF Try.prog [] 51 = some cf51 := by kernel_rfl
/-- spec.l15Same -/
def cf106 : CF := ⟨26, [.t 4],
  (.seq (.ops [⟨some 4, .mv (.k (.bool false)), none⟩])
  (.seq (.seq (.ops [⟨some 6, .mv (.t 0), none⟩,
    ⟨some 7, .lenl (.t 6), none⟩,
    ⟨some 8, .mv (.t 1), none⟩,
    ⟨some 9, .lenl (.t 8), none⟩,
    ⟨some 10, .bin .neq (.t 7) (.t 9), none⟩])
  (.cond (.t 10)
  (.seq (.ops [⟨some 4, .mv (.k (.bool false)), none⟩])
  .ret)
  .skip))
  (.seq (.seq (.ops [⟨some 5, .mv (.k (.int .i64 0)), none⟩])
  (.block 0 (.loop (.seq (.seq (.ops [⟨some 11, .mv (.t 5), none⟩,
    ⟨some 12, .mv (.t 0), none⟩,
    ⟨some 13, .lenl (.t 12), none⟩,
    ⟨some 14, .bin .lss (.t 11) (.t 13), none⟩])
  (.cond (.t 14)
  .skip
  (.exit 0)))
  (.seq (.block 1 (.seq (.quiet [⟨some 17, .mv (.t 0), none⟩,
    ⟨some 18, .mv (.t 5), none⟩,
    ⟨some 19, .ix 7 (.t 17) (.t 18), none⟩,
    ⟨some 20, .ld 7 true (.t 19), none⟩,
    ⟨some 21, .mv (.t 1), none⟩,
    ⟨some 22, .mv (.t 5), none⟩,
    ⟨some 23, .ix 7 (.t 21) (.t 22), none⟩,
    ⟨some 24, .ld 7 true (.t 23), none⟩,
    ⟨some 25, .cmp true (.agg [.str ⟨#[]⟩, .int .i64 0, .str ⟨#[]⟩, .int .i64 0, .int .i64 0, .int .i64 0, .int .i64 0]) (.t 20) (.t 24), none⟩])
  (.cond (.t 25)
  (.seq (.ops [⟨some 4, .mv (.k (.bool false)), none⟩])
  .ret)
  .skip)))
  (.ops [⟨some 15, .mv (.t 5), none⟩,
    ⟨some 16, .bin .add (.t 15) (.k (.int .i64 1)), none⟩,
    ⟨some 5, .mv (.t 16), none⟩]))))))
  (.seq (.ops [⟨some 4, .mv (.k (.bool true)), none⟩])
  .ret))))⟩
theorem c106 : compileF Try.prog [] 106 = some cf106 := by kernel_rfl
/-- (*impl.MateLand).place -/
def cf107 : CF := ⟨31, [.t 4],
  (.seq (.ops [⟨some 4, .mv (.k (.nilp)), none⟩])
  (.seq (.seq (.ops [⟨some 6, .mv (.t 0), none⟩,
    ⟨some 7, .nilc (.t 6), none⟩,
    ⟨some 8, .fa 2 1 2 (.t 7), none⟩,
    ⟨some 9, .ld 1 false (.t 8), none⟩,
    ⟨some 10, .lenl (.t 9), none⟩,
    ⟨some 11, .mv (.k (.int .i64 0)), none⟩])
  (.block 0 (.loop (.seq (.ops [⟨some 12, .bin .lss (.t 11) (.t 10), none⟩])
  (.seq (.cond (.t 12)
  .skip
  (.exit 0))
  (.seq (.block 1 (.seq (.ops [⟨some 13, .mv (.t 11), none⟩,
    ⟨some 5, .mv (.t 13), none⟩])
  (.seq (.ops [⟨some 14, .mv (.t 0), none⟩,
    ⟨some 15, .nilc (.t 14), none⟩,
    ⟨some 16, .fa 2 1 2 (.t 15), none⟩,
    ⟨some 17, .ld 1 false (.t 16), none⟩,
    ⟨some 18, .mv (.t 5), none⟩,
    ⟨some 19, .ix 3 (.t 17) (.t 18), none⟩,
    ⟨some 20, .fa 0 1 0 (.t 19), none⟩,
    ⟨some 21, .ld 1 false (.t 20), none⟩,
    ⟨some 22, .mv (.t 1), none⟩,
    ⟨some 23, .bin .eql (.t 21) (.t 22), none⟩])
  (.cond (.t 23)
  (.seq (.ops [⟨some 24, .mv (.t 0), none⟩,
    ⟨some 25, .nilc (.t 24), none⟩,
    ⟨some 26, .fa 2 1 2 (.t 25), none⟩,
    ⟨some 27, .ld 1 false (.t 26), none⟩,
    ⟨some 28, .mv (.t 5), none⟩,
    ⟨some 29, .ix 3 (.t 27) (.t 28), none⟩,
    ⟨some 4, .mv (.t 29), none⟩])
  .ret)
  .skip))))
  (.ops [⟨some 30, .bin .add (.t 11) (.k (.int .i64 1)), none⟩,
    ⟨some 11, .mv (.t 30), none⟩])))))))
  (.seq (.ops [⟨some 4, .mv (.k (.nilp)), none⟩])
  .ret)))⟩
theorem c107 : compileF Try.prog [] 107 = some cf107 := by kernel_rfl
/-- impl.MateSettled -/
def cf52 : CF := ⟨62, [.t 2],
  (.seq (.ops [⟨some 1, .bx (.t 0), none⟩,
    ⟨some 2, .mv (.k (.bool false)), none⟩])
  (.seq (.seq (.ops [⟨some 9, .ld 5 true (.t 1), none⟩,
    ⟨some 10, .call 48 [(.t 9)], none⟩,
    ⟨some 11, .not (.t 10), none⟩])
  (.cond (.t 11)
  (.seq (.ops [⟨some 2, .mv (.k (.bool false)), none⟩])
  .ret)
  .skip))
  (.seq (.seq (.ops [⟨some 12, .fa 3 1 1 (.t 1), none⟩,
    ⟨some 13, .ld 1 false (.t 12), none⟩,
    ⟨some 14, .lenl (.t 13), none⟩,
    ⟨some 15, .mv (.k (.int .i64 0)), none⟩])
  (.block 0 (.loop (.seq (.ops [⟨some 16, .bin .lss (.t 15) (.t 14), none⟩])
  (.seq (.cond (.t 16)
  .skip
  (.exit 0))
  (.seq (.block 1 (.seq (.ops [⟨some 17, .ix 9 (.t 13) (.t 15), none⟩,
    ⟨some 18, .ld 9 true (.t 17), none⟩,
    ⟨some 4, .al (.agg [.str ⟨#[]⟩, .bool false, .int .i64 0, .bool false, .int .i64 0, .nil, .nil, .nil, .nil]), none⟩,
    ⟨none, .st 9 (.t 4) (.t 18), none⟩])
  (.seq (.ops [⟨some 5, .mv (.k (.nil)), none⟩])
  (.seq (.seq (.ops [⟨some 19, .fa 0 3 0 (.t 1), none⟩,
    ⟨some 20, .fa 0 1 0 (.t 4), none⟩,
    ⟨some 21, .ld 1 false (.t 20), none⟩,
    ⟨some 22, .call 107 [(.t 19), (.t 21)], none⟩,
    ⟨some 6, .mv (.t 22), none⟩])
  (.seq (.ops [⟨some 23, .mv (.t 6), none⟩,
    ⟨some 24, .ptb true (.t 23) (.k (.nilp)), none⟩])
  (.cond (.t 24)
  (.ops [⟨some 25, .mv (.t 6), none⟩,
    ⟨some 26, .nilc (.t 25), none⟩,
    ⟨some 27, .fa 2 1 2 (.t 26), none⟩,
    ⟨some 28, .ld 1 false (.t 27), none⟩,
    ⟨some 5, .mv (.t 28), none⟩])
  .skip)))
  (.seq (.seq (.ops [⟨some 29, .fa 1 1 1 (.t 4), none⟩,
    ⟨some 30, .ld 1 false (.t 29), none⟩,
    ⟨some 31, .not (.t 30), none⟩,
    ⟨some 32, .mv (.t 31), none⟩,
    ⟨some 33, .fa 6 1 6 (.t 4), some (32, false)⟩,
    ⟨some 34, .ld 1 false (.t 33), some (32, false)⟩,
    ⟨some 35, .lenl (.t 34), some (32, false)⟩,
    ⟨some 36, .mv (.t 5), some (32, false)⟩,
    ⟨some 37, .lenl (.t 36), some (32, false)⟩,
    ⟨some 38, .bin .neq (.t 35) (.t 37), some (32, false)⟩,
    ⟨some 39, .pick (.t 32) (.k (.bool true)) (.t 38), none⟩])
  (.cond (.t 39)
  (.seq (.ops [⟨some 2, .mv (.k (.bool false)), none⟩])
  .ret)
  .skip))
  (.seq (.ops [⟨some 40, .fa 6 1 6 (.t 4), none⟩,
    ⟨some 41, .ld 1 false (.t 40), none⟩,
    ⟨some 42, .lenl (.t 41), none⟩,
    ⟨some 43, .mv (.k (.int .i64 0)), none⟩])
  (.block 2 (.loop (.seq (.ops [⟨some 44, .bin .lss (.t 43) (.t 42), none⟩])
  (.seq (.cond (.t 44)
  .skip
  (.exit 2))
  (.seq (.block 3 (.seq (.ops [⟨some 45, .mv (.t 43), none⟩,
    ⟨some 46, .ix 11 (.t 41) (.t 43), none⟩,
    ⟨some 47, .ld 11 true (.t 46), none⟩,
    ⟨some 8, .al (.agg [.agg [.str ⟨#[]⟩, .int .i64 0, .str ⟨#[]⟩, .int .i64 0, .int .i64 0, .int .i64 0, .int .i64 0], .int .i64 0, .int .i64 0, .int .i64 0, .int .i64 0]), none⟩,
    ⟨some 7, .mv (.t 45), none⟩,
    ⟨none, .st 11 (.t 8) (.t 47), none⟩])
  (.seq (.quiet [⟨some 48, .fa 0 7 0 (.t 8), none⟩,
    ⟨some 49, .ld 7 true (.t 48), none⟩,
    ⟨some 50, .mv (.t 5), none⟩,
    ⟨some 51, .mv (.t 7), none⟩,
    ⟨some 52, .ix 7 (.t 50) (.t 51), none⟩,
    ⟨some 53, .ld 7 true (.t 52), none⟩,
    ⟨some 54, .cmp true (.agg [.str ⟨#[]⟩, .int .i64 0, .str ⟨#[]⟩, .int .i64 0, .int .i64 0, .int .i64 0, .int .i64 0]) (.t 49) (.t 53), none⟩,
    ⟨some 55, .mv (.t 54), none⟩,
    ⟨some 56, .fa 7 1 1 (.t 8), some (55, false)⟩,
    ⟨some 57, .ld 1 false (.t 56), some (55, false)⟩,
    ⟨some 58, .bin .neq (.t 57) (.k (.int .i64 4)), some (55, false)⟩,
    ⟨some 59, .pick (.t 55) (.k (.bool true)) (.t 58), none⟩])
  (.cond (.t 59)
  (.seq (.ops [⟨some 2, .mv (.k (.bool false)), none⟩])
  .ret)
  .skip))))
  (.ops [⟨some 60, .bin .add (.t 43) (.k (.int .i64 1)), none⟩,
    ⟨some 43, .mv (.t 60), none⟩]))))))))))))
  (.ops [⟨some 61, .bin .add (.t 15) (.k (.int .i64 1)), none⟩,
    ⟨some 15, .mv (.t 61), none⟩])))))))
  (.seq (.ops [⟨some 2, .mv (.k (.bool true)), none⟩])
  .ret))))⟩
theorem c52 : compileF Try.prog [] 52 = some cf52 := by kernel_rfl
/-- laws.FnExactMateSettled -/
def cf10 : CF := ⟨27, [.t 2],
  (.seq (.ops [⟨some 1, .bx (.t 0), none⟩,
    ⟨some 2, .mv (.k (.bool false)), none⟩])
  (.seq (.ops [⟨some 3, .mv (.k (.int .i64 1048576)), none⟩])
  (.seq (.ops [⟨some 7, .ld 5 true (.t 1), none⟩,
    ⟨some 8, .mv (.t 3), none⟩,
    ⟨some 9, .call 45 [(.t 7), (.t 8)], none⟩,
    ⟨some 3, .mv (.t 9), none⟩])
  (.seq (.seq (.ops [⟨some 10, .mv (.t 3), none⟩,
    ⟨some 11, .bin .lss (.t 10) (.k (.int .i64 0)), none⟩])
  (.cond (.t 11)
  (.seq (.ops [⟨some 2, .mv (.k (.bool true)), none⟩])
  .ret)
  .skip))
  (.seq (.ops [⟨some 12, .ld 5 true (.t 1), none⟩,
    ⟨some 13, .call 47 [(.t 12)], none⟩,
    ⟨some 14, .call 51 [(.t 13)], none⟩,
    ⟨some 4, .mv (.t 14), none⟩])
  (.seq (.ops [⟨some 15, .ld 5 true (.t 1), none⟩,
    ⟨some 16, .call 47 [(.t 15)], none⟩,
    ⟨some 5, .al (.agg [.agg [.int .i64 0, .nil, .nil], .nil, .nil]), none⟩,
    ⟨none, .st 5 (.t 5) (.t 16), none⟩])
  (.seq (.ops [⟨some 17, .ld 5 true (.t 5), none⟩,
    ⟨some 18, .call 52 [(.t 17)], none⟩,
    ⟨some 6, .mv (.t 18), none⟩])
  (.seq (.seq (.ops [⟨some 19, .mv (.t 6), none⟩,
    ⟨some 20, .mv (.t 4), none⟩,
    ⟨some 21, .binb true (.t 19) (.t 20), none⟩])
  (.cond (.t 21)
  (.seq (.ops [⟨some 2, .mv (.k (.bool false)), none⟩])
  .ret)
  .skip))
  (.seq (.seq (.quiet [⟨some 22, .ld 5 true (.t 5), none⟩,
    ⟨some 23, .ld 5 true (.t 1), none⟩,
    ⟨some 24, .call 47 [(.t 23)], none⟩,
    ⟨some 25, .call 40 [(.t 22), (.t 24)], none⟩,
    ⟨some 26, .not (.t 25), none⟩])
  (.cond (.t 26)
  (.seq (.ops [⟨some 2, .mv (.k (.bool false)), none⟩])
  .ret)
  .skip))
  (.seq (.ops [⟨some 2, .mv (.k (.bool true)), none⟩])
  .ret))))))))))⟩
theorem c10 : compileF Try.prog [] 10 = some cf10 := by kernel_rfl
/-- A slice that is nil reads as an empty row. -/
theorem XS.nilro {P : Program} {n : Nat} {st : St} {cc : CC} {Q : Post} (i es : Nat) (ds : List D) (hd : ds = []) (hi : st.fr i = .nil) (h : XS P n cc { st with fr := upd st.fr i (.ro es ds) } Q) : XS P n cc st Q :=
  h.ghost fun F g a w hH => by
    subst hd
    refine ⟨g, hH.size, hH.defers, fun j => ?_, hH.locs, hH.uin, hH.ubd, hH.uout, hH.keep⟩
    show RelV g.U w (upd st.fr i (.ro es []) j) _
    rw [upd_apply]
    split
    · rename_i e
      subst e
      have := hH.slots j
      rw [hi] at this
      have this : RelC g.U w .nil [a.tmps.getD j undef] := this
      simp only [RelC] at this
      obtain ⟨a0, hv⟩ := this
      show RelC g.U w (.ro es []) [_]
      simp only [RelC]
      exact ⟨a0, 0, hv, Nat.le_refl _, .inl trivial⟩
    · exact hH.slots j
theorem bl_trans : ∀ {a b c : List UInt8}, Op.bytesLess a b = true → Op.bytesLess b c = true → Op.bytesLess a c = true
  | [], [], _, h, _ => by simp [Op.bytesLess] at h
  | [], _ :: _, [], _, h => by simp [Op.bytesLess] at h
  | [], _ :: _, _ :: _, _, _ => rfl
  | _ :: _, [], _, h, _ => by simp [Op.bytesLess] at h
  | _ :: _, _ :: _, [], _, h => by simp [Op.bytesLess] at h
  | x :: a, y :: b, z :: c, h1, h2 => by
    simp only [Op.bytesLess, Bool.or_eq_true, Bool.and_eq_true, decide_eq_true_eq, beq_iff_eq] at h1 h2 ⊢
    rcases h1 with h1 | ⟨rfl, h1⟩ <;> rcases h2 with h2 | ⟨rfl, h2⟩
    · exact .inl (UInt8.lt_trans h1 h2)
    · exact .inl h1
    · exact .inl h2
    · exact .inr ⟨rfl, bl_trans h1 h2⟩
/-- Names in order: each ahead of all later ones. -/
theorem ord_less {f : Nat → List UInt8} {n : Nat} (h : ∀ i, 0 < i → i < n → Op.bytesLess (f (i - 1)) (f i) = true) : ∀ {d i : Nat}, i + d + 1 < n → Op.bytesLess (f i) (f (i + d + 1)) = true
  | 0, i, hn => by
    have := h (i + 1) (by omega) hn
    simpa using this
  | d + 1, i, hn => by
    have h1 := ord_less h (d := d) (i := i) (by omega)
    have h2 := h (i + (d + 1) + 1) (by omega) hn
    have e : i + (d + 1) + 1 - 1 = i + d + 1 := by omega
    rw [e] at h2
    exact bl_trans h1 h2
theorem ord_ne {f : Nat → List UInt8} {n : Nat} (h : ∀ i, 0 < i → i < n → Op.bytesLess (f (i - 1)) (f i) = true) {i j : Nat} (hij : i < j) (hj : j < n) : f i ≠ f j := fun e => by
  have := ord_less h (d := j - i - 1) (i := i) (by omega)
  have e2 : i + (j - i - 1) + 1 = j := by omega
  rw [e2, e, bl_irr] at this
  cases this
def plF (ps : List MatePlace) (name : ByteArray) (i : Nat) : Bool := (ps.getD i default).fBerth.toList == name.toList
def plI (ps : List MatePlace) (name : ByteArray) : Int := idxN (plF ps name) ps.length 0
def wantsAt (ps : List MatePlace) (name : ByteArray) : List MateWant := if plI ps name < 0 then [] else (ps.getD (plI ps name).toNat default).fWants
def lastW (ps : List MatePlace) (name : ByteArray) : Nat → List MateWant
  | 0 => []
  | k + 1 => if plF ps name k then (ps.getD k default).fWants else lastW ps name k
theorem lastW_none {ps : List MatePlace} {name : ByteArray} : ∀ {k : Nat}, (∀ j, j < k → plF ps name j = false) → lastW ps name k = []
  | 0, _ => rfl
  | k + 1, h => by rw [lastW, h k (by omega)]; exact lastW_none fun j hj => h j (by omega)
theorem lastW_one {ps : List MatePlace} {name : ByteArray} {m : Nat} (hm : plF ps name m = true) : ∀ {k : Nat}, m < k → (∀ j, j < k → plF ps name j = true → j = m) → lastW ps name k = (ps.getD m default).fWants
  | 0, h, _ => by omega
  | k + 1, h, hu => by
    rw [lastW]
    cases hk : plF ps name k with
    | true => rw [hu k (by omega) hk]; rfl
    | false =>
      have : m ≠ k := fun e => by rw [e, hk] at hm; cases hm
      exact lastW_one hm (by omega) fun j hj => hu j (by omega)
theorem pl_ord {ps : List MatePlace} (h : placesOk ps = true) : ∀ i, 0 < i → i < ps.length → Op.bytesLess (ps.getD (i - 1) default).fBerth.toList (ps.getD i default).fBerth.toList = true := fun i h0 hi => by
  simp only [placesOk, Bool.and_eq_true, Bool.and_true, Bool.not_eq_true', decide_eq_false_iff_not] at h
  have := allN_get h.2 (Nat.zero_le i) (by omega)
  simp only [pF, pS, Bool.and_eq_true, Bool.not_eq_true', Bool.and_eq_false_iff, decide_eq_false_iff_not, Bool.not_eq_false'] at this
  have hp : pr i = i - 1 := by
    unfold pr
    rw [wrap_ok (by omega) (by omega)]
    omega
  rcases this.1.2 with q | q
  · omega
  · rw [hp] at q; exact q
theorem lastW_all {ps : List MatePlace} (h : placesOk ps = true) (name : ByteArray) : lastW ps name ps.length = wantsAt ps name := by
  unfold wantsAt plI
  rcases idxN_cases (f := plF ps name) (k := ps.length) (i := 0) with ⟨h1, h2⟩ | ⟨m, h1, _, h3, h4⟩
  · rw [h1, if_pos (by decide)]
    exact lastW_none fun j hj => h2 j (Nat.zero_le _) (by omega)
  · rw [h1, if_neg (by omega)]
    refine lastW_one h4 (by omega) fun j hj hf => ?_
    simp only [plF, beq_iff_eq] at hf h4
    rcases Nat.lt_trichotomy j m with q | q | q
    · exact absurd (hf.trans h4.symm) (ord_ne (f := fun i => (ps.getD i default).fBerth.toList) (pl_ord h) q (by omega))
    · exact q
    · exact absurd (h4.trans hf.symm) (ord_ne (f := fun i => (ps.getD i default).fBerth.toList) (pl_ord h) q hj)
def wantEq (a b : MateWant) : Bool := (a.fCopy.toList == b.fCopy.toList) && ((a.fVersion == b.fVersion) && ((a.fHold.toList == b.fHold.toList) && ((a.fPull == b.fPull) && ((a.fStart == b.fStart) && ((a.fDies == b.fDies) && ((a.fGrace == b.fGrace) && true))))))
def eqF (xs ys : List MateWant) (k : Nat) : Bool := wantEq (xs.getD k default) (ys.getD k default)
def sameW (xs ys : List MateWant) : Bool := !((xs.length : Int) != (ys.length : Int)) && (allN (eqF xs ys) xs.length 0 && true)
def stF (xs : List MateRun) (k : Nat) : Bool := !((xs.getD k default).fState != 4)
def weF (xs : List MateRun) (ys : List MateWant) (k : Nat) : Bool := wantEq (xs.getD k default).fWant (ys.getD k default)
def sM (w : MateWorld) (i : Nat) : Bool := allN (stF (w.fMates.getD i default).fRuns) (w.fMates.getD i default).fRuns.length 0 && ((w.fMates.getD i default).fUp && (!(((w.fMates.getD i default).fRuns.length : Int) != ((wantsAt w.fLand.fPlaces (w.fMates.getD i default).fName).length : Int)) && allN (weF (w.fMates.getD i default).fRuns (wantsAt w.fLand.fPlaces (w.fMates.getD i default).fName)) (w.fMates.getD i default).fRuns.length 0))
def settled (w : MateWorld) : Bool := worldOk w && (allN (sM w) w.fMates.length 0 && true)
theorem allN_and {f g : Nat → Bool} : ∀ {k i : Nat}, allN (fun j => f j && g j) k i = (allN f k i && allN g k i)
  | 0, _ => rfl
  | k + 1, i => by
    simp only [allN, allN_and (k := k) (i := i + 1)]
    cases f i <;> cases g i <;> simp
theorem sameW_runs (xs : List MateRun) (ys : List MateWant) : sameW (xs.map (·.fWant)) ys = (!((xs.length : Int) != (ys.length : Int)) && allN (weF xs ys) xs.length 0) := by
  unfold sameW
  rw [List.length_map, Bool.and_true]
  congr 1
  refine allN_congr fun j _ hj => ?_
  have hj' : j < xs.length := by omega
  simp [eqF, weF, hj']
theorem worldOk_places {w : MateWorld} (h : worldOk w = true) : placesOk w.fLand.fPlaces = true ∧ w.fLand.fPlaces.length ≤ 4 := by
  simp only [worldOk, wH, Bool.and_eq_true, Bool.not_eq_true', Bool.or_eq_false_iff, Bool.not_eq_false'] at h
  have h2 : landOk w.fLand = true := h.1.1.1.1
  simp only [landOk, Bool.and_eq_true] at h2
  have h3 := h2.2.2
  refine ⟨h3, ?_⟩
  simp only [placesOk, Bool.and_eq_true, Bool.not_eq_true', decide_eq_false_iff_not] at h3
  omega
theorem worldOk_runs {w : MateWorld} (h : worldOk w = true) (i : Nat) : (w.fMates.getD i default).fRuns.length ≤ 20 := by
  by_cases hi : i < w.fMates.length
  · simp only [worldOk, Bool.and_eq_true, Bool.and_true] at h
    have := allN_get h.2 (Nat.zero_le i) (by omega)
    simp only [oS, validM, Bool.and_eq_true, Bool.not_eq_true'] at this
    exact (c1_facts this.1.1).2.2.2.1
  · have e : w.fMates.getD i default = default := by simp [hi]
    rw [e]
    exact Nat.zero_le _
theorem worldOk_mates {w : MateWorld} (h : worldOk w = true) : w.fMates.length ≤ 4 := by
  simp only [worldOk, Bool.and_eq_true, Bool.not_eq_true'] at h
  exact wH_mates h.1
set_option maxHeartbeats 4000000 in
theorem impl_place (l : MateLand) (name : ByteArray) (hl : l.fPlaces.length ≤ 1048576) : Rdr Try.prog 107 [.cref l.D, .str name] (ptrAt MatePlace.D default l.fPlaces (plI l.fPlaces name)) := by
  refine Rdr.intro' hm c107 (Nat.le_of_ble_eq_true rfl) ?_
  conv => whnf
  repeat' (first | (refine z_ld1 ?_; first | (refine z_ld rfl rfl rfl rfl (by first | (simp only [List.length_set]; assumption) | assumption | omega) (by first | exact elt_set (by first | assumption | (simp only [List.length_set]; assumption)) | assumption) ?_; conv => whnf) | (refine z_ld0 rfl ?_; conv => whnf)) | (refine z_op ?_ ?_; (focus exact rfl); conv => whnf) | (refine zs_ops ?_ ?_; (focus exact rfl)) | (refine z_nil fun vals => ?_; conv => whnf) | (refine g_op ?_; conv => whnf) | (refine And.intro ?_ ?_; (focus (first | exact rfl | exact Nat.le_of_ble_eq_true rfl | decide | omega | fail)); conv => whnf) | (refine g_seq ?_) | (refine XS.go ?_) | (refine g_ops ?_) | (refine g_loop ?_) | (refine g_nil ?_; conv => whnf) | (refine g_block ?_) | fail)
  refine XLc.mkL (α := Nat) (fun i => i ≤ l.fPlaces.length ∧ plI l.fPlaces name = idxN (plF l.fPlaces name) (l.fPlaces.length - i) i) (fun i => l.fPlaces.length - i) (fun i gs => [.cref l.D, .str name, .any, .any, .any, .any, .any, .any, .any, .any, .int .i64 ((l.fPlaces.map MatePlace.D).length : Int), .int .i64 (i : Int)]) (fun i gs => []) 0 ⟨Nat.zero_le _, rfl⟩ ?_ ?_
  · refine ⟨?_, ?_⟩
    · repeat' (first | exact True.intro | refine And.intro rfl ?_)
    · repeat' (first | exact True.intro | refine And.intro rfl ?_)
  intro i gs hI
  obtain ⟨hi, hN⟩ := hI
  repeat' (first | (refine g_op ?_; conv => whnf) | (refine And.intro ?_ ?_; (focus (first | exact rfl | exact Nat.le_of_ble_eq_true rfl | decide | omega | fail)); conv => whnf) | (refine g_seq ?_) | (refine XS.go ?_) | (refine g_ops ?_) | (refine g_nil ?_; conv => whnf) | (refine g_cond ?_; conv => whnf) | fail)
  refine Br.mk (fun hb => ?_) (fun hb => ?_)
  · have hlt : i < l.fPlaces.length := by simpa using hb
    have hw : IntKind.wrap .i64 ((i : Int) + 1) = ((i + 1 : Nat) : Int) := by rw [wrap_ok (by omega) (by omega)]; rfl
    have hit := fun h => idxN_hit (f := plF l.fPlaces name) hlt hN h
    have miss := fun h => idxN_miss (f := plF l.fPlaces name) hlt hN h
    clear hN hb
    conv => whnf
    repeat' (first | (refine z_ld1 ?_; first | (refine z_ld rfl rfl rfl rfl (by first | (simp only [List.length_set]; assumption) | assumption | omega) (by first | exact elt_set (by first | assumption | (simp only [List.length_set]; assumption)) | assumption) ?_; conv => whnf) | (refine z_ld0 rfl ?_; conv => whnf)) | (refine z_ix1 ?_; first | (refine z_ix rfl rfl rfl rfl rfl ⟨by first | omega | (simp only [decide_eq_true_eq, Bool.not_eq_true', Bool.or_eq_false_iff, decide_eq_false_iff_not, Bool.and_eq_true, Bool.not_eq_false'] at *; omega), by first | omega | (simp only [decide_eq_true_eq, Bool.not_eq_true', Bool.or_eq_false_iff, decide_eq_false_iff_not, Bool.and_eq_true, Bool.not_eq_false'] at *; omega)⟩ ?_; conv => whnf) | (refine z_ix0 rfl rfl ?_; conv => whnf)) | (refine z_op ?_ ?_; (focus exact rfl); conv => whnf) | (refine zs_ops ?_ ?_; (focus exact rfl)) | (refine z_nil fun vals => ?_; conv => whnf) | (refine g_op ?_; conv => whnf) | (refine And.intro ?_ ?_; (focus (first | exact rfl | exact Nat.le_of_ble_eq_true rfl | decide | omega | fail)); conv => whnf) | (refine g_seq ?_) | (refine XS.go ?_) | (refine g_ops ?_) | (refine g_nil ?_; conv => whnf) | (refine g_cond ?_; conv => whnf) | (refine g_skip ?_; conv => whnf) | (refine g_ret ?_; conv => whnf) | (refine g_block ?_) | (refine r_t ?_; conv => whnf) | (refine r_nil ?_; conv => whnf) | (refine Br.mk (fun hb => ?_) (fun hb => ?_) <;> conv => whnf) | fail)
    all_goals
      first
      | ((conv => lhs; whnf); first | (rw [hit hb]; done) | (rw [hit hb]; rfl) | fail)
      | (refine ⟨i + 1, ⟨by omega, miss hb⟩, by omega, ?_, ?_⟩
         · repeat' (first | exact True.intro | refine And.intro (congrArg (D.int .i64) hw) ?_ | refine And.intro rfl ?_)
         · repeat' (first | exact True.intro | refine And.intro rfl ?_))
  have hge : ¬ i < l.fPlaces.length := by simpa using hb
  have hend : plI l.fPlaces name = -1 := by rw [hN, idxN_end hge]
  clear hN
  conv => whnf
  repeat' (first | (refine g_op ?_; conv => whnf) | (refine And.intro ?_ ?_; (focus (first | exact rfl | exact Nat.le_of_ble_eq_true rfl | decide | omega | fail)); conv => whnf) | (refine g_seq ?_) | (refine XS.go ?_) | (refine g_ops ?_) | (refine g_nil ?_; conv => whnf) | (refine g_ret ?_; conv => whnf) | (refine g_exit ?_; conv => whnf) | (refine r_t ?_; conv => whnf) | (refine r_nil ?_; conv => whnf) | fail)
  ((conv => lhs; whnf); first | (rw [hend]; done) | (rw [hend]; rfl))
set_option maxHeartbeats 4000000 in
theorem spec_Same (xs ys : List MateWant) (hl : xs.length ≤ 1048576) : Rdr Try.prog 106 [.ro 7 (xs.map MateWant.D), .ro 7 (ys.map MateWant.D)] (.bool (sameW xs ys)) := by
  refine Rdr.intro' hm c106 (Nat.le_of_ble_eq_true rfl) ?_
  conv => whnf
  repeat' (first | (refine g_op ?_; conv => whnf) | (refine And.intro ?_ ?_; (focus (first | exact rfl | exact Nat.le_of_ble_eq_true rfl | decide | omega | fail)); conv => whnf) | (refine g_seq ?_) | (refine XS.go ?_) | (refine g_ops ?_) | (refine g_nil ?_; conv => whnf) | (refine g_cond ?_; conv => whnf) | fail)
  simp only [mlen']
  refine Br.mk (fun hb => ?_) (fun hb => ?_)
  · conv => whnf
    repeat' (first | (refine g_op ?_; conv => whnf) | (refine And.intro ?_ ?_; (focus (first | exact rfl | exact Nat.le_of_ble_eq_true rfl | decide | omega | fail)); conv => whnf) | (refine g_seq ?_) | (refine XS.go ?_) | (refine g_ops ?_) | (refine g_nil ?_; conv => whnf) | (refine g_ret ?_; conv => whnf) | (refine r_t ?_; conv => whnf) | (refine r_nil ?_; conv => whnf) | fail)
    (conv => lhs; whnf)
    rw [sameW, hb]
    rfl
  have hv : sameW xs ys = (allN (eqF xs ys) xs.length 0 && true) := by rw [sameW, hb]; rfl
  have hlen : xs.length = ys.length := by
    have : (xs.length : Int) = (ys.length : Int) := by simpa using hb
    omega
  clear hb
  conv => whnf
  repeat' (first | (refine g_op ?_; conv => whnf) | (refine And.intro ?_ ?_; (focus (first | exact rfl | exact Nat.le_of_ble_eq_true rfl | decide | omega | fail)); conv => whnf) | (refine g_seq ?_) | (refine XS.go ?_) | (refine g_ops ?_) | (refine g_loop ?_) | (refine g_nil ?_; conv => whnf) | (refine g_skip ?_; conv => whnf) | (refine g_block ?_) | fail)
  refine XLc.mkL (α := Nat) (fun i => i ≤ xs.length ∧ sameW xs ys = (allN (eqF xs ys) (xs.length - i) i && true)) (fun i => xs.length - i) (fun i gs => [.ro 7 (xs.map MateWant.D), .ro 7 (ys.map MateWant.D), .any, .any, .any, .int .i64 (i : Int)]) (fun i gs => []) 0 ⟨Nat.zero_le _, hv⟩ ?_ ?_
  · refine ⟨?_, ?_⟩
    · repeat' (first | exact True.intro | refine And.intro rfl ?_)
    · repeat' (first | exact True.intro | refine And.intro rfl ?_)
  intro i gs hI
  obtain ⟨hi, hN⟩ := hI
  repeat' (first | (refine g_op ?_; conv => whnf) | (refine And.intro ?_ ?_; (focus (first | exact rfl | exact Nat.le_of_ble_eq_true rfl | decide | omega | fail)); conv => whnf) | (refine g_seq ?_) | (refine XS.go ?_) | (refine g_ops ?_) | (refine g_nil ?_; conv => whnf) | (refine g_cond ?_; conv => whnf) | fail)
  refine Br.mk (fun hb => ?_) (fun hb => ?_)
  · have hlt : i < xs.length := by simpa using hb
    have hw : IntKind.wrap .i64 ((i : Int) + 1) = ((i + 1 : Nat) : Int) := by rw [wrap_ok (by omega) (by omega)]; rfl
    have hw1 : IntKind.wrap .i64 ((i : Int) - 1) = (i : Int) - 1 := wrap_ok (by omega) (by omega)
    have hbad := fun h => allN_bad (f := eqF xs ys) hlt hN h
    have hgood := fun h => allN_good (f := eqF xs ys) hlt hN h
    clear hN hb
    all_goals conv => whnf
    repeat' (first | (refine z_ld1 ?_; first | (refine z_ld rfl rfl rfl rfl (by first | (simp only [List.length_set]; assumption) | assumption | omega) (by first | exact elt_set (by first | assumption | (simp only [List.length_set]; assumption)) | assumption) ?_; conv => whnf) | (refine z_ld0 rfl ?_; conv => whnf)) | (refine z_ix1 ?_; first | (refine z_ix rfl rfl rfl rfl rfl ⟨by first | omega | (simp only [decide_eq_true_eq, Bool.not_eq_true', Bool.or_eq_false_iff, decide_eq_false_iff_not, Bool.and_eq_true, Bool.not_eq_false'] at *; omega), by first | omega | (simp only [decide_eq_true_eq, Bool.not_eq_true', Bool.or_eq_false_iff, decide_eq_false_iff_not, Bool.and_eq_true, Bool.not_eq_false'] at *; omega)⟩ ?_; conv => whnf) | (refine z_ix0 rfl rfl ?_; conv => whnf)) | (refine z_op ?_ ?_; (focus exact rfl); conv => whnf) | (refine zs_quiet ?_ ?_; (focus exact rfl)) | (refine z_nil fun vals => ?_; conv => whnf) | (refine g_op ?_; conv => whnf) | (refine And.intro ?_ ?_; (focus (first | exact rfl | exact Nat.le_of_ble_eq_true rfl | decide | omega | fail)); conv => whnf) | (refine g_seq ?_) | (refine XS.go ?_) | (refine g_ops ?_) | (refine g_nil ?_; conv => whnf) | (refine g_cond ?_; conv => whnf) | (refine g_skip ?_; conv => whnf) | (refine g_ret ?_; conv => whnf) | (refine g_block ?_) | (refine r_t ?_; conv => whnf) | (refine r_nil ?_; conv => whnf) | (refine Br.mk (fun hb => ?_) (fun hb => ?_) <;> conv => whnf) | fail)
    all_goals
      first
      | (refine ⟨(), hbad ?_, ⟨?_, True.intro⟩⟩
         · clear hbad hgood hw hv
           first | (first | (refine (Bool.eq_false_iff.mpr fun h => ?_).symm; simp_all [eqF, wantEq]; done) | (refine Bool.eq_false_iff.mpr fun h => ?_; simp_all [eqF, wantEq]; done) | (simp_all [eqF, wantEq]; done) | (simp_all [eqF, wantEq]; omega) | (refine (Bool.eq_false_iff.mpr fun h => ?_).symm; simp_all [eqF, wantEq]; omega) | (refine Bool.eq_false_iff.mpr fun h => ?_; simp_all [eqF, wantEq]; omega) | (rw [Bool.eq_iff_iff]; constructor <;> intro h <;> simp_all [eqF, wantEq] <;> omega) | fail) | (rcases Nat.eq_zero_or_pos i with h0 | h0 <;> simp_all [eqF, wantEq] <;> omega) | (exact (Bool.not_inj (show (!eqF xs ys i) = _ from hb))) | fail
         · repeat' (first | exact True.intro | refine And.intro rfl ?_))
      | (conv => lhs; whnf
         refine congrArg D.bool (hbad ?_)
         clear hbad hgood hw hv
         first | (first | (refine (Bool.eq_false_iff.mpr fun h => ?_).symm; simp_all [eqF, wantEq]; done) | (refine Bool.eq_false_iff.mpr fun h => ?_; simp_all [eqF, wantEq]; done) | (simp_all [eqF, wantEq]; done) | (simp_all [eqF, wantEq]; omega) | (refine (Bool.eq_false_iff.mpr fun h => ?_).symm; simp_all [eqF, wantEq]; omega) | (refine Bool.eq_false_iff.mpr fun h => ?_; simp_all [eqF, wantEq]; omega) | (rw [Bool.eq_iff_iff]; constructor <;> intro h <;> simp_all [eqF, wantEq] <;> omega) | fail) | (rcases Nat.eq_zero_or_pos i with h0 | h0 <;> simp_all [eqF, wantEq] <;> omega) | (exact (Bool.not_inj (show (!eqF xs ys i) = _ from hb))) | fail)
      | (refine ⟨i + 1, ⟨by omega, ?_⟩, by omega, ?_, ?_⟩
         · refine hgood ?_
           clear hbad hgood hw hv
           first | (first | (refine (Bool.eq_false_iff.mpr fun h => ?_).symm; simp_all [eqF, wantEq]; done) | (refine Bool.eq_false_iff.mpr fun h => ?_; simp_all [eqF, wantEq]; done) | (simp_all [eqF, wantEq]; done) | (simp_all [eqF, wantEq]; omega) | (refine (Bool.eq_false_iff.mpr fun h => ?_).symm; simp_all [eqF, wantEq]; omega) | (refine Bool.eq_false_iff.mpr fun h => ?_; simp_all [eqF, wantEq]; omega) | (rw [Bool.eq_iff_iff]; constructor <;> intro h <;> simp_all [eqF, wantEq] <;> omega) | fail) | (rcases Nat.eq_zero_or_pos i with h0 | h0 <;> simp_all [eqF, wantEq] <;> omega) | (exact (Bool.not_inj (show (!eqF xs ys i) = _ from hb))) | fail
         · repeat' (first | exact True.intro | refine And.intro (congrArg (D.int .i64) hw) ?_ | refine And.intro rfl ?_)
         · repeat' (first | exact True.intro | refine And.intro rfl ?_))
  have hge : ¬ i < xs.length := by simpa using hb
  have hend : sameW xs ys = true := by rw [hN, allN_end hge, Bool.true_and]
  clear hN
  conv => whnf
  repeat' (first | (refine g_op ?_; conv => whnf) | (refine And.intro ?_ ?_; (focus (first | exact rfl | exact Nat.le_of_ble_eq_true rfl | decide | omega | fail)); conv => whnf) | (refine g_seq ?_) | (refine XS.go ?_) | (refine g_ops ?_) | (refine g_nil ?_; conv => whnf) | (refine g_ret ?_; conv => whnf) | (refine g_exit ?_; conv => whnf) | (refine r_t ?_; conv => whnf) | (refine r_nil ?_; conv => whnf) | fail)
  (conv => lhs; whnf)
  rw [hend]
end Go.Ab
