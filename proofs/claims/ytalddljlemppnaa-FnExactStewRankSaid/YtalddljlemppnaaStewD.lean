/- Steps towards the law: contracts of functions and facts of lists. -/
import Derived.Test.YtalddljlemppnaaStewC
import Derived.Test.YtalddljlemppnaaRows
set_option linter.unusedSimpArgs false
set_option linter.unusedVariables false
namespace Go.Ab
open Go Go.RowKit Go.Proofs
attribute [local irreducible] XC Rdr IntKind.wrap xw xos xqs xr xd
set_option maxRecDepth 100000

/-- spec.StewValid -/
def cf19 : CF := ⟨133, [.t 2],
  (.seq (.ops [⟨some 1, .bx (.t 0), none⟩,
    ⟨some 2, .mv (.k (.bool false)), none⟩])
  (.seq (.seq (.ops [⟨some 6, .fa 0 1 0 (.t 1), none⟩,
    ⟨some 7, .ld 1 false (.t 6), none⟩,
    ⟨some 8, .call 70 [(.t 7), (.k (.int .i64 0)), (.k (.int .i64 1000000))], none⟩,
    ⟨some 9, .not (.t 8), none⟩,
    ⟨some 10, .mv (.t 9), none⟩,
    ⟨some 11, .fa 1 1 1 (.t 1), some (10, false)⟩,
    ⟨some 12, .ld 1 false (.t 11), some (10, false)⟩,
    ⟨some 13, .lenl (.t 12), some (10, false)⟩,
    ⟨some 14, .bin .gtr (.t 13) (.k (.int .i64 8)), some (10, false)⟩,
    ⟨some 15, .pick (.t 10) (.k (.bool true)) (.t 14), none⟩,
    ⟨some 16, .mv (.t 15), none⟩,
    ⟨some 17, .fa 2 1 2 (.t 1), some (16, false)⟩,
    ⟨some 18, .ld 1 false (.t 17), some (16, false)⟩,
    ⟨some 19, .lenl (.t 18), some (16, false)⟩,
    ⟨some 20, .bin .gtr (.t 19) (.k (.int .i64 200)), some (16, false)⟩,
    ⟨some 21, .pick (.t 16) (.k (.bool true)) (.t 20), none⟩,
    ⟨some 22, .mv (.t 21), none⟩,
    ⟨some 23, .fa 3 1 3 (.t 1), some (22, false)⟩,
    ⟨some 24, .ld 1 false (.t 23), some (22, false)⟩,
    ⟨some 25, .lenl (.t 24), some (22, false)⟩,
    ⟨some 26, .bin .gtr (.t 25) (.k (.int .i64 6)), some (22, false)⟩,
    ⟨some 27, .pick (.t 22) (.k (.bool true)) (.t 26), none⟩])
  (.cond (.t 27)
  (.seq (.ops [⟨some 2, .mv (.k (.bool false)), none⟩])
  .ret)
  .skip))
  (.seq (.seq (.ops [⟨some 3, .mv (.k (.int .i64 0)), none⟩])
  (.block 0 (.loop (.seq (.seq (.ops [⟨some 28, .mv (.t 3), none⟩,
    ⟨some 29, .fa 1 1 1 (.t 1), none⟩,
    ⟨some 30, .ld 1 false (.t 29), none⟩,
    ⟨some 31, .lenl (.t 30), none⟩,
    ⟨some 32, .bin .lss (.t 28) (.t 31), none⟩])
  (.cond (.t 32)
  .skip
  (.exit 0)))
  (.seq (.block 1 (.seq (.quiet [⟨some 35, .fa 1 1 1 (.t 1), none⟩,
    ⟨some 36, .ld 1 false (.t 35), none⟩,
    ⟨some 37, .mv (.t 3), none⟩,
    ⟨some 38, .ix 13 (.t 36) (.t 37), none⟩,
    ⟨some 39, .ld 13 true (.t 38), none⟩,
    ⟨some 40, .fa 0 1 0 (.t 1), none⟩,
    ⟨some 41, .ld 1 false (.t 40), none⟩,
    ⟨some 42, .call 71 [(.t 39), (.t 41)], none⟩,
    ⟨some 43, .not (.t 42), none⟩,
    ⟨some 44, .mv (.t 43), none⟩,
    ⟨some 45, .mv (.t 3), some (44, false)⟩,
    ⟨some 46, .bin .gtr (.t 45) (.k (.int .i64 0)), some (44, false)⟩,
    ⟨some 47, .mv (.t 46), some (44, false)⟩,
    ⟨some 48, .fa 1 1 1 (.t 1), some (47, true)⟩,
    ⟨some 49, .ld 1 false (.t 48), some (47, true)⟩,
    ⟨some 50, .mv (.t 3), some (47, true)⟩,
    ⟨some 51, .bin .sub (.t 50) (.k (.int .i64 1)), some (47, true)⟩,
    ⟨some 52, .ix 13 (.t 49) (.t 51), some (47, true)⟩,
    ⟨some 53, .fa 0 1 0 (.t 52), some (47, true)⟩,
    ⟨some 54, .ld 1 false (.t 53), some (47, true)⟩,
    ⟨some 55, .fa 1 1 1 (.t 1), some (47, true)⟩,
    ⟨some 56, .ld 1 false (.t 55), some (47, true)⟩,
    ⟨some 57, .mv (.t 3), some (47, true)⟩,
    ⟨some 58, .ix 13 (.t 56) (.t 57), some (47, true)⟩,
    ⟨some 59, .fa 0 1 0 (.t 58), some (47, true)⟩,
    ⟨some 60, .ld 1 false (.t 59), some (47, true)⟩,
    ⟨some 61, .bin .geq (.t 54) (.t 60), some (47, true)⟩,
    ⟨some 62, .pick (.t 47) (.t 61) (.k (.bool false)), some (44, false)⟩,
    ⟨some 63, .pick (.t 44) (.k (.bool true)) (.t 62), none⟩])
  (.cond (.t 63)
  (.seq (.ops [⟨some 2, .mv (.k (.bool false)), none⟩])
  .ret)
  .skip)))
  (.ops [⟨some 33, .mv (.t 3), none⟩,
    ⟨some 34, .bin .add (.t 33) (.k (.int .i64 1)), none⟩,
    ⟨some 3, .mv (.t 34), none⟩]))))))
  (.seq (.seq (.ops [⟨some 4, .mv (.k (.int .i64 0)), none⟩])
  (.block 2 (.loop (.seq (.seq (.ops [⟨some 64, .mv (.t 4), none⟩,
    ⟨some 65, .fa 3 1 3 (.t 1), none⟩,
    ⟨some 66, .ld 1 false (.t 65), none⟩,
    ⟨some 67, .lenl (.t 66), none⟩,
    ⟨some 68, .bin .lss (.t 64) (.t 67), none⟩])
  (.cond (.t 68)
  .skip
  (.exit 2)))
  (.seq (.block 3 (.seq (.quiet [⟨some 71, .fa 3 1 3 (.t 1), none⟩,
    ⟨some 72, .ld 1 false (.t 71), none⟩,
    ⟨some 73, .mv (.t 4), none⟩,
    ⟨some 74, .ix 2 (.t 72) (.t 73), none⟩,
    ⟨some 75, .fa 0 1 0 (.t 74), none⟩,
    ⟨some 76, .ld 1 false (.t 75), none⟩,
    ⟨some 77, .call 72 [(.t 76)], none⟩,
    ⟨some 78, .not (.t 77), none⟩,
    ⟨some 79, .mv (.t 78), none⟩,
    ⟨some 80, .mv (.t 4), some (79, false)⟩,
    ⟨some 81, .bin .gtr (.t 80) (.k (.int .i64 0)), some (79, false)⟩,
    ⟨some 82, .mv (.t 81), some (79, false)⟩,
    ⟨some 83, .fa 3 1 3 (.t 1), some (82, true)⟩,
    ⟨some 84, .ld 1 false (.t 83), some (82, true)⟩,
    ⟨some 85, .mv (.t 4), some (82, true)⟩,
    ⟨some 86, .bin .sub (.t 85) (.k (.int .i64 1)), some (82, true)⟩,
    ⟨some 87, .ix 2 (.t 84) (.t 86), some (82, true)⟩,
    ⟨some 88, .fa 0 1 0 (.t 87), some (82, true)⟩,
    ⟨some 89, .ld 1 false (.t 88), some (82, true)⟩,
    ⟨some 90, .fa 3 1 3 (.t 1), some (82, true)⟩,
    ⟨some 91, .ld 1 false (.t 90), some (82, true)⟩,
    ⟨some 92, .mv (.t 4), some (82, true)⟩,
    ⟨some 93, .ix 2 (.t 91) (.t 92), some (82, true)⟩,
    ⟨some 94, .fa 0 1 0 (.t 93), some (82, true)⟩,
    ⟨some 95, .ld 1 false (.t 94), some (82, true)⟩,
    ⟨some 96, .bin .geq (.t 89) (.t 95), some (82, true)⟩,
    ⟨some 97, .pick (.t 82) (.t 96) (.k (.bool false)), some (79, false)⟩,
    ⟨some 98, .pick (.t 79) (.k (.bool true)) (.t 97), none⟩])
  (.cond (.t 98)
  (.seq (.ops [⟨some 2, .mv (.k (.bool false)), none⟩])
  .ret)
  .skip)))
  (.ops [⟨some 69, .mv (.t 4), none⟩,
    ⟨some 70, .bin .add (.t 69) (.k (.int .i64 1)), none⟩,
    ⟨some 4, .mv (.t 70), none⟩]))))))
  (.seq (.seq (.ops [⟨some 5, .mv (.k (.int .i64 0)), none⟩])
  (.block 4 (.loop (.seq (.seq (.ops [⟨some 99, .mv (.t 5), none⟩,
    ⟨some 100, .fa 2 1 2 (.t 1), none⟩,
    ⟨some 101, .ld 1 false (.t 100), none⟩,
    ⟨some 102, .lenl (.t 101), none⟩,
    ⟨some 103, .bin .lss (.t 99) (.t 102), none⟩])
  (.cond (.t 103)
  .skip
  (.exit 4)))
  (.seq (.block 5 (.seq (.quiet [⟨some 106, .ld 4 true (.t 1), none⟩,
    ⟨some 107, .fa 2 1 2 (.t 1), none⟩,
    ⟨some 108, .ld 1 false (.t 107), none⟩,
    ⟨some 109, .mv (.t 5), none⟩,
    ⟨some 110, .ix 7 (.t 108) (.t 109), none⟩,
    ⟨some 111, .ld 7 true (.t 110), none⟩,
    ⟨some 112, .call 73 [(.t 106), (.t 111)], none⟩,
    ⟨some 113, .not (.t 112), none⟩,
    ⟨some 114, .mv (.t 113), none⟩,
    ⟨some 115, .mv (.t 5), some (114, false)⟩,
    ⟨some 116, .bin .gtr (.t 115) (.k (.int .i64 0)), some (114, false)⟩,
    ⟨some 117, .mv (.t 116), some (114, false)⟩,
    ⟨some 118, .fa 2 1 2 (.t 1), some (117, true)⟩,
    ⟨some 119, .ld 1 false (.t 118), some (117, true)⟩,
    ⟨some 120, .mv (.t 5), some (117, true)⟩,
    ⟨some 121, .bin .sub (.t 120) (.k (.int .i64 1)), some (117, true)⟩,
    ⟨some 122, .ix 7 (.t 119) (.t 121), some (117, true)⟩,
    ⟨some 123, .ld 7 true (.t 122), some (117, true)⟩,
    ⟨some 124, .fa 2 1 2 (.t 1), some (117, true)⟩,
    ⟨some 125, .ld 1 false (.t 124), some (117, true)⟩,
    ⟨some 126, .mv (.t 5), some (117, true)⟩,
    ⟨some 127, .ix 7 (.t 125) (.t 126), some (117, true)⟩,
    ⟨some 128, .ld 7 true (.t 127), some (117, true)⟩,
    ⟨some 129, .call 74 [(.t 123), (.t 128)], some (117, true)⟩,
    ⟨some 130, .not (.t 129), some (117, true)⟩,
    ⟨some 131, .pick (.t 117) (.t 130) (.k (.bool false)), some (114, false)⟩,
    ⟨some 132, .pick (.t 114) (.k (.bool true)) (.t 131), none⟩])
  (.cond (.t 132)
  (.seq (.ops [⟨some 2, .mv (.k (.bool false)), none⟩])
  .ret)
  .skip)))
  (.ops [⟨some 104, .mv (.t 5), none⟩,
    ⟨some 105, .bin .add (.t 104) (.k (.int .i64 1)), none⟩,
    ⟨some 5, .mv (.t 105), none⟩]))))))
  (.seq (.ops [⟨some 2, .mv (.k (.bool true)), none⟩])
  .ret))))))⟩
theorem c19 : compileF Try.prog [] 19 = some cf19 := by kernel_rfl
/-- impl.StewValid -/
def cf20 : CF := ⟨183, [.t 2],
  (.seq (.ops [⟨some 1, .bx (.t 0), none⟩,
    ⟨some 2, .mv (.k (.bool false)), none⟩])
  (.seq (.seq (.ops [⟨some 11, .fa 0 1 0 (.t 1), none⟩,
    ⟨some 12, .ld 1 false (.t 11), none⟩,
    ⟨some 13, .call 75 [(.t 12), (.k (.int .i64 0)), (.k (.int .i64 1000000))], none⟩,
    ⟨some 14, .not (.t 13), none⟩,
    ⟨some 15, .mv (.t 14), none⟩,
    ⟨some 16, .fa 1 1 1 (.t 1), some (15, false)⟩,
    ⟨some 17, .ld 1 false (.t 16), some (15, false)⟩,
    ⟨some 18, .lenl (.t 17), some (15, false)⟩,
    ⟨some 19, .bin .gtr (.t 18) (.k (.int .i64 8)), some (15, false)⟩,
    ⟨some 20, .pick (.t 15) (.k (.bool true)) (.t 19), none⟩,
    ⟨some 21, .mv (.t 20), none⟩,
    ⟨some 22, .fa 2 1 2 (.t 1), some (21, false)⟩,
    ⟨some 23, .ld 1 false (.t 22), some (21, false)⟩,
    ⟨some 24, .lenl (.t 23), some (21, false)⟩,
    ⟨some 25, .bin .gtr (.t 24) (.k (.int .i64 200)), some (21, false)⟩,
    ⟨some 26, .pick (.t 21) (.k (.bool true)) (.t 25), none⟩,
    ⟨some 27, .mv (.t 26), none⟩,
    ⟨some 28, .fa 3 1 3 (.t 1), some (27, false)⟩,
    ⟨some 29, .ld 1 false (.t 28), some (27, false)⟩,
    ⟨some 30, .lenl (.t 29), some (27, false)⟩,
    ⟨some 31, .bin .gtr (.t 30) (.k (.int .i64 6)), some (27, false)⟩,
    ⟨some 32, .pick (.t 27) (.k (.bool true)) (.t 31), none⟩])
  (.cond (.t 32)
  (.seq (.ops [⟨some 2, .mv (.k (.bool false)), none⟩])
  .ret)
  .skip))
  (.seq (.seq (.ops [⟨some 33, .fa 1 1 1 (.t 1), none⟩,
    ⟨some 34, .ld 1 false (.t 33), none⟩,
    ⟨some 35, .lenl (.t 34), none⟩,
    ⟨some 36, .mv (.k (.int .i64 0)), none⟩])
  (.block 0 (.loop (.seq (.ops [⟨some 37, .bin .lss (.t 36) (.t 35), none⟩])
  (.seq (.cond (.t 37)
  .skip
  (.exit 0))
  (.seq (.block 1 (.seq (.ops [⟨some 38, .mv (.t 36), none⟩,
    ⟨some 39, .ix 13 (.t 34) (.t 36), none⟩,
    ⟨some 40, .ld 13 true (.t 39), none⟩,
    ⟨some 4, .al (.agg [.str ⟨#[]⟩, .int .i64 0, .bool false, .int .i64 0, .int .i64 0, .int .i64 0, .int .i64 0, .int .i64 0, .int .i64 0, .int .i64 0, .int .i64 0, .int .i64 0, .int .i64 0]), none⟩,
    ⟨some 3, .mv (.t 38), none⟩,
    ⟨none, .st 13 (.t 4) (.t 40), none⟩])
  (.seq (.quiet [⟨some 41, .ld 13 true (.t 4), none⟩,
    ⟨some 42, .fa 0 1 0 (.t 1), none⟩,
    ⟨some 43, .ld 1 false (.t 42), none⟩,
    ⟨some 44, .call 76 [(.t 41), (.t 43)], none⟩,
    ⟨some 45, .not (.t 44), none⟩,
    ⟨some 46, .mv (.t 45), none⟩,
    ⟨some 47, .mv (.t 3), some (46, false)⟩,
    ⟨some 48, .bin .gtr (.t 47) (.k (.int .i64 0)), some (46, false)⟩,
    ⟨some 49, .mv (.t 48), some (46, false)⟩,
    ⟨some 50, .fa 0 1 0 (.t 4), some (49, true)⟩,
    ⟨some 51, .ld 1 false (.t 50), some (49, true)⟩,
    ⟨some 52, .fa 1 1 1 (.t 1), some (49, true)⟩,
    ⟨some 53, .ld 1 false (.t 52), some (49, true)⟩,
    ⟨some 54, .mv (.t 3), some (49, true)⟩,
    ⟨some 55, .bin .sub (.t 54) (.k (.int .i64 1)), some (49, true)⟩,
    ⟨some 56, .ix 13 (.t 53) (.t 55), some (49, true)⟩,
    ⟨some 57, .fa 0 1 0 (.t 56), some (49, true)⟩,
    ⟨some 58, .ld 1 false (.t 57), some (49, true)⟩,
    ⟨some 59, .bin .leq (.t 51) (.t 58), some (49, true)⟩,
    ⟨some 60, .pick (.t 49) (.t 59) (.k (.bool false)), some (46, false)⟩,
    ⟨some 61, .pick (.t 46) (.k (.bool true)) (.t 60), none⟩])
  (.cond (.t 61)
  (.seq (.ops [⟨some 2, .mv (.k (.bool false)), none⟩])
  .ret)
  .skip))))
  (.ops [⟨some 62, .bin .add (.t 36) (.k (.int .i64 1)), none⟩,
    ⟨some 36, .mv (.t 62), none⟩])))))))
  (.seq (.seq (.ops [⟨some 63, .fa 3 1 3 (.t 1), none⟩,
    ⟨some 64, .ld 1 false (.t 63), none⟩,
    ⟨some 65, .lenl (.t 64), none⟩,
    ⟨some 66, .mv (.k (.int .i64 0)), none⟩])
  (.block 2 (.loop (.seq (.ops [⟨some 67, .bin .lss (.t 66) (.t 65), none⟩])
  (.seq (.cond (.t 67)
  .skip
  (.exit 2))
  (.seq (.block 3 (.seq (.ops [⟨some 68, .mv (.t 66), none⟩,
    ⟨some 69, .ix 2 (.t 64) (.t 66), none⟩,
    ⟨some 70, .ld 2 true (.t 69), none⟩,
    ⟨some 6, .al (.agg [.str ⟨#[]⟩, .bool false]), none⟩,
    ⟨some 5, .mv (.t 68), none⟩,
    ⟨none, .st 2 (.t 6) (.t 70), none⟩])
  (.seq (.quiet [⟨some 71, .fa 0 1 0 (.t 6), none⟩,
    ⟨some 72, .ld 1 false (.t 71), none⟩,
    ⟨some 73, .call 77 [(.t 72)], none⟩,
    ⟨some 74, .not (.t 73), none⟩,
    ⟨some 75, .mv (.t 74), none⟩,
    ⟨some 76, .mv (.t 5), some (75, false)⟩,
    ⟨some 77, .bin .gtr (.t 76) (.k (.int .i64 0)), some (75, false)⟩,
    ⟨some 78, .mv (.t 77), some (75, false)⟩,
    ⟨some 79, .fa 0 1 0 (.t 6), some (78, true)⟩,
    ⟨some 80, .ld 1 false (.t 79), some (78, true)⟩,
    ⟨some 81, .fa 3 1 3 (.t 1), some (78, true)⟩,
    ⟨some 82, .ld 1 false (.t 81), some (78, true)⟩,
    ⟨some 83, .mv (.t 5), some (78, true)⟩,
    ⟨some 84, .bin .sub (.t 83) (.k (.int .i64 1)), some (78, true)⟩,
    ⟨some 85, .ix 2 (.t 82) (.t 84), some (78, true)⟩,
    ⟨some 86, .fa 0 1 0 (.t 85), some (78, true)⟩,
    ⟨some 87, .ld 1 false (.t 86), some (78, true)⟩,
    ⟨some 88, .bin .leq (.t 80) (.t 87), some (78, true)⟩,
    ⟨some 89, .pick (.t 78) (.t 88) (.k (.bool false)), some (75, false)⟩,
    ⟨some 90, .pick (.t 75) (.k (.bool true)) (.t 89), none⟩])
  (.cond (.t 90)
  (.seq (.ops [⟨some 2, .mv (.k (.bool false)), none⟩])
  .ret)
  .skip))))
  (.ops [⟨some 91, .bin .add (.t 66) (.k (.int .i64 1)), none⟩,
    ⟨some 66, .mv (.t 91), none⟩])))))))
  (.seq (.seq (.ops [⟨some 92, .fa 2 1 2 (.t 1), none⟩,
    ⟨some 93, .ld 1 false (.t 92), none⟩,
    ⟨some 94, .lenl (.t 93), none⟩,
    ⟨some 95, .mv (.k (.int .i64 0)), none⟩])
  (.block 4 (.loop (.seq (.ops [⟨some 96, .bin .lss (.t 95) (.t 94), none⟩])
  (.seq (.cond (.t 96)
  .skip
  (.exit 4))
  (.seq (.block 5 (.seq (.ops [⟨some 97, .mv (.t 95), none⟩,
    ⟨some 98, .ix 7 (.t 93) (.t 95), none⟩,
    ⟨some 99, .ld 7 true (.t 98), none⟩,
    ⟨some 8, .al (.agg [.str ⟨#[]⟩, .int .i64 0, .int .i64 0, .int .i64 0, .int .i64 0, .bool false, .str ⟨#[]⟩]), none⟩,
    ⟨some 7, .mv (.t 97), none⟩,
    ⟨none, .st 7 (.t 8) (.t 99), none⟩])
  (.seq (.ops [⟨some 100, .fa 0 1 0 (.t 8), none⟩,
    ⟨some 101, .ld 1 false (.t 100), none⟩,
    ⟨some 102, .call 78 [(.t 1), (.t 101)], none⟩,
    ⟨some 9, .mv (.t 102), none⟩])
  (.seq (.seq (.quiet [⟨some 103, .mv (.t 9), none⟩,
    ⟨some 104, .ptb false (.t 103) (.k (.nilp)), none⟩,
    ⟨some 105, .mv (.t 104), none⟩,
    ⟨some 106, .fa 1 1 1 (.t 8), some (105, false)⟩,
    ⟨some 107, .ld 1 false (.t 106), some (105, false)⟩,
    ⟨some 108, .mv (.t 9), some (105, false)⟩,
    ⟨some 109, .nilc (.t 108), some (105, false)⟩,
    ⟨some 110, .fa 7 1 7 (.t 109), some (105, false)⟩,
    ⟨some 111, .ld 1 false (.t 110), some (105, false)⟩,
    ⟨some 112, .bin .sub (.t 111) (.k (.int .i64 1)), some (105, false)⟩,
    ⟨some 113, .call 75 [(.t 107), (.k (.int .i64 1)), (.t 112)], some (105, false)⟩,
    ⟨some 114, .not (.t 113), some (105, false)⟩,
    ⟨some 115, .pick (.t 105) (.k (.bool true)) (.t 114), none⟩,
    ⟨some 116, .mv (.t 115), none⟩,
    ⟨some 117, .fa 2 1 2 (.t 8), some (116, false)⟩,
    ⟨some 118, .ld 1 false (.t 117), some (116, false)⟩,
    ⟨some 119, .fa 0 1 0 (.t 1), some (116, false)⟩,
    ⟨some 120, .ld 1 false (.t 119), some (116, false)⟩,
    ⟨some 121, .call 75 [(.t 118), (.k (.int .i64 1)), (.t 120)], some (116, false)⟩,
    ⟨some 122, .not (.t 121), some (116, false)⟩,
    ⟨some 123, .pick (.t 116) (.k (.bool true)) (.t 122), none⟩,
    ⟨some 124, .mv (.t 123), none⟩,
    ⟨some 125, .fa 3 1 3 (.t 8), some (124, false)⟩,
    ⟨some 126, .ld 1 false (.t 125), some (124, false)⟩,
    ⟨some 127, .call 75 [(.t 126), (.k (.int .i64 1)), (.k (.int .i64 1000000))], some (124, false)⟩,
    ⟨some 128, .not (.t 127), some (124, false)⟩,
    ⟨some 129, .pick (.t 124) (.k (.bool true)) (.t 128), none⟩,
    ⟨some 130, .mv (.t 129), none⟩,
    ⟨some 131, .fa 4 1 4 (.t 8), some (130, false)⟩,
    ⟨some 132, .ld 1 false (.t 131), some (130, false)⟩,
    ⟨some 133, .call 75 [(.t 132), (.k (.int .i64 1)), (.k (.int .i64 4))], some (130, false)⟩,
    ⟨some 134, .not (.t 133), some (130, false)⟩,
    ⟨some 135, .pick (.t 130) (.k (.bool true)) (.t 134), none⟩])
  (.cond (.t 135)
  (.seq (.ops [⟨some 2, .mv (.k (.bool false)), none⟩])
  .ret)
  .skip))
  (.seq (.seq (.ops [⟨some 136, .fa 4 1 4 (.t 8), none⟩,
    ⟨some 137, .ld 1 false (.t 136), none⟩,
    ⟨some 138, .bin .eql (.t 137) (.k (.int .i64 1)), none⟩,
    ⟨some 139, .mv (.t 138), none⟩,
    ⟨some 140, .fa 6 1 6 (.t 8), some (139, true)⟩,
    ⟨some 141, .ld 1 false (.t 140), some (139, true)⟩,
    ⟨some 142, .bin .neq (.t 141) (.k (.str ⟨#[]⟩)), some (139, true)⟩,
    ⟨some 143, .pick (.t 139) (.t 142) (.k (.bool false)), none⟩,
    ⟨some 144, .mv (.t 143), none⟩,
    ⟨some 145, .fa 4 1 4 (.t 8), some (144, false)⟩,
    ⟨some 146, .ld 1 false (.t 145), some (144, false)⟩,
    ⟨some 147, .bin .neq (.t 146) (.k (.int .i64 1)), some (144, false)⟩,
    ⟨some 148, .mv (.t 147), some (144, false)⟩,
    ⟨some 149, .fa 6 1 6 (.t 8), some (148, true)⟩,
    ⟨some 150, .ld 1 false (.t 149), some (148, true)⟩,
    ⟨some 151, .call 79 [(.t 1), (.t 150)], some (148, true)⟩,
    ⟨some 152, .ptb false (.t 151) (.k (.nilp)), some (148, true)⟩,
    ⟨some 153, .pick (.t 148) (.t 152) (.k (.bool false)), some (144, false)⟩,
    ⟨some 154, .pick (.t 144) (.k (.bool true)) (.t 153), none⟩])
  (.cond (.t 154)
  (.seq (.ops [⟨some 2, .mv (.k (.bool false)), none⟩])
  .ret)
  .skip))
  (.seq (.ops [⟨some 155, .mv (.t 7), none⟩,
    ⟨some 156, .bin .gtr (.t 155) (.k (.int .i64 0)), none⟩])
  (.cond (.t 156)
  (.seq (.ops [⟨some 157, .fa 2 1 2 (.t 1), none⟩,
    ⟨some 158, .ld 1 false (.t 157), none⟩,
    ⟨some 159, .mv (.t 7), none⟩,
    ⟨some 160, .bin .sub (.t 159) (.k (.int .i64 1)), none⟩,
    ⟨some 161, .ix 7 (.t 158) (.t 160), none⟩,
    ⟨some 162, .ld 7 true (.t 161), none⟩,
    ⟨some 10, .al (.agg [.str ⟨#[]⟩, .int .i64 0, .int .i64 0, .int .i64 0, .int .i64 0, .bool false, .str ⟨#[]⟩]), none⟩,
    ⟨none, .st 7 (.t 10) (.t 162), none⟩])
  (.seq (.ops [⟨some 163, .fa 0 1 0 (.t 8), none⟩,
    ⟨some 164, .ld 1 false (.t 163), none⟩,
    ⟨some 165, .fa 0 1 0 (.t 10), none⟩,
    ⟨some 166, .ld 1 false (.t 165), none⟩,
    ⟨some 167, .bin .lss (.t 164) (.t 166), none⟩,
    ⟨some 168, .mv (.t 167), none⟩,
    ⟨some 169, .fa 0 1 0 (.t 8), some (168, false)⟩,
    ⟨some 170, .ld 1 false (.t 169), some (168, false)⟩,
    ⟨some 171, .fa 0 1 0 (.t 10), some (168, false)⟩,
    ⟨some 172, .ld 1 false (.t 171), some (168, false)⟩,
    ⟨some 173, .bin .eql (.t 170) (.t 172), some (168, false)⟩,
    ⟨some 174, .mv (.t 173), some (168, false)⟩,
    ⟨some 175, .fa 1 1 1 (.t 8), some (174, true)⟩,
    ⟨some 176, .ld 1 false (.t 175), some (174, true)⟩,
    ⟨some 177, .fa 1 1 1 (.t 10), some (174, true)⟩,
    ⟨some 178, .ld 1 false (.t 177), some (174, true)⟩,
    ⟨some 179, .bin .leq (.t 176) (.t 178), some (174, true)⟩,
    ⟨some 180, .pick (.t 174) (.t 179) (.k (.bool false)), some (168, false)⟩,
    ⟨some 181, .pick (.t 168) (.k (.bool true)) (.t 180), none⟩])
  (.cond (.t 181)
  (.seq (.ops [⟨some 2, .mv (.k (.bool false)), none⟩])
  .ret)
  .skip)))
  .skip)))))))
  (.ops [⟨some 182, .bin .add (.t 95) (.k (.int .i64 1)), none⟩,
    ⟨some 95, .mv (.t 182), none⟩])))))))
  (.seq (.ops [⟨some 2, .mv (.k (.bool true)), none⟩])
  .ret))))))⟩
theorem c20 : compileF Try.prog [] 20 = some cf20 := by kernel_rfl
def vS (b : StewBook) (i : Nat) : Bool := svcOk (b.fServices.getD i default) b.fNow && !(decide ((i : Int) > 0) && !Op.bytesLess (b.fServices.getD (pr i) default).fName.toList (b.fServices.getD i default).fName.toList)
def vB (b : StewBook) (i : Nat) : Bool := nameOk (b.fBerths.getD i default).fName && !(decide ((i : Int) > 0) && !Op.bytesLess (b.fBerths.getD (pr i) default).fName.toList (b.fBerths.getD i default).fName.toList)
def vC (b : StewBook) (i : Nat) : Bool := copyOk b (b.fCopies.getD i default) && !(decide ((i : Int) > 0) && !ahead (b.fCopies.getD (pr i) default) (b.fCopies.getD i default))
def valid (b : StewBook) : Bool := !(!inR b.fNow 0 1000000 || decide ((b.fServices.length : Int) > 8) || decide ((b.fCopies.length : Int) > 200) || decide ((b.fBerths.length : Int) > 6)) && (allN (vS b) b.fServices.length 0 && (allN (vB b) b.fBerths.length 0 && (allN (vC b) b.fCopies.length 0 && true)))
set_option maxHeartbeats 8000000 in
theorem spec_Valid (b : StewBook) (h1 : b.fServices.length ≤ 1048576) (h2 : b.fBerths.length ≤ 1048576) (h3 : b.fCopies.length ≤ 1048576) : Rdr Try.prog 19 [b.D] (.bool (valid b)) := by
  refine Rdr.intro' hm c19 (Nat.le_of_ble_eq_true rfl) ?_
  conv => whnf
  repeat' (first | (refine g_op ?_; conv => whnf) | (refine And.intro ?_ ?_; (focus (first | exact rfl | exact Nat.le_of_ble_eq_true rfl | decide | omega | fail)); conv => whnf) | (refine g_seq ?_) | (refine g_ops ?_) | (refine g_nil ?_; conv => whnf) | (refine fun _ => ?_; conv => whnf) | fail)
  refine XS.freezeB 1 rfl ?_
  repeat' (first | (refine z_ld1 ?_; first | (refine z_ld rfl rfl rfl rfl (by first | (simp only [List.length_set]; assumption) | assumption | omega) (by first | exact elt_set (by first | assumption | (simp only [List.length_set]; assumption)) | assumption) ?_; conv => whnf) | (refine z_ld0 rfl ?_; conv => whnf)) | (refine z_ld1g ?_; first | (refine z_ldg rfl rfl rfl rfl rfl rfl rfl (by (repeat intro _); exact ⟨(by first | (simp only [List.length_set]; assumption) | assumption | omega), (by first | exact elt_set (by first | assumption | (simp only [List.length_set]; assumption)) | assumption)⟩) rfl rfl rfl rfl ?_; conv => whnf) | (refine z_ld0g ?_; (conv => whnf); refine And.intro ?_ ?_; (focus exact rfl); conv => whnf)) | (refine z_op ?_ ?_; (focus exact rfl); conv => whnf) | (refine z_opg0 ?_; (conv => whnf); refine And.intro ?_ ?_; (focus exact rfl); conv => whnf) | (refine z_pick ?_ ?_; (focus exact rfl); conv => whnf) | (refine zs_ops ?_ ?_; (focus exact rfl)) | (refine z_nil fun vals => ?_; conv => whnf) | (refine z_call ?_ ?_; (focus exact rfl)) | (refine RC.of (spec_In _ _ _) ?_ ?_; (focus exact rfl); conv => whnf) | (refine And.intro ?_ ?_; (focus (first | exact rfl | exact Nat.le_of_ble_eq_true rfl | decide | omega | fail)); conv => whnf) | (refine g_seq ?_) | (refine XS.go ?_) | (refine g_cond ?_; conv => whnf) | fail)
  simp only [mlen']
  refine Br.mk (fun hb => ?_) (fun hb => ?_)
  · conv => whnf
    repeat' (first | (refine g_op ?_; conv => whnf) | (refine And.intro ?_ ?_; (focus (first | exact rfl | exact Nat.le_of_ble_eq_true rfl | decide | omega | fail)); conv => whnf) | (refine g_seq ?_) | (refine XS.go ?_) | (refine g_ops ?_) | (refine g_nil ?_; conv => whnf) | (refine g_ret ?_; conv => whnf) | (refine r_t ?_; conv => whnf) | (refine r_nil ?_; conv => whnf) | fail)
    (conv => lhs; whnf)
    rw [valid, hb]
    rfl
  have hv : valid b = (allN (vS b) b.fServices.length 0 && (allN (vB b) b.fBerths.length 0 && (allN (vC b) b.fCopies.length 0 && true))) := by rw [valid, hb]; rfl
  clear hb
  conv => whnf
  repeat' (first | (refine g_op ?_; conv => whnf) | (refine And.intro ?_ ?_; (focus (first | exact rfl | exact Nat.le_of_ble_eq_true rfl | decide | omega | fail)); conv => whnf) | (refine g_seq ?_) | (refine XS.go ?_) | (refine g_ops ?_) | (refine g_loop ?_) | (refine g_nil ?_; conv => whnf) | (refine g_skip ?_; conv => whnf) | (refine g_block ?_) | fail)
  refine XLc.mkL (α := Nat) (fun i => i ≤ b.fServices.length ∧ valid b = (allN (vS b) (b.fServices.length - i) i && (allN (vB b) b.fBerths.length 0 && (allN (vC b) b.fCopies.length 0 && true)))) (fun i => b.fServices.length - i) (fun i gs => [.any, .cref b.D, .any, .int .i64 (i : Int)]) (fun i gs => []) 0 ⟨Nat.zero_le _, hv⟩ ?_ ?_
  · refine ⟨?_, ?_⟩
    · repeat' (first | exact True.intro | refine And.intro rfl ?_)
    · repeat' (first | exact True.intro | refine And.intro rfl ?_)
  intro i gs hI
  obtain ⟨hi, hN⟩ := hI
  repeat' (first | (refine z_ld1 ?_; first | (refine z_ld rfl rfl rfl rfl (by first | (simp only [List.length_set]; assumption) | assumption | omega) (by first | exact elt_set (by first | assumption | (simp only [List.length_set]; assumption)) | assumption) ?_; conv => whnf) | (refine z_ld0 rfl ?_; conv => whnf)) | (refine z_op ?_ ?_; (focus exact rfl); conv => whnf) | (refine zs_ops ?_ ?_; (focus exact rfl)) | (refine z_nil fun vals => ?_; conv => whnf) | (refine And.intro ?_ ?_; (focus (first | exact rfl | exact Nat.le_of_ble_eq_true rfl | decide | omega | fail)); conv => whnf) | (refine g_seq ?_) | (refine XS.go ?_) | (refine g_cond ?_; conv => whnf) | fail)
  refine Br.mk (fun hb => ?_) (fun hb => ?_)
  · have hlt : i < b.fServices.length := by simpa using hb
    have hw : IntKind.wrap .i64 ((i : Int) + 1) = ((i + 1 : Nat) : Int) := by rw [wrap_ok (by omega) (by omega)]; rfl
    have hw1 : IntKind.wrap .i64 ((i : Int) - 1) = (i : Int) - 1 := wrap_ok (by omega) (by omega)
    have hbad := fun h => allN_bad (f := vS b) hlt hN h
    have hgood := fun h => allN_good (f := vS b) hlt hN h
    clear hN hb
    all_goals conv => whnf
    repeat' (first | (refine z_ld1 ?_; first | (refine z_ld rfl rfl rfl rfl (by first | (simp only [List.length_set]; assumption) | assumption | omega) (by first | exact elt_set (by first | assumption | (simp only [List.length_set]; assumption)) | assumption) ?_; conv => whnf) | (refine z_ld0 rfl ?_; conv => whnf)) | (refine z_ld1g ?_; first | (refine z_ldg rfl rfl rfl rfl rfl rfl rfl (by (repeat intro _); exact ⟨(by first | (simp only [List.length_set]; assumption) | assumption | omega), (by first | exact elt_set (by first | assumption | (simp only [List.length_set]; assumption)) | assumption)⟩) rfl rfl rfl rfl ?_; conv => whnf) | (refine z_ld0g ?_; (conv => whnf); refine And.intro ?_ ?_; (focus exact rfl); conv => whnf)) | (refine z_ix1 ?_; first | (refine z_ix rfl rfl rfl rfl rfl ⟨by first | omega | (simp only [decide_eq_true_eq, Bool.not_eq_true', Bool.or_eq_false_iff, decide_eq_false_iff_not, Bool.and_eq_true, Bool.not_eq_false'] at *; omega), by first | omega | (simp only [decide_eq_true_eq, Bool.not_eq_true', Bool.or_eq_false_iff, decide_eq_false_iff_not, Bool.and_eq_true, Bool.not_eq_false'] at *; omega)⟩ ?_; conv => whnf) | (refine z_ix0 rfl rfl ?_; conv => whnf)) | (refine z_ix1g ?_; refine z_ixg rfl rfl rfl rfl rfl rfl rfl (by (repeat intro _); refine ⟨?_, ?_⟩ <;> first | omega | (simp only [decide_eq_true_eq, Bool.not_eq_true', Bool.or_eq_false_iff, decide_eq_false_iff_not, Bool.and_eq_true, Bool.not_eq_false'] at *; omega)) ?_) | (refine z_op ?_ ?_; (focus exact rfl); conv => whnf) | (refine z_opg0 ?_; (conv => whnf); refine And.intro ?_ ?_; (focus exact rfl); conv => whnf) | (refine z_pick ?_ ?_; (focus exact rfl); conv => whnf) | (refine z_pickg ?_; (conv => whnf); refine And.intro ?_ ?_; (focus exact rfl); conv => whnf) | (refine zs_quiet ?_ ?_; (focus exact rfl)) | (refine z_nil fun vals => ?_; conv => whnf) | (refine z_call ?_ ?_; (focus exact rfl)) | (refine RC.of (spec_ServiceOk _ _) ?_ ?_; (focus exact rfl); conv => whnf) | (refine g_op ?_; conv => whnf) | (refine And.intro ?_ ?_; (focus (first | exact rfl | exact Nat.le_of_ble_eq_true rfl | decide | omega | fail)); conv => whnf) | (refine g_seq ?_) | (refine XS.go ?_) | (refine g_ops ?_) | (refine g_nil ?_; conv => whnf) | (refine g_cond ?_; conv => whnf) | (refine g_skip ?_; conv => whnf) | (refine g_ret ?_; conv => whnf) | (refine g_block ?_) | (refine r_t ?_; conv => whnf) | (refine r_nil ?_; conv => whnf) | (refine Br.mk (fun hb => ?_) (fun hb => ?_) <;> conv => whnf) | fail)
    all_goals
      first
      | (refine ⟨(), hbad ?_, ⟨?_, True.intro⟩⟩
         · clear hbad hgood hw 
           first | (first | (refine (Bool.eq_false_iff.mpr fun h => ?_).symm; simp_all [vS, pr]; done) | (refine Bool.eq_false_iff.mpr fun h => ?_; simp_all [vS, pr]; done) | (simp_all [vS, pr]; done) | (simp_all [vS, pr]; omega) | (refine (Bool.eq_false_iff.mpr fun h => ?_).symm; simp_all [vS, pr]; omega) | (refine Bool.eq_false_iff.mpr fun h => ?_; simp_all [vS, pr]; omega) | (rw [Bool.eq_iff_iff]; constructor <;> intro h <;> simp_all [vS, pr] <;> omega) | fail) | (rcases Nat.eq_zero_or_pos i with h0 | h0 <;> simp_all [vS, pr] <;> omega) | (fail) | fail
         · repeat' (first | exact True.intro | refine And.intro rfl ?_))
      | (conv => lhs; whnf
         refine congrArg D.bool (hbad ?_)
         clear hbad hgood hw 
         first | (first | (refine (Bool.eq_false_iff.mpr fun h => ?_).symm; simp_all [vS, pr]; done) | (refine Bool.eq_false_iff.mpr fun h => ?_; simp_all [vS, pr]; done) | (simp_all [vS, pr]; done) | (simp_all [vS, pr]; omega) | (refine (Bool.eq_false_iff.mpr fun h => ?_).symm; simp_all [vS, pr]; omega) | (refine Bool.eq_false_iff.mpr fun h => ?_; simp_all [vS, pr]; omega) | (rw [Bool.eq_iff_iff]; constructor <;> intro h <;> simp_all [vS, pr] <;> omega) | fail) | (rcases Nat.eq_zero_or_pos i with h0 | h0 <;> simp_all [vS, pr] <;> omega) | (fail) | fail)
      | (refine ⟨i + 1, ⟨by omega, ?_⟩, by omega, ?_, ?_⟩
         · refine hgood ?_
           clear hbad hgood hw 
           first | (first | (refine (Bool.eq_false_iff.mpr fun h => ?_).symm; simp_all [vS, pr]; done) | (refine Bool.eq_false_iff.mpr fun h => ?_; simp_all [vS, pr]; done) | (simp_all [vS, pr]; done) | (simp_all [vS, pr]; omega) | (refine (Bool.eq_false_iff.mpr fun h => ?_).symm; simp_all [vS, pr]; omega) | (refine Bool.eq_false_iff.mpr fun h => ?_; simp_all [vS, pr]; omega) | (rw [Bool.eq_iff_iff]; constructor <;> intro h <;> simp_all [vS, pr] <;> omega) | fail) | (rcases Nat.eq_zero_or_pos i with h0 | h0 <;> simp_all [vS, pr] <;> omega) | (fail) | fail
         · repeat' (first | exact True.intro | refine And.intro (congrArg (D.int .i64) hw) ?_ | refine And.intro rfl ?_)
         · repeat' (first | exact True.intro | refine And.intro rfl ?_))
  have hge : ¬ i < b.fServices.length := by simpa using hb
  have hend : valid b = (allN (vB b) b.fBerths.length 0 && (allN (vC b) b.fCopies.length 0 && true)) := by rw [hN, allN_end hge, Bool.true_and]
  clear hN
  conv => whnf
  repeat' (first | (refine g_op ?_; conv => whnf) | (refine And.intro ?_ ?_; (focus (first | exact rfl | exact Nat.le_of_ble_eq_true rfl | decide | omega | fail)); conv => whnf) | (refine g_seq ?_) | (refine XS.go ?_) | (refine g_ops ?_) | (refine g_loop ?_) | (refine g_nil ?_; conv => whnf) | (refine g_exit ?_; conv => whnf) | (refine g_block ?_) | fail)
  refine XLc.mkL (α := Nat) (fun i => i ≤ b.fBerths.length ∧ valid b = (allN (vB b) (b.fBerths.length - i) i && (allN (vC b) b.fCopies.length 0 && true))) (fun i => b.fBerths.length - i) (fun i gs => [.any, .cref b.D, .any, .any, .int .i64 (i : Int)]) (fun i gs => []) 0 ⟨Nat.zero_le _, hend⟩ ?_ ?_
  · refine ⟨?_, ?_⟩
    · repeat' (first | exact True.intro | refine And.intro rfl ?_)
    · repeat' (first | exact True.intro | refine And.intro rfl ?_)
  intro i gs hI
  obtain ⟨hi, hN⟩ := hI
  repeat' (first | (refine z_ld1 ?_; first | (refine z_ld rfl rfl rfl rfl (by first | (simp only [List.length_set]; assumption) | assumption | omega) (by first | exact elt_set (by first | assumption | (simp only [List.length_set]; assumption)) | assumption) ?_; conv => whnf) | (refine z_ld0 rfl ?_; conv => whnf)) | (refine z_op ?_ ?_; (focus exact rfl); conv => whnf) | (refine zs_ops ?_ ?_; (focus exact rfl)) | (refine z_nil fun vals => ?_; conv => whnf) | (refine And.intro ?_ ?_; (focus (first | exact rfl | exact Nat.le_of_ble_eq_true rfl | decide | omega | fail)); conv => whnf) | (refine g_seq ?_) | (refine XS.go ?_) | (refine g_cond ?_; conv => whnf) | fail)
  refine Br.mk (fun hb => ?_) (fun hb => ?_)
  · have hlt : i < b.fBerths.length := by simpa using hb
    have hw : IntKind.wrap .i64 ((i : Int) + 1) = ((i + 1 : Nat) : Int) := by rw [wrap_ok (by omega) (by omega)]; rfl
    have hw1 : IntKind.wrap .i64 ((i : Int) - 1) = (i : Int) - 1 := wrap_ok (by omega) (by omega)
    have hbad := fun h => allN_bad (f := vB b) hlt hN h
    have hgood := fun h => allN_good (f := vB b) hlt hN h
    clear hN hb
    all_goals conv => whnf
    repeat' (first | (refine z_ld1 ?_; first | (refine z_ld rfl rfl rfl rfl (by first | (simp only [List.length_set]; assumption) | assumption | omega) (by first | exact elt_set (by first | assumption | (simp only [List.length_set]; assumption)) | assumption) ?_; conv => whnf) | (refine z_ld0 rfl ?_; conv => whnf)) | (refine z_ld1g ?_; first | (refine z_ldg rfl rfl rfl rfl rfl rfl rfl (by (repeat intro _); exact ⟨(by first | (simp only [List.length_set]; assumption) | assumption | omega), (by first | exact elt_set (by first | assumption | (simp only [List.length_set]; assumption)) | assumption)⟩) rfl rfl rfl rfl ?_; conv => whnf) | (refine z_ld0g ?_; (conv => whnf); refine And.intro ?_ ?_; (focus exact rfl); conv => whnf)) | (refine z_ix1 ?_; first | (refine z_ix rfl rfl rfl rfl rfl ⟨by first | omega | (simp only [decide_eq_true_eq, Bool.not_eq_true', Bool.or_eq_false_iff, decide_eq_false_iff_not, Bool.and_eq_true, Bool.not_eq_false'] at *; omega), by first | omega | (simp only [decide_eq_true_eq, Bool.not_eq_true', Bool.or_eq_false_iff, decide_eq_false_iff_not, Bool.and_eq_true, Bool.not_eq_false'] at *; omega)⟩ ?_; conv => whnf) | (refine z_ix0 rfl rfl ?_; conv => whnf)) | (refine z_ix1g ?_; refine z_ixg rfl rfl rfl rfl rfl rfl rfl (by (repeat intro _); refine ⟨?_, ?_⟩ <;> first | omega | (simp only [decide_eq_true_eq, Bool.not_eq_true', Bool.or_eq_false_iff, decide_eq_false_iff_not, Bool.and_eq_true, Bool.not_eq_false'] at *; omega)) ?_) | (refine z_op ?_ ?_; (focus exact rfl); conv => whnf) | (refine z_opg0 ?_; (conv => whnf); refine And.intro ?_ ?_; (focus exact rfl); conv => whnf) | (refine z_pick ?_ ?_; (focus exact rfl); conv => whnf) | (refine z_pickg ?_; (conv => whnf); refine And.intro ?_ ?_; (focus exact rfl); conv => whnf) | (refine zs_quiet ?_ ?_; (focus exact rfl)) | (refine z_nil fun vals => ?_; conv => whnf) | (refine z_call ?_ ?_; (focus exact rfl)) | (refine RC.of (spec_NameOk _) ?_ ?_; (focus exact rfl); conv => whnf) | (refine g_op ?_; conv => whnf) | (refine And.intro ?_ ?_; (focus (first | exact rfl | exact Nat.le_of_ble_eq_true rfl | decide | omega | fail)); conv => whnf) | (refine g_seq ?_) | (refine XS.go ?_) | (refine g_ops ?_) | (refine g_nil ?_; conv => whnf) | (refine g_cond ?_; conv => whnf) | (refine g_skip ?_; conv => whnf) | (refine g_ret ?_; conv => whnf) | (refine g_block ?_) | (refine r_t ?_; conv => whnf) | (refine r_nil ?_; conv => whnf) | (refine Br.mk (fun hb => ?_) (fun hb => ?_) <;> conv => whnf) | fail)
    all_goals
      first
      | (refine ⟨(), hbad ?_, ⟨?_, True.intro⟩⟩
         · clear hbad hgood hw 
           first | (first | (refine (Bool.eq_false_iff.mpr fun h => ?_).symm; simp_all [vB, pr]; done) | (refine Bool.eq_false_iff.mpr fun h => ?_; simp_all [vB, pr]; done) | (simp_all [vB, pr]; done) | (simp_all [vB, pr]; omega) | (refine (Bool.eq_false_iff.mpr fun h => ?_).symm; simp_all [vB, pr]; omega) | (refine Bool.eq_false_iff.mpr fun h => ?_; simp_all [vB, pr]; omega) | (rw [Bool.eq_iff_iff]; constructor <;> intro h <;> simp_all [vB, pr] <;> omega) | fail) | (rcases Nat.eq_zero_or_pos i with h0 | h0 <;> simp_all [vB, pr] <;> omega) | (fail) | fail
         · repeat' (first | exact True.intro | refine And.intro rfl ?_))
      | (conv => lhs; whnf
         refine congrArg D.bool (hbad ?_)
         clear hbad hgood hw 
         first | (first | (refine (Bool.eq_false_iff.mpr fun h => ?_).symm; simp_all [vB, pr]; done) | (refine Bool.eq_false_iff.mpr fun h => ?_; simp_all [vB, pr]; done) | (simp_all [vB, pr]; done) | (simp_all [vB, pr]; omega) | (refine (Bool.eq_false_iff.mpr fun h => ?_).symm; simp_all [vB, pr]; omega) | (refine Bool.eq_false_iff.mpr fun h => ?_; simp_all [vB, pr]; omega) | (rw [Bool.eq_iff_iff]; constructor <;> intro h <;> simp_all [vB, pr] <;> omega) | fail) | (rcases Nat.eq_zero_or_pos i with h0 | h0 <;> simp_all [vB, pr] <;> omega) | (fail) | fail)
      | (refine ⟨i + 1, ⟨by omega, ?_⟩, by omega, ?_, ?_⟩
         · refine hgood ?_
           clear hbad hgood hw 
           first | (first | (refine (Bool.eq_false_iff.mpr fun h => ?_).symm; simp_all [vB, pr]; done) | (refine Bool.eq_false_iff.mpr fun h => ?_; simp_all [vB, pr]; done) | (simp_all [vB, pr]; done) | (simp_all [vB, pr]; omega) | (refine (Bool.eq_false_iff.mpr fun h => ?_).symm; simp_all [vB, pr]; omega) | (refine Bool.eq_false_iff.mpr fun h => ?_; simp_all [vB, pr]; omega) | (rw [Bool.eq_iff_iff]; constructor <;> intro h <;> simp_all [vB, pr] <;> omega) | fail) | (rcases Nat.eq_zero_or_pos i with h0 | h0 <;> simp_all [vB, pr] <;> omega) | (fail) | fail
         · repeat' (first | exact True.intro | refine And.intro (congrArg (D.int .i64) hw) ?_ | refine And.intro rfl ?_)
         · repeat' (first | exact True.intro | refine And.intro rfl ?_))
  have hge : ¬ i < b.fBerths.length := by simpa using hb
  have hend : valid b = (allN (vC b) b.fCopies.length 0 && true) := by rw [hN, allN_end hge, Bool.true_and]
  clear hN
  conv => whnf
  repeat' (first | (refine g_op ?_; conv => whnf) | (refine And.intro ?_ ?_; (focus (first | exact rfl | exact Nat.le_of_ble_eq_true rfl | decide | omega | fail)); conv => whnf) | (refine g_seq ?_) | (refine XS.go ?_) | (refine g_ops ?_) | (refine g_loop ?_) | (refine g_nil ?_; conv => whnf) | (refine g_exit ?_; conv => whnf) | (refine g_block ?_) | fail)
  refine XLc.mkL (α := Nat) (fun i => i ≤ b.fCopies.length ∧ valid b = (allN (vC b) (b.fCopies.length - i) i && true)) (fun i => b.fCopies.length - i) (fun i gs => [.any, .cref b.D, .any, .any, .any, .int .i64 (i : Int)]) (fun i gs => []) 0 ⟨Nat.zero_le _, hend⟩ ?_ ?_
  · refine ⟨?_, ?_⟩
    · repeat' (first | exact True.intro | refine And.intro rfl ?_)
    · repeat' (first | exact True.intro | refine And.intro rfl ?_)
  intro i gs hI
  obtain ⟨hi, hN⟩ := hI
  repeat' (first | (refine z_ld1 ?_; first | (refine z_ld rfl rfl rfl rfl (by first | (simp only [List.length_set]; assumption) | assumption | omega) (by first | exact elt_set (by first | assumption | (simp only [List.length_set]; assumption)) | assumption) ?_; conv => whnf) | (refine z_ld0 rfl ?_; conv => whnf)) | (refine z_op ?_ ?_; (focus exact rfl); conv => whnf) | (refine zs_ops ?_ ?_; (focus exact rfl)) | (refine z_nil fun vals => ?_; conv => whnf) | (refine And.intro ?_ ?_; (focus (first | exact rfl | exact Nat.le_of_ble_eq_true rfl | decide | omega | fail)); conv => whnf) | (refine g_seq ?_) | (refine XS.go ?_) | (refine g_cond ?_; conv => whnf) | fail)
  refine Br.mk (fun hb => ?_) (fun hb => ?_)
  · have hlt : i < b.fCopies.length := by simpa using hb
    have hw : IntKind.wrap .i64 ((i : Int) + 1) = ((i + 1 : Nat) : Int) := by rw [wrap_ok (by omega) (by omega)]; rfl
    have hw1 : IntKind.wrap .i64 ((i : Int) - 1) = (i : Int) - 1 := wrap_ok (by omega) (by omega)
    have hbad := fun h => allN_bad (f := vC b) hlt hN h
    have hgood := fun h => allN_good (f := vC b) hlt hN h
    clear hN hb
    all_goals conv => whnf
    repeat' (first | (refine z_ld1 ?_; first | (refine z_ld rfl rfl rfl rfl (by first | (simp only [List.length_set]; assumption) | assumption | omega) (by first | exact elt_set (by first | assumption | (simp only [List.length_set]; assumption)) | assumption) ?_; conv => whnf) | (refine z_ld0 rfl ?_; conv => whnf)) | (refine z_ld1g ?_; first | (refine z_ldg rfl rfl rfl rfl rfl rfl rfl (by (repeat intro _); exact ⟨(by first | (simp only [List.length_set]; assumption) | assumption | omega), (by first | exact elt_set (by first | assumption | (simp only [List.length_set]; assumption)) | assumption)⟩) rfl rfl rfl rfl ?_; conv => whnf) | (refine z_ld0g ?_; (conv => whnf); refine And.intro ?_ ?_; (focus exact rfl); conv => whnf)) | (refine z_ix1 ?_; first | (refine z_ix rfl rfl rfl rfl rfl ⟨by first | omega | (simp only [decide_eq_true_eq, Bool.not_eq_true', Bool.or_eq_false_iff, decide_eq_false_iff_not, Bool.and_eq_true, Bool.not_eq_false'] at *; omega), by first | omega | (simp only [decide_eq_true_eq, Bool.not_eq_true', Bool.or_eq_false_iff, decide_eq_false_iff_not, Bool.and_eq_true, Bool.not_eq_false'] at *; omega)⟩ ?_; conv => whnf) | (refine z_ix0 rfl rfl ?_; conv => whnf)) | (refine z_ix1g ?_; refine z_ixg rfl rfl rfl rfl rfl rfl rfl (by (repeat intro _); refine ⟨?_, ?_⟩ <;> first | omega | (simp only [decide_eq_true_eq, Bool.not_eq_true', Bool.or_eq_false_iff, decide_eq_false_iff_not, Bool.and_eq_true, Bool.not_eq_false'] at *; omega)) ?_) | (refine z_op ?_ ?_; (focus exact rfl); conv => whnf) | (refine z_opg0 ?_; (conv => whnf); refine And.intro ?_ ?_; (focus exact rfl); conv => whnf) | (refine z_pick ?_ ?_; (focus exact rfl); conv => whnf) | (refine z_pickg ?_; (conv => whnf); refine And.intro ?_ ?_; (focus exact rfl); conv => whnf) | (refine zs_quiet ?_ ?_; (focus exact rfl)) | (refine z_nil fun vals => ?_; conv => whnf) | (refine z_call ?_ ?_; (focus exact rfl)) | (refine z_callg0 ?_; (conv => whnf); refine And.intro ?_ ?_; (focus exact rfl)) | (refine RC.of (spec_CopyOk b _ h1 h2) ?_ ?_; (focus exact rfl); conv => whnf) | (refine RC.of (spec_Ahead _ _) ?_ ?_; (focus exact rfl); conv => whnf) | (refine g_op ?_; conv => whnf) | (refine And.intro ?_ ?_; (focus (first | exact rfl | exact Nat.le_of_ble_eq_true rfl | decide | omega | fail)); conv => whnf) | (refine g_seq ?_) | (refine XS.go ?_) | (refine g_ops ?_) | (refine g_nil ?_; conv => whnf) | (refine g_cond ?_; conv => whnf) | (refine g_skip ?_; conv => whnf) | (refine g_ret ?_; conv => whnf) | (refine g_block ?_) | (refine r_t ?_; conv => whnf) | (refine r_nil ?_; conv => whnf) | (refine Br.mk (fun hb => ?_) (fun hb => ?_) <;> conv => whnf) | fail)
    all_goals
      first
      | (refine ⟨(), hbad ?_, ⟨?_, True.intro⟩⟩
         · clear hbad hgood hw 
           first | (first | (refine (Bool.eq_false_iff.mpr fun h => ?_).symm; simp_all [vC, pr]; done) | (refine Bool.eq_false_iff.mpr fun h => ?_; simp_all [vC, pr]; done) | (simp_all [vC, pr]; done) | (simp_all [vC, pr]; omega) | (refine (Bool.eq_false_iff.mpr fun h => ?_).symm; simp_all [vC, pr]; omega) | (refine Bool.eq_false_iff.mpr fun h => ?_; simp_all [vC, pr]; omega) | (rw [Bool.eq_iff_iff]; constructor <;> intro h <;> simp_all [vC, pr] <;> omega) | fail) | (rcases Nat.eq_zero_or_pos i with h0 | h0 <;> simp_all [vC, pr] <;> omega) | (fail) | fail
         · repeat' (first | exact True.intro | refine And.intro rfl ?_))
      | (conv => lhs; whnf
         refine congrArg D.bool (hbad ?_)
         clear hbad hgood hw 
         first | (first | (refine (Bool.eq_false_iff.mpr fun h => ?_).symm; simp_all [vC, pr]; done) | (refine Bool.eq_false_iff.mpr fun h => ?_; simp_all [vC, pr]; done) | (simp_all [vC, pr]; done) | (simp_all [vC, pr]; omega) | (refine (Bool.eq_false_iff.mpr fun h => ?_).symm; simp_all [vC, pr]; omega) | (refine Bool.eq_false_iff.mpr fun h => ?_; simp_all [vC, pr]; omega) | (rw [Bool.eq_iff_iff]; constructor <;> intro h <;> simp_all [vC, pr] <;> omega) | fail) | (rcases Nat.eq_zero_or_pos i with h0 | h0 <;> simp_all [vC, pr] <;> omega) | (fail) | fail)
      | (refine ⟨i + 1, ⟨by omega, ?_⟩, by omega, ?_, ?_⟩
         · refine hgood ?_
           clear hbad hgood hw 
           first | (first | (refine (Bool.eq_false_iff.mpr fun h => ?_).symm; simp_all [vC, pr]; done) | (refine Bool.eq_false_iff.mpr fun h => ?_; simp_all [vC, pr]; done) | (simp_all [vC, pr]; done) | (simp_all [vC, pr]; omega) | (refine (Bool.eq_false_iff.mpr fun h => ?_).symm; simp_all [vC, pr]; omega) | (refine Bool.eq_false_iff.mpr fun h => ?_; simp_all [vC, pr]; omega) | (rw [Bool.eq_iff_iff]; constructor <;> intro h <;> simp_all [vC, pr] <;> omega) | fail) | (rcases Nat.eq_zero_or_pos i with h0 | h0 <;> simp_all [vC, pr] <;> omega) | (fail) | fail
         · repeat' (first | exact True.intro | refine And.intro (congrArg (D.int .i64) hw) ?_ | refine And.intro rfl ?_)
         · repeat' (first | exact True.intro | refine And.intro rfl ?_))
  have hge : ¬ i < b.fCopies.length := by simpa using hb
  have hend : valid b = true := by rw [hN, allN_end hge, Bool.true_and]
  clear hN
  conv => whnf
  repeat' (first | (refine g_op ?_; conv => whnf) | (refine And.intro ?_ ?_; (focus (first | exact rfl | exact Nat.le_of_ble_eq_true rfl | decide | omega | fail)); conv => whnf) | (refine g_seq ?_) | (refine XS.go ?_) | (refine g_ops ?_) | (refine g_nil ?_; conv => whnf) | (refine g_ret ?_; conv => whnf) | (refine g_exit ?_; conv => whnf) | (refine r_t ?_; conv => whnf) | (refine r_nil ?_; conv => whnf) | fail)
  (conv => lhs; whnf)
  rw [hend]
theorem ahead_neg (d c : StewCopy) : (Op.bytesLess c.fService.toList d.fService.toList || (c.fService.toList == d.fService.toList && decide (c.fNumber ≤ d.fNumber))) = !ahead d c := by
  unfold ahead
  have h1 := le_eq c.fService.toList d.fService.toList
  have h2 := beq_cm d.fService.toList c.fService.toList
  rw [h2]
  cases e : (c.fService.toList == d.fService.toList)
  · rw [e, Bool.or_false] at h1
    rw [h1]
    simp
  · have e' : c.fService.toList = d.fService.toList := by simpa using e
    rw [e']
    rw [bl_irr]
    by_cases h : c.fNumber ≤ d.fNumber
    · have : ¬ d.fNumber < c.fNumber := by omega
      simp [h, this]
    · have : d.fNumber < c.fNumber := by omega
      simp [h, this]
set_option maxHeartbeats 8000000 in
theorem impl_Valid (b : StewBook) (h1 : b.fServices.length ≤ 1048576) (h2 : b.fBerths.length ≤ 1048576) (h3 : b.fCopies.length ≤ 1048576) : Rdr Try.prog 20 [b.D] (.bool (valid b)) := by
  refine Rdr.intro' hm c20 (Nat.le_of_ble_eq_true rfl) ?_
  conv => whnf
  repeat' (first | (refine g_op ?_; conv => whnf) | (refine And.intro ?_ ?_; (focus (first | exact rfl | exact Nat.le_of_ble_eq_true rfl | decide | omega | fail)); conv => whnf) | (refine g_seq ?_) | (refine g_ops ?_) | (refine g_nil ?_; conv => whnf) | (refine fun _ => ?_; conv => whnf) | fail)
  refine XS.freezeB 1 rfl ?_
  repeat' (first | (refine z_ld1 ?_; first | (refine z_ld rfl rfl rfl rfl (by first | (simp only [List.length_set]; assumption) | assumption | omega) (by first | exact elt_set (by first | assumption | (simp only [List.length_set]; assumption)) | assumption) ?_; conv => whnf) | (refine z_ld0 rfl ?_; conv => whnf)) | (refine z_ld1g ?_; first | (refine z_ldg rfl rfl rfl rfl rfl rfl rfl (by (repeat intro _); exact ⟨(by first | (simp only [List.length_set]; assumption) | assumption | omega), (by first | exact elt_set (by first | assumption | (simp only [List.length_set]; assumption)) | assumption)⟩) rfl rfl rfl rfl ?_; conv => whnf) | (refine z_ld0g ?_; (conv => whnf); refine And.intro ?_ ?_; (focus exact rfl); conv => whnf)) | (refine z_op ?_ ?_; (focus exact rfl); conv => whnf) | (refine z_opg0 ?_; (conv => whnf); refine And.intro ?_ ?_; (focus exact rfl); conv => whnf) | (refine z_pick ?_ ?_; (focus exact rfl); conv => whnf) | (refine zs_ops ?_ ?_; (focus exact rfl)) | (refine z_nil fun vals => ?_; conv => whnf) | (refine z_call ?_ ?_; (focus exact rfl)) | (refine RC.of (impl_within _ _ _) ?_ ?_; (focus exact rfl); conv => whnf) | (refine And.intro ?_ ?_; (focus (first | exact rfl | exact Nat.le_of_ble_eq_true rfl | decide | omega | fail)); conv => whnf) | (refine g_seq ?_) | (refine XS.go ?_) | (refine g_cond ?_; conv => whnf) | fail)
  simp only [mlen']
  refine Br.mk (fun hb => ?_) (fun hb => ?_)
  · conv => whnf
    repeat' (first | (refine g_op ?_; conv => whnf) | (refine And.intro ?_ ?_; (focus (first | exact rfl | exact Nat.le_of_ble_eq_true rfl | decide | omega | fail)); conv => whnf) | (refine g_seq ?_) | (refine XS.go ?_) | (refine g_ops ?_) | (refine g_nil ?_; conv => whnf) | (refine g_ret ?_; conv => whnf) | (refine r_t ?_; conv => whnf) | (refine r_nil ?_; conv => whnf) | fail)
    (conv => lhs; whnf)
    rw [valid, hb]
    rfl
  have hv : valid b = (allN (vS b) b.fServices.length 0 && (allN (vB b) b.fBerths.length 0 && (allN (vC b) b.fCopies.length 0 && true))) := by rw [valid, hb]; rfl
  clear hb
  conv => whnf
  repeat' (first | (refine z_ld1 ?_; first | (refine z_ld rfl rfl rfl rfl (by first | (simp only [List.length_set]; assumption) | assumption | omega) (by first | exact elt_set (by first | assumption | (simp only [List.length_set]; assumption)) | assumption) ?_; conv => whnf) | (refine z_ld0 rfl ?_; conv => whnf)) | (refine z_op ?_ ?_; (focus exact rfl); conv => whnf) | (refine zs_ops ?_ ?_; (focus exact rfl)) | (refine z_nil fun vals => ?_; conv => whnf) | (refine And.intro ?_ ?_; (focus (first | exact rfl | exact Nat.le_of_ble_eq_true rfl | decide | omega | fail)); conv => whnf) | (refine g_seq ?_) | (refine XS.go ?_) | (refine g_loop ?_) | (refine g_skip ?_; conv => whnf) | (refine g_block ?_) | fail)
  refine XLc.mkL (α := Nat) (fun i => i ≤ b.fServices.length ∧ valid b = (allN (vS b) (b.fServices.length - i) i && (allN (vB b) b.fBerths.length 0 && (allN (vC b) b.fCopies.length 0 && true)))) (fun i => b.fServices.length - i) (fun i gs => [.any, .cref b.D, .any, .any, .any, .any, .any, .any, .any, .any, .any, .any, .any, .any, .any, .any, .any, .any, .any, .any, .any, .any, .any, .any, .any, .any, .any, .any, .any, .any, .any, .any, .any, .any, .ro 13 (b.fServices.map StewService.D), .int .i64 ((b.fServices.map StewService.D).length : Int), .int .i64 (i : Int)]) (fun i gs => []) 0 ⟨Nat.zero_le _, hv⟩ ?_ ?_
  · refine ⟨?_, ?_⟩
    · repeat' (first | exact True.intro | refine And.intro rfl ?_)
    · repeat' (first | exact True.intro | refine And.intro rfl ?_)
  intro i gs hI
  obtain ⟨hi, hN⟩ := hI
  repeat' (first | (refine g_op ?_; conv => whnf) | (refine And.intro ?_ ?_; (focus (first | exact rfl | exact Nat.le_of_ble_eq_true rfl | decide | omega | fail)); conv => whnf) | (refine g_seq ?_) | (refine XS.go ?_) | (refine g_ops ?_) | (refine g_nil ?_; conv => whnf) | (refine g_cond ?_; conv => whnf) | fail)
  refine Br.mk (fun hb => ?_) (fun hb => ?_)
  · have hlt : i < b.fServices.length := by simpa using hb
    have hw : IntKind.wrap .i64 ((i : Int) + 1) = ((i + 1 : Nat) : Int) := by rw [wrap_ok (by omega) (by omega)]; rfl
    have hw1 : IntKind.wrap .i64 ((i : Int) - 1) = (i : Int) - 1 := wrap_ok (by omega) (by omega)
    have hbad := fun h => allN_bad (f := vS b) hlt hN h
    have hgood := fun h => allN_good (f := vS b) hlt hN h
    clear hN hb
    all_goals conv => whnf
    repeat' (first | (refine z_ld1 ?_; first | (refine z_ld rfl rfl rfl rfl (by first | (simp only [List.length_set]; assumption) | assumption | omega) (by first | exact elt_set (by first | assumption | (simp only [List.length_set]; assumption)) | assumption) ?_; conv => whnf) | (refine z_ld0 rfl ?_; conv => whnf)) | (refine z_ld1g ?_; first | (refine z_ldg rfl rfl rfl rfl rfl rfl rfl (by (repeat intro _); exact ⟨(by first | (simp only [List.length_set]; assumption) | assumption | omega), (by first | exact elt_set (by first | assumption | (simp only [List.length_set]; assumption)) | assumption)⟩) rfl rfl rfl rfl ?_; conv => whnf) | (refine z_ld0g ?_; (conv => whnf); refine And.intro ?_ ?_; (focus exact rfl); conv => whnf)) | (refine z_st1 ?_; first | (refine z_st rfl rfl rfl (by first | (simp only [List.length_set]; assumption) | assumption | omega) (by first | exact elt_set (by first | assumption | (simp only [List.length_set]; assumption)) | assumption) rfl rfl ?_; conv => whnf) | (refine z_st0 ?_; conv => whnf)) | (refine z_ix1 ?_; first | (refine z_ix rfl rfl rfl rfl rfl ⟨by first | omega | (simp only [decide_eq_true_eq, Bool.not_eq_true', Bool.or_eq_false_iff, decide_eq_false_iff_not, Bool.and_eq_true, Bool.not_eq_false'] at *; omega), by first | omega | (simp only [decide_eq_true_eq, Bool.not_eq_true', Bool.or_eq_false_iff, decide_eq_false_iff_not, Bool.and_eq_true, Bool.not_eq_false'] at *; omega)⟩ ?_; conv => whnf) | (refine z_ix0 rfl rfl ?_; conv => whnf)) | (refine z_ix1g ?_; refine z_ixg rfl rfl rfl rfl rfl rfl rfl (by (repeat intro _); refine ⟨?_, ?_⟩ <;> first | omega | (simp only [decide_eq_true_eq, Bool.not_eq_true', Bool.or_eq_false_iff, decide_eq_false_iff_not, Bool.and_eq_true, Bool.not_eq_false'] at *; omega)) ?_) | (refine z_op ?_ ?_; (focus exact rfl); conv => whnf) | (refine z_opg0 ?_; (conv => whnf); refine And.intro ?_ ?_; (focus exact rfl); conv => whnf) | (refine z_pick ?_ ?_; (focus exact rfl); conv => whnf) | (refine z_pickg ?_; (conv => whnf); refine And.intro ?_ ?_; (focus exact rfl); conv => whnf) | (refine zs_ops ?_ ?_; (focus exact rfl)) | (refine zs_quiet ?_ ?_; (focus exact rfl)) | (refine z_nil fun vals => ?_; conv => whnf) | (refine z_call ?_ ?_; (focus exact rfl)) | (refine z_eff ?_; conv => whnf) | (refine RC.of (impl_serviceOk _ _) ?_ ?_; (focus exact rfl); conv => whnf) | (refine g_op ?_; conv => whnf) | (refine And.intro ?_ ?_; (focus (first | exact rfl | exact Nat.le_of_ble_eq_true rfl | decide | omega | fail)); conv => whnf) | (refine g_seq ?_) | (refine XS.go ?_) | (refine g_ops ?_) | (refine g_nil ?_; conv => whnf) | (refine g_cond ?_; conv => whnf) | (refine g_skip ?_; conv => whnf) | (refine g_ret ?_; conv => whnf) | (refine g_block ?_) | (refine r_t ?_; conv => whnf) | (refine r_nil ?_; conv => whnf) | (refine fun _ => ?_; conv => whnf) | (refine Br.mk (fun hb => ?_) (fun hb => ?_) <;> conv => whnf) | fail)
    all_goals
      first
      | (refine ⟨(), hbad ?_, ⟨?_, True.intro⟩⟩
         · clear hbad hgood hw 
           first | (first | (refine (Bool.eq_false_iff.mpr fun h => ?_).symm; simp_all [vS, pr, le_eq]; done) | (refine Bool.eq_false_iff.mpr fun h => ?_; simp_all [vS, pr, le_eq]; done) | (simp_all [vS, pr, le_eq]; done) | (simp_all [vS, pr, le_eq]; omega) | (refine (Bool.eq_false_iff.mpr fun h => ?_).symm; simp_all [vS, pr, le_eq]; omega) | (refine Bool.eq_false_iff.mpr fun h => ?_; simp_all [vS, pr, le_eq]; omega) | (rw [Bool.eq_iff_iff]; constructor <;> intro h <;> simp_all [vS, pr, le_eq] <;> omega) | fail) | (rcases Nat.eq_zero_or_pos i with h0 | h0 <;> simp_all [vS, pr, le_eq] <;> omega) | (fail) | fail
         · repeat' (first | exact True.intro | refine And.intro rfl ?_))
      | (conv => lhs; whnf
         refine congrArg D.bool (hbad ?_)
         clear hbad hgood hw 
         first | (first | (refine (Bool.eq_false_iff.mpr fun h => ?_).symm; simp_all [vS, pr, le_eq]; done) | (refine Bool.eq_false_iff.mpr fun h => ?_; simp_all [vS, pr, le_eq]; done) | (simp_all [vS, pr, le_eq]; done) | (simp_all [vS, pr, le_eq]; omega) | (refine (Bool.eq_false_iff.mpr fun h => ?_).symm; simp_all [vS, pr, le_eq]; omega) | (refine Bool.eq_false_iff.mpr fun h => ?_; simp_all [vS, pr, le_eq]; omega) | (rw [Bool.eq_iff_iff]; constructor <;> intro h <;> simp_all [vS, pr, le_eq] <;> omega) | fail) | (rcases Nat.eq_zero_or_pos i with h0 | h0 <;> simp_all [vS, pr, le_eq] <;> omega) | (fail) | fail)
      | (refine ⟨i + 1, ⟨by omega, ?_⟩, by omega, ?_, ?_⟩
         · refine hgood ?_
           clear hbad hgood hw 
           first | (first | (refine (Bool.eq_false_iff.mpr fun h => ?_).symm; simp_all [vS, pr, le_eq]; done) | (refine Bool.eq_false_iff.mpr fun h => ?_; simp_all [vS, pr, le_eq]; done) | (simp_all [vS, pr, le_eq]; done) | (simp_all [vS, pr, le_eq]; omega) | (refine (Bool.eq_false_iff.mpr fun h => ?_).symm; simp_all [vS, pr, le_eq]; omega) | (refine Bool.eq_false_iff.mpr fun h => ?_; simp_all [vS, pr, le_eq]; omega) | (rw [Bool.eq_iff_iff]; constructor <;> intro h <;> simp_all [vS, pr, le_eq] <;> omega) | fail) | (rcases Nat.eq_zero_or_pos i with h0 | h0 <;> simp_all [vS, pr, le_eq] <;> omega) | (fail) | fail
         · repeat' (first | exact True.intro | refine And.intro (congrArg (D.int .i64) hw) ?_ | refine And.intro rfl ?_)
         · repeat' (first | exact True.intro | refine And.intro rfl ?_))
  have hge : ¬ i < b.fServices.length := by simpa using hb
  have hend : valid b = (allN (vB b) b.fBerths.length 0 && (allN (vC b) b.fCopies.length 0 && true)) := by rw [hN, allN_end hge, Bool.true_and]
  clear hN
  conv => whnf
  repeat' (first | (refine z_ld1 ?_; first | (refine z_ld rfl rfl rfl rfl (by first | (simp only [List.length_set]; assumption) | assumption | omega) (by first | exact elt_set (by first | assumption | (simp only [List.length_set]; assumption)) | assumption) ?_; conv => whnf) | (refine z_ld0 rfl ?_; conv => whnf)) | (refine z_op ?_ ?_; (focus exact rfl); conv => whnf) | (refine zs_ops ?_ ?_; (focus exact rfl)) | (refine z_nil fun vals => ?_; conv => whnf) | (refine And.intro ?_ ?_; (focus (first | exact rfl | exact Nat.le_of_ble_eq_true rfl | decide | omega | fail)); conv => whnf) | (refine g_seq ?_) | (refine XS.go ?_) | (refine g_loop ?_) | (refine g_exit ?_; conv => whnf) | (refine g_block ?_) | fail)
  refine XLc.mkL (α := Nat) (fun i => i ≤ b.fBerths.length ∧ valid b = (allN (vB b) (b.fBerths.length - i) i && (allN (vC b) b.fCopies.length 0 && true))) (fun i => b.fBerths.length - i) (fun i gs => [.any, .cref b.D, .any, .any, .any, .any, .any, .any, .any, .any, .any, .any, .any, .any, .any, .any, .any, .any, .any, .any, .any, .any, .any, .any, .any, .any, .any, .any, .any, .any, .any, .any, .any, .any, .any, .any, .any, .any, .any, .any, .any, .any, .any, .any, .any, .any, .any, .any, .any, .any, .any, .any, .any, .any, .any, .any, .any, .any, .any, .any, .any, .any, .any, .any, .ro 2 (b.fBerths.map StewBerth.D), .int .i64 ((b.fBerths.map StewBerth.D).length : Int), .int .i64 (i : Int)]) (fun i gs => []) 0 ⟨Nat.zero_le _, hend⟩ ?_ ?_
  · refine ⟨?_, ?_⟩
    · repeat' (first | exact True.intro | refine And.intro rfl ?_)
    · repeat' (first | exact True.intro | refine And.intro rfl ?_)
  intro i gs hI
  obtain ⟨hi, hN⟩ := hI
  repeat' (first | (refine g_op ?_; conv => whnf) | (refine And.intro ?_ ?_; (focus (first | exact rfl | exact Nat.le_of_ble_eq_true rfl | decide | omega | fail)); conv => whnf) | (refine g_seq ?_) | (refine XS.go ?_) | (refine g_ops ?_) | (refine g_nil ?_; conv => whnf) | (refine g_cond ?_; conv => whnf) | fail)
  refine Br.mk (fun hb => ?_) (fun hb => ?_)
  · have hlt : i < b.fBerths.length := by simpa using hb
    have hw : IntKind.wrap .i64 ((i : Int) + 1) = ((i + 1 : Nat) : Int) := by rw [wrap_ok (by omega) (by omega)]; rfl
    have hw1 : IntKind.wrap .i64 ((i : Int) - 1) = (i : Int) - 1 := wrap_ok (by omega) (by omega)
    have hbad := fun h => allN_bad (f := vB b) hlt hN h
    have hgood := fun h => allN_good (f := vB b) hlt hN h
    clear hN hb
    all_goals conv => whnf
    repeat' (first | (refine z_ld1 ?_; first | (refine z_ld rfl rfl rfl rfl (by first | (simp only [List.length_set]; assumption) | assumption | omega) (by first | exact elt_set (by first | assumption | (simp only [List.length_set]; assumption)) | assumption) ?_; conv => whnf) | (refine z_ld0 rfl ?_; conv => whnf)) | (refine z_ld1g ?_; first | (refine z_ldg rfl rfl rfl rfl rfl rfl rfl (by (repeat intro _); exact ⟨(by first | (simp only [List.length_set]; assumption) | assumption | omega), (by first | exact elt_set (by first | assumption | (simp only [List.length_set]; assumption)) | assumption)⟩) rfl rfl rfl rfl ?_; conv => whnf) | (refine z_ld0g ?_; (conv => whnf); refine And.intro ?_ ?_; (focus exact rfl); conv => whnf)) | (refine z_st1 ?_; first | (refine z_st rfl rfl rfl (by first | (simp only [List.length_set]; assumption) | assumption | omega) (by first | exact elt_set (by first | assumption | (simp only [List.length_set]; assumption)) | assumption) rfl rfl ?_; conv => whnf) | (refine z_st0 ?_; conv => whnf)) | (refine z_ix1 ?_; first | (refine z_ix rfl rfl rfl rfl rfl ⟨by first | omega | (simp only [decide_eq_true_eq, Bool.not_eq_true', Bool.or_eq_false_iff, decide_eq_false_iff_not, Bool.and_eq_true, Bool.not_eq_false'] at *; omega), by first | omega | (simp only [decide_eq_true_eq, Bool.not_eq_true', Bool.or_eq_false_iff, decide_eq_false_iff_not, Bool.and_eq_true, Bool.not_eq_false'] at *; omega)⟩ ?_; conv => whnf) | (refine z_ix0 rfl rfl ?_; conv => whnf)) | (refine z_ix1g ?_; refine z_ixg rfl rfl rfl rfl rfl rfl rfl (by (repeat intro _); refine ⟨?_, ?_⟩ <;> first | omega | (simp only [decide_eq_true_eq, Bool.not_eq_true', Bool.or_eq_false_iff, decide_eq_false_iff_not, Bool.and_eq_true, Bool.not_eq_false'] at *; omega)) ?_) | (refine z_op ?_ ?_; (focus exact rfl); conv => whnf) | (refine z_opg0 ?_; (conv => whnf); refine And.intro ?_ ?_; (focus exact rfl); conv => whnf) | (refine z_pick ?_ ?_; (focus exact rfl); conv => whnf) | (refine z_pickg ?_; (conv => whnf); refine And.intro ?_ ?_; (focus exact rfl); conv => whnf) | (refine zs_ops ?_ ?_; (focus exact rfl)) | (refine zs_quiet ?_ ?_; (focus exact rfl)) | (refine z_nil fun vals => ?_; conv => whnf) | (refine z_call ?_ ?_; (focus exact rfl)) | (refine z_eff ?_; conv => whnf) | (refine RC.of (impl_isName _) ?_ ?_; (focus exact rfl); conv => whnf) | (refine g_op ?_; conv => whnf) | (refine And.intro ?_ ?_; (focus (first | exact rfl | exact Nat.le_of_ble_eq_true rfl | decide | omega | fail)); conv => whnf) | (refine g_seq ?_) | (refine XS.go ?_) | (refine g_ops ?_) | (refine g_nil ?_; conv => whnf) | (refine g_cond ?_; conv => whnf) | (refine g_skip ?_; conv => whnf) | (refine g_ret ?_; conv => whnf) | (refine g_block ?_) | (refine r_t ?_; conv => whnf) | (refine r_nil ?_; conv => whnf) | (refine fun _ => ?_; conv => whnf) | (refine Br.mk (fun hb => ?_) (fun hb => ?_) <;> conv => whnf) | fail)
    all_goals
      first
      | (refine ⟨(), hbad ?_, ⟨?_, True.intro⟩⟩
         · clear hbad hgood hw 
           first | (first | (refine (Bool.eq_false_iff.mpr fun h => ?_).symm; simp_all [vB, pr, le_eq]; done) | (refine Bool.eq_false_iff.mpr fun h => ?_; simp_all [vB, pr, le_eq]; done) | (simp_all [vB, pr, le_eq]; done) | (simp_all [vB, pr, le_eq]; omega) | (refine (Bool.eq_false_iff.mpr fun h => ?_).symm; simp_all [vB, pr, le_eq]; omega) | (refine Bool.eq_false_iff.mpr fun h => ?_; simp_all [vB, pr, le_eq]; omega) | (rw [Bool.eq_iff_iff]; constructor <;> intro h <;> simp_all [vB, pr, le_eq] <;> omega) | fail) | (rcases Nat.eq_zero_or_pos i with h0 | h0 <;> simp_all [vB, pr, le_eq] <;> omega) | (fail) | fail
         · repeat' (first | exact True.intro | refine And.intro rfl ?_))
      | (conv => lhs; whnf
         refine congrArg D.bool (hbad ?_)
         clear hbad hgood hw 
         first | (first | (refine (Bool.eq_false_iff.mpr fun h => ?_).symm; simp_all [vB, pr, le_eq]; done) | (refine Bool.eq_false_iff.mpr fun h => ?_; simp_all [vB, pr, le_eq]; done) | (simp_all [vB, pr, le_eq]; done) | (simp_all [vB, pr, le_eq]; omega) | (refine (Bool.eq_false_iff.mpr fun h => ?_).symm; simp_all [vB, pr, le_eq]; omega) | (refine Bool.eq_false_iff.mpr fun h => ?_; simp_all [vB, pr, le_eq]; omega) | (rw [Bool.eq_iff_iff]; constructor <;> intro h <;> simp_all [vB, pr, le_eq] <;> omega) | fail) | (rcases Nat.eq_zero_or_pos i with h0 | h0 <;> simp_all [vB, pr, le_eq] <;> omega) | (fail) | fail)
      | (refine ⟨i + 1, ⟨by omega, ?_⟩, by omega, ?_, ?_⟩
         · refine hgood ?_
           clear hbad hgood hw 
           first | (first | (refine (Bool.eq_false_iff.mpr fun h => ?_).symm; simp_all [vB, pr, le_eq]; done) | (refine Bool.eq_false_iff.mpr fun h => ?_; simp_all [vB, pr, le_eq]; done) | (simp_all [vB, pr, le_eq]; done) | (simp_all [vB, pr, le_eq]; omega) | (refine (Bool.eq_false_iff.mpr fun h => ?_).symm; simp_all [vB, pr, le_eq]; omega) | (refine Bool.eq_false_iff.mpr fun h => ?_; simp_all [vB, pr, le_eq]; omega) | (rw [Bool.eq_iff_iff]; constructor <;> intro h <;> simp_all [vB, pr, le_eq] <;> omega) | fail) | (rcases Nat.eq_zero_or_pos i with h0 | h0 <;> simp_all [vB, pr, le_eq] <;> omega) | (fail) | fail
         · repeat' (first | exact True.intro | refine And.intro (congrArg (D.int .i64) hw) ?_ | refine And.intro rfl ?_)
         · repeat' (first | exact True.intro | refine And.intro rfl ?_))
  have hge : ¬ i < b.fBerths.length := by simpa using hb
  have hend : valid b = (allN (vC b) b.fCopies.length 0 && true) := by rw [hN, allN_end hge, Bool.true_and]
  clear hN
  conv => whnf
  repeat' (first | (refine z_ld1 ?_; first | (refine z_ld rfl rfl rfl rfl (by first | (simp only [List.length_set]; assumption) | assumption | omega) (by first | exact elt_set (by first | assumption | (simp only [List.length_set]; assumption)) | assumption) ?_; conv => whnf) | (refine z_ld0 rfl ?_; conv => whnf)) | (refine z_op ?_ ?_; (focus exact rfl); conv => whnf) | (refine zs_ops ?_ ?_; (focus exact rfl)) | (refine z_nil fun vals => ?_; conv => whnf) | (refine And.intro ?_ ?_; (focus (first | exact rfl | exact Nat.le_of_ble_eq_true rfl | decide | omega | fail)); conv => whnf) | (refine g_seq ?_) | (refine XS.go ?_) | (refine g_loop ?_) | (refine g_exit ?_; conv => whnf) | (refine g_block ?_) | fail)
  refine XLc.mkL (α := Nat) (fun i => i ≤ b.fCopies.length ∧ valid b = (allN (vC b) (b.fCopies.length - i) i && true)) (fun i => b.fCopies.length - i) (fun i gs => [.any, .cref b.D, .any, .any, .any, .any, .any, .any, .any, .any, .any, .any, .any, .any, .any, .any, .any, .any, .any, .any, .any, .any, .any, .any, .any, .any, .any, .any, .any, .any, .any, .any, .any, .any, .any, .any, .any, .any, .any, .any, .any, .any, .any, .any, .any, .any, .any, .any, .any, .any, .any, .any, .any, .any, .any, .any, .any, .any, .any, .any, .any, .any, .any, .any, .any, .any, .any, .any, .any, .any, .any, .any, .any, .any, .any, .any, .any, .any, .any, .any, .any, .any, .any, .any, .any, .any, .any, .any, .any, .any, .any, .any, .any, .ro 7 (b.fCopies.map StewCopy.D), .int .i64 ((b.fCopies.map StewCopy.D).length : Int), .int .i64 (i : Int)]) (fun i gs => []) 0 ⟨Nat.zero_le _, hend⟩ ?_ ?_
  · refine ⟨?_, ?_⟩
    · repeat' (first | exact True.intro | refine And.intro rfl ?_)
    · repeat' (first | exact True.intro | refine And.intro rfl ?_)
  intro i gs hI
  obtain ⟨hi, hN⟩ := hI
  repeat' (first | (refine g_op ?_; conv => whnf) | (refine And.intro ?_ ?_; (focus (first | exact rfl | exact Nat.le_of_ble_eq_true rfl | decide | omega | fail)); conv => whnf) | (refine g_seq ?_) | (refine XS.go ?_) | (refine g_ops ?_) | (refine g_nil ?_; conv => whnf) | (refine g_cond ?_; conv => whnf) | fail)
  refine Br.mk (fun hb => ?_) (fun hb => ?_)
  · have hlt : i < b.fCopies.length := by simpa using hb
    have hw : IntKind.wrap .i64 ((i : Int) + 1) = ((i + 1 : Nat) : Int) := by rw [wrap_ok (by omega) (by omega)]; rfl
    have hw1 : IntKind.wrap .i64 ((i : Int) - 1) = (i : Int) - 1 := wrap_ok (by omega) (by omega)
    have hbad := fun h => allN_bad (f := vC b) hlt hN h
    have hgood := fun h => allN_good (f := vC b) hlt hN h
    clear hN hb
    have hs := impl_service b (b.fCopies.getD (i : Int).toNat default).fService h1
    have hq := impl_berth b (b.fCopies.getD (i : Int).toNat default).fBerth h2
    by_cases hs0 : svcI b (b.fCopies.getD (i : Int).toNat default).fService < 0 <;> by_cases hq0 : berI b (b.fCopies.getD (i : Int).toNat default).fBerth < 0
    all_goals first | rw [ptr_none hs0] at hs | rw [ptr_some hs0] at hs
    all_goals first | rw [ptr_none hq0] at hq | rw [ptr_some hq0] at hq
    all_goals conv => whnf
    repeat' (first | (refine z_skipT' ?_ ?_; (focus ((conv => lhs; whnf); done)); (conv => whnf); refine And.intro ?_ ?_; (focus exact rfl)) | (refine z_pickF ?_ ?_ ?_; (focus ((conv => lhs; whnf); done)); (focus exact rfl); (conv => whnf)) | (refine z_ld1 ?_; first | (refine z_ld rfl rfl rfl rfl (by first | (simp only [List.length_set]; assumption) | assumption | omega) (by first | exact elt_set (by first | assumption | (simp only [List.length_set]; assumption)) | assumption) ?_; conv => whnf) | (refine z_ld0 rfl ?_; conv => whnf)) | (refine z_ld1g ?_; first | (refine z_ldg rfl rfl rfl rfl rfl rfl rfl (by (repeat intro _); exact ⟨(by first | (simp only [List.length_set]; assumption) | assumption | omega), (by first | exact elt_set (by first | assumption | (simp only [List.length_set]; assumption)) | assumption)⟩) rfl rfl rfl rfl ?_; conv => whnf) | (refine z_ld0g ?_; (conv => whnf); refine And.intro ?_ ?_; (focus exact rfl); conv => whnf)) | (refine z_st1 ?_; first | (refine z_st rfl rfl rfl (by first | (simp only [List.length_set]; assumption) | assumption | omega) (by first | exact elt_set (by first | assumption | (simp only [List.length_set]; assumption)) | assumption) rfl rfl ?_; conv => whnf) | (refine z_st0 ?_; conv => whnf)) | (refine z_ix1 ?_; first | (refine z_ix rfl rfl rfl rfl rfl ⟨by first | omega | (simp only [decide_eq_true_eq, Bool.not_eq_true', Bool.or_eq_false_iff, decide_eq_false_iff_not, Bool.and_eq_true, Bool.not_eq_false'] at *; omega), by first | omega | (simp only [decide_eq_true_eq, Bool.not_eq_true', Bool.or_eq_false_iff, decide_eq_false_iff_not, Bool.and_eq_true, Bool.not_eq_false'] at *; omega)⟩ ?_; conv => whnf) | (refine z_ix0 rfl rfl ?_; conv => whnf)) | (refine z_op ?_ ?_; (focus exact rfl); conv => whnf) | (refine z_opg0 ?_; (conv => whnf); refine And.intro ?_ ?_; (focus exact rfl); conv => whnf) | (refine z_pick ?_ ?_; (focus exact rfl); conv => whnf) | (refine z_pickg ?_; (conv => whnf); refine And.intro ?_ ?_; (focus exact rfl); conv => whnf) | (refine zs_ops ?_ ?_; (focus exact rfl)) | (refine zs_quiet ?_ ?_; (focus exact rfl)) | (refine z_nil fun vals => ?_; conv => whnf) | (refine z_call ?_ ?_; (focus exact rfl)) | (refine z_eff ?_; conv => whnf) | (refine z_callg0 ?_; (conv => whnf); refine And.intro ?_ ?_; (focus exact rfl)) | (refine RC.of (hs) ?_ ?_; (focus exact rfl); conv => whnf) | (refine RC.of (hq) ?_ ?_; (focus exact rfl); conv => whnf) | (refine RC.of (impl_within _ _ _) ?_ ?_; (focus exact rfl); conv => whnf) | (refine g_op ?_; conv => whnf) | (refine And.intro ?_ ?_; (focus (first | exact rfl | exact Nat.le_of_ble_eq_true rfl | decide | omega | fail)); conv => whnf) | (refine g_seq ?_) | (refine XS.go ?_) | (refine g_ops ?_) | (refine g_nil ?_; conv => whnf) | (refine Br.t ?_ ?_; (focus (first | assumption | exact rfl)); conv => whnf) | (refine g_cond ?_; conv => whnf) | (refine g_skip ?_; conv => whnf) | (refine g_ret ?_; conv => whnf) | (refine g_block ?_) | (refine r_t ?_; conv => whnf) | (refine r_nil ?_; conv => whnf) | (refine fun _ => ?_; conv => whnf) | (refine Br.mk (fun hb => ?_) (fun hb => ?_) <;> conv => whnf) | fail)
    all_goals
      first
      | (refine ⟨(), hbad ?_, ⟨?_, True.intro⟩⟩
         · clear hbad hgood hw hs hq
           first | (first | (refine (Bool.eq_false_iff.mpr fun h => ?_).symm; simp_all [vC, copyOk, pr, ahead_neg, inR]; done) | (refine Bool.eq_false_iff.mpr fun h => ?_; simp_all [vC, copyOk, pr, ahead_neg, inR]; done) | (simp_all [vC, copyOk, pr, ahead_neg, inR]; done) | (simp_all [vC, copyOk, pr, ahead_neg, inR]; omega) | (refine (Bool.eq_false_iff.mpr fun h => ?_).symm; simp_all [vC, copyOk, pr, ahead_neg, inR]; omega) | (refine Bool.eq_false_iff.mpr fun h => ?_; simp_all [vC, copyOk, pr, ahead_neg, inR]; omega) | (rw [Bool.eq_iff_iff]; constructor <;> intro h <;> simp_all [vC, copyOk, pr, ahead_neg, inR] <;> omega) | fail) | (rcases Nat.eq_zero_or_pos i with h0 | h0 <;> simp_all [vC, copyOk, pr, ahead_neg, inR] <;> omega) | (fail) | fail
         · repeat' (first | exact True.intro | refine And.intro rfl ?_))
      | (conv => lhs; whnf
         refine congrArg D.bool (hbad ?_)
         clear hbad hgood hw hs hq
         first | (first | (refine (Bool.eq_false_iff.mpr fun h => ?_).symm; simp_all [vC, copyOk, pr, ahead_neg, inR]; done) | (refine Bool.eq_false_iff.mpr fun h => ?_; simp_all [vC, copyOk, pr, ahead_neg, inR]; done) | (simp_all [vC, copyOk, pr, ahead_neg, inR]; done) | (simp_all [vC, copyOk, pr, ahead_neg, inR]; omega) | (refine (Bool.eq_false_iff.mpr fun h => ?_).symm; simp_all [vC, copyOk, pr, ahead_neg, inR]; omega) | (refine Bool.eq_false_iff.mpr fun h => ?_; simp_all [vC, copyOk, pr, ahead_neg, inR]; omega) | (rw [Bool.eq_iff_iff]; constructor <;> intro h <;> simp_all [vC, copyOk, pr, ahead_neg, inR] <;> omega) | fail) | (rcases Nat.eq_zero_or_pos i with h0 | h0 <;> simp_all [vC, copyOk, pr, ahead_neg, inR] <;> omega) | (fail) | fail)
      | (refine ⟨i + 1, ⟨by omega, ?_⟩, by omega, ?_, ?_⟩
         · refine hgood ?_
           clear hbad hgood hw hs hq
           first | (first | (refine (Bool.eq_false_iff.mpr fun h => ?_).symm; simp_all [vC, copyOk, pr, ahead_neg, inR]; done) | (refine Bool.eq_false_iff.mpr fun h => ?_; simp_all [vC, copyOk, pr, ahead_neg, inR]; done) | (simp_all [vC, copyOk, pr, ahead_neg, inR]; done) | (simp_all [vC, copyOk, pr, ahead_neg, inR]; omega) | (refine (Bool.eq_false_iff.mpr fun h => ?_).symm; simp_all [vC, copyOk, pr, ahead_neg, inR]; omega) | (refine Bool.eq_false_iff.mpr fun h => ?_; simp_all [vC, copyOk, pr, ahead_neg, inR]; omega) | (rw [Bool.eq_iff_iff]; constructor <;> intro h <;> simp_all [vC, copyOk, pr, ahead_neg, inR] <;> omega) | fail) | (rcases Nat.eq_zero_or_pos i with h0 | h0 <;> simp_all [vC, copyOk, pr, ahead_neg, inR] <;> omega) | (fail) | fail
         · repeat' (first | exact True.intro | refine And.intro (congrArg (D.int .i64) hw) ?_ | refine And.intro rfl ?_)
         · repeat' (first | exact True.intro | refine And.intro rfl ?_))
  have hge : ¬ i < b.fCopies.length := by simpa using hb
  have hend : valid b = true := by rw [hN, allN_end hge, Bool.true_and]
  clear hN
  conv => whnf
  repeat' (first | (refine g_op ?_; conv => whnf) | (refine And.intro ?_ ?_; (focus (first | exact rfl | exact Nat.le_of_ble_eq_true rfl | decide | omega | fail)); conv => whnf) | (refine g_seq ?_) | (refine XS.go ?_) | (refine g_ops ?_) | (refine g_nil ?_; conv => whnf) | (refine g_ret ?_; conv => whnf) | (refine g_exit ?_; conv => whnf) | (refine r_t ?_; conv => whnf) | (refine r_nil ?_; conv => whnf) | fail)
  (conv => lhs; whnf)
  rw [hend]
end Go.Ab
