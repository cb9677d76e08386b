/- Steps towards the law: contracts of functions and facts of lists. -/
import Derived.Test.YtagleaabhljkfaaMateD
import Derived.Test.YtagleaabhljkfaaRows
set_option linter.unusedSimpArgs false
set_option linter.unusedVariables false
namespace Go.Ab
open Go Go.RowKit Go.Proofs
attribute [local irreducible] XC Rdr IntKind.wrap xw xos xqs xr xd
set_option maxRecDepth 100000

/-- spec.MateValid -/
def cf45 : CF := ⟨123, [.t 2],
  (.seq (.ops [⟨some 1, .bx (.t 0), none⟩,
    ⟨some 2, .mv (.k (.bool false)), none⟩])
  (.seq (.seq (.ops [⟨some 5, .fa 0 1 0 (.t 1), none⟩,
    ⟨some 6, .ld 1 false (.t 5), none⟩,
    ⟨some 7, .call 91 [(.t 6)], none⟩,
    ⟨some 8, .not (.t 7), none⟩,
    ⟨some 9, .mv (.t 8), none⟩,
    ⟨some 10, .fa 2 1 2 (.t 1), some (9, false)⟩,
    ⟨some 11, .ld 1 false (.t 10), some (9, false)⟩,
    ⟨some 12, .call 80 [(.t 11), (.k (.int .i64 0)), (.k (.int .i64 1000000))], some (9, false)⟩,
    ⟨some 13, .not (.t 12), some (9, false)⟩,
    ⟨some 14, .pick (.t 9) (.k (.bool true)) (.t 13), none⟩,
    ⟨some 15, .mv (.t 14), none⟩,
    ⟨some 16, .fa 4 1 4 (.t 1), some (15, false)⟩,
    ⟨some 17, .ld 1 false (.t 16), some (15, false)⟩,
    ⟨some 18, .call 80 [(.t 17), (.k (.int .i64 0)), (.k (.int .i64 1000000))], some (15, false)⟩,
    ⟨some 19, .not (.t 18), some (15, false)⟩,
    ⟨some 20, .pick (.t 15) (.k (.bool true)) (.t 19), none⟩,
    ⟨some 21, .mv (.t 20), none⟩,
    ⟨some 22, .fa 5 1 5 (.t 1), some (21, false)⟩,
    ⟨some 23, .ld 1 false (.t 22), some (21, false)⟩,
    ⟨some 24, .call 19 [(.t 23)], some (21, false)⟩,
    ⟨some 25, .not (.t 24), some (21, false)⟩,
    ⟨some 26, .pick (.t 21) (.k (.bool true)) (.t 25), none⟩,
    ⟨some 27, .mv (.t 26), none⟩,
    ⟨some 28, .fa 5 1 5 (.t 1), some (27, false)⟩,
    ⟨some 29, .ld 1 false (.t 28), some (27, false)⟩,
    ⟨some 30, .lenl (.t 29), some (27, false)⟩,
    ⟨some 31, .bin .gtr (.t 30) (.k (.int .i64 0)), some (27, false)⟩,
    ⟨some 32, .mv (.t 31), some (27, false)⟩,
    ⟨some 33, .fa 3 1 3 (.t 1), some (32, true)⟩,
    ⟨some 34, .ld 1 false (.t 33), some (32, true)⟩,
    ⟨some 35, .not (.t 34), some (32, true)⟩,
    ⟨some 36, .pick (.t 32) (.t 35) (.k (.bool false)), some (27, false)⟩,
    ⟨some 37, .pick (.t 27) (.k (.bool true)) (.t 36), none⟩,
    ⟨some 38, .mv (.t 37), none⟩,
    ⟨some 39, .fa 6 1 6 (.t 1), some (38, false)⟩,
    ⟨some 40, .ld 1 false (.t 39), some (38, false)⟩,
    ⟨some 41, .fa 2 1 2 (.t 1), some (38, false)⟩,
    ⟨some 42, .ld 1 false (.t 41), some (38, false)⟩,
    ⟨some 43, .call 24 [(.t 40), (.t 42)], some (38, false)⟩,
    ⟨some 44, .not (.t 43), some (38, false)⟩,
    ⟨some 45, .pick (.t 38) (.k (.bool true)) (.t 44), none⟩,
    ⟨some 46, .mv (.t 45), none⟩,
    ⟨some 47, .fa 7 1 7 (.t 1), some (46, false)⟩,
    ⟨some 48, .ld 1 false (.t 47), some (46, false)⟩,
    ⟨some 49, .fa 2 1 2 (.t 1), some (46, false)⟩,
    ⟨some 50, .ld 1 false (.t 49), some (46, false)⟩,
    ⟨some 51, .call 92 [(.t 48), (.t 50)], some (46, false)⟩,
    ⟨some 52, .not (.t 51), some (46, false)⟩,
    ⟨some 53, .pick (.t 46) (.k (.bool true)) (.t 52), none⟩,
    ⟨some 54, .mv (.t 53), none⟩,
    ⟨some 55, .fa 8 1 8 (.t 1), some (54, false)⟩,
    ⟨some 56, .ld 1 false (.t 55), some (54, false)⟩,
    ⟨some 57, .fa 2 1 2 (.t 1), some (54, false)⟩,
    ⟨some 58, .ld 1 false (.t 57), some (54, false)⟩,
    ⟨some 59, .call 92 [(.t 56), (.t 58)], some (54, false)⟩,
    ⟨some 60, .not (.t 59), some (54, false)⟩,
    ⟨some 61, .pick (.t 54) (.k (.bool true)) (.t 60), none⟩])
  (.cond (.t 61)
  (.seq (.ops [⟨some 2, .mv (.k (.bool false)), none⟩])
  .ret)
  .skip))
  (.seq (.seq (.ops [⟨some 3, .mv (.k (.int .i64 0)), none⟩])
  (.block 0 (.loop (.seq (.seq (.ops [⟨some 62, .mv (.t 3), none⟩,
    ⟨some 63, .fa 7 1 7 (.t 1), none⟩,
    ⟨some 64, .ld 1 false (.t 63), none⟩,
    ⟨some 65, .lenl (.t 64), none⟩,
    ⟨some 66, .bin .lss (.t 62) (.t 65), none⟩])
  (.cond (.t 66)
  .skip
  (.exit 0)))
  (.seq (.block 1 (.seq (.quiet [⟨some 69, .fa 8 1 8 (.t 1), none⟩,
    ⟨some 70, .ld 1 false (.t 69), none⟩,
    ⟨some 71, .fa 7 1 7 (.t 1), none⟩,
    ⟨some 72, .ld 1 false (.t 71), none⟩,
    ⟨some 73, .mv (.t 3), none⟩,
    ⟨some 74, .ix 4 (.t 72) (.t 73), none⟩,
    ⟨some 75, .fa 0 1 0 (.t 74), none⟩,
    ⟨some 76, .ld 1 false (.t 75), none⟩,
    ⟨some 77, .call 93 [(.t 70), (.t 76)], none⟩,
    ⟨some 78, .bin .geq (.t 77) (.k (.int .i64 0)), none⟩])
  (.cond (.t 78)
  (.seq (.ops [⟨some 2, .mv (.k (.bool false)), none⟩])
  .ret)
  .skip)))
  (.ops [⟨some 67, .mv (.t 3), none⟩,
    ⟨some 68, .bin .add (.t 67) (.k (.int .i64 1)), none⟩,
    ⟨some 3, .mv (.t 68), none⟩]))))))
  (.seq (.seq (.ops [⟨some 79, .fa 1 1 1 (.t 1), none⟩,
    ⟨some 80, .ld 1 false (.t 79), none⟩])
  (.cond (.t 80)
  (.seq (.ops [⟨some 2, .mv (.k (.bool true)), none⟩])
  .ret)
  .skip))
  (.seq (.seq (.ops [⟨some 4, .mv (.k (.int .i64 0)), none⟩])
  (.block 2 (.loop (.seq (.seq (.ops [⟨some 81, .mv (.t 4), none⟩,
    ⟨some 82, .fa 6 1 6 (.t 1), none⟩,
    ⟨some 83, .ld 1 false (.t 82), none⟩,
    ⟨some 84, .lenl (.t 83), none⟩,
    ⟨some 85, .bin .lss (.t 81) (.t 84), none⟩])
  (.cond (.t 85)
  .skip
  (.exit 2)))
  (.seq (.block 3 (.seq (.ops [⟨some 88, .fa 6 1 6 (.t 1), none⟩,
    ⟨some 89, .ld 1 false (.t 88), none⟩,
    ⟨some 90, .mv (.t 4), none⟩,
    ⟨some 91, .ix 11 (.t 89) (.t 90), none⟩,
    ⟨some 92, .ld 11 true (.t 91), none⟩,
    ⟨some 93, .call 15 [(.t 92)], none⟩,
    ⟨some 94, .not (.t 93), none⟩,
    ⟨some 95, .mv (.t 94), none⟩,
    ⟨some 96, .fa 6 1 6 (.t 1), some (95, true)⟩,
    ⟨some 97, .ld 1 false (.t 96), some (95, true)⟩,
    ⟨some 98, .mv (.t 4), some (95, true)⟩,
    ⟨some 99, .ix 11 (.t 97) (.t 98), some (95, true)⟩,
    ⟨some 100, .fa 0 7 0 (.t 99), some (95, true)⟩,
    ⟨some 101, .fa 2 1 2 (.t 100), some (95, true)⟩,
    ⟨some 102, .ld 1 false (.t 101), some (95, true)⟩,
    ⟨some 103, .bin .eql (.t 102) (.k (.str ⟨#[]⟩)), some (95, true)⟩,
    ⟨some 104, .pick (.t 95) (.t 103) (.k (.bool false)), none⟩])
  (.cond (.t 104)
  (.seq (.ops [⟨some 2, .mv (.k (.bool false)), none⟩])
  .ret)
  .skip)))
  (.ops [⟨some 86, .mv (.t 4), none⟩,
    ⟨some 87, .bin .add (.t 86) (.k (.int .i64 1)), none⟩,
    ⟨some 4, .mv (.t 87), none⟩]))))))
  (.seq (.ops [⟨some 105, .fa 3 1 3 (.t 1), none⟩,
    ⟨some 106, .ld 1 false (.t 105), none⟩,
    ⟨some 107, .not (.t 106), none⟩,
    ⟨some 108, .mv (.t 107), none⟩,
    ⟨some 109, .fa 4 1 4 (.t 1), some (108, true)⟩,
    ⟨some 110, .ld 1 false (.t 109), some (108, true)⟩,
    ⟨some 111, .bin .eql (.t 110) (.k (.int .i64 0)), some (108, true)⟩,
    ⟨some 112, .pick (.t 108) (.t 111) (.k (.bool false)), none⟩,
    ⟨some 113, .mv (.t 112), none⟩,
    ⟨some 114, .fa 7 1 7 (.t 1), some (113, true)⟩,
    ⟨some 115, .ld 1 false (.t 114), some (113, true)⟩,
    ⟨some 116, .lenl (.t 115), some (113, true)⟩,
    ⟨some 117, .fa 8 1 8 (.t 1), some (113, true)⟩,
    ⟨some 118, .ld 1 false (.t 117), some (113, true)⟩,
    ⟨some 119, .lenl (.t 118), some (113, true)⟩,
    ⟨some 120, .bin .add (.t 116) (.t 119), some (113, true)⟩,
    ⟨some 121, .bin .eql (.t 120) (.k (.int .i64 0)), some (113, true)⟩,
    ⟨some 122, .pick (.t 113) (.t 121) (.k (.bool false)), none⟩,
    ⟨some 2, .mv (.t 122), none⟩])
  .ret))))))⟩
theorem c45 : compileF Try.prog [] 45 = some cf45 := by kernel_rfl
/-- impl.MateValid -/
def cf46 : CF := ⟨118, [.t 2],
  (.seq (.ops [⟨some 1, .bx (.t 0), none⟩,
    ⟨some 2, .mv (.k (.bool false)), none⟩])
  (.seq (.seq (.ops [⟨some 7, .fa 0 1 0 (.t 1), none⟩,
    ⟨some 8, .ld 1 false (.t 7), none⟩,
    ⟨some 9, .call 94 [(.t 8)], none⟩,
    ⟨some 10, .not (.t 9), none⟩,
    ⟨some 11, .mv (.t 10), none⟩,
    ⟨some 12, .fa 2 1 2 (.t 1), some (11, false)⟩,
    ⟨some 13, .ld 1 false (.t 12), some (11, false)⟩,
    ⟨some 14, .call 66 [(.t 13), (.k (.int .i64 0)), (.k (.int .i64 1000000))], some (11, false)⟩,
    ⟨some 15, .not (.t 14), some (11, false)⟩,
    ⟨some 16, .pick (.t 11) (.k (.bool true)) (.t 15), none⟩,
    ⟨some 17, .mv (.t 16), none⟩,
    ⟨some 18, .fa 4 1 4 (.t 1), some (17, false)⟩,
    ⟨some 19, .ld 1 false (.t 18), some (17, false)⟩,
    ⟨some 20, .call 66 [(.t 19), (.k (.int .i64 0)), (.k (.int .i64 1000000))], some (17, false)⟩,
    ⟨some 21, .not (.t 20), some (17, false)⟩,
    ⟨some 22, .pick (.t 17) (.k (.bool true)) (.t 21), none⟩,
    ⟨some 23, .mv (.t 22), none⟩,
    ⟨some 24, .fa 5 1 5 (.t 1), some (23, false)⟩,
    ⟨some 25, .ld 1 false (.t 24), some (23, false)⟩,
    ⟨some 26, .call 21 [(.t 25)], some (23, false)⟩,
    ⟨some 27, .not (.t 26), some (23, false)⟩,
    ⟨some 28, .pick (.t 23) (.k (.bool true)) (.t 27), none⟩,
    ⟨some 29, .mv (.t 28), none⟩,
    ⟨some 30, .fa 3 1 3 (.t 1), some (29, false)⟩,
    ⟨some 31, .ld 1 false (.t 30), some (29, false)⟩,
    ⟨some 32, .not (.t 31), some (29, false)⟩,
    ⟨some 33, .mv (.t 32), some (29, false)⟩,
    ⟨some 34, .fa 5 1 5 (.t 1), some (33, true)⟩,
    ⟨some 35, .ld 1 false (.t 34), some (33, true)⟩,
    ⟨some 36, .lenl (.t 35), some (33, true)⟩,
    ⟨some 37, .bin .gtr (.t 36) (.k (.int .i64 0)), some (33, true)⟩,
    ⟨some 38, .pick (.t 33) (.t 37) (.k (.bool false)), some (29, false)⟩,
    ⟨some 39, .pick (.t 29) (.k (.bool true)) (.t 38), none⟩,
    ⟨some 40, .mv (.t 39), none⟩,
    ⟨some 41, .fa 6 1 6 (.t 1), some (40, false)⟩,
    ⟨some 42, .ld 1 false (.t 41), some (40, false)⟩,
    ⟨some 43, .fa 2 1 2 (.t 1), some (40, false)⟩,
    ⟨some 44, .ld 1 false (.t 43), some (40, false)⟩,
    ⟨some 45, .call 26 [(.t 42), (.t 44)], some (40, false)⟩,
    ⟨some 46, .not (.t 45), some (40, false)⟩,
    ⟨some 47, .pick (.t 40) (.k (.bool true)) (.t 46), none⟩,
    ⟨some 48, .mv (.t 47), none⟩,
    ⟨some 49, .fa 7 1 7 (.t 1), some (48, false)⟩,
    ⟨some 50, .ld 1 false (.t 49), some (48, false)⟩,
    ⟨some 51, .fa 2 1 2 (.t 1), some (48, false)⟩,
    ⟨some 52, .ld 1 false (.t 51), some (48, false)⟩,
    ⟨some 53, .call 95 [(.t 50), (.t 52)], some (48, false)⟩,
    ⟨some 54, .not (.t 53), some (48, false)⟩,
    ⟨some 55, .pick (.t 48) (.k (.bool true)) (.t 54), none⟩,
    ⟨some 56, .mv (.t 55), none⟩,
    ⟨some 57, .fa 8 1 8 (.t 1), some (56, false)⟩,
    ⟨some 58, .ld 1 false (.t 57), some (56, false)⟩,
    ⟨some 59, .fa 2 1 2 (.t 1), some (56, false)⟩,
    ⟨some 60, .ld 1 false (.t 59), some (56, false)⟩,
    ⟨some 61, .call 95 [(.t 58), (.t 60)], some (56, false)⟩,
    ⟨some 62, .not (.t 61), some (56, false)⟩,
    ⟨some 63, .pick (.t 56) (.k (.bool true)) (.t 62), none⟩])
  (.cond (.t 63)
  (.seq (.ops [⟨some 2, .mv (.k (.bool false)), none⟩])
  .ret)
  .skip))
  (.seq (.seq (.ops [⟨some 64, .fa 7 1 7 (.t 1), none⟩,
    ⟨some 65, .ld 1 false (.t 64), none⟩,
    ⟨some 66, .lenl (.t 65), none⟩,
    ⟨some 67, .mv (.k (.int .i64 0)), none⟩])
  (.block 0 (.loop (.seq (.ops [⟨some 68, .bin .lss (.t 67) (.t 66), none⟩])
  (.seq (.cond (.t 68)
  .skip
  (.exit 0))
  (.seq (.block 1 (.seq (.ops [⟨some 69, .ix 4 (.t 65) (.t 67), none⟩,
    ⟨some 70, .ld 4 true (.t 69), none⟩,
    ⟨some 4, .al (.agg [.str ⟨#[]⟩, .str ⟨#[]⟩, .int .i64 0, .int .i64 0]), none⟩,
    ⟨none, .st 4 (.t 4) (.t 70), none⟩])
  (.seq (.ops [⟨some 71, .fa 8 1 8 (.t 1), none⟩,
    ⟨some 72, .ld 1 false (.t 71), none⟩,
    ⟨some 73, .fa 0 1 0 (.t 4), none⟩,
    ⟨some 74, .ld 1 false (.t 73), none⟩,
    ⟨some 75, .call 96 [(.t 72), (.t 74)], none⟩,
    ⟨some 76, .bin .geq (.t 75) (.k (.int .i64 0)), none⟩])
  (.cond (.t 76)
  (.seq (.ops [⟨some 2, .mv (.k (.bool false)), none⟩])
  .ret)
  .skip))))
  (.ops [⟨some 77, .bin .add (.t 67) (.k (.int .i64 1)), none⟩,
    ⟨some 67, .mv (.t 77), none⟩])))))))
  (.seq (.seq (.ops [⟨some 78, .fa 1 1 1 (.t 1), none⟩,
    ⟨some 79, .ld 1 false (.t 78), none⟩])
  (.cond (.t 79)
  (.seq (.ops [⟨some 2, .mv (.k (.bool true)), none⟩])
  .ret)
  .skip))
  (.seq (.seq (.ops [⟨some 80, .fa 3 1 3 (.t 1), none⟩,
    ⟨some 81, .ld 1 false (.t 80), none⟩,
    ⟨some 82, .mv (.t 81), none⟩,
    ⟨some 83, .fa 5 1 5 (.t 1), some (82, false)⟩,
    ⟨some 84, .ld 1 false (.t 83), some (82, false)⟩,
    ⟨some 85, .lenl (.t 84), some (82, false)⟩,
    ⟨some 86, .fa 7 1 7 (.t 1), some (82, false)⟩,
    ⟨some 87, .ld 1 false (.t 86), some (82, false)⟩,
    ⟨some 88, .lenl (.t 87), some (82, false)⟩,
    ⟨some 89, .bin .add (.t 85) (.t 88), some (82, false)⟩,
    ⟨some 90, .fa 8 1 8 (.t 1), some (82, false)⟩,
    ⟨some 91, .ld 1 false (.t 90), some (82, false)⟩,
    ⟨some 92, .lenl (.t 91), some (82, false)⟩,
    ⟨some 93, .bin .add (.t 89) (.t 92), some (82, false)⟩,
    ⟨some 94, .bin .gtr (.t 93) (.k (.int .i64 0)), some (82, false)⟩,
    ⟨some 95, .pick (.t 82) (.k (.bool true)) (.t 94), none⟩,
    ⟨some 96, .mv (.t 95), none⟩,
    ⟨some 97, .fa 4 1 4 (.t 1), some (96, false)⟩,
    ⟨some 98, .ld 1 false (.t 97), some (96, false)⟩,
    ⟨some 99, .bin .neq (.t 98) (.k (.int .i64 0)), some (96, false)⟩,
    ⟨some 100, .pick (.t 96) (.k (.bool true)) (.t 99), none⟩])
  (.cond (.t 100)
  (.seq (.ops [⟨some 2, .mv (.k (.bool false)), none⟩])
  .ret)
  .skip))
  (.seq (.seq (.ops [⟨some 101, .fa 6 1 6 (.t 1), none⟩,
    ⟨some 102, .ld 1 false (.t 101), none⟩,
    ⟨some 103, .lenl (.t 102), none⟩,
    ⟨some 104, .mv (.k (.int .i64 0)), none⟩])
  (.block 2 (.loop (.seq (.ops [⟨some 105, .bin .lss (.t 104) (.t 103), none⟩])
  (.seq (.cond (.t 105)
  .skip
  (.exit 2))
  (.seq (.block 3 (.seq (.ops [⟨some 106, .ix 11 (.t 102) (.t 104), none⟩,
    ⟨some 107, .ld 11 true (.t 106), none⟩,
    ⟨some 6, .al (.agg [.agg [.str ⟨#[]⟩, .int .i64 0, .str ⟨#[]⟩, .int .i64 0, .int .i64 0, .int .i64 0, .int .i64 0], .int .i64 0, .int .i64 0, .int .i64 0, .int .i64 0]), none⟩,
    ⟨none, .st 11 (.t 6) (.t 107), none⟩])
  (.seq (.ops [⟨some 108, .ld 11 true (.t 6), none⟩,
    ⟨some 109, .call 17 [(.t 108)], none⟩,
    ⟨some 110, .not (.t 109), none⟩,
    ⟨some 111, .mv (.t 110), none⟩,
    ⟨some 112, .fa 0 7 0 (.t 6), some (111, true)⟩,
    ⟨some 113, .fa 2 1 2 (.t 112), some (111, true)⟩,
    ⟨some 114, .ld 1 false (.t 113), some (111, true)⟩,
    ⟨some 115, .bin .eql (.t 114) (.k (.str ⟨#[]⟩)), some (111, true)⟩,
    ⟨some 116, .pick (.t 111) (.t 115) (.k (.bool false)), none⟩])
  (.cond (.t 116)
  (.seq (.ops [⟨some 2, .mv (.k (.bool false)), none⟩])
  .ret)
  .skip))))
  (.ops [⟨some 117, .bin .add (.t 104) (.k (.int .i64 1)), none⟩,
    ⟨some 104, .mv (.t 117), none⟩])))))))
  (.seq (.ops [⟨some 2, .mv (.k (.bool true)), none⟩])
  .ret)))))))⟩
theorem c46 : compileF Try.prog [] 46 = some cf46 := by kernel_rfl
def c1 (m : Mate) : Bool := !nameOk m.fName || !inR m.fClock 0 1000000 || !inR m.fSeen 0 1000000 || !wantsOk m.fWants || (!m.fKnown && decide ((m.fWants.length : Int) > 0)) || !runsOk m.fRuns m.fClock || !asksOk m.fAsks m.fClock || !asksOk m.fGives m.fClock
def gF (m : Mate) (i : Nat) : Bool := !decide (askI m.fGives (m.fAsks.getD i default).fHold ≥ 0)
def rF (m : Mate) (i : Nat) : Bool := !(!alive (m.fRuns.getD i default) && ((m.fRuns.getD i default).fWant.fHold.toList == (ByteArray.mk #[]).toList))
def fin (m : Mate) : Bool := !m.fKnown && m.fSeen == 0 && decide (m.fAsks.length = 0) && decide (m.fGives.length = 0)
def validM (m : Mate) : Bool := !c1 m && (allN (gF m) m.fAsks.length 0 && (m.fUp || (allN (rF m) m.fRuns.length 0 && fin m)))
theorem c1_facts {m : Mate} (h : c1 m = false) : m.fWants.length ≤ 10 ∧ m.fAsks.length ≤ 40 ∧ m.fGives.length ≤ 40 ∧ m.fRuns.length ≤ 20 ∧ (m.fKnown = false → m.fWants.length = 0) := by
  simp only [c1, Bool.or_eq_false_iff, Bool.not_eq_false'] at h
  obtain ⟨⟨⟨⟨⟨⟨⟨_, _⟩, _⟩, h1⟩, h2⟩, h3⟩, h4⟩, h5⟩ := h
  simp only [wantsOk, runsOk, asksOk, Bool.and_eq_true, Bool.not_eq_true', decide_eq_false_iff_not] at h1 h3 h4 h5
  refine ⟨by omega, by omega, by omega, by omega, fun hk => ?_⟩
  by_cases h0 : m.fWants.length = 0
  · exact h0
  · have h6 : (m.fWants.length : Int) > 0 := by omega
    rw [hk, decide_eq_true h6] at h2
    cases h2
set_option maxHeartbeats 8000000 in
theorem impl_MateValid (m : Mate) : Rdr Try.prog 46 [m.D] (.bool (validM m)) := by
  refine Rdr.intro' hm c46 (Nat.le_of_ble_eq_true rfl) ?_
  conv => whnf
  repeat' (first | (refine g_op ?_; conv => whnf) | (refine And.intro ?_ ?_; (focus (first | exact rfl | exact Nat.le_of_ble_eq_true rfl | decide | omega | fail)); conv => whnf) | (refine g_seq ?_) | (refine g_ops ?_) | (refine g_nil ?_; conv => whnf) | (refine fun _ => ?_; conv => whnf) | fail)
  refine XS.freezeB 1 rfl ?_
  repeat' (first | (refine z_ld1 ?_; first | (refine z_ld rfl rfl rfl rfl (by first | (simp only [List.length_set]; assumption) | assumption | omega) (by first | exact elt_set (by first | assumption | (simp only [List.length_set]; assumption)) | assumption) ?_; conv => whnf) | (refine z_ld0 rfl ?_; conv => whnf)) | (refine z_ld1g ?_; first | (refine z_ldg rfl rfl rfl rfl rfl rfl rfl (by (repeat intro _); exact ⟨(by first | (simp only [List.length_set]; assumption) | assumption | omega), (by first | exact elt_set (by first | assumption | (simp only [List.length_set]; assumption)) | assumption)⟩) rfl rfl rfl rfl ?_; conv => whnf) | (refine z_ld0g ?_; (conv => whnf); refine And.intro ?_ ?_; (focus exact rfl); conv => whnf)) | (refine z_op ?_ ?_; (focus exact rfl); conv => whnf) | (refine z_opg0 ?_; (conv => whnf); refine And.intro ?_ ?_; (focus exact rfl); conv => whnf) | (refine z_pick ?_ ?_; (focus exact rfl); conv => whnf) | (refine z_pickg ?_; (conv => whnf); refine And.intro ?_ ?_; (focus exact rfl); conv => whnf) | (refine zs_ops ?_ ?_; (focus exact rfl)) | (refine z_nil fun vals => ?_; conv => whnf) | (refine z_call ?_ ?_; (focus exact rfl)) | (refine z_callg0 ?_; (conv => whnf); refine And.intro ?_ ?_; (focus exact rfl)) | (refine RC.of (impl_mName _) ?_ ?_; (focus exact rfl); conv => whnf) | (refine RC.of (impl_within _ _ _) ?_ ?_; (focus exact rfl); conv => whnf) | (refine RC.of (impl_WantsOk _) ?_ ?_; (focus exact rfl); conv => whnf) | (refine RC.of (impl_RunsOk _ _) ?_ ?_; (focus exact rfl); conv => whnf) | (refine RC.of (impl_AsksOk _ _) ?_ ?_; (focus exact rfl); conv => whnf) | (refine And.intro ?_ ?_; (focus (first | exact rfl | exact Nat.le_of_ble_eq_true rfl | decide | omega | fail)); conv => whnf) | (refine g_seq ?_) | (refine XS.go ?_) | (refine g_cond ?_; conv => whnf) | fail)
  simp only [mlen']
  refine Br.mk (fun hb => ?_) (fun hb => ?_)
  · have hc : c1 m = true := by rw [← hb]; rfl
    conv => whnf
    repeat' (first | (refine g_op ?_; conv => whnf) | (refine And.intro ?_ ?_; (focus (first | exact rfl | exact Nat.le_of_ble_eq_true rfl | decide | omega | fail)); conv => whnf) | (refine g_seq ?_) | (refine XS.go ?_) | (refine g_ops ?_) | (refine g_nil ?_; conv => whnf) | (refine g_ret ?_; conv => whnf) | (refine r_t ?_; conv => whnf) | (refine r_nil ?_; conv => whnf) | fail)
    (conv => lhs; whnf)
    rw [validM, hc]
    rfl
  have hc : c1 m = false := by rw [← hb]; rfl
  have hv : validM m = (allN (gF m) m.fAsks.length 0 && (m.fUp || (allN (rF m) m.fRuns.length 0 && fin m))) := by rw [validM, hc]; rfl
  obtain ⟨hW, hA, hG, hR, hk⟩ := c1_facts hc
  have hfin : (m.fKnown || decide (IntKind.wrap .i64 (IntKind.wrap .i64 ((m.fWants.length : Int) + (m.fAsks.length : Int)) + (m.fGives.length : Int)) > 0) || m.fSeen != 0) = !fin m := by
    rw [wrap_ok (n := (m.fWants.length : Int) + (m.fAsks.length : Int)) (by omega) (by omega), wrap_ok (by omega) (by omega)]
    unfold fin
    cases hkn : m.fKnown with
    | true => rfl
    | false =>
      have h0 := hk hkn
      rw [h0]
      generalize m.fAsks.length = A at *
      generalize m.fGives.length = G at *
      by_cases h1 : A = 0 <;> by_cases h2 : G = 0 <;> by_cases h3 : m.fSeen = 0 <;> simp [h1, h2, h3] <;> first | omega | rfl
  clear hb hc hk
  conv => whnf
  repeat' (first | (refine z_ld1 ?_; first | (refine z_ld rfl rfl rfl rfl (by first | (simp only [List.length_set]; assumption) | assumption | omega) (by first | exact elt_set (by first | assumption | (simp only [List.length_set]; assumption)) | assumption) ?_; conv => whnf) | (refine z_ld0 rfl ?_; conv => whnf)) | (refine z_op ?_ ?_; (focus exact rfl); conv => whnf) | (refine zs_ops ?_ ?_; (focus exact rfl)) | (refine z_nil fun vals => ?_; conv => whnf) | (refine And.intro ?_ ?_; (focus (first | exact rfl | exact Nat.le_of_ble_eq_true rfl | decide | omega | fail)); conv => whnf) | (refine g_seq ?_) | (refine XS.go ?_) | (refine g_loop ?_) | (refine g_skip ?_; conv => whnf) | (refine g_block ?_) | fail)
  refine XLc.mkL (α := Nat) (fun i => i ≤ m.fAsks.length ∧ validM m = (allN (gF m) (m.fAsks.length - i) i && (m.fUp || (allN (rF m) m.fRuns.length 0 && fin m)))) (fun i => m.fAsks.length - i) (fun i gs => [.any, .cref m.D, .any, .any, .any, .any, .any, .any, .any, .any, .any, .any, .any, .any, .any, .any, .any, .any, .any, .any, .any, .any, .any, .any, .any, .any, .any, .any, .any, .any, .any, .any, .any, .any, .any, .any, .any, .any, .any, .any, .any, .any, .any, .any, .any, .any, .any, .any, .any, .any, .any, .any, .any, .any, .any, .any, .any, .any, .any, .any, .any, .any, .any, .any, .any, .ro 4 (m.fAsks.map MateAsk.D), .int .i64 ((m.fAsks.map MateAsk.D).length : Int), .int .i64 (i : Int)]) (fun i gs => []) 0 ⟨Nat.zero_le _, hv⟩ ?_ ?_
  · refine ⟨?_, ?_⟩
    · repeat' (first | exact True.intro | refine And.intro rfl ?_)
    · repeat' (first | exact True.intro | refine And.intro rfl ?_)
  intro i gs hI
  obtain ⟨hi, hN⟩ := hI
  repeat' (first | (refine g_op ?_; conv => whnf) | (refine And.intro ?_ ?_; (focus (first | exact rfl | exact Nat.le_of_ble_eq_true rfl | decide | omega | fail)); conv => whnf) | (refine g_seq ?_) | (refine XS.go ?_) | (refine g_ops ?_) | (refine g_nil ?_; conv => whnf) | (refine g_cond ?_; conv => whnf) | fail)
  refine Br.mk (fun hb => ?_) (fun hb => ?_)
  · have hlt : i < m.fAsks.length := by simpa using hb
    have hw : IntKind.wrap .i64 ((i : Int) + 1) = ((i + 1 : Nat) : Int) := by rw [wrap_ok (by omega) (by omega)]; rfl
    have hw1 : IntKind.wrap .i64 ((i : Int) - 1) = (i : Int) - 1 := wrap_ok (by omega) (by omega)
    have hbad := fun h => allN_bad (f := gF m) hlt hN h
    have hgood := fun h => allN_good (f := gF m) hlt hN h
    clear hN hb
    all_goals conv => whnf
    repeat' (first | (refine z_ld1 ?_; first | (refine z_ld rfl rfl rfl rfl (by first | (simp only [List.length_set]; assumption) | assumption | omega) (by first | exact elt_set (by first | assumption | (simp only [List.length_set]; assumption)) | assumption) ?_; conv => whnf) | (refine z_ld0 rfl ?_; conv => whnf)) | (refine z_st1 ?_; first | (refine z_st rfl rfl rfl (by first | (simp only [List.length_set]; assumption) | assumption | omega) (by first | exact elt_set (by first | assumption | (simp only [List.length_set]; assumption)) | assumption) rfl rfl ?_; conv => whnf) | (refine z_st0 ?_; conv => whnf)) | (refine z_ix1 ?_; first | (refine z_ix rfl rfl rfl rfl rfl ⟨by first | omega | (simp only [decide_eq_true_eq, Bool.not_eq_true', Bool.or_eq_false_iff, decide_eq_false_iff_not, Bool.and_eq_true, Bool.not_eq_false'] at *; omega), by first | omega | (simp only [decide_eq_true_eq, Bool.not_eq_true', Bool.or_eq_false_iff, decide_eq_false_iff_not, Bool.and_eq_true, Bool.not_eq_false'] at *; omega)⟩ ?_; conv => whnf) | (refine z_ix0 rfl rfl ?_; conv => whnf)) | (refine z_op ?_ ?_; (focus exact rfl); conv => whnf) | (refine zs_ops ?_ ?_; (focus exact rfl)) | (refine z_nil fun vals => ?_; conv => whnf) | (refine z_call ?_ ?_; (focus exact rfl)) | (refine z_eff ?_; conv => whnf) | (refine RC.of (impl_AskAt m.fGives _ (by omega)) ?_ ?_; (focus exact rfl); conv => whnf) | (refine g_op ?_; conv => whnf) | (refine And.intro ?_ ?_; (focus (first | exact rfl | exact Nat.le_of_ble_eq_true rfl | decide | omega | fail)); conv => whnf) | (refine g_seq ?_) | (refine XS.go ?_) | (refine g_ops ?_) | (refine g_nil ?_; conv => whnf) | (refine g_cond ?_; conv => whnf) | (refine g_skip ?_; conv => whnf) | (refine g_ret ?_; conv => whnf) | (refine g_block ?_) | (refine r_t ?_; conv => whnf) | (refine r_nil ?_; conv => whnf) | (refine fun _ => ?_; conv => whnf) | (refine Br.mk (fun hb => ?_) (fun hb => ?_) <;> conv => whnf) | fail)
    all_goals
      first
      | (refine ⟨(), hbad ?_, ⟨?_, True.intro⟩⟩
         · clear hbad hgood hw hfin hv
           first | (first | (refine (Bool.eq_false_iff.mpr fun h => ?_).symm; simp_all [gF]; done) | (refine Bool.eq_false_iff.mpr fun h => ?_; simp_all [gF]; done) | (simp_all [gF]; done) | (simp_all [gF]; omega) | (refine (Bool.eq_false_iff.mpr fun h => ?_).symm; simp_all [gF]; omega) | (refine Bool.eq_false_iff.mpr fun h => ?_; simp_all [gF]; omega) | (rw [Bool.eq_iff_iff]; constructor <;> intro h <;> simp_all [gF] <;> omega) | fail) | (rcases Nat.eq_zero_or_pos i with h0 | h0 <;> simp_all [gF] <;> omega) | (fail) | fail
         · repeat' (first | exact True.intro | refine And.intro rfl ?_))
      | (conv => lhs; whnf
         refine congrArg D.bool (hbad ?_)
         clear hbad hgood hw hfin hv
         first | (first | (refine (Bool.eq_false_iff.mpr fun h => ?_).symm; simp_all [gF]; done) | (refine Bool.eq_false_iff.mpr fun h => ?_; simp_all [gF]; done) | (simp_all [gF]; done) | (simp_all [gF]; omega) | (refine (Bool.eq_false_iff.mpr fun h => ?_).symm; simp_all [gF]; omega) | (refine Bool.eq_false_iff.mpr fun h => ?_; simp_all [gF]; omega) | (rw [Bool.eq_iff_iff]; constructor <;> intro h <;> simp_all [gF] <;> omega) | fail) | (rcases Nat.eq_zero_or_pos i with h0 | h0 <;> simp_all [gF] <;> omega) | (fail) | fail)
      | (refine ⟨i + 1, ⟨by omega, ?_⟩, by omega, ?_, ?_⟩
         · refine hgood ?_
           clear hbad hgood hw hfin hv
           first | (first | (refine (Bool.eq_false_iff.mpr fun h => ?_).symm; simp_all [gF]; done) | (refine Bool.eq_false_iff.mpr fun h => ?_; simp_all [gF]; done) | (simp_all [gF]; done) | (simp_all [gF]; omega) | (refine (Bool.eq_false_iff.mpr fun h => ?_).symm; simp_all [gF]; omega) | (refine Bool.eq_false_iff.mpr fun h => ?_; simp_all [gF]; omega) | (rw [Bool.eq_iff_iff]; constructor <;> intro h <;> simp_all [gF] <;> omega) | fail) | (rcases Nat.eq_zero_or_pos i with h0 | h0 <;> simp_all [gF] <;> omega) | (fail) | fail
         · repeat' (first | exact True.intro | refine And.intro (congrArg (D.int .i64) hw) ?_ | refine And.intro rfl ?_)
         · repeat' (first | exact True.intro | refine And.intro rfl ?_))
  have hge : ¬ i < m.fAsks.length := by simpa using hb
  have hend : validM m = (m.fUp || (allN (rF m) m.fRuns.length 0 && fin m)) := by rw [hN, allN_end hge, Bool.true_and]
  clear hN
  conv => whnf
  repeat' (first | (refine z_ld1 ?_; first | (refine z_ld rfl rfl rfl rfl (by first | (simp only [List.length_set]; assumption) | assumption | omega) (by first | exact elt_set (by first | assumption | (simp only [List.length_set]; assumption)) | assumption) ?_; conv => whnf) | (refine z_ld0 rfl ?_; conv => whnf)) | (refine z_op ?_ ?_; (focus exact rfl); conv => whnf) | (refine zs_ops ?_ ?_; (focus exact rfl)) | (refine z_nil fun vals => ?_; conv => whnf) | (refine And.intro ?_ ?_; (focus (first | exact rfl | exact Nat.le_of_ble_eq_true rfl | decide | omega | fail)); conv => whnf) | (refine g_seq ?_) | (refine XS.go ?_) | (refine g_cond ?_; conv => whnf) | (refine g_exit ?_; conv => whnf) | fail)
  refine Br.mk (fun hu => ?_) (fun hu => ?_)
  · conv => whnf
    repeat' (first | (refine g_op ?_; conv => whnf) | (refine And.intro ?_ ?_; (focus (first | exact rfl | exact Nat.le_of_ble_eq_true rfl | decide | omega | fail)); conv => whnf) | (refine g_seq ?_) | (refine XS.go ?_) | (refine g_ops ?_) | (refine g_nil ?_; conv => whnf) | (refine g_ret ?_; conv => whnf) | (refine r_t ?_; conv => whnf) | (refine r_nil ?_; conv => whnf) | fail)
    (conv => lhs; whnf)
    rw [hend, hu]
    rfl
  have hend2 : validM m = (allN (rF m) m.fRuns.length 0 && fin m) := by rw [hend, hu]; rfl
  clear hend hv
  conv => whnf
  repeat' (first | (refine z_ld1 ?_; first | (refine z_ld rfl rfl rfl rfl (by first | (simp only [List.length_set]; assumption) | assumption | omega) (by first | exact elt_set (by first | assumption | (simp only [List.length_set]; assumption)) | assumption) ?_; conv => whnf) | (refine z_ld0 rfl ?_; conv => whnf)) | (refine z_ld1g ?_; first | (refine z_ldg rfl rfl rfl rfl rfl rfl rfl (by (repeat intro _); exact ⟨(by first | (simp only [List.length_set]; assumption) | assumption | omega), (by first | exact elt_set (by first | assumption | (simp only [List.length_set]; assumption)) | assumption)⟩) rfl rfl rfl rfl ?_; conv => whnf) | (refine z_ld0g ?_; (conv => whnf); refine And.intro ?_ ?_; (focus exact rfl); conv => whnf)) | (refine z_op ?_ ?_; (focus exact rfl); conv => whnf) | (refine z_opg0 ?_; (conv => whnf); refine And.intro ?_ ?_; (focus exact rfl); conv => whnf) | (refine z_pick ?_ ?_; (focus exact rfl); conv => whnf) | (refine zs_ops ?_ ?_; (focus exact rfl)) | (refine z_nil fun vals => ?_; conv => whnf) | (refine And.intro ?_ ?_; (focus (first | exact rfl | exact Nat.le_of_ble_eq_true rfl | decide | omega | fail)); conv => whnf) | (refine g_seq ?_) | (refine XS.go ?_) | (refine g_cond ?_; conv => whnf) | (refine g_skip ?_; conv => whnf) | fail)
  simp only [mlen']
  rw [hfin]
  refine Br.mk (fun hf => ?_) (fun hf => ?_)
  · conv => whnf
    repeat' (first | (refine g_op ?_; conv => whnf) | (refine And.intro ?_ ?_; (focus (first | exact rfl | exact Nat.le_of_ble_eq_true rfl | decide | omega | fail)); conv => whnf) | (refine g_seq ?_) | (refine XS.go ?_) | (refine g_ops ?_) | (refine g_nil ?_; conv => whnf) | (refine g_ret ?_; conv => whnf) | (refine r_t ?_; conv => whnf) | (refine r_nil ?_; conv => whnf) | fail)
    (conv => lhs; whnf)
    have hf' : fin m = false := by simpa using hf
    rw [hend2, hf', Bool.and_false]
  have hend3 : validM m = (allN (rF m) m.fRuns.length 0 && true) := by
    have hf' : fin m = true := by simpa using hf
    rw [hend2, hf']
  clear hend2 hf hfin
  conv => whnf
  repeat' (first | (refine z_ld1 ?_; first | (refine z_ld rfl rfl rfl rfl (by first | (simp only [List.length_set]; assumption) | assumption | omega) (by first | exact elt_set (by first | assumption | (simp only [List.length_set]; assumption)) | assumption) ?_; conv => whnf) | (refine z_ld0 rfl ?_; conv => whnf)) | (refine z_op ?_ ?_; (focus exact rfl); conv => whnf) | (refine zs_ops ?_ ?_; (focus exact rfl)) | (refine z_nil fun vals => ?_; conv => whnf) | (refine And.intro ?_ ?_; (focus (first | exact rfl | exact Nat.le_of_ble_eq_true rfl | decide | omega | fail)); conv => whnf) | (refine g_seq ?_) | (refine XS.go ?_) | (refine g_loop ?_) | (refine g_skip ?_; conv => whnf) | (refine g_block ?_) | fail)
  refine XLc.mkL (α := Nat) (fun i => i ≤ m.fRuns.length ∧ validM m = (allN (rF m) (m.fRuns.length - i) i && true)) (fun i => m.fRuns.length - i) (fun i gs => [.any, .any, .any, .any, .any, .any, .any, .any, .any, .any, .any, .any, .any, .any, .any, .any, .any, .any, .any, .any, .any, .any, .any, .any, .any, .any, .any, .any, .any, .any, .any, .any, .any, .any, .any, .any, .any, .any, .any, .any, .any, .any, .any, .any, .any, .any, .any, .any, .any, .any, .any, .any, .any, .any, .any, .any, .any, .any, .any, .any, .any, .any, .any, .any, .any, .any, .any, .any, .any, .any, .any, .any, .any, .any, .any, .any, .any, .any, .any, .any, .any, .any, .any, .any, .any, .any, .any, .any, .any, .any, .any, .any, .any, .any, .any, .any, .any, .any, .any, .any, .any, .any, .ro 11 (m.fRuns.map MateRun.D), .int .i64 ((m.fRuns.map MateRun.D).length : Int), .int .i64 (i : Int)]) (fun i gs => []) 0 ⟨Nat.zero_le _, hend3⟩ ?_ ?_
  · refine ⟨?_, ?_⟩
    · repeat' (first | exact True.intro | refine And.intro rfl ?_)
    · repeat' (first | exact True.intro | refine And.intro rfl ?_)
  intro i gs hI
  obtain ⟨hi, hN⟩ := hI
  repeat' (first | (refine g_op ?_; conv => whnf) | (refine And.intro ?_ ?_; (focus (first | exact rfl | exact Nat.le_of_ble_eq_true rfl | decide | omega | fail)); conv => whnf) | (refine g_seq ?_) | (refine XS.go ?_) | (refine g_ops ?_) | (refine g_nil ?_; conv => whnf) | (refine g_cond ?_; conv => whnf) | fail)
  refine Br.mk (fun hb => ?_) (fun hb => ?_)
  · have hlt : i < m.fRuns.length := by simpa using hb
    have hw : IntKind.wrap .i64 ((i : Int) + 1) = ((i + 1 : Nat) : Int) := by rw [wrap_ok (by omega) (by omega)]; rfl
    have hw1 : IntKind.wrap .i64 ((i : Int) - 1) = (i : Int) - 1 := wrap_ok (by omega) (by omega)
    have hbad := fun h => allN_bad (f := rF m) hlt hN h
    have hgood := fun h => allN_good (f := rF m) hlt hN h
    clear hN hb
    all_goals conv => whnf
    repeat' (first | (refine z_ld1 ?_; first | (refine z_ld rfl rfl rfl rfl (by first | (simp only [List.length_set]; assumption) | assumption | omega) (by first | exact elt_set (by first | assumption | (simp only [List.length_set]; assumption)) | assumption) ?_; conv => whnf) | (refine z_ld0 rfl ?_; conv => whnf)) | (refine z_ld1g ?_; first | (refine z_ldg rfl rfl rfl rfl rfl rfl rfl (by (repeat intro _); exact ⟨(by first | (simp only [List.length_set]; assumption) | assumption | omega), (by first | exact elt_set (by first | assumption | (simp only [List.length_set]; assumption)) | assumption)⟩) rfl rfl rfl rfl ?_; conv => whnf) | (refine z_ld0g ?_; (conv => whnf); refine And.intro ?_ ?_; (focus exact rfl); conv => whnf)) | (refine z_st1 ?_; first | (refine z_st rfl rfl rfl (by first | (simp only [List.length_set]; assumption) | assumption | omega) (by first | exact elt_set (by first | assumption | (simp only [List.length_set]; assumption)) | assumption) rfl rfl ?_; conv => whnf) | (refine z_st0 ?_; conv => whnf)) | (refine z_ix1 ?_; first | (refine z_ix rfl rfl rfl rfl rfl ⟨by first | omega | (simp only [decide_eq_true_eq, Bool.not_eq_true', Bool.or_eq_false_iff, decide_eq_false_iff_not, Bool.and_eq_true, Bool.not_eq_false'] at *; omega), by first | omega | (simp only [decide_eq_true_eq, Bool.not_eq_true', Bool.or_eq_false_iff, decide_eq_false_iff_not, Bool.and_eq_true, Bool.not_eq_false'] at *; omega)⟩ ?_; conv => whnf) | (refine z_ix0 rfl rfl ?_; conv => whnf)) | (refine z_op ?_ ?_; (focus exact rfl); conv => whnf) | (refine z_opg0 ?_; (conv => whnf); refine And.intro ?_ ?_; (focus exact rfl); conv => whnf) | (refine z_pick ?_ ?_; (focus exact rfl); conv => whnf) | (refine zs_ops ?_ ?_; (focus exact rfl)) | (refine z_nil fun vals => ?_; conv => whnf) | (refine z_call ?_ ?_; (focus exact rfl)) | (refine z_eff ?_; conv => whnf) | (refine RC.of (impl_Alive _) ?_ ?_; (focus exact rfl); conv => whnf) | (refine g_op ?_; conv => whnf) | (refine And.intro ?_ ?_; (focus (first | exact rfl | exact Nat.le_of_ble_eq_true rfl | decide | omega | fail)); conv => whnf) | (refine g_seq ?_) | (refine XS.go ?_) | (refine g_ops ?_) | (refine g_nil ?_; conv => whnf) | (refine g_cond ?_; conv => whnf) | (refine g_skip ?_; conv => whnf) | (refine g_ret ?_; conv => whnf) | (refine g_block ?_) | (refine r_t ?_; conv => whnf) | (refine r_nil ?_; conv => whnf) | (refine fun _ => ?_; conv => whnf) | (refine Br.mk (fun hb => ?_) (fun hb => ?_) <;> conv => whnf) | fail)
    all_goals
      first
      | (refine ⟨(), hbad ?_, ⟨?_, True.intro⟩⟩
         · clear hbad hgood hw hend3
           first | (first | (refine (Bool.eq_false_iff.mpr fun h => ?_).symm; simp_all [rF]; done) | (refine Bool.eq_false_iff.mpr fun h => ?_; simp_all [rF]; done) | (simp_all [rF]; done) | (simp_all [rF]; omega) | (refine (Bool.eq_false_iff.mpr fun h => ?_).symm; simp_all [rF]; omega) | (refine Bool.eq_false_iff.mpr fun h => ?_; simp_all [rF]; omega) | (rw [Bool.eq_iff_iff]; constructor <;> intro h <;> simp_all [rF] <;> omega) | fail) | (rcases Nat.eq_zero_or_pos i with h0 | h0 <;> simp_all [rF] <;> omega) | (cases ha : alive (m.fRuns.getD i default) <;> by_cases hq : (m.fRuns.getD i default).fWant.fHold.toList = [] <;> first | (simp_all [rF]; done) | (refine Bool.eq_false_iff.mpr fun h => ?_; simp_all [rF]; done) | fail) | fail
         · repeat' (first | exact True.intro | refine And.intro rfl ?_))
      | (conv => lhs; whnf
         refine congrArg D.bool (hbad ?_)
         clear hbad hgood hw hend3
         first | (first | (refine (Bool.eq_false_iff.mpr fun h => ?_).symm; simp_all [rF]; done) | (refine Bool.eq_false_iff.mpr fun h => ?_; simp_all [rF]; done) | (simp_all [rF]; done) | (simp_all [rF]; omega) | (refine (Bool.eq_false_iff.mpr fun h => ?_).symm; simp_all [rF]; omega) | (refine Bool.eq_false_iff.mpr fun h => ?_; simp_all [rF]; omega) | (rw [Bool.eq_iff_iff]; constructor <;> intro h <;> simp_all [rF] <;> omega) | fail) | (rcases Nat.eq_zero_or_pos i with h0 | h0 <;> simp_all [rF] <;> omega) | (cases ha : alive (m.fRuns.getD i default) <;> by_cases hq : (m.fRuns.getD i default).fWant.fHold.toList = [] <;> first | (simp_all [rF]; done) | (refine Bool.eq_false_iff.mpr fun h => ?_; simp_all [rF]; done) | fail) | fail)
      | (refine ⟨i + 1, ⟨by omega, ?_⟩, by omega, ?_, ?_⟩
         · refine hgood ?_
           clear hbad hgood hw hend3
           first | (first | (refine (Bool.eq_false_iff.mpr fun h => ?_).symm; simp_all [rF]; done) | (refine Bool.eq_false_iff.mpr fun h => ?_; simp_all [rF]; done) | (simp_all [rF]; done) | (simp_all [rF]; omega) | (refine (Bool.eq_false_iff.mpr fun h => ?_).symm; simp_all [rF]; omega) | (refine Bool.eq_false_iff.mpr fun h => ?_; simp_all [rF]; omega) | (rw [Bool.eq_iff_iff]; constructor <;> intro h <;> simp_all [rF] <;> omega) | fail) | (rcases Nat.eq_zero_or_pos i with h0 | h0 <;> simp_all [rF] <;> omega) | (cases ha : alive (m.fRuns.getD i default) <;> by_cases hq : (m.fRuns.getD i default).fWant.fHold.toList = [] <;> first | (simp_all [rF]; done) | (refine Bool.eq_false_iff.mpr fun h => ?_; simp_all [rF]; done) | fail) | fail
         · repeat' (first | exact True.intro | refine And.intro (congrArg (D.int .i64) hw) ?_ | refine And.intro rfl ?_)
         · repeat' (first | exact True.intro | refine And.intro rfl ?_))
  have hge : ¬ i < m.fRuns.length := by simpa using hb
  have hend : validM m = true := by rw [hN, allN_end hge, Bool.true_and]
  clear hN
  conv => whnf
  repeat' (first | (refine g_op ?_; conv => whnf) | (refine And.intro ?_ ?_; (focus (first | exact rfl | exact Nat.le_of_ble_eq_true rfl | decide | omega | fail)); conv => whnf) | (refine g_seq ?_) | (refine XS.go ?_) | (refine g_ops ?_) | (refine g_nil ?_; conv => whnf) | (refine g_ret ?_; conv => whnf) | (refine g_exit ?_; conv => whnf) | (refine r_t ?_; conv => whnf) | (refine r_nil ?_; conv => whnf) | fail)
  (conv => lhs; whnf)
  rw [hend]
set_option maxHeartbeats 8000000 in
theorem spec_MateValid (m : Mate) : Rdr Try.prog 45 [m.D] (.bool (validM m)) := by
  refine Rdr.intro' hm c45 (Nat.le_of_ble_eq_true rfl) ?_
  conv => whnf
  repeat' (first | (refine g_op ?_; conv => whnf) | (refine And.intro ?_ ?_; (focus (first | exact rfl | exact Nat.le_of_ble_eq_true rfl | decide | omega | fail)); conv => whnf) | (refine g_seq ?_) | (refine g_ops ?_) | (refine g_nil ?_; conv => whnf) | (refine fun _ => ?_; conv => whnf) | fail)
  refine XS.freezeB 1 rfl ?_
  repeat' (first | (refine z_ld1 ?_; first | (refine z_ld rfl rfl rfl rfl (by first | (simp only [List.length_set]; assumption) | assumption | omega) (by first | exact elt_set (by first | assumption | (simp only [List.length_set]; assumption)) | assumption) ?_; conv => whnf) | (refine z_ld0 rfl ?_; conv => whnf)) | (refine z_ld1g ?_; first | (refine z_ldg rfl rfl rfl rfl rfl rfl rfl (by (repeat intro _); exact ⟨(by first | (simp only [List.length_set]; assumption) | assumption | omega), (by first | exact elt_set (by first | assumption | (simp only [List.length_set]; assumption)) | assumption)⟩) rfl rfl rfl rfl ?_; conv => whnf) | (refine z_ld0g ?_; (conv => whnf); refine And.intro ?_ ?_; (focus exact rfl); conv => whnf)) | (refine z_op ?_ ?_; (focus exact rfl); conv => whnf) | (refine z_opg0 ?_; (conv => whnf); refine And.intro ?_ ?_; (focus exact rfl); conv => whnf) | (refine z_pick ?_ ?_; (focus exact rfl); conv => whnf) | (refine z_pickg ?_; (conv => whnf); refine And.intro ?_ ?_; (focus exact rfl); conv => whnf) | (refine zs_ops ?_ ?_; (focus exact rfl)) | (refine z_nil fun vals => ?_; conv => whnf) | (refine z_call ?_ ?_; (focus exact rfl)) | (refine z_callg0 ?_; (conv => whnf); refine And.intro ?_ ?_; (focus exact rfl)) | (refine RC.of (spec_NameOk _) ?_ ?_; (focus exact rfl); conv => whnf) | (refine RC.of (spec_In _ _ _) ?_ ?_; (focus exact rfl); conv => whnf) | (refine RC.of (spec_WantsOk _) ?_ ?_; (focus exact rfl); conv => whnf) | (refine RC.of (spec_RunsOk _ _) ?_ ?_; (focus exact rfl); conv => whnf) | (refine RC.of (spec_AsksOk _ _) ?_ ?_; (focus exact rfl); conv => whnf) | (refine And.intro ?_ ?_; (focus (first | exact rfl | exact Nat.le_of_ble_eq_true rfl | decide | omega | fail)); conv => whnf) | (refine g_seq ?_) | (refine XS.go ?_) | (refine g_cond ?_; conv => whnf) | fail)
  simp only [mlen']
  refine Br.mk (fun hb => ?_) (fun hb => ?_)
  · have hc : c1 m = true := by rw [← hb]; unfold c1; rw [Bool.and_comm (!m.fKnown)]
    conv => whnf
    repeat' (first | (refine g_op ?_; conv => whnf) | (refine And.intro ?_ ?_; (focus (first | exact rfl | exact Nat.le_of_ble_eq_true rfl | decide | omega | fail)); conv => whnf) | (refine g_seq ?_) | (refine XS.go ?_) | (refine g_ops ?_) | (refine g_nil ?_; conv => whnf) | (refine g_ret ?_; conv => whnf) | (refine r_t ?_; conv => whnf) | (refine r_nil ?_; conv => whnf) | fail)
    (conv => lhs; whnf)
    rw [validM, hc]
    rfl
  have hc : c1 m = false := by rw [← hb]; unfold c1; rw [Bool.and_comm (!m.fKnown)]
  have hv : validM m = (allN (gF m) m.fAsks.length 0 && (m.fUp || (allN (rF m) m.fRuns.length 0 && fin m))) := by rw [validM, hc]; rfl
  obtain ⟨hW, hA, hG, hR, hk⟩ := c1_facts hc
  have hfin : (!m.fKnown && m.fSeen == 0 && IntKind.wrap .i64 ((m.fAsks.length : Int) + (m.fGives.length : Int)) == 0) = fin m := by
    rw [wrap_ok (by omega) (by omega)]
    unfold fin
    generalize m.fAsks.length = A at *
    generalize m.fGives.length = G at *
    cases m.fKnown <;> by_cases h1 : A = 0 <;> by_cases h2 : G = 0 <;> by_cases h3 : m.fSeen = 0 <;> simp [h1, h2, h3] <;> omega
  clear hb hc hk
  conv => whnf
  repeat' (first | (refine g_op ?_; conv => whnf) | (refine And.intro ?_ ?_; (focus (first | exact rfl | exact Nat.le_of_ble_eq_true rfl | decide | omega | fail)); conv => whnf) | (refine g_seq ?_) | (refine XS.go ?_) | (refine g_ops ?_) | (refine g_loop ?_) | (refine g_nil ?_; conv => whnf) | (refine g_skip ?_; conv => whnf) | (refine g_block ?_) | fail)
  refine XLc.mkL (α := Nat) (fun i => i ≤ m.fAsks.length ∧ validM m = (allN (gF m) (m.fAsks.length - i) i && (m.fUp || (allN (rF m) m.fRuns.length 0 && fin m)))) (fun i => m.fAsks.length - i) (fun i gs => [.any, .cref m.D, .any, .int .i64 (i : Int)]) (fun i gs => []) 0 ⟨Nat.zero_le _, hv⟩ ?_ ?_
  · refine ⟨?_, ?_⟩
    · repeat' (first | exact True.intro | refine And.intro rfl ?_)
    · repeat' (first | exact True.intro | refine And.intro rfl ?_)
  intro i gs hI
  obtain ⟨hi, hN⟩ := hI
  repeat' (first | (refine z_ld1 ?_; first | (refine z_ld rfl rfl rfl rfl (by first | (simp only [List.length_set]; assumption) | assumption | omega) (by first | exact elt_set (by first | assumption | (simp only [List.length_set]; assumption)) | assumption) ?_; conv => whnf) | (refine z_ld0 rfl ?_; conv => whnf)) | (refine z_op ?_ ?_; (focus exact rfl); conv => whnf) | (refine zs_ops ?_ ?_; (focus exact rfl)) | (refine z_nil fun vals => ?_; conv => whnf) | (refine And.intro ?_ ?_; (focus (first | exact rfl | exact Nat.le_of_ble_eq_true rfl | decide | omega | fail)); conv => whnf) | (refine g_seq ?_) | (refine XS.go ?_) | (refine g_cond ?_; conv => whnf) | fail)
  refine Br.mk (fun hb => ?_) (fun hb => ?_)
  · have hlt : i < m.fAsks.length := by simpa using hb
    have hw : IntKind.wrap .i64 ((i : Int) + 1) = ((i + 1 : Nat) : Int) := by rw [wrap_ok (by omega) (by omega)]; rfl
    have hw1 : IntKind.wrap .i64 ((i : Int) - 1) = (i : Int) - 1 := wrap_ok (by omega) (by omega)
    have hbad := fun h => allN_bad (f := gF m) hlt hN h
    have hgood := fun h => allN_good (f := gF m) hlt hN h
    clear hN hb
    all_goals conv => whnf
    repeat' (first | (refine z_ld1 ?_; first | (refine z_ld rfl rfl rfl rfl (by first | (simp only [List.length_set]; assumption) | assumption | omega) (by first | exact elt_set (by first | assumption | (simp only [List.length_set]; assumption)) | assumption) ?_; conv => whnf) | (refine z_ld0 rfl ?_; conv => whnf)) | (refine z_ix1 ?_; first | (refine z_ix rfl rfl rfl rfl rfl ⟨by first | omega | (simp only [decide_eq_true_eq, Bool.not_eq_true', Bool.or_eq_false_iff, decide_eq_false_iff_not, Bool.and_eq_true, Bool.not_eq_false'] at *; omega), by first | omega | (simp only [decide_eq_true_eq, Bool.not_eq_true', Bool.or_eq_false_iff, decide_eq_false_iff_not, Bool.and_eq_true, Bool.not_eq_false'] at *; omega)⟩ ?_; conv => whnf) | (refine z_ix0 rfl rfl ?_; conv => whnf)) | (refine z_op ?_ ?_; (focus exact rfl); conv => whnf) | (refine zs_quiet ?_ ?_; (focus exact rfl)) | (refine z_nil fun vals => ?_; conv => whnf) | (refine z_call ?_ ?_; (focus exact rfl)) | (refine RC.of (spec_Ask m.fGives _ (by omega)) ?_ ?_; (focus exact rfl); conv => whnf) | (refine g_op ?_; conv => whnf) | (refine And.intro ?_ ?_; (focus (first | exact rfl | exact Nat.le_of_ble_eq_true rfl | decide | omega | fail)); conv => whnf) | (refine g_seq ?_) | (refine XS.go ?_) | (refine g_ops ?_) | (refine g_nil ?_; conv => whnf) | (refine g_cond ?_; conv => whnf) | (refine g_skip ?_; conv => whnf) | (refine g_ret ?_; conv => whnf) | (refine g_block ?_) | (refine r_t ?_; conv => whnf) | (refine r_nil ?_; conv => whnf) | (refine Br.mk (fun hb => ?_) (fun hb => ?_) <;> conv => whnf) | fail)
    all_goals
      first
      | (refine ⟨(), hbad ?_, ⟨?_, True.intro⟩⟩
         · clear hbad hgood hw hfin hv
           first | (first | (refine (Bool.eq_false_iff.mpr fun h => ?_).symm; simp_all [gF]; done) | (refine Bool.eq_false_iff.mpr fun h => ?_; simp_all [gF]; done) | (simp_all [gF]; done) | (simp_all [gF]; omega) | (refine (Bool.eq_false_iff.mpr fun h => ?_).symm; simp_all [gF]; omega) | (refine Bool.eq_false_iff.mpr fun h => ?_; simp_all [gF]; omega) | (rw [Bool.eq_iff_iff]; constructor <;> intro h <;> simp_all [gF] <;> omega) | fail) | (rcases Nat.eq_zero_or_pos i with h0 | h0 <;> simp_all [gF] <;> omega) | (fail) | fail
         · repeat' (first | exact True.intro | refine And.intro rfl ?_))
      | (conv => lhs; whnf
         refine congrArg D.bool (hbad ?_)
         clear hbad hgood hw hfin hv
         first | (first | (refine (Bool.eq_false_iff.mpr fun h => ?_).symm; simp_all [gF]; done) | (refine Bool.eq_false_iff.mpr fun h => ?_; simp_all [gF]; done) | (simp_all [gF]; done) | (simp_all [gF]; omega) | (refine (Bool.eq_false_iff.mpr fun h => ?_).symm; simp_all [gF]; omega) | (refine Bool.eq_false_iff.mpr fun h => ?_; simp_all [gF]; omega) | (rw [Bool.eq_iff_iff]; constructor <;> intro h <;> simp_all [gF] <;> omega) | fail) | (rcases Nat.eq_zero_or_pos i with h0 | h0 <;> simp_all [gF] <;> omega) | (fail) | fail)
      | (refine ⟨i + 1, ⟨by omega, ?_⟩, by omega, ?_, ?_⟩
         · refine hgood ?_
           clear hbad hgood hw hfin hv
           first | (first | (refine (Bool.eq_false_iff.mpr fun h => ?_).symm; simp_all [gF]; done) | (refine Bool.eq_false_iff.mpr fun h => ?_; simp_all [gF]; done) | (simp_all [gF]; done) | (simp_all [gF]; omega) | (refine (Bool.eq_false_iff.mpr fun h => ?_).symm; simp_all [gF]; omega) | (refine Bool.eq_false_iff.mpr fun h => ?_; simp_all [gF]; omega) | (rw [Bool.eq_iff_iff]; constructor <;> intro h <;> simp_all [gF] <;> omega) | fail) | (rcases Nat.eq_zero_or_pos i with h0 | h0 <;> simp_all [gF] <;> omega) | (fail) | fail
         · repeat' (first | exact True.intro | refine And.intro (congrArg (D.int .i64) hw) ?_ | refine And.intro rfl ?_)
         · repeat' (first | exact True.intro | refine And.intro rfl ?_))
  have hge : ¬ i < m.fAsks.length := by simpa using hb
  have hend : validM m = (m.fUp || (allN (rF m) m.fRuns.length 0 && fin m)) := by rw [hN, allN_end hge, Bool.true_and]
  clear hN
  conv => whnf
  repeat' (first | (refine z_ld1 ?_; first | (refine z_ld rfl rfl rfl rfl (by first | (simp only [List.length_set]; assumption) | assumption | omega) (by first | exact elt_set (by first | assumption | (simp only [List.length_set]; assumption)) | assumption) ?_; conv => whnf) | (refine z_ld0 rfl ?_; conv => whnf)) | (refine z_op ?_ ?_; (focus exact rfl); conv => whnf) | (refine zs_ops ?_ ?_; (focus exact rfl)) | (refine z_nil fun vals => ?_; conv => whnf) | (refine And.intro ?_ ?_; (focus (first | exact rfl | exact Nat.le_of_ble_eq_true rfl | decide | omega | fail)); conv => whnf) | (refine g_seq ?_) | (refine XS.go ?_) | (refine g_cond ?_; conv => whnf) | (refine g_exit ?_; conv => whnf) | fail)
  refine Br.mk (fun hu => ?_) (fun hu => ?_)
  · conv => whnf
    repeat' (first | (refine g_op ?_; conv => whnf) | (refine And.intro ?_ ?_; (focus (first | exact rfl | exact Nat.le_of_ble_eq_true rfl | decide | omega | fail)); conv => whnf) | (refine g_seq ?_) | (refine XS.go ?_) | (refine g_ops ?_) | (refine g_nil ?_; conv => whnf) | (refine g_ret ?_; conv => whnf) | (refine r_t ?_; conv => whnf) | (refine r_nil ?_; conv => whnf) | fail)
    (conv => lhs; whnf)
    rw [hend, hu]
    rfl
  have hend2 : validM m = (allN (rF m) m.fRuns.length 0 && fin m) := by rw [hend, hu]; rfl
  clear hend hv
  conv => whnf
  repeat' (first | (refine g_op ?_; conv => whnf) | (refine And.intro ?_ ?_; (focus (first | exact rfl | exact Nat.le_of_ble_eq_true rfl | decide | omega | fail)); conv => whnf) | (refine g_seq ?_) | (refine XS.go ?_) | (refine g_ops ?_) | (refine g_loop ?_) | (refine g_nil ?_; conv => whnf) | (refine g_skip ?_; conv => whnf) | (refine g_block ?_) | fail)
  refine XLc.mkL (α := Nat) (fun i => i ≤ m.fRuns.length ∧ validM m = (allN (rF m) (m.fRuns.length - i) i && fin m)) (fun i => m.fRuns.length - i) (fun i gs => [.any, .cref m.D, .any, .any, .int .i64 (i : Int)]) (fun i gs => []) 0 ⟨Nat.zero_le _, hend2⟩ ?_ ?_
  · refine ⟨?_, ?_⟩
    · repeat' (first | exact True.intro | refine And.intro rfl ?_)
    · repeat' (first | exact True.intro | refine And.intro rfl ?_)
  intro i gs hI
  obtain ⟨hi, hN⟩ := hI
  repeat' (first | (refine z_ld1 ?_; first | (refine z_ld rfl rfl rfl rfl (by first | (simp only [List.length_set]; assumption) | assumption | omega) (by first | exact elt_set (by first | assumption | (simp only [List.length_set]; assumption)) | assumption) ?_; conv => whnf) | (refine z_ld0 rfl ?_; conv => whnf)) | (refine z_op ?_ ?_; (focus exact rfl); conv => whnf) | (refine zs_ops ?_ ?_; (focus exact rfl)) | (refine z_nil fun vals => ?_; conv => whnf) | (refine And.intro ?_ ?_; (focus (first | exact rfl | exact Nat.le_of_ble_eq_true rfl | decide | omega | fail)); conv => whnf) | (refine g_seq ?_) | (refine XS.go ?_) | (refine g_cond ?_; conv => whnf) | fail)
  refine Br.mk (fun hb => ?_) (fun hb => ?_)
  · have hlt : i < m.fRuns.length := by simpa using hb
    have hw : IntKind.wrap .i64 ((i : Int) + 1) = ((i + 1 : Nat) : Int) := by rw [wrap_ok (by omega) (by omega)]; rfl
    have hw1 : IntKind.wrap .i64 ((i : Int) - 1) = (i : Int) - 1 := wrap_ok (by omega) (by omega)
    have hbad := fun h => allN_bad (f := rF m) hlt hN h
    have hgood := fun h => allN_good (f := rF m) hlt hN h
    clear hN hb
    all_goals conv => whnf
    repeat' (first | (refine z_ld1 ?_; first | (refine z_ld rfl rfl rfl rfl (by first | (simp only [List.length_set]; assumption) | assumption | omega) (by first | exact elt_set (by first | assumption | (simp only [List.length_set]; assumption)) | assumption) ?_; conv => whnf) | (refine z_ld0 rfl ?_; conv => whnf)) | (refine z_ld1g ?_; first | (refine z_ldg rfl rfl rfl rfl rfl rfl rfl (by (repeat intro _); exact ⟨(by first | (simp only [List.length_set]; assumption) | assumption | omega), (by first | exact elt_set (by first | assumption | (simp only [List.length_set]; assumption)) | assumption)⟩) rfl rfl rfl rfl ?_; conv => whnf) | (refine z_ld0g ?_; (conv => whnf); refine And.intro ?_ ?_; (focus exact rfl); conv => whnf)) | (refine z_ix1 ?_; first | (refine z_ix rfl rfl rfl rfl rfl ⟨by first | omega | (simp only [decide_eq_true_eq, Bool.not_eq_true', Bool.or_eq_false_iff, decide_eq_false_iff_not, Bool.and_eq_true, Bool.not_eq_false'] at *; omega), by first | omega | (simp only [decide_eq_true_eq, Bool.not_eq_true', Bool.or_eq_false_iff, decide_eq_false_iff_not, Bool.and_eq_true, Bool.not_eq_false'] at *; omega)⟩ ?_; conv => whnf) | (refine z_ix0 rfl rfl ?_; conv => whnf)) | (refine z_ix1g ?_; refine z_ixg rfl rfl rfl rfl rfl rfl rfl (by (repeat intro _); refine ⟨?_, ?_⟩ <;> first | omega | (simp only [decide_eq_true_eq, Bool.not_eq_true', Bool.or_eq_false_iff, decide_eq_false_iff_not, Bool.and_eq_true, Bool.not_eq_false'] at *; omega)) ?_) | (refine z_op ?_ ?_; (focus exact rfl); conv => whnf) | (refine z_opg0 ?_; (conv => whnf); refine And.intro ?_ ?_; (focus exact rfl); conv => whnf) | (refine z_pick ?_ ?_; (focus exact rfl); conv => whnf) | (refine zs_ops ?_ ?_; (focus exact rfl)) | (refine z_nil fun vals => ?_; conv => whnf) | (refine z_call ?_ ?_; (focus exact rfl)) | (refine RC.of (spec_Alive _) ?_ ?_; (focus exact rfl); conv => whnf) | (refine g_op ?_; conv => whnf) | (refine And.intro ?_ ?_; (focus (first | exact rfl | exact Nat.le_of_ble_eq_true rfl | decide | omega | fail)); conv => whnf) | (refine g_seq ?_) | (refine XS.go ?_) | (refine g_ops ?_) | (refine g_nil ?_; conv => whnf) | (refine g_cond ?_; conv => whnf) | (refine g_skip ?_; conv => whnf) | (refine g_ret ?_; conv => whnf) | (refine g_block ?_) | (refine r_t ?_; conv => whnf) | (refine r_nil ?_; conv => whnf) | (refine Br.mk (fun hb => ?_) (fun hb => ?_) <;> conv => whnf) | fail)
    all_goals
      first
      | (refine ⟨(), hbad ?_, ⟨?_, True.intro⟩⟩
         · clear hbad hgood hw hend2 hfin
           first | (first | (refine (Bool.eq_false_iff.mpr fun h => ?_).symm; simp_all [rF]; done) | (refine Bool.eq_false_iff.mpr fun h => ?_; simp_all [rF]; done) | (simp_all [rF]; done) | (simp_all [rF]; omega) | (refine (Bool.eq_false_iff.mpr fun h => ?_).symm; simp_all [rF]; omega) | (refine Bool.eq_false_iff.mpr fun h => ?_; simp_all [rF]; omega) | (rw [Bool.eq_iff_iff]; constructor <;> intro h <;> simp_all [rF] <;> omega) | fail) | (rcases Nat.eq_zero_or_pos i with h0 | h0 <;> simp_all [rF] <;> omega) | (cases ha : alive (m.fRuns.getD i default) <;> by_cases hq : (m.fRuns.getD i default).fWant.fHold.toList = [] <;> first | (simp_all [rF]; done) | (refine Bool.eq_false_iff.mpr fun h => ?_; simp_all [rF]; done) | fail) | fail
         · repeat' (first | exact True.intro | refine And.intro rfl ?_))
      | (conv => lhs; whnf
         refine congrArg D.bool (hbad ?_)
         clear hbad hgood hw hend2 hfin
         first | (first | (refine (Bool.eq_false_iff.mpr fun h => ?_).symm; simp_all [rF]; done) | (refine Bool.eq_false_iff.mpr fun h => ?_; simp_all [rF]; done) | (simp_all [rF]; done) | (simp_all [rF]; omega) | (refine (Bool.eq_false_iff.mpr fun h => ?_).symm; simp_all [rF]; omega) | (refine Bool.eq_false_iff.mpr fun h => ?_; simp_all [rF]; omega) | (rw [Bool.eq_iff_iff]; constructor <;> intro h <;> simp_all [rF] <;> omega) | fail) | (rcases Nat.eq_zero_or_pos i with h0 | h0 <;> simp_all [rF] <;> omega) | (cases ha : alive (m.fRuns.getD i default) <;> by_cases hq : (m.fRuns.getD i default).fWant.fHold.toList = [] <;> first | (simp_all [rF]; done) | (refine Bool.eq_false_iff.mpr fun h => ?_; simp_all [rF]; done) | fail) | fail)
      | (refine ⟨i + 1, ⟨by omega, ?_⟩, by omega, ?_, ?_⟩
         · refine hgood ?_
           clear hbad hgood hw hend2 hfin
           first | (first | (refine (Bool.eq_false_iff.mpr fun h => ?_).symm; simp_all [rF]; done) | (refine Bool.eq_false_iff.mpr fun h => ?_; simp_all [rF]; done) | (simp_all [rF]; done) | (simp_all [rF]; omega) | (refine (Bool.eq_false_iff.mpr fun h => ?_).symm; simp_all [rF]; omega) | (refine Bool.eq_false_iff.mpr fun h => ?_; simp_all [rF]; omega) | (rw [Bool.eq_iff_iff]; constructor <;> intro h <;> simp_all [rF] <;> omega) | fail) | (rcases Nat.eq_zero_or_pos i with h0 | h0 <;> simp_all [rF] <;> omega) | (cases ha : alive (m.fRuns.getD i default) <;> by_cases hq : (m.fRuns.getD i default).fWant.fHold.toList = [] <;> first | (simp_all [rF]; done) | (refine Bool.eq_false_iff.mpr fun h => ?_; simp_all [rF]; done) | fail) | fail
         · repeat' (first | exact True.intro | refine And.intro (congrArg (D.int .i64) hw) ?_ | refine And.intro rfl ?_)
         · repeat' (first | exact True.intro | refine And.intro rfl ?_))
  have hge : ¬ i < m.fRuns.length := by simpa using hb
  have hend : validM m = fin m := by rw [hN, allN_end hge, Bool.true_and]
  clear hN
  conv => whnf
  repeat' (first | (refine z_ld1 ?_; first | (refine z_ld rfl rfl rfl rfl (by first | (simp only [List.length_set]; assumption) | assumption | omega) (by first | exact elt_set (by first | assumption | (simp only [List.length_set]; assumption)) | assumption) ?_; conv => whnf) | (refine z_ld0 rfl ?_; conv => whnf)) | (refine z_ld1g ?_; first | (refine z_ldg rfl rfl rfl rfl rfl rfl rfl (by (repeat intro _); exact ⟨(by first | (simp only [List.length_set]; assumption) | assumption | omega), (by first | exact elt_set (by first | assumption | (simp only [List.length_set]; assumption)) | assumption)⟩) rfl rfl rfl rfl ?_; conv => whnf) | (refine z_ld0g ?_; (conv => whnf); refine And.intro ?_ ?_; (focus exact rfl); conv => whnf)) | (refine z_op ?_ ?_; (focus exact rfl); conv => whnf) | (refine z_opg0 ?_; (conv => whnf); refine And.intro ?_ ?_; (focus exact rfl); conv => whnf) | (refine z_pick ?_ ?_; (focus exact rfl); conv => whnf) | (refine zs_ops ?_ ?_; (focus exact rfl)) | (refine z_nil fun vals => ?_; conv => whnf) | (refine And.intro ?_ ?_; (focus (first | exact rfl | exact Nat.le_of_ble_eq_true rfl | decide | omega | fail)); conv => whnf) | (refine g_seq ?_) | (refine XS.go ?_) | (refine g_ret ?_; conv => whnf) | (refine g_exit ?_; conv => whnf) | (refine r_t ?_; conv => whnf) | (refine r_nil ?_; conv => whnf) | fail)
  (conv => lhs; whnf)
  rw [hend, ← hfin]
  simp only [mlen']
end Go.Ab
