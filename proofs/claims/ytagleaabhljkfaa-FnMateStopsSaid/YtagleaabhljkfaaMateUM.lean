/- Steps towards the law: contracts of functions and facts of lists. -/
import Derived.Test.YtagleaabhljkfaaMateU
import Derived.Test.YtagleaabhljkfaaRows
set_option linter.unusedSimpArgs false
set_option linter.unusedVariables false
namespace Go.Ab
open Go Go.RowKit Go.Proofs
attribute [local irreducible] XC Rdr IntKind.wrap xw xos xqs xr xd
set_option maxRecDepth 100000

/-- spec.l10DrawWant -/
def cf71 : CF := ⟨26, [.c 4 7 true],
  (.seq (.ops [⟨some 4, .al (.agg [.str ⟨#[]⟩, .int .i64 0, .str ⟨#[]⟩, .int .i64 0, .int .i64 0, .int .i64 0, .int .i64 0]), none⟩])
  (.seq (.drawn [(⟨some 5, .mv (.t 1), none⟩, false, []),
    (⟨some 6, .mv (.t 0), none⟩, false, []),
    (⟨some 9, .bsl (.str ⟨#[]⟩) 4 [(0, (.k (.str ⟨#[]⟩))), (1, (.k (.str ⟨#[118, 111, 108]⟩))), (2, (.k (.str ⟨#[105, 112]⟩))), (3, (.k (.str ⟨#[118, 111, 108, 50]⟩)))], none⟩, false, []),
    (⟨some 10, .mv (.t 0), none⟩, false, []),
    (⟨some 14, .mv (.t 0), none⟩, false, []),
    (⟨some 16, .mv (.t 0), none⟩, false, []),
    (⟨some 18, .bsl (.int .i64 0) 6 [(0, (.k (.int .i64 0))), (1, (.k (.int .i64 0))), (2, (.k (.int .i64 0))), (3, (.k (.int .i64 1))), (4, (.k (.int .i64 3))), (5, (.k (.int .i64 8)))], none⟩, false, []),
    (⟨some 19, .mv (.t 0), none⟩, false, []),
    (⟨some 23, .mv (.t 0), none⟩, false, []),
    (⟨some 7, .call 69 [(.t 6), (.k (.int .i64 3))], none⟩, true, []),
    (⟨some 8, .bin .add (.k (.int .i64 1)) (.t 7), none⟩, false, []),
    (⟨some 11, .call 69 [(.t 10), (.k (.int .i64 4))], none⟩, true, []),
    (⟨some 12, .ix 1 (.t 9) (.t 11), none⟩, false, []),
    (⟨some 13, .ld 1 false (.t 12), none⟩, false, []),
    (⟨some 15, .call 69 [(.t 14), (.k (.int .i64 4))], none⟩, true, [(.t 12)]),
    (⟨some 17, .call 69 [(.t 16), (.k (.int .i64 3))], none⟩, true, [(.t 12)]),
    (⟨some 20, .call 69 [(.t 19), (.k (.int .i64 6))], none⟩, true, [(.t 12)]),
    (⟨some 21, .ix 1 (.t 18) (.t 20), none⟩, false, []),
    (⟨some 22, .ld 1 false (.t 21), none⟩, false, []),
    (⟨some 24, .call 69 [(.t 23), (.k (.int .i64 4))], none⟩, true, [(.t 21), (.t 12)]),
    (⟨some 25, .bld (.agg [.str ⟨#[]⟩, .int .i64 0, .str ⟨#[]⟩, .int .i64 0, .int .i64 0, .int .i64 0, .int .i64 0]) [(0, 0, 1, (.t 5)), (1, 1, 1, (.t 8)), (2, 2, 1, (.t 13)), (3, 3, 1, (.t 15)), (4, 4, 1, (.t 17)), (5, 5, 1, (.t 22)), (6, 6, 1, (.t 24))], none⟩, false, []),
    (⟨none, .st 7 (.t 4) (.t 25), none⟩, true, [])])
  .ret))⟩
theorem c71 : compileF Try.prog [] 71 = some cf71 := by kernel_rfl
/-- spec.l10Many -/
def cf121 : CF := ⟨20, [.t 4],
  (.seq (.ops [⟨some 4, .mv (.k (.str ⟨#[]⟩)), none⟩])
  (.seq (.ops [⟨some 5, .mv (.k (.str ⟨#[]⟩)), none⟩])
  (.seq (.block 0 (.loop (.seq (.seq (.ops [⟨some 6, .mv (.t 1), none⟩,
    ⟨some 7, .bin .gtr (.t 6) (.k (.int .i64 0)), none⟩])
  (.cond (.t 7)
  .skip
  (.exit 0)))
  (.block 1 (.seq (.seq (.ops [⟨some 8, .mv (.t 1), none⟩,
    ⟨some 9, .bin .rem (.t 8) (.k (.int .i64 2)), none⟩,
    ⟨some 10, .bin .eql (.t 9) (.k (.int .i64 1)), none⟩])
  (.cond (.t 10)
  (.ops [⟨some 11, .mv (.t 5), none⟩,
    ⟨some 12, .mv (.t 0), none⟩,
    ⟨some 13, .bin .add (.t 11) (.t 12), none⟩,
    ⟨some 5, .mv (.t 13), none⟩])
  .skip))
  (.seq (.ops [⟨some 14, .mv (.t 0), none⟩,
    ⟨some 15, .mv (.t 0), none⟩,
    ⟨some 16, .bin .add (.t 14) (.t 15), none⟩,
    ⟨some 0, .mv (.t 16), none⟩])
  (.ops [⟨some 17, .mv (.t 1), none⟩,
    ⟨some 18, .bin .quo (.t 17) (.k (.int .i64 2)), none⟩,
    ⟨some 1, .mv (.t 18), none⟩])))))))
  (.seq (.ops [⟨some 19, .mv (.t 5), none⟩,
    ⟨some 4, .mv (.t 19), none⟩])
  .ret))))⟩
theorem c121 : compileF Try.prog [] 121 = some cf121 := by kernel_rfl
/-- spec.l10SpoilWant -/
def cf106 : CF := ⟨66, [.c 4 7 true],
  (.seq (.ops [⟨some 3, .bx (.t 1), none⟩,
    ⟨some 4, .al (.agg [.str ⟨#[]⟩, .int .i64 0, .str ⟨#[]⟩, .int .i64 0, .int .i64 0, .int .i64 0, .int .i64 0]), none⟩])
  (.seq (.seq (.ops [⟨some 5, .mv (.t 0), none⟩,
    ⟨some 6, .call 69 [(.t 5), (.k (.int .i64 7))], none⟩])
  (.block 0 (.seq (.ops [⟨some 14, .bin .eql (.t 6) (.k (.int .i64 0)), none⟩,
    ⟨some 13, .mv (.t 14), none⟩])
  (.cond (.t 13)
  (.ops [⟨some 15, .mv (.t 0), none⟩,
    ⟨some 16, .call 69 [(.t 15), (.k (.int .i64 2))], none⟩,
    ⟨some 17, .bin .add (.k (.int .i64 20)) (.t 16), none⟩,
    ⟨some 18, .call 121 [(.k (.str ⟨#[110]⟩)), (.t 17)], none⟩,
    ⟨some 19, .bsl (.str ⟨#[]⟩) 3 [(0, (.k (.str ⟨#[]⟩))), (1, (.k (.str ⟨#[120, 32, 121]⟩))), (2, (.t 18))], none⟩,
    ⟨some 20, .mv (.t 0), none⟩,
    ⟨some 21, .call 69 [(.t 20), (.k (.int .i64 3))], none⟩,
    ⟨some 22, .ix 1 (.t 19) (.t 21), none⟩,
    ⟨some 23, .ld 1 false (.t 22), none⟩,
    ⟨some 24, .fa 0 1 0 (.t 3), none⟩,
    ⟨none, .st 1 (.t 24) (.t 23), none⟩])
  (.seq (.ops [⟨some 26, .bin .eql (.t 6) (.k (.int .i64 1)), none⟩,
    ⟨some 25, .mv (.t 26), none⟩])
  (.cond (.t 25)
  (.ops [⟨some 27, .bsl (.int .i64 0) 3 [(0, (.k (.int .i64 0))), (1, (.k (.int .i64 1000000))), (2, (.k (.int .i64 1000001)))], none⟩,
    ⟨some 28, .mv (.t 0), none⟩,
    ⟨some 29, .call 69 [(.t 28), (.k (.int .i64 3))], none⟩,
    ⟨some 30, .ix 1 (.t 27) (.t 29), none⟩,
    ⟨some 31, .ld 1 false (.t 30), none⟩,
    ⟨some 32, .fa 1 1 1 (.t 3), none⟩,
    ⟨none, .st 1 (.t 32) (.t 31), none⟩])
  (.seq (.ops [⟨some 34, .bin .eql (.t 6) (.k (.int .i64 2)), none⟩,
    ⟨some 33, .mv (.t 34), none⟩])
  (.cond (.t 33)
  (.ops [⟨some 35, .bsl (.str ⟨#[]⟩) 3 [(0, (.k (.str ⟨#[120, 32, 121]⟩))), (1, (.k (.str ⟨#[42]⟩))), (2, (.k (.str ⟨#[118, 111, 108]⟩)))], none⟩,
    ⟨some 36, .mv (.t 0), none⟩,
    ⟨some 37, .call 69 [(.t 36), (.k (.int .i64 3))], none⟩,
    ⟨some 38, .ix 1 (.t 35) (.t 37), none⟩,
    ⟨some 39, .ld 1 false (.t 38), none⟩,
    ⟨some 40, .fa 2 1 2 (.t 3), none⟩,
    ⟨none, .st 1 (.t 40) (.t 39), none⟩])
  (.seq (.ops [⟨some 42, .bin .eql (.t 6) (.k (.int .i64 3)), none⟩,
    ⟨some 41, .mv (.t 42), none⟩])
  (.cond (.t 41)
  (.ops [⟨some 43, .bsl (.int .i64 0) 3 [(0, (.k (.int .i64 (-1)))), (1, (.k (.int .i64 100))), (2, (.k (.int .i64 101)))], none⟩,
    ⟨some 44, .mv (.t 0), none⟩,
    ⟨some 45, .call 69 [(.t 44), (.k (.int .i64 3))], none⟩,
    ⟨some 46, .ix 1 (.t 43) (.t 45), none⟩,
    ⟨some 47, .ld 1 false (.t 46), none⟩,
    ⟨some 48, .fa 3 1 3 (.t 3), none⟩,
    ⟨none, .st 1 (.t 48) (.t 47), none⟩])
  (.seq (.ops [⟨some 50, .bin .eql (.t 6) (.k (.int .i64 4)), none⟩,
    ⟨some 49, .mv (.t 50), none⟩])
  (.cond (.t 49)
  (.ops [⟨some 51, .bsl (.int .i64 0) 3 [(0, (.k (.int .i64 (-1)))), (1, (.k (.int .i64 100))), (2, (.k (.int .i64 101)))], none⟩,
    ⟨some 52, .mv (.t 0), none⟩,
    ⟨some 53, .call 69 [(.t 52), (.k (.int .i64 3))], none⟩,
    ⟨some 54, .ix 1 (.t 51) (.t 53), none⟩,
    ⟨some 55, .ld 1 false (.t 54), none⟩,
    ⟨some 56, .fa 4 1 4 (.t 3), none⟩,
    ⟨none, .st 1 (.t 56) (.t 55), none⟩])
  (.seq (.ops [⟨some 58, .bin .eql (.t 6) (.k (.int .i64 5)), none⟩,
    ⟨some 57, .mv (.t 58), none⟩])
  (.cond (.t 57)
  (.ops [⟨some 59, .bsl (.int .i64 0) 3 [(0, (.k (.int .i64 (-1)))), (1, (.k (.int .i64 100))), (2, (.k (.int .i64 101)))], none⟩,
    ⟨some 60, .mv (.t 0), none⟩,
    ⟨some 61, .call 69 [(.t 60), (.k (.int .i64 3))], none⟩,
    ⟨some 62, .ix 1 (.t 59) (.t 61), none⟩,
    ⟨some 63, .ld 1 false (.t 62), none⟩,
    ⟨some 64, .fa 5 1 5 (.t 3), none⟩,
    ⟨none, .st 1 (.t 64) (.t 63), none⟩])
  (.ops [⟨some 7, .bsl (.int .i64 0) 3 [(0, (.k (.int .i64 (-1)))), (1, (.k (.int .i64 100))), (2, (.k (.int .i64 101)))], none⟩,
    ⟨some 8, .mv (.t 0), none⟩,
    ⟨some 9, .call 69 [(.t 8), (.k (.int .i64 3))], none⟩,
    ⟨some 10, .ix 1 (.t 7) (.t 9), none⟩,
    ⟨some 11, .ld 1 false (.t 10), none⟩,
    ⟨some 12, .fa 6 1 6 (.t 3), none⟩,
    ⟨none, .st 1 (.t 12) (.t 11), none⟩])))))))))))))))
  (.seq (.ops [⟨some 65, .ld 7 true (.t 3), none⟩,
    ⟨none, .st 7 (.t 4) (.t 65), none⟩])
  .ret)))⟩
theorem c106 : compileF Try.prog [] 106 = some cf106 := by kernel_rfl
/-- spec.l11Draw -/
def cf70 : CF := ⟨38, [.c 6 11 true],
  (.seq (.ops [⟨some 6, .al (.agg [.agg [.str ⟨#[]⟩, .int .i64 0, .str ⟨#[]⟩, .int .i64 0, .int .i64 0, .int .i64 0, .int .i64 0], .int .i64 0, .int .i64 0, .int .i64 0, .int .i64 0]), none⟩])
  (.seq (.ops [⟨some 8, .mv (.t 0), none⟩,
    ⟨some 9, .mv (.t 1), none⟩,
    ⟨some 10, .call 71 [(.t 8), (.t 9)], none⟩,
    ⟨some 11, .mv (.t 0), none⟩,
    ⟨some 12, .call 69 [(.t 11), (.k (.int .i64 6))], none⟩,
    ⟨some 13, .bin .add (.k (.int .i64 1)) (.t 12), none⟩,
    ⟨some 14, .mv (.t 0), none⟩,
    ⟨some 15, .call 69 [(.t 14), (.k (.int .i64 5))], none⟩,
    ⟨some 16, .mv (.t 0), none⟩,
    ⟨some 17, .call 69 [(.t 16), (.k (.int .i64 6))], none⟩,
    ⟨some 18, .bld (.agg [.agg [.str ⟨#[]⟩, .int .i64 0, .str ⟨#[]⟩, .int .i64 0, .int .i64 0, .int .i64 0, .int .i64 0], .int .i64 0, .int .i64 0, .int .i64 0, .int .i64 0]) [(0, 0, 7, (.t 10)), (1, 7, 1, (.t 13)), (2, 8, 1, (.t 15)), (3, 9, 1, (.t 17))], none⟩,
    ⟨some 7, .al (.agg [.agg [.str ⟨#[]⟩, .int .i64 0, .str ⟨#[]⟩, .int .i64 0, .int .i64 0, .int .i64 0, .int .i64 0], .int .i64 0, .int .i64 0, .int .i64 0, .int .i64 0]), none⟩,
    ⟨none, .st 11 (.t 7) (.t 18), none⟩])
  (.seq (.seq (.ops [⟨some 19, .fa 0 7 0 (.t 7), none⟩,
    ⟨some 20, .fa 2 1 2 (.t 19), none⟩,
    ⟨some 21, .ld 1 false (.t 20), none⟩,
    ⟨some 22, .bin .neq (.t 21) (.k (.str ⟨#[]⟩)), none⟩])
  (.cond (.t 22)
  (.seq (.ops [⟨some 23, .mv (.t 2), none⟩,
    ⟨some 24, .mv (.t 0), none⟩,
    ⟨some 25, .call 69 [(.t 24), (.k (.int .i64 14))], none⟩,
    ⟨some 26, .bin .add (.t 23) (.t 25), none⟩,
    ⟨some 27, .bin .sub (.t 26) (.k (.int .i64 4)), none⟩,
    ⟨some 28, .fa 10 1 4 (.t 7), none⟩,
    ⟨none, .st 1 (.t 28) (.t 27), none⟩])
  (.seq (.ops [⟨some 29, .fa 10 1 4 (.t 7), none⟩,
    ⟨some 30, .ld 1 false (.t 29), none⟩,
    ⟨some 31, .bin .lss (.t 30) (.k (.int .i64 0)), none⟩])
  (.cond (.t 31)
  (.ops [⟨some 32, .fa 10 1 4 (.t 7), none⟩,
    ⟨none, .st 1 (.t 32) (.k (.int .i64 0)), none⟩])
  .skip)))
  .skip))
  (.seq (.seq (.ops [⟨some 33, .fa 7 1 1 (.t 7), none⟩,
    ⟨some 34, .ld 1 false (.t 33), none⟩,
    ⟨some 35, .bin .eql (.t 34) (.k (.int .i64 2)), none⟩])
  (.cond (.t 35)
  (.ops [⟨some 36, .fa 8 1 2 (.t 7), none⟩,
    ⟨none, .st 1 (.t 36) (.k (.int .i64 0)), none⟩])
  .skip))
  (.seq (.ops [⟨some 37, .ld 11 true (.t 7), none⟩,
    ⟨none, .st 11 (.t 6) (.t 37), none⟩])
  .ret)))))⟩
theorem c70 : compileF Try.prog [] 70 = some cf70 := by kernel_rfl
/-- spec.l11Spoil -/
def cf72 : CF := ⟨47, [.c 4 11 true],
  (.seq (.ops [⟨some 3, .bx (.t 1), none⟩,
    ⟨some 4, .al (.agg [.agg [.str ⟨#[]⟩, .int .i64 0, .str ⟨#[]⟩, .int .i64 0, .int .i64 0, .int .i64 0, .int .i64 0], .int .i64 0, .int .i64 0, .int .i64 0, .int .i64 0]), none⟩])
  (.seq (.seq (.ops [⟨some 5, .mv (.t 0), none⟩,
    ⟨some 6, .call 69 [(.t 5), (.k (.int .i64 6))], none⟩])
  (.block 0 (.seq (.ops [⟨some 10, .bin .eql (.t 6) (.k (.int .i64 0)), none⟩,
    ⟨some 9, .mv (.t 10), none⟩])
  (.cond (.t 9)
  (.ops [⟨some 11, .mv (.t 0), none⟩,
    ⟨some 12, .fa 0 7 0 (.t 3), none⟩,
    ⟨some 13, .ld 7 true (.t 12), none⟩,
    ⟨some 14, .call 106 [(.t 11), (.t 13)], none⟩,
    ⟨some 15, .fa 0 7 0 (.t 3), none⟩,
    ⟨none, .st 7 (.t 15) (.t 14), none⟩])
  (.seq (.ops [⟨some 17, .bin .eql (.t 6) (.k (.int .i64 1)), none⟩,
    ⟨some 16, .mv (.t 17), none⟩])
  (.cond (.t 16)
  (.ops [⟨some 18, .mv (.t 0), none⟩,
    ⟨some 19, .call 69 [(.t 18), (.k (.int .i64 9))], none⟩,
    ⟨some 20, .bin .sub (.t 19) (.k (.int .i64 1)), none⟩,
    ⟨some 21, .fa 7 1 1 (.t 3), none⟩,
    ⟨none, .st 1 (.t 21) (.t 20), none⟩])
  (.seq (.ops [⟨some 23, .bin .eql (.t 6) (.k (.int .i64 2)), none⟩,
    ⟨some 22, .mv (.t 23), none⟩])
  (.cond (.t 22)
  (.ops [⟨some 24, .bsl (.int .i64 0) 3 [(0, (.k (.int .i64 (-1)))), (1, (.k (.int .i64 100))), (2, (.k (.int .i64 101)))], none⟩,
    ⟨some 25, .mv (.t 0), none⟩,
    ⟨some 26, .call 69 [(.t 25), (.k (.int .i64 3))], none⟩,
    ⟨some 27, .ix 1 (.t 24) (.t 26), none⟩,
    ⟨some 28, .ld 1 false (.t 27), none⟩,
    ⟨some 29, .fa 8 1 2 (.t 3), none⟩,
    ⟨none, .st 1 (.t 29) (.t 28), none⟩])
  (.seq (.ops [⟨some 31, .bin .eql (.t 6) (.k (.int .i64 3)), none⟩,
    ⟨some 30, .mv (.t 31), none⟩])
  (.cond (.t 30)
  (.ops [⟨some 32, .bsl (.int .i64 0) 3 [(0, (.k (.int .i64 (-1)))), (1, (.k (.int .i64 1000))), (2, (.k (.int .i64 1001)))], none⟩,
    ⟨some 33, .mv (.t 0), none⟩,
    ⟨some 34, .call 69 [(.t 33), (.k (.int .i64 3))], none⟩,
    ⟨some 35, .ix 1 (.t 32) (.t 34), none⟩,
    ⟨some 36, .ld 1 false (.t 35), none⟩,
    ⟨some 37, .fa 9 1 3 (.t 3), none⟩,
    ⟨none, .st 1 (.t 37) (.t 36), none⟩])
  (.seq (.ops [⟨some 39, .bin .eql (.t 6) (.k (.int .i64 4)), none⟩,
    ⟨some 38, .mv (.t 39), none⟩])
  (.cond (.t 38)
  (.ops [⟨some 40, .bsl (.int .i64 0) 5 [(0, (.k (.int .i64 (-1)))), (1, (.k (.int .i64 0))), (2, (.k (.int .i64 1))), (3, (.k (.int .i64 1000016))), (4, (.k (.int .i64 1000017)))], none⟩,
    ⟨some 41, .mv (.t 0), none⟩,
    ⟨some 42, .call 69 [(.t 41), (.k (.int .i64 5))], none⟩,
    ⟨some 43, .ix 1 (.t 40) (.t 42), none⟩,
    ⟨some 44, .ld 1 false (.t 43), none⟩,
    ⟨some 45, .fa 10 1 4 (.t 3), none⟩,
    ⟨none, .st 1 (.t 45) (.t 44), none⟩])
  (.ops [⟨some 7, .fa 0 7 0 (.t 3), none⟩,
    ⟨some 8, .fa 2 1 2 (.t 7), none⟩,
    ⟨none, .st 1 (.t 8) (.k (.str ⟨#[]⟩)), none⟩])))))))))))))
  (.seq (.ops [⟨some 46, .ld 11 true (.t 3), none⟩,
    ⟨none, .st 11 (.t 4) (.t 46), none⟩])
  .ret)))⟩
theorem c72 : compileF Try.prog [] 72 = some cf72 := by kernel_rfl
/-- spec.DrawMateLive -/
def cf28 : CF := ⟨46, [.c 2 11 true, .c 3 7 true, .t 4, .t 5],
  (.seq (.ops [⟨some 2, .al (.agg [.agg [.str ⟨#[]⟩, .int .i64 0, .str ⟨#[]⟩, .int .i64 0, .int .i64 0, .int .i64 0, .int .i64 0], .int .i64 0, .int .i64 0, .int .i64 0, .int .i64 0]), none⟩,
    ⟨some 3, .al (.agg [.str ⟨#[]⟩, .int .i64 0, .str ⟨#[]⟩, .int .i64 0, .int .i64 0, .int .i64 0, .int .i64 0]), none⟩,
    ⟨some 4, .mv (.k (.bool false)), none⟩,
    ⟨some 5, .mv (.k (.int .i64 0)), none⟩])
  (.seq (.ops [⟨some 10, .mv (.t 0), none⟩,
    ⟨some 11, .call 68 [(.t 10)], none⟩,
    ⟨some 6, .mv (.t 11), none⟩])
  (.seq (.ops [⟨some 12, .mv (.t 6), none⟩,
    ⟨some 13, .call 69 [(.t 12), (.k (.int .i64 40))], none⟩,
    ⟨some 7, .mv (.t 13), none⟩])
  (.seq (.ops [⟨some 14, .mv (.t 6), none⟩,
    ⟨some 15, .mv (.t 7), none⟩,
    ⟨some 16, .call 70 [(.t 14), (.k (.str ⟨#[99]⟩)), (.t 15)], none⟩,
    ⟨some 8, .al (.agg [.agg [.str ⟨#[]⟩, .int .i64 0, .str ⟨#[]⟩, .int .i64 0, .int .i64 0, .int .i64 0, .int .i64 0], .int .i64 0, .int .i64 0, .int .i64 0, .int .i64 0]), none⟩,
    ⟨none, .st 11 (.t 8) (.t 16), none⟩])
  (.seq (.ops [⟨some 17, .fa 0 7 0 (.t 8), none⟩,
    ⟨some 18, .ld 7 true (.t 17), none⟩,
    ⟨some 9, .al (.agg [.str ⟨#[]⟩, .int .i64 0, .str ⟨#[]⟩, .int .i64 0, .int .i64 0, .int .i64 0, .int .i64 0]), none⟩,
    ⟨none, .st 7 (.t 9) (.t 18), none⟩])
  (.seq (.seq (.ops [⟨some 19, .mv (.t 6), none⟩,
    ⟨some 20, .call 69 [(.t 19), (.k (.int .i64 8))], none⟩])
  (.block 0 (.seq (.ops [⟨some 22, .bin .eql (.t 20) (.k (.int .i64 0)), none⟩,
    ⟨some 21, .mv (.t 22), none⟩])
  (.cond (.t 21)
  (.ops [⟨some 23, .mv (.t 6), none⟩,
    ⟨some 24, .call 71 [(.t 23), (.k (.str ⟨#[99]⟩))], none⟩,
    ⟨none, .st 7 (.t 9) (.t 24), none⟩])
  (.seq (.ops [⟨some 26, .bin .eql (.t 20) (.k (.int .i64 1)), none⟩,
    ⟨some 25, .mv (.t 26), none⟩])
  (.cond (.t 25)
  (.seq (.ops [⟨some 27, .ld 11 true (.t 8), none⟩,
    ⟨some 28, .bld (.agg [.str ⟨#[]⟩, .int .i64 0, .str ⟨#[]⟩, .int .i64 0, .int .i64 0, .int .i64 0, .int .i64 0]) [], none⟩,
    ⟨some 29, .mv (.t 7), none⟩,
    ⟨none, .st 11 (.t 2) (.t 27), none⟩,
    ⟨none, .st 7 (.t 3) (.t 28), none⟩,
    ⟨some 4, .mv (.k (.bool false)), none⟩,
    ⟨some 5, .mv (.t 29), none⟩])
  .ret)
  (.seq (.ops [⟨some 31, .bin .eql (.t 20) (.k (.int .i64 2)), none⟩,
    ⟨some 30, .mv (.t 31), none⟩])
  (.cond (.t 30)
  (.ops [⟨some 32, .mv (.t 6), none⟩,
    ⟨some 33, .ld 11 true (.t 8), none⟩,
    ⟨some 34, .call 72 [(.t 32), (.t 33)], none⟩,
    ⟨none, .st 11 (.t 8) (.t 34), none⟩])
  (.seq (.ops [⟨some 36, .bin .eql (.t 20) (.k (.int .i64 3)), none⟩,
    ⟨some 35, .mv (.t 36), none⟩])
  (.cond (.t 35)
  (.seq (.ops [⟨some 37, .mv (.t 6), none⟩,
    ⟨some 38, .call 69 [(.t 37), (.k (.int .i64 2))], none⟩,
    ⟨some 39, .bin .sub (.k (.int .i64 1000)) (.t 38), none⟩,
    ⟨some 40, .fa 9 1 3 (.t 8), none⟩,
    ⟨none, .st 1 (.t 40) (.t 39), none⟩])
  (.seq (.ops [⟨some 41, .fa 7 1 1 (.t 8), none⟩,
    ⟨none, .st 1 (.t 41) (.k (.int .i64 4)), none⟩])
  (.ops [⟨some 42, .fa 8 1 2 (.t 8), none⟩,
    ⟨none, .st 1 (.t 42) (.k (.int .i64 1)), none⟩])))
  .skip))))))))))
  (.seq (.drawn [(⟨some 43, .ld 11 true (.t 8), none⟩, false, []),
    (⟨some 44, .ld 7 true (.t 9), none⟩, false, []),
    (⟨some 45, .mv (.t 7), none⟩, false, []),
    (⟨none, .st 11 (.t 2) (.t 43), none⟩, true, [(.t 9)]),
    (⟨none, .st 7 (.t 3) (.t 44), none⟩, true, []),
    (⟨some 4, .mv (.k (.bool true)), none⟩, false, []),
    (⟨some 5, .mv (.t 45), none⟩, false, [])])
  .ret)))))))⟩
theorem c28 : compileF Try.prog [] 28 = some cf28 := by kernel_rfl
abbrev isWant (d : Go.Ab.D) : Prop := ∃ w : MateWant, d = w.D
abbrev isRun (d : Go.Ab.D) : Prop := ∃ r : MateRun, d = r.D
theorem want_ex (a : ByteArray) (b : Int) (c : ByteArray) (d e f g : Int) : isWant (.agg [.str a, .int .i64 b, .str c, .int .i64 d, .int .i64 e, .int .i64 f, .int .i64 g]) := ⟨⟨a, b, c, d, e, f, g⟩, rfl⟩
theorem run_ex (a : ByteArray) (b : Int) (c : ByteArray) (d e f g h i j k : Int) : isRun (.agg [.agg [.str a, .int .i64 b, .str c, .int .i64 d, .int .i64 e, .int .i64 f, .int .i64 g], .int .i64 h, .int .i64 i, .int .i64 j, .int .i64 k]) := ⟨⟨⟨a, b, c, d, e, f, g⟩, h, i, j, k⟩, rfl⟩
theorem live_ex (a : ByteArray) (b : Int) (c : ByteArray) (d e f g h i j k : Int) (a' : ByteArray) (b' : Int) (c' : ByteArray) (d' e' f' g' : Int) (q : Bool) (z : Int) : ∃ (r : MateRun) (w : MateWant) (bo : Bool) (ko : Int), Go.Ab.D.tup [.agg [.agg [.str a, .int .i64 b, .str c, .int .i64 d, .int .i64 e, .int .i64 f, .int .i64 g], .int .i64 h, .int .i64 i, .int .i64 j, .int .i64 k], .agg [.str a', .int .i64 b', .str c', .int .i64 d', .int .i64 e', .int .i64 f', .int .i64 g'], .bool q, .int .i64 z] = .tup [r.D, w.D, .bool bo, .int .i64 ko] := ⟨⟨⟨a, b, c, d, e, f, g⟩, h, i, j, k⟩, ⟨a', b', c', d', e', f', g'⟩, q, z, rfl⟩
theorem catOk {a b : Nat} (h : a + b ≤ 100000000) : ¬ (((a + b : Nat) : Int) > IntKind.i64.max) := by
  show ¬ (((a + b : Nat) : Int) > 9223372036854775807)
  omega
set_option maxHeartbeats 8000000 in
theorem mkWant (copy : ByteArray) : MK 71 [.str copy] isWant 6 := by
  refine MK.of0 fun b c p hc hp => ?_
  refine XC.intro' hm [0] rfl c71 (Nat.le_of_ble_eq_true rfl) ?_
  conv => whnf
  repeat' (first | ((refine And.intro True.intro ?_; conv => whnf)) | ((refine d_ixs rfl rfl rfl rfl (by omega) (by simp; omega) (fun _ => ?_); conv => whnf)) | ((refine d_ixi rfl rfl rfl rfl (by omega) (by simp; omega) (fun _ => ?_); conv => whnf)) | ((refine XCL.pkv (by decide) hc (by omega) ⟨rfl, rfl, rfl, True.intro⟩ (fun _ _ _ _ _ _ => ?_); conv => whnf)) | (refine g_op ?_; conv => whnf) | (refine And.intro ?_ ?_; (focus (first | exact rfl | exact Nat.le_of_ble_eq_true rfl | decide | omega | fail)); conv => whnf) | (refine g_seq ?_) | (refine XS.go ?_) | (refine g_ops ?_) | (refine g_nil ?_; conv => whnf) | (refine g_ret ?_; conv => whnf) | (refine g_drawn ?_) | (refine d_p ?_; conv => whnf) | (refine d_e ?_; conv => whnf) | (refine d_nil ?_; conv => whnf) | (refine r_c ?_; conv => whnf) | (refine r_nil ?_; conv => whnf) | (refine fun _ => ?_; conv => whnf) | fail)
  all_goals (refine And.intro (want_ex _ _ _ _ _ _ _) ⟨_, ?_, ?_, rfl⟩)
  all_goals omega
set_option maxHeartbeats 8000000 in
theorem manyX (s : ByteArray) (n : Int) (hs : s.size = 1) (h0 : 0 ≤ n) (h1 : n ≤ 1000) : XC Try.prog 121 [.str s, .int .i64 n] [] fun d ls => ls = [] ∧ ∃ t, d = .str t := by
  obtain ⟨m, rfl⟩ := Int.eq_ofNat_of_zero_le h0
  refine XC.intro' hm [] rfl c121 (Nat.le_of_ble_eq_true rfl) ?_
  conv => whnf
  repeat' (first | (refine g_op ?_; conv => whnf) | (refine And.intro ?_ ?_; (focus (first | exact rfl | exact Nat.le_of_ble_eq_true rfl | decide | omega | fail)); conv => whnf) | (refine g_seq ?_) | (refine XS.go ?_) | (refine g_ops ?_) | (refine g_loop ?_) | (refine g_nil ?_; conv => whnf) | (refine g_block ?_) | fail)
  refine XLc.mkA (α := ByteArray × ByteArray × Nat) (fun x => x.1.size * x.2.2 + x.2.1.size ≤ 100000 ∧ x.1.size ≤ 200000 ∧ x.2.2 ≤ 1000) (fun x => x.2.2) (fun x gs => [.str x.1, .int .i64 (x.2.2 : Int), .any, .any, .any, .str x.2.1]) (fun x gs => []) (s, ⟨#[]⟩, m) ⟨?_, ?_, ?_⟩ ?_ ?_
  · show s.size * m + 0 ≤ 100000
    rw [hs]
    omega
  · show s.size ≤ 200000
    omega
  · show m ≤ 1000
    omega
  · refine ⟨?_, True.intro⟩
    repeat' (first | exact True.intro | refine And.intro rfl ?_)
  intro x gs ⟨hI1, hI2, hI3⟩
  repeat' (first | (refine g_op ?_; conv => whnf) | (refine And.intro ?_ ?_; (focus (first | exact rfl | exact Nat.le_of_ble_eq_true rfl | decide | omega | fail)); conv => whnf) | (refine g_seq ?_) | (refine XS.go ?_) | (refine g_ops ?_) | (refine g_nil ?_; conv => whnf) | (refine g_cond ?_; conv => whnf) | fail)
  refine Br.mk (fun hb => ?_) (fun hb => ?_)
  · have hn : 0 < x.2.2 := by simp at hb; omega
    clear hb
    have hq : IntKind.wrap .i64 ((x.2.2 : Int).tdiv 2) = ((x.2.2 / 2 : Nat) : Int) := by rw [wrap_ok] <;> (rw [Int.tdiv_eq_ediv_of_nonneg (by omega)]; omega)
    have hm1 : x.1.size * 1 ≤ x.1.size * x.2.2 := Nat.mul_le_mul_left _ hn
    have hm2 : x.1.size * 2 * (x.2.2 / 2) ≤ x.1.size * x.2.2 := by rw [Nat.mul_assoc]; exact Nat.mul_le_mul_left _ (by omega)
    have hm3 : x.2.2 % 2 = 1 → x.1.size * 2 * (x.2.2 / 2) + x.1.size ≤ x.1.size * x.2.2 := fun h => by
      have e : x.2.2 = 2 * (x.2.2 / 2) + 1 := by omega
      have : x.1.size * x.2.2 = x.1.size * (2 * (x.2.2 / 2)) + x.1.size * 1 := by rw [← Nat.mul_add]; exact congrArg _ e
      rw [this, Nat.mul_assoc]
      omega
    have hs2 : (x.1 ++ x.1).size = x.1.size + x.1.size := ByteArray.size_append
    have ho2 : (x.2.1 ++ x.1).size = x.2.1.size + x.1.size := ByteArray.size_append
    have hss : x.1.size + x.1.size ≤ 200000 := by omega
    conv => whnf
    repeat' (first | (refine g_op ?_; conv => whnf) | (refine And.intro ?_ ?_; (focus (first | exact rfl | exact Nat.le_of_ble_eq_true rfl | decide | omega | fail)); conv => whnf) | (refine g_seq ?_) | (refine XS.go ?_) | (refine g_ops ?_) | (refine g_nil ?_; conv => whnf) | (refine g_cond ?_; conv => whnf) | (refine g_skip ?_; conv => whnf) | (refine g_block ?_) | fail)
    refine Br.mk (fun hb => ?_) (fun hb => ?_)
    · have hodd : x.2.2 % 2 = 1 := by
        have e : ((x.2.2 : Int)).tmod 2 = ((x.2.2 % 2 : Nat) : Int) := by rw [Int.tmod_eq_emod_of_nonneg (by omega)]; omega
        rw [e] at hb
        simp at hb
        omega
      have := hm3 hodd
      conv => whnf
      repeat' (first | ((refine And.intro (catOk (by omega)) ?_; conv => whnf)) | (refine g_op ?_; conv => whnf) | (refine And.intro ?_ ?_; (focus (first | exact rfl | exact Nat.le_of_ble_eq_true rfl | decide | omega | fail)); conv => whnf) | (refine g_seq ?_) | (refine XS.go ?_) | (refine g_ops ?_) | (refine g_nil ?_; conv => whnf) | fail)
      refine ⟨(x.1 ++ x.1, x.2.1 ++ x.1, x.2.2 / 2), ⟨?_, ?_, ?_⟩, ?_, ?_, True.intro⟩
      · show (x.1 ++ x.1).size * (x.2.2 / 2) + (x.2.1 ++ x.1).size ≤ 100000
        rw [hs2, ho2, ← Nat.mul_two]
        omega
      · show (x.1 ++ x.1).size ≤ 200000
        omega
      · show x.2.2 / 2 ≤ 1000
        omega
      · show x.2.2 / 2 < x.2.2
        omega
      · repeat' (first | exact True.intro | refine And.intro (congrArg (D.int .i64) hq) ?_ | refine And.intro rfl ?_)
    · conv => whnf
      repeat' (first | ((refine And.intro (catOk (by omega)) ?_; conv => whnf)) | (refine g_op ?_; conv => whnf) | (refine And.intro ?_ ?_; (focus (first | exact rfl | exact Nat.le_of_ble_eq_true rfl | decide | omega | fail)); conv => whnf) | (refine g_seq ?_) | (refine XS.go ?_) | (refine g_ops ?_) | (refine g_nil ?_; conv => whnf) | (refine g_skip ?_; conv => whnf) | fail)
      refine ⟨(x.1 ++ x.1, x.2.1, x.2.2 / 2), ⟨?_, ?_, ?_⟩, ?_, ?_, True.intro⟩
      · show (x.1 ++ x.1).size * (x.2.2 / 2) + x.2.1.size ≤ 100000
        rw [hs2, ← Nat.mul_two]
        omega
      · show (x.1 ++ x.1).size ≤ 200000
        omega
      · show x.2.2 / 2 ≤ 1000
        omega
      · show x.2.2 / 2 < x.2.2
        omega
      · repeat' (first | exact True.intro | refine And.intro (congrArg (D.int .i64) hq) ?_ | refine And.intro rfl ?_)
  · conv => whnf
    repeat' (first | (refine g_op ?_; conv => whnf) | (refine And.intro ?_ ?_; (focus (first | exact rfl | exact Nat.le_of_ble_eq_true rfl | decide | omega | fail)); conv => whnf) | (refine g_seq ?_) | (refine XS.go ?_) | (refine g_ops ?_) | (refine g_nil ?_; conv => whnf) | (refine g_ret ?_; conv => whnf) | (refine g_exit ?_; conv => whnf) | (refine r_t ?_; conv => whnf) | (refine r_nil ?_; conv => whnf) | fail)
    exact ⟨_, rfl⟩
theorem manyW (s : ByteArray) (v : Int) (hs : s.size = 1) (h0 : 0 ≤ v) (h1 : v < 2) : XC Try.prog 121 [.str s, .int .i64 (IntKind.wrap .i64 (20 + v))] [] fun d ls => ls = [] ∧ ∃ t, d = .str t := by
  rw [wrap_ok (by omega) (by omega)]
  exact manyX s _ hs (by omega) (by omega)
set_option maxHeartbeats 8000000 in
theorem mkSpoilWant (w : MateWant) : MK 106 [w.D] isWant 3 := by
  refine MK.of0 fun b c p hc hp => ?_
  refine XC.intro' hm [0] rfl c106 (Nat.le_of_ble_eq_true rfl) ?_
  conv => whnf
  repeat' (first | ((refine XCL.pk3 hc (by omega) ⟨rfl, rfl, rfl, True.intro⟩ (fun _ _ _ => ?_) (fun _ _ _ => ?_) (fun _ _ _ => ?_) <;> conv => whnf)) | ((refine XCL.pkv (by decide) hc (by omega) ⟨rfl, rfl, rfl, True.intro⟩ (fun _ _ _ _ _ _ => ?_); conv => whnf)) | ((refine XCL.ask (manyW _ _ rfl (by omega) (by omega)) (fun d hd => ?_); obtain ⟨t, rfl⟩ := hd; conv => whnf)) | (refine g_op ?_; conv => whnf) | (refine And.intro ?_ ?_; (focus (first | exact rfl | exact Nat.le_of_ble_eq_true rfl | decide | omega | fail)); conv => whnf) | (refine g_seq ?_) | (refine XS.go ?_) | (refine g_ops ?_) | (refine g_nil ?_; conv => whnf) | (refine g_cond ?_; conv => whnf) | (refine g_ret ?_; conv => whnf) | (refine g_block ?_) | (refine r_c ?_; conv => whnf) | (refine r_nil ?_; conv => whnf) | (refine fun _ => ?_; conv => whnf) | (refine Br.mk (fun hb => ?_) (fun hb => ?_) <;> conv => whnf) | fail)
  all_goals (refine And.intro (want_ex _ _ _ _ _ _ _) ⟨_, ?_, ?_, rfl⟩)
  all_goals omega
set_option maxHeartbeats 8000000 in
theorem mkDraw (copy : ByteArray) (k : Int) : MK 70 [.str copy, .int .i64 k] isRun 10 := by
  refine MK.of0 fun b c p hc hp => ?_
  refine XC.intro' hm [0] rfl c70 (Nat.le_of_ble_eq_true rfl) ?_
  conv => whnf
  repeat' (first | ((refine XCL.mkr (mkWant _) hc (by omega) ⟨rfl, rfl, rfl, True.intro⟩ (fun d p' hR _ _ => ?_); obtain ⟨w, rfl⟩ := hR; conv => whnf)) | ((refine XCL.pkv (by decide) hc (by omega) ⟨rfl, rfl, rfl, True.intro⟩ (fun _ _ _ _ _ _ => ?_); conv => whnf)) | (refine g_op ?_; conv => whnf) | (refine And.intro ?_ ?_; (focus (first | exact rfl | exact Nat.le_of_ble_eq_true rfl | decide | omega | fail)); conv => whnf) | (refine g_seq ?_) | (refine XS.go ?_) | (refine g_ops ?_) | (refine g_nil ?_; conv => whnf) | (refine g_cond ?_; conv => whnf) | (refine g_skip ?_; conv => whnf) | (refine g_ret ?_; conv => whnf) | (refine r_c ?_; conv => whnf) | (refine r_nil ?_; conv => whnf) | (refine fun _ => ?_; conv => whnf) | (refine Br.mk (fun hb => ?_) (fun hb => ?_) <;> conv => whnf) | fail)
  all_goals (refine And.intro (run_ex _ _ _ _ _ _ _ _ _ _ _) ⟨_, ?_, ?_, rfl⟩)
  all_goals omega
set_option maxHeartbeats 8000000 in
theorem mkSpoil (x : MateRun) : MK 72 [x.D] isRun 4 := by
  refine MK.of0 fun b c p hc hp => ?_
  refine XC.intro' hm [0] rfl c72 (Nat.le_of_ble_eq_true rfl) ?_
  conv => whnf
  repeat' (first | ((refine XCL.mkr (mkSpoilWant _) hc (by omega) ⟨rfl, rfl, rfl, True.intro⟩ (fun d p' hR _ _ => ?_); obtain ⟨w, rfl⟩ := hR; conv => whnf)) | ((refine XCL.pk3 hc (by omega) ⟨rfl, rfl, rfl, True.intro⟩ (fun _ _ _ => ?_) (fun _ _ _ => ?_) (fun _ _ _ => ?_) <;> conv => whnf)) | ((refine XCL.pk5 hc (by omega) ⟨rfl, rfl, rfl, True.intro⟩ (fun _ _ _ => ?_) (fun _ _ _ => ?_) (fun _ _ _ => ?_) (fun _ _ _ => ?_) (fun _ _ _ => ?_) <;> conv => whnf)) | ((refine XCL.pkv (by decide) hc (by omega) ⟨rfl, rfl, rfl, True.intro⟩ (fun _ _ _ _ _ _ => ?_); conv => whnf)) | (refine g_op ?_; conv => whnf) | (refine And.intro ?_ ?_; (focus (first | exact rfl | exact Nat.le_of_ble_eq_true rfl | decide | omega | fail)); conv => whnf) | (refine g_seq ?_) | (refine XS.go ?_) | (refine g_ops ?_) | (refine g_nil ?_; conv => whnf) | (refine g_cond ?_; conv => whnf) | (refine g_ret ?_; conv => whnf) | (refine g_block ?_) | (refine r_c ?_; conv => whnf) | (refine r_nil ?_; conv => whnf) | (refine fun _ => ?_; conv => whnf) | (refine Br.mk (fun hb => ?_) (fun hb => ?_) <;> conv => whnf) | fail)
  all_goals (refine And.intro (run_ex _ _ _ _ _ _ _ _ _ _ _) ⟨_, ?_, ?_, rfl⟩)
  all_goals omega
set_option maxHeartbeats 8000000 in
theorem make_Live (c : List Int) (hl : c.length ≤ 1048576) (hb : ∀ x ∈ c, 0 ≤ x ∧ x < 256) : XC Try.prog 28 [.ro 1 (c.map U8D)] [] fun d ls => ls = [] ∧ ∃ (r : MateRun) (w : MateWant) (b : Bool) (k : Int), d = .tup [r.D, w.D, .bool b, .int .i64 k] := by
  refine XC.intro' hm [] rfl c28 (Nat.le_of_ble_eq_true rfl) ?_
  conv => whnf
  repeat' (first | (refine g_op ?_; conv => whnf) | (refine And.intro ?_ ?_; (focus (first | exact rfl | exact Nat.le_of_ble_eq_true rfl | decide | omega | fail)); conv => whnf) | (refine g_seq ?_) | (refine XS.go ?_) | (refine g_ops ?_) | (refine g_nil ?_; conv => whnf) | (refine fun _ => ?_; conv => whnf) | fail)
  refine XCL.of_XC (ls := []) True.intro ((spec_Open c hl hb).mono fun d ls h => ?_)
  obtain ⟨b, c', hc, rfl, rfl⟩ := h
  conv => whnf
  repeat' (first | ((refine And.intro ⟨⟨rfl, rfl⟩, True.intro⟩ ?_; conv => whnf)) | ((refine And.intro True.intro ?_; conv => whnf)) | ((refine XCL.mkr (mkWant _) hc (by omega) ⟨rfl, rfl, rfl, True.intro⟩ (fun d p' hR _ _ => ?_); obtain ⟨w, rfl⟩ := hR; conv => whnf)) | ((refine XCL.mkr (mkSpoil _) hc (by omega) ⟨rfl, rfl, rfl, True.intro⟩ (fun d p' hR _ _ => ?_); obtain ⟨x, rfl⟩ := hR; conv => whnf)) | ((refine XCL.mkr (mkDraw _ _) hc (by omega) ⟨rfl, rfl, rfl, True.intro⟩ (fun d p' hR _ _ => ?_); obtain ⟨x, rfl⟩ := hR; conv => whnf)) | ((refine XCL.pkv (by decide) hc (by omega) ⟨rfl, rfl, rfl, True.intro⟩ (fun _ _ _ _ _ _ => ?_); conv => whnf)) | (refine g_op ?_; conv => whnf) | (refine And.intro ?_ ?_; (focus (first | exact rfl | exact Nat.le_of_ble_eq_true rfl | decide | omega | fail)); conv => whnf) | (refine g_seq ?_) | (refine XS.go ?_) | (refine g_ops ?_) | (refine g_nil ?_; conv => whnf) | (refine g_cond ?_; conv => whnf) | (refine g_skip ?_; conv => whnf) | (refine g_ret ?_; conv => whnf) | (refine g_block ?_) | (refine g_drawn ?_) | (refine d_p ?_; conv => whnf) | (refine d_e ?_; conv => whnf) | (refine d_nil ?_; conv => whnf) | (refine r_t ?_; conv => whnf) | (refine r_c ?_; conv => whnf) | (refine r_nil ?_; conv => whnf) | (refine fun _ => ?_; conv => whnf) | (refine Br.mk (fun hb => ?_) (fun hb => ?_) <;> conv => whnf) | fail)
  all_goals exact live_ex _ _ _ _ _ _ _ _ _ _ _ _ _ _ _ _ _ _ _ _
end Go.Ab
