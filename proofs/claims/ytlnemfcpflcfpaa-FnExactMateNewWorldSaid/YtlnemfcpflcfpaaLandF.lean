/- Steps towards the law: contracts of functions and facts of lists. -/
import Derived.Test.YtlnemfcpflcfpaaLandE
import Derived.Test.YtlnemfcpflcfpaaRows
set_option linter.unusedSimpArgs false
set_option linter.unusedVariables false
namespace Go.Ab
open Go Go.RowKit Go.Proofs
attribute [local irreducible] XC Rdr IntKind.wrap xw xos xqs xr xd
set_option maxRecDepth 100000

/-- laws.szMateGrant -/
def cf108 : CF := ⟨27, [.t 4],
  (.seq (.ops [⟨some 2, .bx (.t 0), none⟩,
    ⟨some 4, .mv (.k (.int .i64 0)), none⟩])
  (.seq (.ops [⟨some 5, .mv (.t 1), none⟩,
    ⟨some 6, .fa 0 1 0 (.t 2), none⟩,
    ⟨some 7, .ld 1 false (.t 6), none⟩,
    ⟨some 8, .lens (.t 7), none⟩,
    ⟨some 9, .bin .sub (.t 5) (.t 8), none⟩,
    ⟨some 1, .mv (.t 9), none⟩])
  (.seq (.seq (.ops [⟨some 10, .mv (.t 1), none⟩,
    ⟨some 11, .bin .lss (.t 10) (.k (.int .i64 0)), none⟩])
  (.cond (.t 11)
  (.seq (.ops [⟨some 4, .mv (.k (.int .i64 (-1))), none⟩])
  .ret)
  .skip))
  (.seq (.ops [⟨some 12, .mv (.t 1), none⟩,
    ⟨some 13, .fa 1 1 1 (.t 2), none⟩,
    ⟨some 14, .ld 1 false (.t 13), none⟩,
    ⟨some 15, .lens (.t 14), none⟩,
    ⟨some 16, .bin .sub (.t 12) (.t 15), none⟩,
    ⟨some 1, .mv (.t 16), none⟩])
  (.seq (.seq (.ops [⟨some 17, .mv (.t 1), none⟩,
    ⟨some 18, .bin .lss (.t 17) (.k (.int .i64 0)), none⟩])
  (.cond (.t 18)
  (.seq (.ops [⟨some 4, .mv (.k (.int .i64 (-1))), none⟩])
  .ret)
  .skip))
  (.seq (.ops [⟨some 19, .mv (.t 1), none⟩,
    ⟨some 20, .fa 2 1 2 (.t 2), none⟩,
    ⟨some 21, .ld 1 false (.t 20), none⟩,
    ⟨some 22, .lens (.t 21), none⟩,
    ⟨some 23, .bin .sub (.t 19) (.t 22), none⟩,
    ⟨some 1, .mv (.t 23), none⟩])
  (.seq (.seq (.ops [⟨some 24, .mv (.t 1), none⟩,
    ⟨some 25, .bin .lss (.t 24) (.k (.int .i64 0)), none⟩])
  (.cond (.t 25)
  (.seq (.ops [⟨some 4, .mv (.k (.int .i64 (-1))), none⟩])
  .ret)
  .skip))
  (.seq (.ops [⟨some 26, .mv (.t 1), none⟩,
    ⟨some 4, .mv (.t 26), none⟩])
  .ret))))))))⟩
theorem c108 : compileF Try.prog [] 108 = some cf108 := by kernel_rfl
/-- laws.toMateGrant -/
def cf110 : CF := ⟨20, [.c 2 5 true],
  (.seq (.ops [⟨some 1, .bx (.t 0), none⟩,
    ⟨some 2, .al (.agg [.str ⟨#[]⟩, .str ⟨#[]⟩, .str ⟨#[]⟩, .int .i64 0, .int .i64 0]), none⟩])
  (.seq (.ops [⟨some 3, .al (.agg [.str ⟨#[]⟩, .str ⟨#[]⟩, .str ⟨#[]⟩, .int .i64 0, .int .i64 0]), none⟩])
  (.seq (.ops [⟨some 4, .fa 0 1 0 (.t 1), none⟩,
    ⟨some 5, .ld 1 false (.t 4), none⟩,
    ⟨some 6, .fa 0 1 0 (.t 3), none⟩,
    ⟨none, .st 1 (.t 6) (.t 5), none⟩])
  (.seq (.ops [⟨some 7, .fa 1 1 1 (.t 1), none⟩,
    ⟨some 8, .ld 1 false (.t 7), none⟩,
    ⟨some 9, .fa 1 1 1 (.t 3), none⟩,
    ⟨none, .st 1 (.t 9) (.t 8), none⟩])
  (.seq (.ops [⟨some 10, .fa 2 1 2 (.t 1), none⟩,
    ⟨some 11, .ld 1 false (.t 10), none⟩,
    ⟨some 12, .fa 2 1 2 (.t 3), none⟩,
    ⟨none, .st 1 (.t 12) (.t 11), none⟩])
  (.seq (.ops [⟨some 13, .fa 3 1 3 (.t 1), none⟩,
    ⟨some 14, .ld 1 false (.t 13), none⟩,
    ⟨some 15, .fa 3 1 3 (.t 3), none⟩,
    ⟨none, .st 1 (.t 15) (.t 14), none⟩])
  (.seq (.ops [⟨some 16, .fa 4 1 4 (.t 1), none⟩,
    ⟨some 17, .ld 1 false (.t 16), none⟩,
    ⟨some 18, .fa 4 1 4 (.t 3), none⟩,
    ⟨none, .st 1 (.t 18) (.t 17), none⟩])
  (.seq (.ops [⟨some 19, .ld 5 true (.t 3), none⟩,
    ⟨none, .st 5 (.t 2) (.t 19), none⟩])
  .ret))))))))⟩
theorem c110 : compileF Try.prog [] 110 = some cf110 := by kernel_rfl
/-- laws.eqMateGrant -/
def cf113 : CF := ⟨30, [.t 4],
  (.seq (.ops [⟨some 2, .bx (.t 0), none⟩,
    ⟨some 3, .bx (.t 1), none⟩,
    ⟨some 4, .mv (.k (.bool false)), none⟩])
  (.seq (.seq (.ops [⟨some 5, .fa 0 1 0 (.t 2), none⟩,
    ⟨some 6, .ld 1 false (.t 5), none⟩,
    ⟨some 7, .fa 0 1 0 (.t 3), none⟩,
    ⟨some 8, .ld 1 false (.t 7), none⟩,
    ⟨some 9, .bin .neq (.t 6) (.t 8), none⟩])
  (.cond (.t 9)
  (.seq (.ops [⟨some 4, .mv (.k (.bool false)), none⟩])
  .ret)
  .skip))
  (.seq (.seq (.ops [⟨some 10, .fa 1 1 1 (.t 2), none⟩,
    ⟨some 11, .ld 1 false (.t 10), none⟩,
    ⟨some 12, .fa 1 1 1 (.t 3), none⟩,
    ⟨some 13, .ld 1 false (.t 12), none⟩,
    ⟨some 14, .bin .neq (.t 11) (.t 13), none⟩])
  (.cond (.t 14)
  (.seq (.ops [⟨some 4, .mv (.k (.bool false)), none⟩])
  .ret)
  .skip))
  (.seq (.seq (.ops [⟨some 15, .fa 2 1 2 (.t 2), none⟩,
    ⟨some 16, .ld 1 false (.t 15), none⟩,
    ⟨some 17, .fa 2 1 2 (.t 3), none⟩,
    ⟨some 18, .ld 1 false (.t 17), none⟩,
    ⟨some 19, .bin .neq (.t 16) (.t 18), none⟩])
  (.cond (.t 19)
  (.seq (.ops [⟨some 4, .mv (.k (.bool false)), none⟩])
  .ret)
  .skip))
  (.seq (.seq (.ops [⟨some 20, .fa 3 1 3 (.t 2), none⟩,
    ⟨some 21, .ld 1 false (.t 20), none⟩,
    ⟨some 22, .fa 3 1 3 (.t 3), none⟩,
    ⟨some 23, .ld 1 false (.t 22), none⟩,
    ⟨some 24, .bin .neq (.t 21) (.t 23), none⟩])
  (.cond (.t 24)
  (.seq (.ops [⟨some 4, .mv (.k (.bool false)), none⟩])
  .ret)
  .skip))
  (.seq (.seq (.ops [⟨some 25, .fa 4 1 4 (.t 2), none⟩,
    ⟨some 26, .ld 1 false (.t 25), none⟩,
    ⟨some 27, .fa 4 1 4 (.t 3), none⟩,
    ⟨some 28, .ld 1 false (.t 27), none⟩,
    ⟨some 29, .bin .neq (.t 26) (.t 28), none⟩])
  (.cond (.t 29)
  (.seq (.ops [⟨some 4, .mv (.k (.bool false)), none⟩])
  .ret)
  .skip))
  (.seq (.ops [⟨some 4, .mv (.k (.bool true)), none⟩])
  .ret)))))))⟩
theorem c113 : compileF Try.prog [] 113 = some cf113 := by kernel_rfl
/-- laws.szMateGrantS -/
def cf57 : CF := ⟨27, [.t 4],
  (.seq (.ops [⟨some 4, .mv (.k (.int .i64 0)), none⟩])
  (.seq (.ops [⟨some 6, .mv (.t 1), none⟩,
    ⟨some 7, .mv (.t 0), none⟩,
    ⟨some 8, .lenl (.t 7), none⟩,
    ⟨some 9, .bin .sub (.t 6) (.t 8), none⟩,
    ⟨some 1, .mv (.t 9), none⟩])
  (.seq (.seq (.ops [⟨some 10, .mv (.t 1), none⟩,
    ⟨some 11, .bin .lss (.t 10) (.k (.int .i64 0)), none⟩])
  (.cond (.t 11)
  (.seq (.ops [⟨some 4, .mv (.k (.int .i64 (-1))), none⟩])
  .ret)
  .skip))
  (.seq (.seq (.ops [⟨some 5, .mv (.k (.int .i64 0)), none⟩])
  (.block 0 (.loop (.seq (.seq (.ops [⟨some 12, .mv (.t 5), none⟩,
    ⟨some 13, .mv (.t 0), none⟩,
    ⟨some 14, .lenl (.t 13), none⟩,
    ⟨some 15, .bin .lss (.t 12) (.t 14), none⟩])
  (.cond (.t 15)
  .skip
  (.exit 0)))
  (.seq (.block 1 (.seq (.ops [⟨some 18, .mv (.t 0), none⟩,
    ⟨some 19, .mv (.t 5), none⟩,
    ⟨some 20, .ix 5 (.t 18) (.t 19), none⟩,
    ⟨some 21, .ld 5 true (.t 20), none⟩,
    ⟨some 22, .mv (.t 1), none⟩,
    ⟨some 23, .call 108 [(.t 21), (.t 22)], none⟩,
    ⟨some 1, .mv (.t 23), none⟩])
  (.seq (.ops [⟨some 24, .mv (.t 1), none⟩,
    ⟨some 25, .bin .lss (.t 24) (.k (.int .i64 0)), none⟩])
  (.cond (.t 25)
  (.seq (.ops [⟨some 4, .mv (.k (.int .i64 (-1))), none⟩])
  .ret)
  .skip))))
  (.ops [⟨some 16, .mv (.t 5), none⟩,
    ⟨some 17, .bin .add (.t 16) (.k (.int .i64 1)), none⟩,
    ⟨some 5, .mv (.t 17), none⟩]))))))
  (.seq (.ops [⟨some 26, .mv (.t 1), none⟩,
    ⟨some 4, .mv (.t 26), none⟩])
  .ret)))))⟩
theorem c57 : compileF Try.prog [] 57 = some cf57 := by kernel_rfl
/-- laws.toMateGrantS -/
def cf63 : CF := ⟨23, [.t 2],
  (.seq (.ops [⟨some 2, .mv (.k (.nil)), none⟩])
  (.seq (.ops [⟨some 5, .mv (.t 0), none⟩,
    ⟨some 6, .lenl (.t 5), none⟩,
    ⟨some 7, .mk (.agg [.str ⟨#[]⟩, .str ⟨#[]⟩, .str ⟨#[]⟩, .int .i64 0, .int .i64 0]) 64 (.t 6) (.t 6), none⟩,
    ⟨some 3, .mv (.t 7), none⟩])
  (.seq (.seq (.ops [⟨some 4, .mv (.k (.int .i64 0)), none⟩])
  (.block 0 (.loop (.seq (.seq (.ops [⟨some 8, .mv (.t 4), none⟩,
    ⟨some 9, .mv (.t 0), none⟩,
    ⟨some 10, .lenl (.t 9), none⟩,
    ⟨some 11, .bin .lss (.t 8) (.t 10), none⟩])
  (.cond (.t 11)
  .skip
  (.exit 0)))
  (.seq (.block 1 (.ops [⟨some 14, .mv (.t 3), none⟩,
    ⟨some 15, .mv (.t 4), none⟩,
    ⟨some 16, .mv (.t 0), none⟩,
    ⟨some 17, .mv (.t 4), none⟩,
    ⟨some 18, .ix 5 (.t 16) (.t 17), none⟩,
    ⟨some 19, .ld 5 true (.t 18), none⟩,
    ⟨some 20, .call 110 [(.t 19)], none⟩,
    ⟨some 21, .ix 5 (.t 14) (.t 15), none⟩,
    ⟨none, .st 5 (.t 21) (.t 20), none⟩]))
  (.ops [⟨some 12, .mv (.t 4), none⟩,
    ⟨some 13, .bin .add (.t 12) (.k (.int .i64 1)), none⟩,
    ⟨some 4, .mv (.t 13), none⟩]))))))
  (.seq (.ops [⟨some 22, .mv (.t 3), none⟩,
    ⟨some 2, .mv (.t 22), none⟩])
  .ret))))⟩
theorem c63 : compileF Try.prog [] 63 = some cf63 := by kernel_rfl
/-- laws.eqMateGrantS -/
def cf69 : CF := ⟨27, [.t 4],
  (.seq (.ops [⟨some 4, .mv (.k (.bool false)), none⟩])
  (.seq (.seq (.ops [⟨some 6, .mv (.t 0), none⟩,
    ⟨some 7, .lenl (.t 6), none⟩,
    ⟨some 8, .mv (.t 1), none⟩,
    ⟨some 9, .lenl (.t 8), none⟩,
    ⟨some 10, .bin .neq (.t 7) (.t 9), none⟩])
  (.cond (.t 10)
  (.seq (.ops [⟨some 4, .mv (.k (.bool false)), none⟩])
  .ret)
  .skip))
  (.seq (.seq (.ops [⟨some 5, .mv (.k (.int .i64 0)), none⟩])
  (.block 0 (.loop (.seq (.seq (.ops [⟨some 11, .mv (.t 5), none⟩,
    ⟨some 12, .mv (.t 0), none⟩,
    ⟨some 13, .lenl (.t 12), none⟩,
    ⟨some 14, .bin .lss (.t 11) (.t 13), none⟩])
  (.cond (.t 14)
  .skip
  (.exit 0)))
  (.seq (.block 1 (.seq (.quiet [⟨some 17, .mv (.t 0), none⟩,
    ⟨some 18, .mv (.t 5), none⟩,
    ⟨some 19, .ix 5 (.t 17) (.t 18), none⟩,
    ⟨some 20, .ld 5 true (.t 19), none⟩,
    ⟨some 21, .mv (.t 1), none⟩,
    ⟨some 22, .mv (.t 5), none⟩,
    ⟨some 23, .ix 5 (.t 21) (.t 22), none⟩,
    ⟨some 24, .ld 5 true (.t 23), none⟩,
    ⟨some 25, .call 113 [(.t 20), (.t 24)], none⟩,
    ⟨some 26, .not (.t 25), none⟩])
  (.cond (.t 26)
  (.seq (.ops [⟨some 4, .mv (.k (.bool false)), none⟩])
  .ret)
  .skip)))
  (.ops [⟨some 15, .mv (.t 5), none⟩,
    ⟨some 16, .bin .add (.t 15) (.k (.int .i64 1)), none⟩,
    ⟨some 5, .mv (.t 16), none⟩]))))))
  (.seq (.ops [⟨some 4, .mv (.k (.bool true)), none⟩])
  .ret))))⟩
theorem c69 : compileF Try.prog [] 69 = some cf69 := by kernel_rfl
/-- laws.szMatePlace -/
def cf109 : CF := ⟨19, [.t 4],
  (.seq (.ops [⟨some 2, .bx (.t 0), none⟩,
    ⟨some 4, .mv (.k (.int .i64 0)), none⟩])
  (.seq (.ops [⟨some 5, .mv (.t 1), none⟩,
    ⟨some 6, .fa 0 1 0 (.t 2), none⟩,
    ⟨some 7, .ld 1 false (.t 6), none⟩,
    ⟨some 8, .lens (.t 7), none⟩,
    ⟨some 9, .bin .sub (.t 5) (.t 8), none⟩,
    ⟨some 1, .mv (.t 9), none⟩])
  (.seq (.seq (.ops [⟨some 10, .mv (.t 1), none⟩,
    ⟨some 11, .bin .lss (.t 10) (.k (.int .i64 0)), none⟩])
  (.cond (.t 11)
  (.seq (.ops [⟨some 4, .mv (.k (.int .i64 (-1))), none⟩])
  .ret)
  .skip))
  (.seq (.ops [⟨some 12, .fa 2 1 2 (.t 2), none⟩,
    ⟨some 13, .ld 1 false (.t 12), none⟩,
    ⟨some 14, .mv (.t 1), none⟩,
    ⟨some 15, .call 24 [(.t 13), (.t 14)], none⟩,
    ⟨some 1, .mv (.t 15), none⟩])
  (.seq (.seq (.ops [⟨some 16, .mv (.t 1), none⟩,
    ⟨some 17, .bin .lss (.t 16) (.k (.int .i64 0)), none⟩])
  (.cond (.t 17)
  (.seq (.ops [⟨some 4, .mv (.k (.int .i64 (-1))), none⟩])
  .ret)
  .skip))
  (.seq (.ops [⟨some 18, .mv (.t 1), none⟩,
    ⟨some 4, .mv (.t 18), none⟩])
  .ret))))))⟩
theorem c109 : compileF Try.prog [] 109 = some cf109 := by kernel_rfl
/-- laws.toMatePlace -/
def cf111 : CF := ⟨15, [.c 2 3 true],
  (.seq (.ops [⟨some 1, .bx (.t 0), none⟩,
    ⟨some 2, .al (.agg [.str ⟨#[]⟩, .int .i64 0, .nil]), none⟩])
  (.seq (.ops [⟨some 3, .al (.agg [.str ⟨#[]⟩, .int .i64 0, .nil]), none⟩])
  (.seq (.ops [⟨some 4, .fa 0 1 0 (.t 1), none⟩,
    ⟨some 5, .ld 1 false (.t 4), none⟩,
    ⟨some 6, .fa 0 1 0 (.t 3), none⟩,
    ⟨none, .st 1 (.t 6) (.t 5), none⟩])
  (.seq (.ops [⟨some 7, .fa 1 1 1 (.t 1), none⟩,
    ⟨some 8, .ld 1 false (.t 7), none⟩,
    ⟨some 9, .fa 1 1 1 (.t 3), none⟩,
    ⟨none, .st 1 (.t 9) (.t 8), none⟩])
  (.seq (.ops [⟨some 10, .fa 2 1 2 (.t 1), none⟩,
    ⟨some 11, .ld 1 false (.t 10), none⟩,
    ⟨some 12, .call 26 [(.t 11)], none⟩,
    ⟨some 13, .fa 2 1 2 (.t 3), none⟩,
    ⟨none, .st 1 (.t 13) (.t 12), none⟩])
  (.seq (.ops [⟨some 14, .ld 3 true (.t 3), none⟩,
    ⟨none, .st 3 (.t 2) (.t 14), none⟩])
  .ret))))))⟩
theorem c111 : compileF Try.prog [] 111 = some cf111 := by kernel_rfl
/-- laws.eqMatePlace -/
def cf114 : CF := ⟨21, [.t 4],
  (.seq (.ops [⟨some 2, .bx (.t 0), none⟩,
    ⟨some 3, .bx (.t 1), none⟩,
    ⟨some 4, .mv (.k (.bool false)), none⟩])
  (.seq (.seq (.ops [⟨some 5, .fa 0 1 0 (.t 2), none⟩,
    ⟨some 6, .ld 1 false (.t 5), none⟩,
    ⟨some 7, .fa 0 1 0 (.t 3), none⟩,
    ⟨some 8, .ld 1 false (.t 7), none⟩,
    ⟨some 9, .bin .neq (.t 6) (.t 8), none⟩])
  (.cond (.t 9)
  (.seq (.ops [⟨some 4, .mv (.k (.bool false)), none⟩])
  .ret)
  .skip))
  (.seq (.seq (.ops [⟨some 10, .fa 1 1 1 (.t 2), none⟩,
    ⟨some 11, .ld 1 false (.t 10), none⟩,
    ⟨some 12, .fa 1 1 1 (.t 3), none⟩,
    ⟨some 13, .ld 1 false (.t 12), none⟩,
    ⟨some 14, .bin .neq (.t 11) (.t 13), none⟩])
  (.cond (.t 14)
  (.seq (.ops [⟨some 4, .mv (.k (.bool false)), none⟩])
  .ret)
  .skip))
  (.seq (.seq (.ops [⟨some 15, .fa 2 1 2 (.t 2), none⟩,
    ⟨some 16, .ld 1 false (.t 15), none⟩,
    ⟨some 17, .fa 2 1 2 (.t 3), none⟩,
    ⟨some 18, .ld 1 false (.t 17), none⟩,
    ⟨some 19, .call 28 [(.t 16), (.t 18)], none⟩,
    ⟨some 20, .not (.t 19), none⟩])
  (.cond (.t 20)
  (.seq (.ops [⟨some 4, .mv (.k (.bool false)), none⟩])
  .ret)
  .skip))
  (.seq (.ops [⟨some 4, .mv (.k (.bool true)), none⟩])
  .ret)))))⟩
theorem c114 : compileF Try.prog [] 114 = some cf114 := by kernel_rfl
/-- laws.szMatePlaceS -/
def cf58 : CF := ⟨27, [.t 4],
  (.seq (.ops [⟨some 4, .mv (.k (.int .i64 0)), none⟩])
  (.seq (.ops [⟨some 6, .mv (.t 1), none⟩,
    ⟨some 7, .mv (.t 0), none⟩,
    ⟨some 8, .lenl (.t 7), none⟩,
    ⟨some 9, .bin .sub (.t 6) (.t 8), none⟩,
    ⟨some 1, .mv (.t 9), none⟩])
  (.seq (.seq (.ops [⟨some 10, .mv (.t 1), none⟩,
    ⟨some 11, .bin .lss (.t 10) (.k (.int .i64 0)), none⟩])
  (.cond (.t 11)
  (.seq (.ops [⟨some 4, .mv (.k (.int .i64 (-1))), none⟩])
  .ret)
  .skip))
  (.seq (.seq (.ops [⟨some 5, .mv (.k (.int .i64 0)), none⟩])
  (.block 0 (.loop (.seq (.seq (.ops [⟨some 12, .mv (.t 5), none⟩,
    ⟨some 13, .mv (.t 0), none⟩,
    ⟨some 14, .lenl (.t 13), none⟩,
    ⟨some 15, .bin .lss (.t 12) (.t 14), none⟩])
  (.cond (.t 15)
  .skip
  (.exit 0)))
  (.seq (.block 1 (.seq (.ops [⟨some 18, .mv (.t 0), none⟩,
    ⟨some 19, .mv (.t 5), none⟩,
    ⟨some 20, .ix 3 (.t 18) (.t 19), none⟩,
    ⟨some 21, .ld 3 true (.t 20), none⟩,
    ⟨some 22, .mv (.t 1), none⟩,
    ⟨some 23, .call 109 [(.t 21), (.t 22)], none⟩,
    ⟨some 1, .mv (.t 23), none⟩])
  (.seq (.ops [⟨some 24, .mv (.t 1), none⟩,
    ⟨some 25, .bin .lss (.t 24) (.k (.int .i64 0)), none⟩])
  (.cond (.t 25)
  (.seq (.ops [⟨some 4, .mv (.k (.int .i64 (-1))), none⟩])
  .ret)
  .skip))))
  (.ops [⟨some 16, .mv (.t 5), none⟩,
    ⟨some 17, .bin .add (.t 16) (.k (.int .i64 1)), none⟩,
    ⟨some 5, .mv (.t 17), none⟩]))))))
  (.seq (.ops [⟨some 26, .mv (.t 1), none⟩,
    ⟨some 4, .mv (.t 26), none⟩])
  .ret)))))⟩
theorem c58 : compileF Try.prog [] 58 = some cf58 := by kernel_rfl
/-- laws.toMatePlaceS -/
def cf64 : CF := ⟨23, [.t 2],
  (.seq (.ops [⟨some 2, .mv (.k (.nil)), none⟩])
  (.seq (.ops [⟨some 5, .mv (.t 0), none⟩,
    ⟨some 6, .lenl (.t 5), none⟩,
    ⟨some 7, .mk (.agg [.str ⟨#[]⟩, .int .i64 0, .nil]) 48 (.t 6) (.t 6), none⟩,
    ⟨some 3, .mv (.t 7), none⟩])
  (.seq (.seq (.ops [⟨some 4, .mv (.k (.int .i64 0)), none⟩])
  (.block 0 (.loop (.seq (.seq (.ops [⟨some 8, .mv (.t 4), none⟩,
    ⟨some 9, .mv (.t 0), none⟩,
    ⟨some 10, .lenl (.t 9), none⟩,
    ⟨some 11, .bin .lss (.t 8) (.t 10), none⟩])
  (.cond (.t 11)
  .skip
  (.exit 0)))
  (.seq (.block 1 (.ops [⟨some 14, .mv (.t 3), none⟩,
    ⟨some 15, .mv (.t 4), none⟩,
    ⟨some 16, .mv (.t 0), none⟩,
    ⟨some 17, .mv (.t 4), none⟩,
    ⟨some 18, .ix 3 (.t 16) (.t 17), none⟩,
    ⟨some 19, .ld 3 true (.t 18), none⟩,
    ⟨some 20, .call 111 [(.t 19)], none⟩,
    ⟨some 21, .ix 3 (.t 14) (.t 15), none⟩,
    ⟨none, .st 3 (.t 21) (.t 20), none⟩]))
  (.ops [⟨some 12, .mv (.t 4), none⟩,
    ⟨some 13, .bin .add (.t 12) (.k (.int .i64 1)), none⟩,
    ⟨some 4, .mv (.t 13), none⟩]))))))
  (.seq (.ops [⟨some 22, .mv (.t 3), none⟩,
    ⟨some 2, .mv (.t 22), none⟩])
  .ret))))⟩
theorem c64 : compileF Try.prog [] 64 = some cf64 := by kernel_rfl
/-- laws.eqMatePlaceS -/
def cf70 : CF := ⟨27, [.t 4],
  (.seq (.ops [⟨some 4, .mv (.k (.bool false)), none⟩])
  (.seq (.seq (.ops [⟨some 6, .mv (.t 0), none⟩,
    ⟨some 7, .lenl (.t 6), none⟩,
    ⟨some 8, .mv (.t 1), none⟩,
    ⟨some 9, .lenl (.t 8), none⟩,
    ⟨some 10, .bin .neq (.t 7) (.t 9), none⟩])
  (.cond (.t 10)
  (.seq (.ops [⟨some 4, .mv (.k (.bool false)), none⟩])
  .ret)
  .skip))
  (.seq (.seq (.ops [⟨some 5, .mv (.k (.int .i64 0)), none⟩])
  (.block 0 (.loop (.seq (.seq (.ops [⟨some 11, .mv (.t 5), none⟩,
    ⟨some 12, .mv (.t 0), none⟩,
    ⟨some 13, .lenl (.t 12), none⟩,
    ⟨some 14, .bin .lss (.t 11) (.t 13), none⟩])
  (.cond (.t 14)
  .skip
  (.exit 0)))
  (.seq (.block 1 (.seq (.quiet [⟨some 17, .mv (.t 0), none⟩,
    ⟨some 18, .mv (.t 5), none⟩,
    ⟨some 19, .ix 3 (.t 17) (.t 18), none⟩,
    ⟨some 20, .ld 3 true (.t 19), none⟩,
    ⟨some 21, .mv (.t 1), none⟩,
    ⟨some 22, .mv (.t 5), none⟩,
    ⟨some 23, .ix 3 (.t 21) (.t 22), none⟩,
    ⟨some 24, .ld 3 true (.t 23), none⟩,
    ⟨some 25, .call 114 [(.t 20), (.t 24)], none⟩,
    ⟨some 26, .not (.t 25), none⟩])
  (.cond (.t 26)
  (.seq (.ops [⟨some 4, .mv (.k (.bool false)), none⟩])
  .ret)
  .skip)))
  (.ops [⟨some 15, .mv (.t 5), none⟩,
    ⟨some 16, .bin .add (.t 15) (.k (.int .i64 1)), none⟩,
    ⟨some 5, .mv (.t 16), none⟩]))))))
  (.seq (.ops [⟨some 4, .mv (.k (.bool true)), none⟩])
  .ret))))⟩
theorem c70 : compileF Try.prog [] 70 = some cf70 := by kernel_rfl
/-- laws.szMateLand -/
def cf12 : CF := ⟨18, [.t 4],
  (.seq (.ops [⟨some 2, .bx (.t 0), none⟩,
    ⟨some 4, .mv (.k (.int .i64 0)), none⟩])
  (.seq (.ops [⟨some 5, .fa 1 1 1 (.t 2), none⟩,
    ⟨some 6, .ld 1 false (.t 5), none⟩,
    ⟨some 7, .mv (.t 1), none⟩,
    ⟨some 8, .call 57 [(.t 6), (.t 7)], none⟩,
    ⟨some 1, .mv (.t 8), none⟩])
  (.seq (.seq (.ops [⟨some 9, .mv (.t 1), none⟩,
    ⟨some 10, .bin .lss (.t 9) (.k (.int .i64 0)), none⟩])
  (.cond (.t 10)
  (.seq (.ops [⟨some 4, .mv (.k (.int .i64 (-1))), none⟩])
  .ret)
  .skip))
  (.seq (.ops [⟨some 11, .fa 2 1 2 (.t 2), none⟩,
    ⟨some 12, .ld 1 false (.t 11), none⟩,
    ⟨some 13, .mv (.t 1), none⟩,
    ⟨some 14, .call 58 [(.t 12), (.t 13)], none⟩,
    ⟨some 1, .mv (.t 14), none⟩])
  (.seq (.seq (.ops [⟨some 15, .mv (.t 1), none⟩,
    ⟨some 16, .bin .lss (.t 15) (.k (.int .i64 0)), none⟩])
  (.cond (.t 16)
  (.seq (.ops [⟨some 4, .mv (.k (.int .i64 (-1))), none⟩])
  .ret)
  .skip))
  (.seq (.ops [⟨some 17, .mv (.t 1), none⟩,
    ⟨some 4, .mv (.t 17), none⟩])
  .ret))))))⟩
theorem c12 : compileF Try.prog [] 12 = some cf12 := by kernel_rfl
/-- laws.toMateLand -/
def cf14 : CF := ⟨16, [.c 2 3 true],
  (.seq (.ops [⟨some 1, .bx (.t 0), none⟩,
    ⟨some 2, .al (.agg [.int .i64 0, .nil, .nil]), none⟩])
  (.seq (.ops [⟨some 3, .al (.agg [.int .i64 0, .nil, .nil]), none⟩])
  (.seq (.ops [⟨some 4, .fa 0 1 0 (.t 1), none⟩,
    ⟨some 5, .ld 1 false (.t 4), none⟩,
    ⟨some 6, .fa 0 1 0 (.t 3), none⟩,
    ⟨none, .st 1 (.t 6) (.t 5), none⟩])
  (.seq (.ops [⟨some 7, .fa 1 1 1 (.t 1), none⟩,
    ⟨some 8, .ld 1 false (.t 7), none⟩,
    ⟨some 9, .call 63 [(.t 8)], none⟩,
    ⟨some 10, .fa 1 1 1 (.t 3), none⟩,
    ⟨none, .st 1 (.t 10) (.t 9), none⟩])
  (.seq (.ops [⟨some 11, .fa 2 1 2 (.t 1), none⟩,
    ⟨some 12, .ld 1 false (.t 11), none⟩,
    ⟨some 13, .call 64 [(.t 12)], none⟩,
    ⟨some 14, .fa 2 1 2 (.t 3), none⟩,
    ⟨none, .st 1 (.t 14) (.t 13), none⟩])
  (.seq (.ops [⟨some 15, .ld 3 true (.t 3), none⟩,
    ⟨none, .st 3 (.t 2) (.t 15), none⟩])
  .ret))))))⟩
theorem c14 : compileF Try.prog [] 14 = some cf14 := by kernel_rfl
/-- laws.eqMateLand -/
def cf16 : CF := ⟨22, [.t 4],
  (.seq (.ops [⟨some 2, .bx (.t 0), none⟩,
    ⟨some 3, .bx (.t 1), none⟩,
    ⟨some 4, .mv (.k (.bool false)), none⟩])
  (.seq (.seq (.ops [⟨some 5, .fa 0 1 0 (.t 2), none⟩,
    ⟨some 6, .ld 1 false (.t 5), none⟩,
    ⟨some 7, .fa 0 1 0 (.t 3), none⟩,
    ⟨some 8, .ld 1 false (.t 7), none⟩,
    ⟨some 9, .bin .neq (.t 6) (.t 8), none⟩])
  (.cond (.t 9)
  (.seq (.ops [⟨some 4, .mv (.k (.bool false)), none⟩])
  .ret)
  .skip))
  (.seq (.seq (.ops [⟨some 10, .fa 1 1 1 (.t 2), none⟩,
    ⟨some 11, .ld 1 false (.t 10), none⟩,
    ⟨some 12, .fa 1 1 1 (.t 3), none⟩,
    ⟨some 13, .ld 1 false (.t 12), none⟩,
    ⟨some 14, .call 69 [(.t 11), (.t 13)], none⟩,
    ⟨some 15, .not (.t 14), none⟩])
  (.cond (.t 15)
  (.seq (.ops [⟨some 4, .mv (.k (.bool false)), none⟩])
  .ret)
  .skip))
  (.seq (.seq (.ops [⟨some 16, .fa 2 1 2 (.t 2), none⟩,
    ⟨some 17, .ld 1 false (.t 16), none⟩,
    ⟨some 18, .fa 2 1 2 (.t 3), none⟩,
    ⟨some 19, .ld 1 false (.t 18), none⟩,
    ⟨some 20, .call 70 [(.t 17), (.t 19)], none⟩,
    ⟨some 21, .not (.t 20), none⟩])
  (.cond (.t 21)
  (.seq (.ops [⟨some 4, .mv (.k (.bool false)), none⟩])
  .ret)
  .skip))
  (.seq (.ops [⟨some 4, .mv (.k (.bool true)), none⟩])
  .ret)))))⟩
theorem c16 : compileF Try.prog [] 16 = some cf16 := by kernel_rfl
structure MateGrant where
  fHold : ByteArray
  fBerth : ByteArray
  fCopy : ByteArray
  fAt : Int
  fUntil : Int
def MateGrant.D (x : MateGrant) : D := .agg [.str x.fHold, .str x.fBerth, .str x.fCopy, .int .i64 x.fAt, .int .i64 x.fUntil]
instance : Inhabited MateGrant := ⟨⟨⟨#[]⟩, ⟨#[]⟩, ⟨#[]⟩, 0, 0⟩⟩
structure MateGrant.wf (x : MateGrant) : Prop where
  fHold : x.fHold.size ≤ 9223372036854775807
  fBerth : x.fBerth.size ≤ 9223372036854775807
  fCopy : x.fCopy.size ≤ 9223372036854775807
structure MateGrant.small (x : MateGrant) : Prop where
theorem MateGrant.len (x : MateGrant) : x.D.len = 5 := rfl
theorem args_MateGrant {d : D} (h : Has (.st [.str, .str, .str, .int .i64, .int .i64]) d) : ∃ x : MateGrant, d = x.D ∧ x.wf := by
  rw [Has] at h
  obtain ⟨_, rfl, h⟩ := h
  simp only [HasF] at h
  obtain ⟨_, _, rfl, hHold, _, _, rfl, hBerth, _, _, rfl, hCopy, _, _, rfl, hAt, _, _, rfl, hUntil, rfl⟩ := h
  rw [Has] at hHold
  obtain ⟨vHold, rfl, wHold⟩ := hHold
  rw [Has] at hBerth
  obtain ⟨vBerth, rfl, wBerth⟩ := hBerth
  rw [Has] at hCopy
  obtain ⟨vCopy, rfl, wCopy⟩ := hCopy
  rw [Has] at hAt
  obtain ⟨vAt, rfl, _⟩ := hAt
  rw [Has] at hUntil
  obtain ⟨vUntil, rfl, _⟩ := hUntil
  exact ⟨⟨vHold, vBerth, vCopy, vAt, vUntil⟩, rfl, ⟨wHold, wBerth, wCopy⟩⟩
theorem sz_MateGrant (x : MateGrant) (k : Int) (hw : x.wf) (h0 : 0 ≤ k) (h1 : k ≤ 1048576) : XC Try.prog 108 [x.D, .int .i64 k] [] (fun d ls => ls = [] ∧ ∃ n, d = .int .i64 n ∧ (0 ≤ n → n ≤ k ∧ x.small)) := by
  refine XC.intro' hm [] rfl c108 (Nat.le_of_ble_eq_true rfl) ?_
  conv => whnf
  repeat' (first | (refine g_op ?_; conv => whnf) | (refine And.intro ?_ ?_; (focus (first | exact rfl | exact Nat.le_of_ble_eq_true rfl | decide | omega | fail)); conv => whnf) | (refine g_seq ?_) | (refine XS.go ?_) | (refine g_ops ?_) | (refine g_nil ?_; conv => whnf) | (refine g_cond ?_; conv => whnf) | (refine fun _ => ?_; conv => whnf) | fail)
  have q1 := hw.fHold
  have e1 : IntKind.wrap .i64 (k - (x.fHold.size : Int)) = k - (x.fHold.size : Int) := wrap_ok (by omega) (by omega)
  rw [e1]
  refine Br.mk (fun hb => ?_) (fun hb => ?_)
  · conv => whnf
    repeat' (first | (refine g_op ?_; conv => whnf) | (refine And.intro ?_ ?_; (focus (first | exact rfl | exact Nat.le_of_ble_eq_true rfl | decide | omega | fail)); conv => whnf) | (refine g_seq ?_) | (refine XS.go ?_) | (refine g_ops ?_) | (refine g_nil ?_; conv => whnf) | (refine g_ret ?_; conv => whnf) | (refine r_t ?_; conv => whnf) | (refine r_nil ?_; conv => whnf) | fail)
    exact ⟨_, rfl, fun h => absurd h (by decide)⟩
  have p1 : 0 ≤ (k - (x.fHold.size : Int)) := Int.not_lt.1 (of_decide_eq_false hb)
  conv => whnf
  repeat' (first | (refine g_op ?_; conv => whnf) | (refine And.intro ?_ ?_; (focus (first | exact rfl | exact Nat.le_of_ble_eq_true rfl | decide | omega | fail)); conv => whnf) | (refine g_seq ?_) | (refine XS.go ?_) | (refine g_ops ?_) | (refine g_nil ?_; conv => whnf) | (refine g_cond ?_; conv => whnf) | (refine g_skip ?_; conv => whnf) | fail)
  have q2 := hw.fBerth
  have e2 : IntKind.wrap .i64 ((k - (x.fHold.size : Int)) - (x.fBerth.size : Int)) = (k - (x.fHold.size : Int)) - (x.fBerth.size : Int) := wrap_ok (by omega) (by omega)
  rw [e2]
  refine Br.mk (fun hb => ?_) (fun hb => ?_)
  · conv => whnf
    repeat' (first | (refine g_op ?_; conv => whnf) | (refine And.intro ?_ ?_; (focus (first | exact rfl | exact Nat.le_of_ble_eq_true rfl | decide | omega | fail)); conv => whnf) | (refine g_seq ?_) | (refine XS.go ?_) | (refine g_ops ?_) | (refine g_nil ?_; conv => whnf) | (refine g_ret ?_; conv => whnf) | (refine r_t ?_; conv => whnf) | (refine r_nil ?_; conv => whnf) | fail)
    exact ⟨_, rfl, fun h => absurd h (by decide)⟩
  have p2 : 0 ≤ ((k - (x.fHold.size : Int)) - (x.fBerth.size : Int)) := Int.not_lt.1 (of_decide_eq_false hb)
  conv => whnf
  repeat' (first | (refine g_op ?_; conv => whnf) | (refine And.intro ?_ ?_; (focus (first | exact rfl | exact Nat.le_of_ble_eq_true rfl | decide | omega | fail)); conv => whnf) | (refine g_seq ?_) | (refine XS.go ?_) | (refine g_ops ?_) | (refine g_nil ?_; conv => whnf) | (refine g_cond ?_; conv => whnf) | (refine g_skip ?_; conv => whnf) | fail)
  have q3 := hw.fCopy
  have e3 : IntKind.wrap .i64 (((k - (x.fHold.size : Int)) - (x.fBerth.size : Int)) - (x.fCopy.size : Int)) = ((k - (x.fHold.size : Int)) - (x.fBerth.size : Int)) - (x.fCopy.size : Int) := wrap_ok (by omega) (by omega)
  rw [e3]
  refine Br.mk (fun hb => ?_) (fun hb => ?_)
  · conv => whnf
    repeat' (first | (refine g_op ?_; conv => whnf) | (refine And.intro ?_ ?_; (focus (first | exact rfl | exact Nat.le_of_ble_eq_true rfl | decide | omega | fail)); conv => whnf) | (refine g_seq ?_) | (refine XS.go ?_) | (refine g_ops ?_) | (refine g_nil ?_; conv => whnf) | (refine g_ret ?_; conv => whnf) | (refine r_t ?_; conv => whnf) | (refine r_nil ?_; conv => whnf) | fail)
    exact ⟨_, rfl, fun h => absurd h (by decide)⟩
  have p3 : 0 ≤ (((k - (x.fHold.size : Int)) - (x.fBerth.size : Int)) - (x.fCopy.size : Int)) := Int.not_lt.1 (of_decide_eq_false hb)
  conv => whnf
  repeat' (first | (refine g_op ?_; conv => whnf) | (refine And.intro ?_ ?_; (focus (first | exact rfl | exact Nat.le_of_ble_eq_true rfl | decide | omega | fail)); conv => whnf) | (refine g_seq ?_) | (refine XS.go ?_) | (refine g_ops ?_) | (refine g_nil ?_; conv => whnf) | (refine g_skip ?_; conv => whnf) | (refine g_ret ?_; conv => whnf) | (refine r_t ?_; conv => whnf) | (refine r_nil ?_; conv => whnf) | fail)
  exact ⟨_, rfl, fun _ => ⟨by omega, ⟨⟩⟩⟩
theorem to_MateGrant (x : MateGrant) (hs : x.small) : Rdr Try.prog 110 [x.D] x.D := by
  refine Rdr.intro' hm c110 (Nat.le_of_ble_eq_true rfl) ?_
  conv => whnf
  repeat' (first | (refine g_op ?_; conv => whnf) | (refine And.intro ?_ ?_; (focus (first | exact rfl | exact Nat.le_of_ble_eq_true rfl | decide | omega | fail)); conv => whnf) | (refine g_seq ?_) | (refine XS.go ?_) | (refine g_ops ?_) | (refine g_nil ?_; conv => whnf) | (refine g_ret ?_; conv => whnf) | (refine r_c ?_; conv => whnf) | (refine r_nil ?_; conv => whnf) | (refine fun _ => ?_; conv => whnf) | fail)
  all_goals rfl
theorem eq_MateGrant (x : MateGrant) (hs : x.small) : Rdr Try.prog 113 [x.D, x.D] (.bool true) := by
  refine Rdr.intro' hm c113 (Nat.le_of_ble_eq_true rfl) ?_
  conv => whnf
  repeat' (first | (refine g_op ?_; conv => whnf) | (refine And.intro ?_ ?_; (focus (first | exact rfl | exact Nat.le_of_ble_eq_true rfl | decide | omega | fail)); conv => whnf) | (refine g_seq ?_) | (refine XS.go ?_) | (refine g_ops ?_) | (refine g_nil ?_; conv => whnf) | (refine g_cond ?_; conv => whnf) | (refine g_skip ?_; conv => whnf) | (refine g_ret ?_; conv => whnf) | (refine r_t ?_; conv => whnf) | (refine r_nil ?_; conv => whnf) | (refine fun _ => ?_; conv => whnf) | (refine Br.f (by simp) ?_; conv => whnf) | fail)
  all_goals rfl
theorem args_MateGrantS {d : D} (h : Has (.sl 5 (.st [.str, .str, .str, .int .i64, .int .i64])) d) : ∃ l : (List MateGrant), d = .ro 5 (l.map MateGrant.D) ∧ l.length ≤ 9223372036854775807 ∧ ∀ y ∈ l, y.wf := by
  rw [Has] at h
  obtain ⟨ds, rfl, hm, hd⟩ := h
  have : ∃ l : (List MateGrant), ds = l.map MateGrant.D ∧ ∀ y ∈ l, y.wf := by
    clear hm
    induction ds with
    | nil => exact ⟨[], rfl, by simp⟩
    | cons d ds ih =>
      obtain ⟨l, rfl, hl⟩ := ih (fun x hx => hd x (List.mem_cons_of_mem _ hx))
      obtain ⟨v, rfl, wv⟩ : ∃ v : MateGrant, d = MateGrant.D v ∧ v.wf := args_MateGrant (hd _ (List.mem_cons_self ..))
      exact ⟨v :: l, rfl, fun y hy => by rcases List.mem_cons.1 hy with rfl | hy <;> first | exact wv | exact hl y hy⟩
  obtain ⟨l, rfl, hl⟩ := this
  exact ⟨l, rfl, by rw [List.length_map] at hm; exact hm, hl⟩
theorem to_MateGrantS (l : (List MateGrant)) (hs : l.length ≤ 1048576 ∧ ∀ y ∈ l, y.small) : Rdr Try.prog 63 [.ro 5 (l.map MateGrant.D)] (.ro 5 (l.map MateGrant.D)) :=
  toS_rdr hm c63 (zs := [.str ⟨#[]⟩, .str ⟨#[]⟩, .str ⟨#[]⟩, .int .i64 0, .int .i64 0]) rfl (by decide) (by decide) (by simpa using hs.1) (fun d hd => by obtain ⟨x, hx, rfl⟩ := List.mem_map.1 hd; exact ⟨_, rfl, rfl, to_MateGrant x (hs.2 x hx)⟩) (D.frozs_map (fun _ => rfl) _)
theorem eq_MateGrantS (l : (List MateGrant)) (hs : l.length ≤ 1048576 ∧ ∀ y ∈ l, y.small) : Rdr Try.prog 69 [.ro 5 (l.map MateGrant.D), .ro 5 (l.map MateGrant.D)] (.bool true) :=
  eqS_rdr hm c69 (by decide) (by rw [List.length_map]; exact Nat.le_trans hs.1 (by decide)) (fun d hd => by obtain ⟨x, hx, rfl⟩ := List.mem_map.1 hd; exact ⟨_, rfl, rfl, eq_MateGrant x (hs.2 x hx)⟩)
theorem sz_MateGrantS (l : (List MateGrant)) (k : Int) (hw : l.length ≤ 9223372036854775807 ∧ ∀ y ∈ l, y.wf) (h0 : 0 ≤ k) (h1 : k ≤ 1048576) : XC Try.prog 57 [.ro 5 (l.map MateGrant.D), .int .i64 k] [] (fun d ls => ls = [] ∧ ∃ n, d = .int .i64 n ∧ (0 ≤ n → n ≤ k ∧ l.length ≤ 1048576 ∧ ∀ y ∈ l, y.small)) :=
  szS_xc hm c57 (fun x : MateGrant => [.str x.fHold, .str x.fBerth, .str x.fCopy, .int .i64 x.fAt, .int .i64 x.fUntil]) (fun x => x.small) l k (by decide) (fun x => rfl) hw.1 h0 h1 (fun x hx k' h0' h1' => sz_MateGrant x k' (hw.2 x hx) h0' h1')
structure MatePlace where
  fBerth : ByteArray
  fSeen : Int
  fWants : (List MateWant)
def MatePlace.D (x : MatePlace) : D := .agg [.str x.fBerth, .int .i64 x.fSeen, .ro 7 (x.fWants.map MateWant.D)]
instance : Inhabited MatePlace := ⟨⟨⟨#[]⟩, 0, []⟩⟩
structure MatePlace.wf (x : MatePlace) : Prop where
  fBerth : x.fBerth.size ≤ 9223372036854775807
  fWants : x.fWants.length ≤ 9223372036854775807 ∧ ∀ y ∈ x.fWants, y.wf
structure MatePlace.small (x : MatePlace) : Prop where
  fWants : x.fWants.length ≤ 1048576 ∧ ∀ y ∈ x.fWants, y.small
theorem MatePlace.len (x : MatePlace) : x.D.len = 3 := rfl
theorem args_MatePlace {d : D} (h : Has (.st [.str, .int .i64, .sl 7 (.st [.str, .int .i64, .str, .int .i64, .int .i64, .int .i64, .int .i64])]) d) : ∃ x : MatePlace, d = x.D ∧ x.wf := by
  rw [Has] at h
  obtain ⟨_, rfl, h⟩ := h
  simp only [HasF] at h
  obtain ⟨_, _, rfl, hBerth, _, _, rfl, hSeen, _, _, rfl, hWants, rfl⟩ := h
  rw [Has] at hBerth
  obtain ⟨vBerth, rfl, wBerth⟩ := hBerth
  rw [Has] at hSeen
  obtain ⟨vSeen, rfl, _⟩ := hSeen
  obtain ⟨vWants, rfl, wWants⟩ := args_MateWantS hWants
  exact ⟨⟨vBerth, vSeen, vWants⟩, rfl, ⟨wBerth, wWants⟩⟩
theorem sz_MatePlace (x : MatePlace) (k : Int) (hw : x.wf) (h0 : 0 ≤ k) (h1 : k ≤ 1048576) : XC Try.prog 109 [x.D, .int .i64 k] [] (fun d ls => ls = [] ∧ ∃ n, d = .int .i64 n ∧ (0 ≤ n → n ≤ k ∧ x.small)) := by
  refine XC.intro' hm [] rfl c109 (Nat.le_of_ble_eq_true rfl) ?_
  conv => whnf
  repeat' (first | (refine g_op ?_; conv => whnf) | (refine And.intro ?_ ?_; (focus (first | exact rfl | exact Nat.le_of_ble_eq_true rfl | decide | omega | fail)); conv => whnf) | (refine g_seq ?_) | (refine XS.go ?_) | (refine g_ops ?_) | (refine g_nil ?_; conv => whnf) | (refine g_cond ?_; conv => whnf) | (refine fun _ => ?_; conv => whnf) | fail)
  have q1 := hw.fBerth
  have e1 : IntKind.wrap .i64 (k - (x.fBerth.size : Int)) = k - (x.fBerth.size : Int) := wrap_ok (by omega) (by omega)
  rw [e1]
  refine Br.mk (fun hb => ?_) (fun hb => ?_)
  · conv => whnf
    repeat' (first | (refine g_op ?_; conv => whnf) | (refine And.intro ?_ ?_; (focus (first | exact rfl | exact Nat.le_of_ble_eq_true rfl | decide | omega | fail)); conv => whnf) | (refine g_seq ?_) | (refine XS.go ?_) | (refine g_ops ?_) | (refine g_nil ?_; conv => whnf) | (refine g_ret ?_; conv => whnf) | (refine r_t ?_; conv => whnf) | (refine r_nil ?_; conv => whnf) | fail)
    exact ⟨_, rfl, fun h => absurd h (by decide)⟩
  have p1 : 0 ≤ (k - (x.fBerth.size : Int)) := Int.not_lt.1 (of_decide_eq_false hb)
  conv => whnf
  repeat' (first | (refine g_op ?_; conv => whnf) | (refine And.intro ?_ ?_; (focus (first | exact rfl | exact Nat.le_of_ble_eq_true rfl | decide | omega | fail)); conv => whnf) | (refine g_seq ?_) | (refine XS.go ?_) | (refine g_ops ?_) | (refine g_skip ?_; conv => whnf) | fail)
  refine XCL.ask (sz_MateWantS x.fWants _ hw.fWants (by omega) (by omega)) (fun d h => ?_)
  obtain ⟨n2, rfl, m2⟩ := h
  conv => whnf
  repeat' (first | (refine g_op ?_; conv => whnf) | (refine And.intro ?_ ?_; (focus (first | exact rfl | exact Nat.le_of_ble_eq_true rfl | decide | omega | fail)); conv => whnf) | (refine g_seq ?_) | (refine XS.go ?_) | (refine g_ops ?_) | (refine g_nil ?_; conv => whnf) | (refine g_cond ?_; conv => whnf) | fail)
  refine Br.mk (fun hb => ?_) (fun hb => ?_)
  · conv => whnf
    repeat' (first | (refine g_op ?_; conv => whnf) | (refine And.intro ?_ ?_; (focus (first | exact rfl | exact Nat.le_of_ble_eq_true rfl | decide | omega | fail)); conv => whnf) | (refine g_seq ?_) | (refine XS.go ?_) | (refine g_ops ?_) | (refine g_nil ?_; conv => whnf) | (refine g_ret ?_; conv => whnf) | (refine r_t ?_; conv => whnf) | (refine r_nil ?_; conv => whnf) | fail)
    exact ⟨_, rfl, fun h => absurd h (by decide)⟩
  have p2 : 0 ≤ n2 := Int.not_lt.1 (of_decide_eq_false hb)
  obtain ⟨l2, s2⟩ := m2 p2
  conv => whnf
  repeat' (first | (refine g_op ?_; conv => whnf) | (refine And.intro ?_ ?_; (focus (first | exact rfl | exact Nat.le_of_ble_eq_true rfl | decide | omega | fail)); conv => whnf) | (refine g_seq ?_) | (refine XS.go ?_) | (refine g_ops ?_) | (refine g_nil ?_; conv => whnf) | (refine g_skip ?_; conv => whnf) | (refine g_ret ?_; conv => whnf) | (refine r_t ?_; conv => whnf) | (refine r_nil ?_; conv => whnf) | fail)
  exact ⟨_, rfl, fun _ => ⟨by omega, ⟨s2⟩⟩⟩
theorem to_MatePlace (x : MatePlace) (hs : x.small) : Rdr Try.prog 111 [x.D] x.D := by
  refine Rdr.intro' hm c111 (Nat.le_of_ble_eq_true rfl) ?_
  conv => whnf
  repeat' (first | (refine g_op ?_; conv => whnf) | (refine And.intro ?_ ?_; (focus (first | exact rfl | exact Nat.le_of_ble_eq_true rfl | decide | omega | fail)); conv => whnf) | (refine g_seq ?_) | (refine XS.go ?_) | (refine g_ops ?_) | (refine g_nil ?_; conv => whnf) | (refine g_ret ?_; conv => whnf) | (refine r_c ?_; conv => whnf) | (refine r_nil ?_; conv => whnf) | (refine fun _ => ?_; conv => whnf) | (refine XCL.of_rdr (to_MateWantS x.fWants hs.fWants) ?_; conv => whnf) | fail)
  all_goals rfl
theorem eq_MatePlace (x : MatePlace) (hs : x.small) : Rdr Try.prog 114 [x.D, x.D] (.bool true) := by
  refine Rdr.intro' hm c114 (Nat.le_of_ble_eq_true rfl) ?_
  conv => whnf
  repeat' (first | (refine g_op ?_; conv => whnf) | (refine And.intro ?_ ?_; (focus (first | exact rfl | exact Nat.le_of_ble_eq_true rfl | decide | omega | fail)); conv => whnf) | (refine g_seq ?_) | (refine XS.go ?_) | (refine g_ops ?_) | (refine g_nil ?_; conv => whnf) | (refine Br.f ?_ ?_; (focus (first | assumption | exact rfl)); conv => whnf) | (refine g_cond ?_; conv => whnf) | (refine g_skip ?_; conv => whnf) | (refine g_ret ?_; conv => whnf) | (refine r_t ?_; conv => whnf) | (refine r_nil ?_; conv => whnf) | (refine fun _ => ?_; conv => whnf) | (refine Br.f (by simp) ?_; conv => whnf) | (refine XCL.of_rdr (eq_MateWantS x.fWants hs.fWants) ?_; conv => whnf) | fail)
  all_goals rfl
theorem args_MatePlaceS {d : D} (h : Has (.sl 3 (.st [.str, .int .i64, .sl 7 (.st [.str, .int .i64, .str, .int .i64, .int .i64, .int .i64, .int .i64])])) d) : ∃ l : (List MatePlace), d = .ro 3 (l.map MatePlace.D) ∧ l.length ≤ 9223372036854775807 ∧ ∀ y ∈ l, y.wf := by
  rw [Has] at h
  obtain ⟨ds, rfl, hm, hd⟩ := h
  have : ∃ l : (List MatePlace), ds = l.map MatePlace.D ∧ ∀ y ∈ l, y.wf := by
    clear hm
    induction ds with
    | nil => exact ⟨[], rfl, by simp⟩
    | cons d ds ih =>
      obtain ⟨l, rfl, hl⟩ := ih (fun x hx => hd x (List.mem_cons_of_mem _ hx))
      obtain ⟨v, rfl, wv⟩ : ∃ v : MatePlace, d = MatePlace.D v ∧ v.wf := args_MatePlace (hd _ (List.mem_cons_self ..))
      exact ⟨v :: l, rfl, fun y hy => by rcases List.mem_cons.1 hy with rfl | hy <;> first | exact wv | exact hl y hy⟩
  obtain ⟨l, rfl, hl⟩ := this
  exact ⟨l, rfl, by rw [List.length_map] at hm; exact hm, hl⟩
theorem to_MatePlaceS (l : (List MatePlace)) (hs : l.length ≤ 1048576 ∧ ∀ y ∈ l, y.small) : Rdr Try.prog 64 [.ro 3 (l.map MatePlace.D)] (.ro 3 (l.map MatePlace.D)) :=
  toS_rdr hm c64 (zs := [.str ⟨#[]⟩, .int .i64 0, .nil]) rfl (by decide) (by decide) (by simpa using hs.1) (fun d hd => by obtain ⟨x, hx, rfl⟩ := List.mem_map.1 hd; exact ⟨_, rfl, rfl, to_MatePlace x (hs.2 x hx)⟩) (D.frozs_map (fun _ => rfl) _)
theorem eq_MatePlaceS (l : (List MatePlace)) (hs : l.length ≤ 1048576 ∧ ∀ y ∈ l, y.small) : Rdr Try.prog 70 [.ro 3 (l.map MatePlace.D), .ro 3 (l.map MatePlace.D)] (.bool true) :=
  eqS_rdr hm c70 (by decide) (by rw [List.length_map]; exact Nat.le_trans hs.1 (by decide)) (fun d hd => by obtain ⟨x, hx, rfl⟩ := List.mem_map.1 hd; exact ⟨_, rfl, rfl, eq_MatePlace x (hs.2 x hx)⟩)
theorem sz_MatePlaceS (l : (List MatePlace)) (k : Int) (hw : l.length ≤ 9223372036854775807 ∧ ∀ y ∈ l, y.wf) (h0 : 0 ≤ k) (h1 : k ≤ 1048576) : XC Try.prog 58 [.ro 3 (l.map MatePlace.D), .int .i64 k] [] (fun d ls => ls = [] ∧ ∃ n, d = .int .i64 n ∧ (0 ≤ n → n ≤ k ∧ l.length ≤ 1048576 ∧ ∀ y ∈ l, y.small)) :=
  szS_xc hm c58 (fun x : MatePlace => [.str x.fBerth, .int .i64 x.fSeen, .ro 7 (x.fWants.map MateWant.D)]) (fun x => x.small) l k (by decide) (fun x => rfl) hw.1 h0 h1 (fun x hx k' h0' h1' => sz_MatePlace x k' (hw.2 x hx) h0' h1')
structure MateLand where
  fTime : Int
  fGrants : (List MateGrant)
  fPlaces : (List MatePlace)
def MateLand.D (x : MateLand) : D := .agg [.int .i64 x.fTime, .ro 5 (x.fGrants.map MateGrant.D), .ro 3 (x.fPlaces.map MatePlace.D)]
instance : Inhabited MateLand := ⟨⟨0, [], []⟩⟩
structure MateLand.wf (x : MateLand) : Prop where
  fGrants : x.fGrants.length ≤ 9223372036854775807 ∧ ∀ y ∈ x.fGrants, y.wf
  fPlaces : x.fPlaces.length ≤ 9223372036854775807 ∧ ∀ y ∈ x.fPlaces, y.wf
structure MateLand.small (x : MateLand) : Prop where
  fGrants : x.fGrants.length ≤ 1048576 ∧ ∀ y ∈ x.fGrants, y.small
  fPlaces : x.fPlaces.length ≤ 1048576 ∧ ∀ y ∈ x.fPlaces, y.small
theorem MateLand.len (x : MateLand) : x.D.len = 3 := rfl
theorem args_MateLand {d : D} (h : Has (.st [.int .i64, .sl 5 (.st [.str, .str, .str, .int .i64, .int .i64]), .sl 3 (.st [.str, .int .i64, .sl 7 (.st [.str, .int .i64, .str, .int .i64, .int .i64, .int .i64, .int .i64])])]) d) : ∃ x : MateLand, d = x.D ∧ x.wf := by
  rw [Has] at h
  obtain ⟨_, rfl, h⟩ := h
  simp only [HasF] at h
  obtain ⟨_, _, rfl, hTime, _, _, rfl, hGrants, _, _, rfl, hPlaces, rfl⟩ := h
  rw [Has] at hTime
  obtain ⟨vTime, rfl, _⟩ := hTime
  obtain ⟨vGrants, rfl, wGrants⟩ := args_MateGrantS hGrants
  obtain ⟨vPlaces, rfl, wPlaces⟩ := args_MatePlaceS hPlaces
  exact ⟨⟨vTime, vGrants, vPlaces⟩, rfl, ⟨wGrants, wPlaces⟩⟩
theorem sz_MateLand (x : MateLand) (k : Int) (hw : x.wf) (h0 : 0 ≤ k) (h1 : k ≤ 1048576) : XC Try.prog 12 [x.D, .int .i64 k] [] (fun d ls => ls = [] ∧ ∃ n, d = .int .i64 n ∧ (0 ≤ n → n ≤ k ∧ x.small)) := by
  refine XC.intro' hm [] rfl c12 (Nat.le_of_ble_eq_true rfl) ?_
  conv => whnf
  repeat' (first | (refine g_op ?_; conv => whnf) | (refine And.intro ?_ ?_; (focus (first | exact rfl | exact Nat.le_of_ble_eq_true rfl | decide | omega | fail)); conv => whnf) | (refine g_seq ?_) | (refine XS.go ?_) | (refine g_ops ?_) | (refine g_nil ?_; conv => whnf) | (refine fun _ => ?_; conv => whnf) | fail)
  refine XCL.ask (sz_MateGrantS x.fGrants _ hw.fGrants (by omega) (by omega)) (fun d h => ?_)
  obtain ⟨n1, rfl, m1⟩ := h
  conv => whnf
  repeat' (first | (refine g_op ?_; conv => whnf) | (refine And.intro ?_ ?_; (focus (first | exact rfl | exact Nat.le_of_ble_eq_true rfl | decide | omega | fail)); conv => whnf) | (refine g_seq ?_) | (refine XS.go ?_) | (refine g_ops ?_) | (refine g_nil ?_; conv => whnf) | (refine g_cond ?_; conv => whnf) | fail)
  refine Br.mk (fun hb => ?_) (fun hb => ?_)
  · conv => whnf
    repeat' (first | (refine g_op ?_; conv => whnf) | (refine And.intro ?_ ?_; (focus (first | exact rfl | exact Nat.le_of_ble_eq_true rfl | decide | omega | fail)); conv => whnf) | (refine g_seq ?_) | (refine XS.go ?_) | (refine g_ops ?_) | (refine g_nil ?_; conv => whnf) | (refine g_ret ?_; conv => whnf) | (refine r_t ?_; conv => whnf) | (refine r_nil ?_; conv => whnf) | fail)
    exact ⟨_, rfl, fun h => absurd h (by decide)⟩
  have p1 : 0 ≤ n1 := Int.not_lt.1 (of_decide_eq_false hb)
  obtain ⟨l1, s1⟩ := m1 p1
  conv => whnf
  repeat' (first | (refine g_op ?_; conv => whnf) | (refine And.intro ?_ ?_; (focus (first | exact rfl | exact Nat.le_of_ble_eq_true rfl | decide | omega | fail)); conv => whnf) | (refine g_seq ?_) | (refine XS.go ?_) | (refine g_ops ?_) | (refine g_skip ?_; conv => whnf) | fail)
  refine XCL.ask (sz_MatePlaceS x.fPlaces _ hw.fPlaces (by omega) (by omega)) (fun d h => ?_)
  obtain ⟨n2, rfl, m2⟩ := h
  conv => whnf
  repeat' (first | (refine g_op ?_; conv => whnf) | (refine And.intro ?_ ?_; (focus (first | exact rfl | exact Nat.le_of_ble_eq_true rfl | decide | omega | fail)); conv => whnf) | (refine g_seq ?_) | (refine XS.go ?_) | (refine g_ops ?_) | (refine g_nil ?_; conv => whnf) | (refine g_cond ?_; conv => whnf) | fail)
  refine Br.mk (fun hb => ?_) (fun hb => ?_)
  · conv => whnf
    repeat' (first | (refine g_op ?_; conv => whnf) | (refine And.intro ?_ ?_; (focus (first | exact rfl | exact Nat.le_of_ble_eq_true rfl | decide | omega | fail)); conv => whnf) | (refine g_seq ?_) | (refine XS.go ?_) | (refine g_ops ?_) | (refine g_nil ?_; conv => whnf) | (refine g_ret ?_; conv => whnf) | (refine r_t ?_; conv => whnf) | (refine r_nil ?_; conv => whnf) | fail)
    exact ⟨_, rfl, fun h => absurd h (by decide)⟩
  have p2 : 0 ≤ n2 := Int.not_lt.1 (of_decide_eq_false hb)
  obtain ⟨l2, s2⟩ := m2 p2
  conv => whnf
  repeat' (first | (refine g_op ?_; conv => whnf) | (refine And.intro ?_ ?_; (focus (first | exact rfl | exact Nat.le_of_ble_eq_true rfl | decide | omega | fail)); conv => whnf) | (refine g_seq ?_) | (refine XS.go ?_) | (refine g_ops ?_) | (refine g_nil ?_; conv => whnf) | (refine g_skip ?_; conv => whnf) | (refine g_ret ?_; conv => whnf) | (refine r_t ?_; conv => whnf) | (refine r_nil ?_; conv => whnf) | fail)
  exact ⟨_, rfl, fun _ => ⟨by omega, ⟨s1, s2⟩⟩⟩
theorem to_MateLand (x : MateLand) (hs : x.small) : Rdr Try.prog 14 [x.D] x.D := by
  refine Rdr.intro' hm c14 (Nat.le_of_ble_eq_true rfl) ?_
  conv => whnf
  repeat' (first | (refine g_op ?_; conv => whnf) | (refine And.intro ?_ ?_; (focus (first | exact rfl | exact Nat.le_of_ble_eq_true rfl | decide | omega | fail)); conv => whnf) | (refine g_seq ?_) | (refine XS.go ?_) | (refine g_ops ?_) | (refine g_nil ?_; conv => whnf) | (refine g_ret ?_; conv => whnf) | (refine r_c ?_; conv => whnf) | (refine r_nil ?_; conv => whnf) | (refine fun _ => ?_; conv => whnf) | (refine XCL.of_rdr (to_MateGrantS x.fGrants hs.fGrants) ?_; conv => whnf) | (refine XCL.of_rdr (to_MatePlaceS x.fPlaces hs.fPlaces) ?_; conv => whnf) | fail)
  all_goals rfl
theorem eq_MateLand (x : MateLand) (hs : x.small) : Rdr Try.prog 16 [x.D, x.D] (.bool true) := by
  refine Rdr.intro' hm c16 (Nat.le_of_ble_eq_true rfl) ?_
  conv => whnf
  repeat' (first | (refine g_op ?_; conv => whnf) | (refine And.intro ?_ ?_; (focus (first | exact rfl | exact Nat.le_of_ble_eq_true rfl | decide | omega | fail)); conv => whnf) | (refine g_seq ?_) | (refine XS.go ?_) | (refine g_ops ?_) | (refine g_nil ?_; conv => whnf) | (refine Br.f ?_ ?_; (focus (first | assumption | exact rfl)); conv => whnf) | (refine g_cond ?_; conv => whnf) | (refine g_skip ?_; conv => whnf) | (refine g_ret ?_; conv => whnf) | (refine r_t ?_; conv => whnf) | (refine r_nil ?_; conv => whnf) | (refine fun _ => ?_; conv => whnf) | (refine Br.f (by simp) ?_; conv => whnf) | (refine XCL.of_rdr (eq_MateGrantS x.fGrants hs.fGrants) ?_; conv => whnf) | (refine XCL.of_rdr (eq_MatePlaceS x.fPlaces hs.fPlaces) ?_; conv => whnf) | fail)
  all_goals rfl
/-- spec.l15PlacesOk -/
def cf62 : CF := ⟨99, [.t 2],
  (.seq (.ops [⟨some 2, .mv (.k (.bool false)), none⟩])
  (.seq (.seq (.ops [⟨some 8, .mv (.t 0), none⟩,
    ⟨some 9, .lenl (.t 8), none⟩,
    ⟨some 10, .bin .gtr (.t 9) (.k (.int .i64 4)), none⟩])
  (.cond (.t 10)
  (.seq (.ops [⟨some 2, .mv (.k (.bool false)), none⟩])
  .ret)
  .skip))
  (.seq (.seq (.ops [⟨some 3, .mv (.k (.int .i64 0)), none⟩])
  (.block 0 (.loop (.seq (.seq (.ops [⟨some 11, .mv (.t 3), none⟩,
    ⟨some 12, .mv (.t 0), none⟩,
    ⟨some 13, .lenl (.t 12), none⟩,
    ⟨some 14, .bin .lss (.t 11) (.t 13), none⟩])
  (.cond (.t 14)
  .skip
  (.exit 0)))
  (.seq (.block 1 (.seq (.ops [⟨some 17, .mv (.t 0), none⟩,
    ⟨some 18, .mv (.t 3), none⟩,
    ⟨some 19, .ix 3 (.t 17) (.t 18), none⟩,
    ⟨some 20, .ld 3 true (.t 19), none⟩,
    ⟨some 4, .al (.agg [.str ⟨#[]⟩, .int .i64 0, .nil]), none⟩,
    ⟨none, .st 3 (.t 4) (.t 20), none⟩])
  (.seq (.seq (.quiet [⟨some 21, .fa 0 1 0 (.t 4), none⟩,
    ⟨some 22, .ld 1 false (.t 21), none⟩,
    ⟨some 23, .call 61 [(.t 22)], none⟩,
    ⟨some 24, .not (.t 23), none⟩,
    ⟨some 25, .mv (.t 24), none⟩,
    ⟨some 26, .fa 1 1 1 (.t 4), some (25, false)⟩,
    ⟨some 27, .ld 1 false (.t 26), some (25, false)⟩,
    ⟨some 28, .call 59 [(.t 27), (.k (.int .i64 1)), (.k (.int .i64 1000000))], some (25, false)⟩,
    ⟨some 29, .not (.t 28), some (25, false)⟩,
    ⟨some 30, .pick (.t 25) (.k (.bool true)) (.t 29), none⟩,
    ⟨some 31, .mv (.t 30), none⟩,
    ⟨some 32, .fa 2 1 2 (.t 4), some (31, false)⟩,
    ⟨some 33, .ld 1 false (.t 32), some (31, false)⟩,
    ⟨some 34, .call 81 [(.t 33)], some (31, false)⟩,
    ⟨some 35, .not (.t 34), some (31, false)⟩,
    ⟨some 36, .pick (.t 31) (.k (.bool true)) (.t 35), none⟩,
    ⟨some 37, .mv (.t 36), none⟩,
    ⟨some 38, .mv (.t 3), some (37, false)⟩,
    ⟨some 39, .bin .gtr (.t 38) (.k (.int .i64 0)), some (37, false)⟩,
    ⟨some 40, .mv (.t 39), some (37, false)⟩,
    ⟨some 41, .mv (.t 0), some (40, true)⟩,
    ⟨some 42, .mv (.t 3), some (40, true)⟩,
    ⟨some 43, .bin .sub (.t 42) (.k (.int .i64 1)), some (40, true)⟩,
    ⟨some 44, .ix 3 (.t 41) (.t 43), some (40, true)⟩,
    ⟨some 45, .fa 0 1 0 (.t 44), some (40, true)⟩,
    ⟨some 46, .ld 1 false (.t 45), some (40, true)⟩,
    ⟨some 47, .fa 0 1 0 (.t 4), some (40, true)⟩,
    ⟨some 48, .ld 1 false (.t 47), some (40, true)⟩,
    ⟨some 49, .bin .geq (.t 46) (.t 48), some (40, true)⟩,
    ⟨some 50, .pick (.t 40) (.t 49) (.k (.bool false)), some (37, false)⟩,
    ⟨some 51, .pick (.t 37) (.k (.bool true)) (.t 50), none⟩])
  (.cond (.t 51)
  (.seq (.ops [⟨some 2, .mv (.k (.bool false)), none⟩])
  .ret)
  .skip))
  (.seq (.ops [⟨some 5, .mv (.k (.int .i64 0)), none⟩])
  (.block 2 (.loop (.seq (.seq (.ops [⟨some 52, .mv (.t 5), none⟩,
    ⟨some 53, .mv (.t 3), none⟩,
    ⟨some 54, .bin .lss (.t 52) (.t 53), none⟩])
  (.cond (.t 54)
  .skip
  (.exit 2)))
  (.seq (.block 3 (.seq (.ops [⟨some 6, .mv (.k (.int .i64 0)), none⟩])
  (.block 4 (.loop (.seq (.seq (.ops [⟨some 57, .mv (.t 6), none⟩,
    ⟨some 58, .fa 2 1 2 (.t 4), none⟩,
    ⟨some 59, .ld 1 false (.t 58), none⟩,
    ⟨some 60, .lenl (.t 59), none⟩,
    ⟨some 61, .bin .lss (.t 57) (.t 60), none⟩])
  (.cond (.t 61)
  .skip
  (.exit 4)))
  (.seq (.block 5 (.seq (.ops [⟨some 7, .mv (.k (.int .i64 0)), none⟩])
  (.block 6 (.loop (.seq (.seq (.ops [⟨some 64, .mv (.t 7), none⟩,
    ⟨some 65, .mv (.t 0), none⟩,
    ⟨some 66, .mv (.t 5), none⟩,
    ⟨some 67, .ix 3 (.t 65) (.t 66), none⟩,
    ⟨some 68, .fa 2 1 2 (.t 67), none⟩,
    ⟨some 69, .ld 1 false (.t 68), none⟩,
    ⟨some 70, .lenl (.t 69), none⟩,
    ⟨some 71, .bin .lss (.t 64) (.t 70), none⟩])
  (.cond (.t 71)
  .skip
  (.exit 6)))
  (.seq (.block 7 (.seq (.quiet [⟨some 74, .fa 2 1 2 (.t 4), none⟩,
    ⟨some 75, .ld 1 false (.t 74), none⟩,
    ⟨some 76, .mv (.t 6), none⟩,
    ⟨some 77, .ix 7 (.t 75) (.t 76), none⟩,
    ⟨some 78, .fa 2 1 2 (.t 77), none⟩,
    ⟨some 79, .ld 1 false (.t 78), none⟩,
    ⟨some 80, .bin .neq (.t 79) (.k (.str ⟨#[]⟩)), none⟩,
    ⟨some 81, .mv (.t 80), none⟩,
    ⟨some 82, .fa 2 1 2 (.t 4), some (81, true)⟩,
    ⟨some 83, .ld 1 false (.t 82), some (81, true)⟩,
    ⟨some 84, .mv (.t 6), some (81, true)⟩,
    ⟨some 85, .ix 7 (.t 83) (.t 84), some (81, true)⟩,
    ⟨some 86, .fa 2 1 2 (.t 85), some (81, true)⟩,
    ⟨some 87, .ld 1 false (.t 86), some (81, true)⟩,
    ⟨some 88, .mv (.t 0), some (81, true)⟩,
    ⟨some 89, .mv (.t 5), some (81, true)⟩,
    ⟨some 90, .ix 3 (.t 88) (.t 89), some (81, true)⟩,
    ⟨some 91, .fa 2 1 2 (.t 90), some (81, true)⟩,
    ⟨some 92, .ld 1 false (.t 91), some (81, true)⟩,
    ⟨some 93, .mv (.t 7), some (81, true)⟩,
    ⟨some 94, .ix 7 (.t 92) (.t 93), some (81, true)⟩,
    ⟨some 95, .fa 2 1 2 (.t 94), some (81, true)⟩,
    ⟨some 96, .ld 1 false (.t 95), some (81, true)⟩,
    ⟨some 97, .bin .eql (.t 87) (.t 96), some (81, true)⟩,
    ⟨some 98, .pick (.t 81) (.t 97) (.k (.bool false)), none⟩])
  (.cond (.t 98)
  (.seq (.ops [⟨some 2, .mv (.k (.bool false)), none⟩])
  .ret)
  .skip)))
  (.ops [⟨some 72, .mv (.t 7), none⟩,
    ⟨some 73, .bin .add (.t 72) (.k (.int .i64 1)), none⟩,
    ⟨some 7, .mv (.t 73), none⟩])))))))
  (.ops [⟨some 62, .mv (.t 6), none⟩,
    ⟨some 63, .bin .add (.t 62) (.k (.int .i64 1)), none⟩,
    ⟨some 6, .mv (.t 63), none⟩])))))))
  (.ops [⟨some 55, .mv (.t 5), none⟩,
    ⟨some 56, .bin .add (.t 55) (.k (.int .i64 1)), none⟩,
    ⟨some 5, .mv (.t 56), none⟩])))))))))
  (.ops [⟨some 15, .mv (.t 3), none⟩,
    ⟨some 16, .bin .add (.t 15) (.k (.int .i64 1)), none⟩,
    ⟨some 3, .mv (.t 16), none⟩]))))))
  (.seq (.ops [⟨some 2, .mv (.k (.bool true)), none⟩])
  .ret))))⟩
theorem c62 : compileF Try.prog [] 62 = some cf62 := by kernel_rfl
/-- spec.MateLandOk -/
def cf13 : CF := ⟨83, [.t 2],
  (.seq (.ops [⟨some 1, .bx (.t 0), none⟩,
    ⟨some 2, .mv (.k (.bool false)), none⟩])
  (.seq (.seq (.ops [⟨some 5, .fa 0 1 0 (.t 1), none⟩,
    ⟨some 6, .ld 1 false (.t 5), none⟩,
    ⟨some 7, .call 59 [(.t 6), (.k (.int .i64 0)), (.k (.int .i64 2000000))], none⟩,
    ⟨some 8, .not (.t 7), none⟩,
    ⟨some 9, .mv (.t 8), none⟩,
    ⟨some 10, .fa 0 1 0 (.t 1), some (9, false)⟩,
    ⟨some 11, .ld 1 false (.t 10), some (9, false)⟩,
    ⟨some 12, .bin .rem (.t 11) (.k (.int .i64 2)), some (9, false)⟩,
    ⟨some 13, .bin .neq (.t 12) (.k (.int .i64 0)), some (9, false)⟩,
    ⟨some 14, .pick (.t 9) (.k (.bool true)) (.t 13), none⟩,
    ⟨some 15, .mv (.t 14), none⟩,
    ⟨some 16, .fa 1 1 1 (.t 1), some (15, false)⟩,
    ⟨some 17, .ld 1 false (.t 16), some (15, false)⟩,
    ⟨some 18, .lenl (.t 17), some (15, false)⟩,
    ⟨some 19, .bin .gtr (.t 18) (.k (.int .i64 40)), some (15, false)⟩,
    ⟨some 20, .pick (.t 15) (.k (.bool true)) (.t 19), none⟩])
  (.cond (.t 20)
  (.seq (.ops [⟨some 2, .mv (.k (.bool false)), none⟩])
  .ret)
  .skip))
  (.seq (.seq (.ops [⟨some 3, .mv (.k (.int .i64 0)), none⟩])
  (.block 0 (.loop (.seq (.seq (.ops [⟨some 21, .mv (.t 3), none⟩,
    ⟨some 22, .fa 1 1 1 (.t 1), none⟩,
    ⟨some 23, .ld 1 false (.t 22), none⟩,
    ⟨some 24, .lenl (.t 23), none⟩,
    ⟨some 25, .bin .lss (.t 21) (.t 24), none⟩])
  (.cond (.t 25)
  .skip
  (.exit 0)))
  (.seq (.block 1 (.seq (.ops [⟨some 28, .fa 1 1 1 (.t 1), none⟩,
    ⟨some 29, .ld 1 false (.t 28), none⟩,
    ⟨some 30, .mv (.t 3), none⟩,
    ⟨some 31, .ix 5 (.t 29) (.t 30), none⟩,
    ⟨some 32, .ld 5 true (.t 31), none⟩,
    ⟨some 4, .al (.agg [.str ⟨#[]⟩, .str ⟨#[]⟩, .str ⟨#[]⟩, .int .i64 0, .int .i64 0]), none⟩,
    ⟨none, .st 5 (.t 4) (.t 32), none⟩])
  (.seq (.quiet [⟨some 33, .fa 0 1 0 (.t 4), none⟩,
    ⟨some 34, .ld 1 false (.t 33), none⟩,
    ⟨some 35, .call 60 [(.t 34)], none⟩,
    ⟨some 36, .not (.t 35), none⟩,
    ⟨some 37, .mv (.t 36), none⟩,
    ⟨some 38, .fa 1 1 1 (.t 4), some (37, false)⟩,
    ⟨some 39, .ld 1 false (.t 38), some (37, false)⟩,
    ⟨some 40, .call 61 [(.t 39)], some (37, false)⟩,
    ⟨some 41, .not (.t 40), some (37, false)⟩,
    ⟨some 42, .pick (.t 37) (.k (.bool true)) (.t 41), none⟩,
    ⟨some 43, .mv (.t 42), none⟩,
    ⟨some 44, .fa 2 1 2 (.t 4), some (43, false)⟩,
    ⟨some 45, .ld 1 false (.t 44), some (43, false)⟩,
    ⟨some 46, .call 61 [(.t 45)], some (43, false)⟩,
    ⟨some 47, .not (.t 46), some (43, false)⟩,
    ⟨some 48, .pick (.t 43) (.k (.bool true)) (.t 47), none⟩,
    ⟨some 49, .mv (.t 48), none⟩,
    ⟨some 50, .fa 3 1 3 (.t 4), some (49, false)⟩,
    ⟨some 51, .ld 1 false (.t 50), some (49, false)⟩,
    ⟨some 52, .call 59 [(.t 51), (.k (.int .i64 0)), (.k (.int .i64 1000000))], some (49, false)⟩,
    ⟨some 53, .not (.t 52), some (49, false)⟩,
    ⟨some 54, .pick (.t 49) (.k (.bool true)) (.t 53), none⟩,
    ⟨some 55, .mv (.t 54), none⟩,
    ⟨some 56, .fa 4 1 4 (.t 4), some (55, false)⟩,
    ⟨some 57, .ld 1 false (.t 56), some (55, false)⟩,
    ⟨some 58, .fa 0 1 0 (.t 1), some (55, false)⟩,
    ⟨some 59, .ld 1 false (.t 58), some (55, false)⟩,
    ⟨some 60, .bin .add (.t 59) (.k (.int .i64 32)), some (55, false)⟩,
    ⟨some 61, .call 59 [(.t 57), (.k (.int .i64 0)), (.t 60)], some (55, false)⟩,
    ⟨some 62, .not (.t 61), some (55, false)⟩,
    ⟨some 63, .pick (.t 55) (.k (.bool true)) (.t 62), none⟩,
    ⟨some 64, .mv (.t 63), none⟩,
    ⟨some 65, .mv (.t 3), some (64, false)⟩,
    ⟨some 66, .bin .gtr (.t 65) (.k (.int .i64 0)), some (64, false)⟩,
    ⟨some 67, .mv (.t 66), some (64, false)⟩,
    ⟨some 68, .fa 1 1 1 (.t 1), some (67, true)⟩,
    ⟨some 69, .ld 1 false (.t 68), some (67, true)⟩,
    ⟨some 70, .mv (.t 3), some (67, true)⟩,
    ⟨some 71, .bin .sub (.t 70) (.k (.int .i64 1)), some (67, true)⟩,
    ⟨some 72, .ix 5 (.t 69) (.t 71), some (67, true)⟩,
    ⟨some 73, .fa 0 1 0 (.t 72), some (67, true)⟩,
    ⟨some 74, .ld 1 false (.t 73), some (67, true)⟩,
    ⟨some 75, .fa 0 1 0 (.t 4), some (67, true)⟩,
    ⟨some 76, .ld 1 false (.t 75), some (67, true)⟩,
    ⟨some 77, .bin .geq (.t 74) (.t 76), some (67, true)⟩,
    ⟨some 78, .pick (.t 67) (.t 77) (.k (.bool false)), some (64, false)⟩,
    ⟨some 79, .pick (.t 64) (.k (.bool true)) (.t 78), none⟩])
  (.cond (.t 79)
  (.seq (.ops [⟨some 2, .mv (.k (.bool false)), none⟩])
  .ret)
  .skip))))
  (.ops [⟨some 26, .mv (.t 3), none⟩,
    ⟨some 27, .bin .add (.t 26) (.k (.int .i64 1)), none⟩,
    ⟨some 3, .mv (.t 27), none⟩]))))))
  (.seq (.ops [⟨some 80, .fa 2 1 2 (.t 1), none⟩,
    ⟨some 81, .ld 1 false (.t 80), none⟩,
    ⟨some 82, .call 62 [(.t 81)], none⟩,
    ⟨some 2, .mv (.t 82), none⟩])
  .ret))))⟩
theorem c13 : compileF Try.prog [] 13 = some cf13 := by kernel_rfl
/-- impl.MateLandOk -/
def cf15 : CF := ⟨150, [.t 2],
  (.seq (.ops [⟨some 1, .bx (.t 0), none⟩,
    ⟨some 2, .mv (.k (.bool false)), none⟩])
  (.seq (.seq (.ops [⟨some 10, .fa 0 1 0 (.t 1), none⟩,
    ⟨some 11, .ld 1 false (.t 10), none⟩,
    ⟨some 12, .call 65 [(.t 11), (.k (.int .i64 0)), (.k (.int .i64 2000000))], none⟩,
    ⟨some 13, .not (.t 12), none⟩,
    ⟨some 14, .mv (.t 13), none⟩,
    ⟨some 15, .fa 0 1 0 (.t 1), some (14, false)⟩,
    ⟨some 16, .ld 1 false (.t 15), some (14, false)⟩,
    ⟨some 17, .bin .rem (.t 16) (.k (.int .i64 2)), some (14, false)⟩,
    ⟨some 18, .bin .neq (.t 17) (.k (.int .i64 0)), some (14, false)⟩,
    ⟨some 19, .pick (.t 14) (.k (.bool true)) (.t 18), none⟩,
    ⟨some 20, .mv (.t 19), none⟩,
    ⟨some 21, .fa 1 1 1 (.t 1), some (20, false)⟩,
    ⟨some 22, .ld 1 false (.t 21), some (20, false)⟩,
    ⟨some 23, .lenl (.t 22), some (20, false)⟩,
    ⟨some 24, .bin .gtr (.t 23) (.k (.int .i64 40)), some (20, false)⟩,
    ⟨some 25, .pick (.t 20) (.k (.bool true)) (.t 24), none⟩,
    ⟨some 26, .mv (.t 25), none⟩,
    ⟨some 27, .fa 2 1 2 (.t 1), some (26, false)⟩,
    ⟨some 28, .ld 1 false (.t 27), some (26, false)⟩,
    ⟨some 29, .lenl (.t 28), some (26, false)⟩,
    ⟨some 30, .bin .gtr (.t 29) (.k (.int .i64 4)), some (26, false)⟩,
    ⟨some 31, .pick (.t 26) (.k (.bool true)) (.t 30), none⟩])
  (.cond (.t 31)
  (.seq (.ops [⟨some 2, .mv (.k (.bool false)), none⟩])
  .ret)
  .skip))
  (.seq (.seq (.ops [⟨some 32, .fa 1 1 1 (.t 1), none⟩,
    ⟨some 33, .ld 1 false (.t 32), none⟩,
    ⟨some 34, .lenl (.t 33), none⟩,
    ⟨some 35, .mv (.k (.int .i64 0)), none⟩])
  (.block 0 (.loop (.seq (.ops [⟨some 36, .bin .lss (.t 35) (.t 34), none⟩])
  (.seq (.cond (.t 36)
  .skip
  (.exit 0))
  (.seq (.block 1 (.seq (.ops [⟨some 37, .mv (.t 35), none⟩,
    ⟨some 38, .ix 5 (.t 33) (.t 35), none⟩,
    ⟨some 39, .ld 5 true (.t 38), none⟩,
    ⟨some 4, .al (.agg [.str ⟨#[]⟩, .str ⟨#[]⟩, .str ⟨#[]⟩, .int .i64 0, .int .i64 0]), none⟩,
    ⟨some 3, .mv (.t 37), none⟩,
    ⟨none, .st 5 (.t 4) (.t 39), none⟩])
  (.seq (.quiet [⟨some 40, .fa 0 1 0 (.t 4), none⟩,
    ⟨some 41, .ld 1 false (.t 40), none⟩,
    ⟨some 42, .call 66 [(.t 41)], none⟩,
    ⟨some 43, .not (.t 42), none⟩,
    ⟨some 44, .mv (.t 43), none⟩,
    ⟨some 45, .fa 1 1 1 (.t 4), some (44, false)⟩,
    ⟨some 46, .ld 1 false (.t 45), some (44, false)⟩,
    ⟨some 47, .call 67 [(.t 46)], some (44, false)⟩,
    ⟨some 48, .not (.t 47), some (44, false)⟩,
    ⟨some 49, .pick (.t 44) (.k (.bool true)) (.t 48), none⟩,
    ⟨some 50, .mv (.t 49), none⟩,
    ⟨some 51, .fa 2 1 2 (.t 4), some (50, false)⟩,
    ⟨some 52, .ld 1 false (.t 51), some (50, false)⟩,
    ⟨some 53, .call 67 [(.t 52)], some (50, false)⟩,
    ⟨some 54, .not (.t 53), some (50, false)⟩,
    ⟨some 55, .pick (.t 50) (.k (.bool true)) (.t 54), none⟩,
    ⟨some 56, .mv (.t 55), none⟩,
    ⟨some 57, .fa 3 1 3 (.t 4), some (56, false)⟩,
    ⟨some 58, .ld 1 false (.t 57), some (56, false)⟩,
    ⟨some 59, .call 65 [(.t 58), (.k (.int .i64 0)), (.k (.int .i64 1000000))], some (56, false)⟩,
    ⟨some 60, .not (.t 59), some (56, false)⟩,
    ⟨some 61, .pick (.t 56) (.k (.bool true)) (.t 60), none⟩,
    ⟨some 62, .mv (.t 61), none⟩,
    ⟨some 63, .fa 4 1 4 (.t 4), some (62, false)⟩,
    ⟨some 64, .ld 1 false (.t 63), some (62, false)⟩,
    ⟨some 65, .fa 0 1 0 (.t 1), some (62, false)⟩,
    ⟨some 66, .ld 1 false (.t 65), some (62, false)⟩,
    ⟨some 67, .bin .add (.t 66) (.k (.int .i64 32)), some (62, false)⟩,
    ⟨some 68, .call 65 [(.t 64), (.k (.int .i64 0)), (.t 67)], some (62, false)⟩,
    ⟨some 69, .not (.t 68), some (62, false)⟩,
    ⟨some 70, .pick (.t 62) (.k (.bool true)) (.t 69), none⟩,
    ⟨some 71, .mv (.t 70), none⟩,
    ⟨some 72, .mv (.t 3), some (71, false)⟩,
    ⟨some 73, .bin .gtr (.t 72) (.k (.int .i64 0)), some (71, false)⟩,
    ⟨some 74, .mv (.t 73), some (71, false)⟩,
    ⟨some 75, .fa 0 1 0 (.t 4), some (74, true)⟩,
    ⟨some 76, .ld 1 false (.t 75), some (74, true)⟩,
    ⟨some 77, .fa 1 1 1 (.t 1), some (74, true)⟩,
    ⟨some 78, .ld 1 false (.t 77), some (74, true)⟩,
    ⟨some 79, .mv (.t 3), some (74, true)⟩,
    ⟨some 80, .bin .sub (.t 79) (.k (.int .i64 1)), some (74, true)⟩,
    ⟨some 81, .ix 5 (.t 78) (.t 80), some (74, true)⟩,
    ⟨some 82, .fa 0 1 0 (.t 81), some (74, true)⟩,
    ⟨some 83, .ld 1 false (.t 82), some (74, true)⟩,
    ⟨some 84, .bin .leq (.t 76) (.t 83), some (74, true)⟩,
    ⟨some 85, .pick (.t 74) (.t 84) (.k (.bool false)), some (71, false)⟩,
    ⟨some 86, .pick (.t 71) (.k (.bool true)) (.t 85), none⟩])
  (.cond (.t 86)
  (.seq (.ops [⟨some 2, .mv (.k (.bool false)), none⟩])
  .ret)
  .skip))))
  (.ops [⟨some 87, .bin .add (.t 35) (.k (.int .i64 1)), none⟩,
    ⟨some 35, .mv (.t 87), none⟩])))))))
  (.seq (.ops [⟨some 88, .mm, none⟩,
    ⟨some 5, .mv (.t 88), none⟩])
  (.seq (.seq (.ops [⟨some 89, .fa 2 1 2 (.t 1), none⟩,
    ⟨some 90, .ld 1 false (.t 89), none⟩,
    ⟨some 91, .lenl (.t 90), none⟩,
    ⟨some 92, .mv (.k (.int .i64 0)), none⟩])
  (.block 2 (.loop (.seq (.ops [⟨some 93, .bin .lss (.t 92) (.t 91), none⟩])
  (.seq (.cond (.t 93)
  .skip
  (.exit 2))
  (.seq (.block 3 (.seq (.ops [⟨some 94, .mv (.t 92), none⟩,
    ⟨some 95, .ix 3 (.t 90) (.t 92), none⟩,
    ⟨some 96, .ld 3 true (.t 95), none⟩,
    ⟨some 7, .al (.agg [.str ⟨#[]⟩, .int .i64 0, .nil]), none⟩,
    ⟨some 6, .mv (.t 94), none⟩,
    ⟨none, .st 3 (.t 7) (.t 96), none⟩])
  (.seq (.seq (.quiet [⟨some 97, .fa 0 1 0 (.t 7), none⟩,
    ⟨some 98, .ld 1 false (.t 97), none⟩,
    ⟨some 99, .call 67 [(.t 98)], none⟩,
    ⟨some 100, .not (.t 99), none⟩,
    ⟨some 101, .mv (.t 100), none⟩,
    ⟨some 102, .fa 1 1 1 (.t 7), some (101, false)⟩,
    ⟨some 103, .ld 1 false (.t 102), some (101, false)⟩,
    ⟨some 104, .call 65 [(.t 103), (.k (.int .i64 1)), (.k (.int .i64 1000000))], some (101, false)⟩,
    ⟨some 105, .not (.t 104), some (101, false)⟩,
    ⟨some 106, .pick (.t 101) (.k (.bool true)) (.t 105), none⟩,
    ⟨some 107, .mv (.t 106), none⟩,
    ⟨some 108, .fa 2 1 2 (.t 7), some (107, false)⟩,
    ⟨some 109, .ld 1 false (.t 108), some (107, false)⟩,
    ⟨some 110, .call 68 [(.t 109)], some (107, false)⟩,
    ⟨some 111, .not (.t 110), some (107, false)⟩,
    ⟨some 112, .pick (.t 107) (.k (.bool true)) (.t 111), none⟩,
    ⟨some 113, .mv (.t 112), none⟩,
    ⟨some 114, .mv (.t 6), some (113, false)⟩,
    ⟨some 115, .bin .gtr (.t 114) (.k (.int .i64 0)), some (113, false)⟩,
    ⟨some 116, .mv (.t 115), some (113, false)⟩,
    ⟨some 117, .fa 0 1 0 (.t 7), some (116, true)⟩,
    ⟨some 118, .ld 1 false (.t 117), some (116, true)⟩,
    ⟨some 119, .fa 2 1 2 (.t 1), some (116, true)⟩,
    ⟨some 120, .ld 1 false (.t 119), some (116, true)⟩,
    ⟨some 121, .mv (.t 6), some (116, true)⟩,
    ⟨some 122, .bin .sub (.t 121) (.k (.int .i64 1)), some (116, true)⟩,
    ⟨some 123, .ix 3 (.t 120) (.t 122), some (116, true)⟩,
    ⟨some 124, .fa 0 1 0 (.t 123), some (116, true)⟩,
    ⟨some 125, .ld 1 false (.t 124), some (116, true)⟩,
    ⟨some 126, .bin .leq (.t 118) (.t 125), some (116, true)⟩,
    ⟨some 127, .pick (.t 116) (.t 126) (.k (.bool false)), some (113, false)⟩,
    ⟨some 128, .pick (.t 113) (.k (.bool true)) (.t 127), none⟩])
  (.cond (.t 128)
  (.seq (.ops [⟨some 2, .mv (.k (.bool false)), none⟩])
  .ret)
  .skip))
  (.seq (.ops [⟨some 129, .fa 2 1 2 (.t 7), none⟩,
    ⟨some 130, .ld 1 false (.t 129), none⟩,
    ⟨some 131, .lenl (.t 130), none⟩,
    ⟨some 132, .mv (.k (.int .i64 0)), none⟩])
  (.block 4 (.loop (.seq (.ops [⟨some 133, .bin .lss (.t 132) (.t 131), none⟩])
  (.seq (.cond (.t 133)
  .skip
  (.exit 4))
  (.seq (.block 5 (.seq (.ops [⟨some 134, .ix 7 (.t 130) (.t 132), none⟩,
    ⟨some 135, .ld 7 true (.t 134), none⟩,
    ⟨some 9, .al (.agg [.str ⟨#[]⟩, .int .i64 0, .str ⟨#[]⟩, .int .i64 0, .int .i64 0, .int .i64 0, .int .i64 0]), none⟩,
    ⟨none, .st 7 (.t 9) (.t 135), none⟩])
  (.seq (.seq (.ops [⟨some 136, .fa 2 1 2 (.t 9), none⟩,
    ⟨some 137, .ld 1 false (.t 136), none⟩,
    ⟨some 138, .bin .neq (.t 137) (.k (.str ⟨#[]⟩)), none⟩,
    ⟨some 139, .mv (.t 138), none⟩,
    ⟨some 140, .mv (.t 5), some (139, true)⟩,
    ⟨some 141, .fa 2 1 2 (.t 9), some (139, true)⟩,
    ⟨some 142, .ld 1 false (.t 141), some (139, true)⟩,
    ⟨some 143, .lk (.t 140) (.t 142), some (139, true)⟩,
    ⟨some 144, .pick (.t 139) (.t 143) (.k (.bool false)), none⟩])
  (.cond (.t 144)
  (.seq (.ops [⟨some 2, .mv (.k (.bool false)), none⟩])
  .ret)
  .skip))
  (.ops [⟨some 145, .mv (.t 5), none⟩,
    ⟨some 146, .fa 2 1 2 (.t 9), none⟩,
    ⟨some 147, .ld 1 false (.t 146), none⟩,
    ⟨none, .mu (.t 145) (.t 147) (.k (.bool true)), none⟩]))))
  (.ops [⟨some 148, .bin .add (.t 132) (.k (.int .i64 1)), none⟩,
    ⟨some 132, .mv (.t 148), none⟩]))))))))))
  (.ops [⟨some 149, .bin .add (.t 92) (.k (.int .i64 1)), none⟩,
    ⟨some 92, .mv (.t 149), none⟩])))))))
  (.seq (.ops [⟨some 2, .mv (.k (.bool true)), none⟩])
  .ret))))))⟩
theorem c15 : compileF Try.prog [] 15 = some cf15 := by kernel_rfl
theorem allN_iff {f : Nat → Bool} : ∀ {k i : Nat}, allN f k i = true ↔ ∀ j, i ≤ j → j < i + k → f j = true
  | 0, i => by simp [allN]; omega
  | k + 1, i => by
    simp only [allN, Bool.and_eq_true, allN_iff (k := k) (i := i + 1)]
    constructor
    · rintro ⟨h1, h2⟩ j a b
      by_cases e : i = j
      · subst e; exact h1
      · exact h2 j (by omega) (by omega)
    · exact fun h => ⟨h i (by omega) (by omega), fun j a b => h j (by omega) (by omega)⟩
abbrev wts (ps : List MatePlace) (i : Nat) : List MateWant := (ps.getD i default).fWants
abbrev hld (ps : List MatePlace) (i j : Nat) : ByteArray := ((wts ps i).getD j default).fHold
def cF (ps : List MatePlace) (i k j n : Nat) : Bool := !(!((hld ps i j).toList == (ByteArray.mk #[]).toList) && ((hld ps i j).toList == (hld ps k n).toList))
def cJ (ps : List MatePlace) (i k j : Nat) : Bool := allN (cF ps i k j) (wts ps k).length 0
def cK (ps : List MatePlace) (i k : Nat) : Bool := allN (cJ ps i k) (wts ps i).length 0
def noClash (ps : List MatePlace) (i : Nat) : Bool := allN (cK ps i) i 0
def mpX (acc : List (ByteArray × Bool)) (xs : List MateWant) : Nat → List (ByteArray × Bool)
  | 0 => acc
  | j + 1 => kset (mpX acc xs j) (xs.getD j default).fHold true
def mpP (ps : List MatePlace) : Nat → List (ByteArray × Bool)
  | 0 => []
  | i + 1 => mpX (mpP ps i) (wts ps i) (wts ps i).length
theorem kget_mpX (acc : List (ByteArray × Bool)) (xs : List MateWant) (h : ByteArray) : ∀ m, kget (mpX acc xs m) h = (kget acc h || !allN (fun k => !((xs.getD k default).fHold.toList == h.toList)) m 0)
  | 0 => by simp [mpX, allN]
  | m + 1 => by
    rw [mpX, kget_set, kget_mpX acc xs h m, allN_last, bytes_toList, Nat.zero_add, beq_cm h.toList]
    cases allN (fun k => !((xs.getD k default).fHold.toList == h.toList)) m 0 <;> cases kget acc h <;> simp
theorem kget_mpP (ps : List MatePlace) (h : ByteArray) : ∀ i, kget (mpP ps i) h = !allN (fun k => allN (fun n => !((hld ps k n).toList == h.toList)) (wts ps k).length 0) i 0
  | 0 => rfl
  | i + 1 => by
    rw [mpP, kget_mpX, kget_mpP ps h i, allN_last, Nat.zero_add]
    show (_ || !allN (fun k => !((hld ps i k).toList == h.toList)) _ 0) = _
    cases allN (fun k => allN (fun n => !((hld ps k n).toList == h.toList)) (wts ps k).length 0) i 0 <;> simp
def dU (ps : List MatePlace) (i j : Nat) : Bool := !(!((hld ps i j).toList == (ByteArray.mk #[]).toList) && kget (mpX (mpP ps i) (wts ps i) j) (hld ps i j))
theorem wants_nodup {xs : List MateWant} (h : wantsOk xs = true) {j : Nat} (hj : j < xs.length) : (((xs.getD j default).fHold.toList == (ByteArray.mk #[]).toList) || nodup xs j) = true := by
  simp only [wantsOk, Bool.and_eq_true, Bool.and_true] at h
  have := allN_get h.2 (Nat.zero_le j) (by omega)
  simp only [wF, Bool.and_eq_true] at this
  exact this.2
theorem dU_noClash {ps : List MatePlace} {i : Nat} (h : wantsOk (wts ps i) = true) : allN (dU ps i) (wts ps i).length 0 = noClash ps i := by
  rw [Bool.eq_iff_iff, noClash, allN_iff, allN_iff]
  have hk : ∀ j, j < (wts ps i).length → (dU ps i j = true ↔ ∀ k, k < i → cJ ps i k j = true) := fun j hj => by
    have hn := wants_nodup h hj
    have e : kget (mpX (mpP ps i) (wts ps i) j) (hld ps i j) = (kget (mpP ps i) (hld ps i j) || !nodup (wts ps i) j) := kget_mpX _ _ _ _
    unfold dU
    rw [e]
    cases hq : ((hld ps i j).toList == (ByteArray.mk #[]).toList) with
    | true =>
      simp only [Bool.not_true, Bool.false_and, Bool.not_false, true_iff]
      intro k _
      rw [cJ, allN_iff]
      intro n _ _
      unfold cF
      rw [hq]
      rfl
    | false =>
      have hd : nodup (wts ps i) j = true := by
        have hq' : (((wts ps i).getD j default).fHold.toList == (ByteArray.mk #[]).toList) = false := hq
        rw [hq', Bool.false_or] at hn
        exact hn
      rw [hd, kget_mpP]
      simp only [Bool.not_true, Bool.or_false, Bool.not_false, Bool.true_and, Bool.not_not]
      rw [allN_iff]
      have e2 : ∀ k n, cF ps i k j n = !((hld ps k n).toList == (hld ps i j).toList) := fun k n => by
        unfold cF
        rw [hq, beq_cm (hld ps k n).toList]
        rfl
      have e3 : ∀ k, cJ ps i k j = allN (fun n => !((hld ps k n).toList == (hld ps i j).toList)) (wts ps k).length 0 := fun k => by
        unfold cJ
        exact allN_congr fun n _ _ => e2 k n
      constructor
      · intro hh k hk
        rw [e3]
        exact hh k (Nat.zero_le _) (by omega)
      · intro hh k _ hk
        rw [← e3]
        exact hh k (by omega)
  constructor
  · intro hh k _ hk2
    rw [cK, allN_iff]
    exact fun j _ hj => (hk j (by omega)).1 (hh j (Nat.zero_le _) hj) k (by omega)
  · intro hh j _ hj
    refine (hk j (by omega)).2 fun k hk2 => ?_
    have := hh k (Nat.zero_le _) (by omega)
    rw [cK, allN_iff] at this
    exact this j (Nat.zero_le _) hj

def gS (l : MateLand) (i : Nat) : Bool := holdOk (l.fGrants.getD i default).fHold && nameOk (l.fGrants.getD i default).fBerth && nameOk (l.fGrants.getD i default).fCopy && inR (l.fGrants.getD i default).fAt 0 1000000 && inR (l.fGrants.getD i default).fUntil 0 (IntKind.wrap .i64 (l.fTime + 32)) && !(decide ((i : Int) > 0) && !Op.bytesLess (l.fGrants.getD (pr i) default).fHold.toList (l.fGrants.getD i default).fHold.toList)
def pS (ps : List MatePlace) (i : Nat) : Bool := nameOk (ps.getD i default).fBerth && inR (ps.getD i default).fSeen 1 1000000 && wantsOk (ps.getD i default).fWants && !(decide ((i : Int) > 0) && !Op.bytesLess (ps.getD (pr i) default).fBerth.toList (ps.getD i default).fBerth.toList)
def pF (ps : List MatePlace) (i : Nat) : Bool := pS ps i && noClash ps i
def placesOk (ps : List MatePlace) : Bool := !decide ((ps.length : Int) > 4) && (allN (pF ps) ps.length 0 && true)
def lH (l : MateLand) : Bool := !inR l.fTime 0 2000000 || (l.fTime.tmod 2 != 0) || decide ((l.fGrants.length : Int) > 40)
def landOk (l : MateLand) : Bool := !lH l && (allN (gS l) l.fGrants.length 0 && placesOk l.fPlaces)
end Go.Ab
