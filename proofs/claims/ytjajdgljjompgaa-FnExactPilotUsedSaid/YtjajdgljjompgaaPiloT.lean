/- Steps towards the law: contracts of functions and facts of lists. -/
import Derived.Test.YtjajdgljjompgaaPiloMT
import Derived.Test.YtjajdgljjompgaaAb11
import Derived.Test.YtjajdgljjompgaaRows
set_option linter.unusedSimpArgs false
set_option linter.unusedVariables false
namespace Go.Ab
open Go Go.RowKit Go.Proofs
attribute [local irreducible] XC Rdr IntKind.wrap xw xos xqs xr xd
set_option maxRecDepth 100000

/-- laws.szStringS -/
def cf97 : CF := ⟨28, [.t 4],
  (.seq (.ops [⟨some 4, .mv (.k (.int .i64 0)), none⟩])
  (.seq (.ops [⟨some 6, .mv (.t 1), none⟩,
    ⟨some 7, .mv (.t 0), none⟩,
    ⟨some 8, .lenl (.t 7), none⟩,
    ⟨some 9, .bin .sub (.t 6) (.t 8), none⟩,
    ⟨some 1, .mv (.t 9), none⟩])
  (.seq (.seq (.ops [⟨some 10, .mv (.t 1), none⟩,
    ⟨some 11, .bin .lss (.t 10) (.k (.int .i64 0)), none⟩])
  (.cond (.t 11)
  (.seq (.ops [⟨some 4, .mv (.k (.int .i64 (-1))), none⟩])
  .ret)
  .skip))
  (.seq (.seq (.ops [⟨some 5, .mv (.k (.int .i64 0)), none⟩])
  (.block 0 (.loop (.seq (.seq (.ops [⟨some 12, .mv (.t 5), none⟩,
    ⟨some 13, .mv (.t 0), none⟩,
    ⟨some 14, .lenl (.t 13), none⟩,
    ⟨some 15, .bin .lss (.t 12) (.t 14), none⟩])
  (.cond (.t 15)
  .skip
  (.exit 0)))
  (.seq (.block 1 (.seq (.ops [⟨some 18, .mv (.t 1), none⟩,
    ⟨some 19, .mv (.t 0), none⟩,
    ⟨some 20, .mv (.t 5), none⟩,
    ⟨some 21, .ix 1 (.t 19) (.t 20), none⟩,
    ⟨some 22, .ld 1 false (.t 21), none⟩,
    ⟨some 23, .lens (.t 22), none⟩,
    ⟨some 24, .bin .sub (.t 18) (.t 23), none⟩,
    ⟨some 1, .mv (.t 24), none⟩])
  (.seq (.ops [⟨some 25, .mv (.t 1), none⟩,
    ⟨some 26, .bin .lss (.t 25) (.k (.int .i64 0)), none⟩])
  (.cond (.t 26)
  (.seq (.ops [⟨some 4, .mv (.k (.int .i64 (-1))), none⟩])
  .ret)
  .skip))))
  (.ops [⟨some 16, .mv (.t 5), none⟩,
    ⟨some 17, .bin .add (.t 16) (.k (.int .i64 1)), none⟩,
    ⟨some 5, .mv (.t 17), none⟩]))))))
  (.seq (.ops [⟨some 27, .mv (.t 1), none⟩,
    ⟨some 4, .mv (.t 27), none⟩])
  .ret)))))⟩
theorem c97 : compileF Try.prog [] 97 = some cf97 := by kernel_rfl
/-- laws.toStringS -/
def cf99 : CF := ⟨22, [.t 2],
  (.seq (.ops [⟨some 2, .mv (.k (.nil)), none⟩])
  (.seq (.ops [⟨some 5, .mv (.t 0), none⟩,
    ⟨some 6, .lenl (.t 5), none⟩,
    ⟨some 7, .mk (.str ⟨#[]⟩) 16 (.t 6) (.t 6), none⟩,
    ⟨some 3, .mv (.t 7), none⟩])
  (.seq (.seq (.ops [⟨some 4, .mv (.k (.int .i64 0)), none⟩])
  (.block 0 (.loop (.seq (.seq (.ops [⟨some 8, .mv (.t 4), none⟩,
    ⟨some 9, .mv (.t 0), none⟩,
    ⟨some 10, .lenl (.t 9), none⟩,
    ⟨some 11, .bin .lss (.t 8) (.t 10), none⟩])
  (.cond (.t 11)
  .skip
  (.exit 0)))
  (.seq (.block 1 (.ops [⟨some 14, .mv (.t 3), none⟩,
    ⟨some 15, .mv (.t 4), none⟩,
    ⟨some 16, .mv (.t 0), none⟩,
    ⟨some 17, .mv (.t 4), none⟩,
    ⟨some 18, .ix 1 (.t 16) (.t 17), none⟩,
    ⟨some 19, .ld 1 false (.t 18), none⟩,
    ⟨some 20, .ix 1 (.t 14) (.t 15), none⟩,
    ⟨none, .st 1 (.t 20) (.t 19), none⟩]))
  (.ops [⟨some 12, .mv (.t 4), none⟩,
    ⟨some 13, .bin .add (.t 12) (.k (.int .i64 1)), none⟩,
    ⟨some 4, .mv (.t 13), none⟩]))))))
  (.seq (.ops [⟨some 21, .mv (.t 3), none⟩,
    ⟨some 2, .mv (.t 21), none⟩])
  .ret))))⟩
theorem c99 : compileF Try.prog [] 99 = some cf99 := by kernel_rfl
/-- laws.eqStringS -/
def cf101 : CF := ⟨26, [.t 4],
  (.seq (.ops [⟨some 4, .mv (.k (.bool false)), none⟩])
  (.seq (.seq (.ops [⟨some 6, .mv (.t 0), none⟩,
    ⟨some 7, .lenl (.t 6), none⟩,
    ⟨some 8, .mv (.t 1), none⟩,
    ⟨some 9, .lenl (.t 8), none⟩,
    ⟨some 10, .bin .neq (.t 7) (.t 9), none⟩])
  (.cond (.t 10)
  (.seq (.ops [⟨some 4, .mv (.k (.bool false)), none⟩])
  .ret)
  .skip))
  (.seq (.seq (.ops [⟨some 5, .mv (.k (.int .i64 0)), none⟩])
  (.block 0 (.loop (.seq (.seq (.ops [⟨some 11, .mv (.t 5), none⟩,
    ⟨some 12, .mv (.t 0), none⟩,
    ⟨some 13, .lenl (.t 12), none⟩,
    ⟨some 14, .bin .lss (.t 11) (.t 13), none⟩])
  (.cond (.t 14)
  .skip
  (.exit 0)))
  (.seq (.block 1 (.seq (.quiet [⟨some 17, .mv (.t 0), none⟩,
    ⟨some 18, .mv (.t 5), none⟩,
    ⟨some 19, .ix 1 (.t 17) (.t 18), none⟩,
    ⟨some 20, .ld 1 false (.t 19), none⟩,
    ⟨some 21, .mv (.t 1), none⟩,
    ⟨some 22, .mv (.t 5), none⟩,
    ⟨some 23, .ix 1 (.t 21) (.t 22), none⟩,
    ⟨some 24, .ld 1 false (.t 23), none⟩,
    ⟨some 25, .bin .neq (.t 20) (.t 24), none⟩])
  (.cond (.t 25)
  (.seq (.ops [⟨some 4, .mv (.k (.bool false)), none⟩])
  .ret)
  .skip)))
  (.ops [⟨some 15, .mv (.t 5), none⟩,
    ⟨some 16, .bin .add (.t 15) (.k (.int .i64 1)), none⟩,
    ⟨some 5, .mv (.t 16), none⟩]))))))
  (.seq (.ops [⟨some 4, .mv (.k (.bool true)), none⟩])
  .ret))))⟩
theorem c101 : compileF Try.prog [] 101 = some cf101 := by kernel_rfl
/-- laws.szPilotLike -/
def cf110 : CF := ⟨13, [.t 4],
  (.seq (.ops [⟨some 2, .bx (.t 0), none⟩,
    ⟨some 4, .mv (.k (.int .i64 0)), none⟩])
  (.seq (.ops [⟨some 5, .mv (.t 1), none⟩,
    ⟨some 6, .fa 0 1 0 (.t 2), none⟩,
    ⟨some 7, .ld 1 false (.t 6), none⟩,
    ⟨some 8, .lens (.t 7), none⟩,
    ⟨some 9, .bin .sub (.t 5) (.t 8), none⟩,
    ⟨some 1, .mv (.t 9), none⟩])
  (.seq (.seq (.ops [⟨some 10, .mv (.t 1), none⟩,
    ⟨some 11, .bin .lss (.t 10) (.k (.int .i64 0)), none⟩])
  (.cond (.t 11)
  (.seq (.ops [⟨some 4, .mv (.k (.int .i64 (-1))), none⟩])
  .ret)
  .skip))
  (.seq (.ops [⟨some 12, .mv (.t 1), none⟩,
    ⟨some 4, .mv (.t 12), none⟩])
  .ret))))⟩
theorem c110 : compileF Try.prog [] 110 = some cf110 := by kernel_rfl
/-- laws.toPilotLike -/
def cf111 : CF := ⟨11, [.c 2 2 true],
  (.seq (.ops [⟨some 1, .bx (.t 0), none⟩,
    ⟨some 2, .al (.agg [.str ⟨#[]⟩, .int .i64 0]), none⟩])
  (.seq (.ops [⟨some 3, .al (.agg [.str ⟨#[]⟩, .int .i64 0]), none⟩])
  (.seq (.ops [⟨some 4, .fa 0 1 0 (.t 1), none⟩,
    ⟨some 5, .ld 1 false (.t 4), none⟩,
    ⟨some 6, .fa 0 1 0 (.t 3), none⟩,
    ⟨none, .st 1 (.t 6) (.t 5), none⟩])
  (.seq (.ops [⟨some 7, .fa 1 1 1 (.t 1), none⟩,
    ⟨some 8, .ld 1 false (.t 7), none⟩,
    ⟨some 9, .fa 1 1 1 (.t 3), none⟩,
    ⟨none, .st 1 (.t 9) (.t 8), none⟩])
  (.seq (.ops [⟨some 10, .ld 2 true (.t 3), none⟩,
    ⟨none, .st 2 (.t 2) (.t 10), none⟩])
  .ret)))))⟩
theorem c111 : compileF Try.prog [] 111 = some cf111 := by kernel_rfl
/-- laws.eqPilotLike -/
def cf112 : CF := ⟨15, [.t 4],
  (.seq (.ops [⟨some 2, .bx (.t 0), none⟩,
    ⟨some 3, .bx (.t 1), none⟩,
    ⟨some 4, .mv (.k (.bool false)), none⟩])
  (.seq (.seq (.ops [⟨some 5, .fa 0 1 0 (.t 2), none⟩,
    ⟨some 6, .ld 1 false (.t 5), none⟩,
    ⟨some 7, .fa 0 1 0 (.t 3), none⟩,
    ⟨some 8, .ld 1 false (.t 7), none⟩,
    ⟨some 9, .bin .neq (.t 6) (.t 8), none⟩])
  (.cond (.t 9)
  (.seq (.ops [⟨some 4, .mv (.k (.bool false)), none⟩])
  .ret)
  .skip))
  (.seq (.seq (.ops [⟨some 10, .fa 1 1 1 (.t 2), none⟩,
    ⟨some 11, .ld 1 false (.t 10), none⟩,
    ⟨some 12, .fa 1 1 1 (.t 3), none⟩,
    ⟨some 13, .ld 1 false (.t 12), none⟩,
    ⟨some 14, .bin .neq (.t 11) (.t 13), none⟩])
  (.cond (.t 14)
  (.seq (.ops [⟨some 4, .mv (.k (.bool false)), none⟩])
  .ret)
  .skip))
  (.seq (.ops [⟨some 4, .mv (.k (.bool true)), none⟩])
  .ret))))⟩
theorem c112 : compileF Try.prog [] 112 = some cf112 := by kernel_rfl
/-- laws.szPilotLikeS -/
def cf98 : CF := ⟨27, [.t 4],
  (.seq (.ops [⟨some 4, .mv (.k (.int .i64 0)), none⟩])
  (.seq (.ops [⟨some 6, .mv (.t 1), none⟩,
    ⟨some 7, .mv (.t 0), none⟩,
    ⟨some 8, .lenl (.t 7), none⟩,
    ⟨some 9, .bin .sub (.t 6) (.t 8), none⟩,
    ⟨some 1, .mv (.t 9), none⟩])
  (.seq (.seq (.ops [⟨some 10, .mv (.t 1), none⟩,
    ⟨some 11, .bin .lss (.t 10) (.k (.int .i64 0)), none⟩])
  (.cond (.t 11)
  (.seq (.ops [⟨some 4, .mv (.k (.int .i64 (-1))), none⟩])
  .ret)
  .skip))
  (.seq (.seq (.ops [⟨some 5, .mv (.k (.int .i64 0)), none⟩])
  (.block 0 (.loop (.seq (.seq (.ops [⟨some 12, .mv (.t 5), none⟩,
    ⟨some 13, .mv (.t 0), none⟩,
    ⟨some 14, .lenl (.t 13), none⟩,
    ⟨some 15, .bin .lss (.t 12) (.t 14), none⟩])
  (.cond (.t 15)
  .skip
  (.exit 0)))
  (.seq (.block 1 (.seq (.ops [⟨some 18, .mv (.t 0), none⟩,
    ⟨some 19, .mv (.t 5), none⟩,
    ⟨some 20, .ix 2 (.t 18) (.t 19), none⟩,
    ⟨some 21, .ld 2 true (.t 20), none⟩,
    ⟨some 22, .mv (.t 1), none⟩,
    ⟨some 23, .call 110 [(.t 21), (.t 22)], none⟩,
    ⟨some 1, .mv (.t 23), none⟩])
  (.seq (.ops [⟨some 24, .mv (.t 1), none⟩,
    ⟨some 25, .bin .lss (.t 24) (.k (.int .i64 0)), none⟩])
  (.cond (.t 25)
  (.seq (.ops [⟨some 4, .mv (.k (.int .i64 (-1))), none⟩])
  .ret)
  .skip))))
  (.ops [⟨some 16, .mv (.t 5), none⟩,
    ⟨some 17, .bin .add (.t 16) (.k (.int .i64 1)), none⟩,
    ⟨some 5, .mv (.t 17), none⟩]))))))
  (.seq (.ops [⟨some 26, .mv (.t 1), none⟩,
    ⟨some 4, .mv (.t 26), none⟩])
  .ret)))))⟩
theorem c98 : compileF Try.prog [] 98 = some cf98 := by kernel_rfl
/-- laws.toPilotLikeS -/
def cf100 : CF := ⟨23, [.t 2],
  (.seq (.ops [⟨some 2, .mv (.k (.nil)), none⟩])
  (.seq (.ops [⟨some 5, .mv (.t 0), none⟩,
    ⟨some 6, .lenl (.t 5), none⟩,
    ⟨some 7, .mk (.agg [.str ⟨#[]⟩, .int .i64 0]) 24 (.t 6) (.t 6), none⟩,
    ⟨some 3, .mv (.t 7), none⟩])
  (.seq (.seq (.ops [⟨some 4, .mv (.k (.int .i64 0)), none⟩])
  (.block 0 (.loop (.seq (.seq (.ops [⟨some 8, .mv (.t 4), none⟩,
    ⟨some 9, .mv (.t 0), none⟩,
    ⟨some 10, .lenl (.t 9), none⟩,
    ⟨some 11, .bin .lss (.t 8) (.t 10), none⟩])
  (.cond (.t 11)
  .skip
  (.exit 0)))
  (.seq (.block 1 (.ops [⟨some 14, .mv (.t 3), none⟩,
    ⟨some 15, .mv (.t 4), none⟩,
    ⟨some 16, .mv (.t 0), none⟩,
    ⟨some 17, .mv (.t 4), none⟩,
    ⟨some 18, .ix 2 (.t 16) (.t 17), none⟩,
    ⟨some 19, .ld 2 true (.t 18), none⟩,
    ⟨some 20, .call 111 [(.t 19)], none⟩,
    ⟨some 21, .ix 2 (.t 14) (.t 15), none⟩,
    ⟨none, .st 2 (.t 21) (.t 20), none⟩]))
  (.ops [⟨some 12, .mv (.t 4), none⟩,
    ⟨some 13, .bin .add (.t 12) (.k (.int .i64 1)), none⟩,
    ⟨some 4, .mv (.t 13), none⟩]))))))
  (.seq (.ops [⟨some 22, .mv (.t 3), none⟩,
    ⟨some 2, .mv (.t 22), none⟩])
  .ret))))⟩
theorem c100 : compileF Try.prog [] 100 = some cf100 := by kernel_rfl
/-- laws.eqPilotLikeS -/
def cf102 : CF := ⟨27, [.t 4],
  (.seq (.ops [⟨some 4, .mv (.k (.bool false)), none⟩])
  (.seq (.seq (.ops [⟨some 6, .mv (.t 0), none⟩,
    ⟨some 7, .lenl (.t 6), none⟩,
    ⟨some 8, .mv (.t 1), none⟩,
    ⟨some 9, .lenl (.t 8), none⟩,
    ⟨some 10, .bin .neq (.t 7) (.t 9), none⟩])
  (.cond (.t 10)
  (.seq (.ops [⟨some 4, .mv (.k (.bool false)), none⟩])
  .ret)
  .skip))
  (.seq (.seq (.ops [⟨some 5, .mv (.k (.int .i64 0)), none⟩])
  (.block 0 (.loop (.seq (.seq (.ops [⟨some 11, .mv (.t 5), none⟩,
    ⟨some 12, .mv (.t 0), none⟩,
    ⟨some 13, .lenl (.t 12), none⟩,
    ⟨some 14, .bin .lss (.t 11) (.t 13), none⟩])
  (.cond (.t 14)
  .skip
  (.exit 0)))
  (.seq (.block 1 (.seq (.quiet [⟨some 17, .mv (.t 0), none⟩,
    ⟨some 18, .mv (.t 5), none⟩,
    ⟨some 19, .ix 2 (.t 17) (.t 18), none⟩,
    ⟨some 20, .ld 2 true (.t 19), none⟩,
    ⟨some 21, .mv (.t 1), none⟩,
    ⟨some 22, .mv (.t 5), none⟩,
    ⟨some 23, .ix 2 (.t 21) (.t 22), none⟩,
    ⟨some 24, .ld 2 true (.t 23), none⟩,
    ⟨some 25, .call 112 [(.t 20), (.t 24)], none⟩,
    ⟨some 26, .not (.t 25), none⟩])
  (.cond (.t 26)
  (.seq (.ops [⟨some 4, .mv (.k (.bool false)), none⟩])
  .ret)
  .skip)))
  (.ops [⟨some 15, .mv (.t 5), none⟩,
    ⟨some 16, .bin .add (.t 15) (.k (.int .i64 1)), none⟩,
    ⟨some 5, .mv (.t 16), none⟩]))))))
  (.seq (.ops [⟨some 4, .mv (.k (.bool true)), none⟩])
  .ret))))⟩
theorem c102 : compileF Try.prog [] 102 = some cf102 := by kernel_rfl
/-- laws.szPilotCopy -/
def cf62 : CF := ⟨54, [.t 4],
  (.seq (.ops [⟨some 2, .bx (.t 0), none⟩,
    ⟨some 4, .mv (.k (.int .i64 0)), none⟩])
  (.seq (.ops [⟨some 5, .mv (.t 1), none⟩,
    ⟨some 6, .fa 0 1 0 (.t 2), none⟩,
    ⟨some 7, .ld 1 false (.t 6), none⟩,
    ⟨some 8, .lens (.t 7), none⟩,
    ⟨some 9, .bin .sub (.t 5) (.t 8), none⟩,
    ⟨some 1, .mv (.t 9), none⟩])
  (.seq (.seq (.ops [⟨some 10, .mv (.t 1), none⟩,
    ⟨some 11, .bin .lss (.t 10) (.k (.int .i64 0)), none⟩])
  (.cond (.t 11)
  (.seq (.ops [⟨some 4, .mv (.k (.int .i64 (-1))), none⟩])
  .ret)
  .skip))
  (.seq (.ops [⟨some 12, .mv (.t 1), none⟩,
    ⟨some 13, .fa 1 1 1 (.t 2), none⟩,
    ⟨some 14, .ld 1 false (.t 13), none⟩,
    ⟨some 15, .lens (.t 14), none⟩,
    ⟨some 16, .bin .sub (.t 12) (.t 15), none⟩,
    ⟨some 1, .mv (.t 16), none⟩])
  (.seq (.seq (.ops [⟨some 17, .mv (.t 1), none⟩,
    ⟨some 18, .bin .lss (.t 17) (.k (.int .i64 0)), none⟩])
  (.cond (.t 18)
  (.seq (.ops [⟨some 4, .mv (.k (.int .i64 (-1))), none⟩])
  .ret)
  .skip))
  (.seq (.ops [⟨some 19, .mv (.t 1), none⟩,
    ⟨some 20, .fa 6 1 6 (.t 2), none⟩,
    ⟨some 21, .ld 1 false (.t 20), none⟩,
    ⟨some 22, .lens (.t 21), none⟩,
    ⟨some 23, .bin .sub (.t 19) (.t 22), none⟩,
    ⟨some 1, .mv (.t 23), none⟩])
  (.seq (.seq (.ops [⟨some 24, .mv (.t 1), none⟩,
    ⟨some 25, .bin .lss (.t 24) (.k (.int .i64 0)), none⟩])
  (.cond (.t 25)
  (.seq (.ops [⟨some 4, .mv (.k (.int .i64 (-1))), none⟩])
  .ret)
  .skip))
  (.seq (.ops [⟨some 26, .fa 7 1 7 (.t 2), none⟩,
    ⟨some 27, .ld 1 false (.t 26), none⟩,
    ⟨some 28, .mv (.t 1), none⟩,
    ⟨some 29, .call 98 [(.t 27), (.t 28)], none⟩,
    ⟨some 1, .mv (.t 29), none⟩])
  (.seq (.seq (.ops [⟨some 30, .mv (.t 1), none⟩,
    ⟨some 31, .bin .lss (.t 30) (.k (.int .i64 0)), none⟩])
  (.cond (.t 31)
  (.seq (.ops [⟨some 4, .mv (.k (.int .i64 (-1))), none⟩])
  .ret)
  .skip))
  (.seq (.ops [⟨some 32, .mv (.t 1), none⟩,
    ⟨some 33, .fa 9 1 9 (.t 2), none⟩,
    ⟨some 34, .ld 1 false (.t 33), none⟩,
    ⟨some 35, .lens (.t 34), none⟩,
    ⟨some 36, .bin .sub (.t 32) (.t 35), none⟩,
    ⟨some 1, .mv (.t 36), none⟩])
  (.seq (.seq (.ops [⟨some 37, .mv (.t 1), none⟩,
    ⟨some 38, .bin .lss (.t 37) (.k (.int .i64 0)), none⟩])
  (.cond (.t 38)
  (.seq (.ops [⟨some 4, .mv (.k (.int .i64 (-1))), none⟩])
  .ret)
  .skip))
  (.seq (.ops [⟨some 39, .mv (.t 1), none⟩,
    ⟨some 40, .fa 10 1 10 (.t 2), none⟩,
    ⟨some 41, .ld 1 false (.t 40), none⟩,
    ⟨some 42, .lens (.t 41), none⟩,
    ⟨some 43, .bin .sub (.t 39) (.t 42), none⟩,
    ⟨some 1, .mv (.t 43), none⟩])
  (.seq (.seq (.ops [⟨some 44, .mv (.t 1), none⟩,
    ⟨some 45, .bin .lss (.t 44) (.k (.int .i64 0)), none⟩])
  (.cond (.t 45)
  (.seq (.ops [⟨some 4, .mv (.k (.int .i64 (-1))), none⟩])
  .ret)
  .skip))
  (.seq (.ops [⟨some 46, .mv (.t 1), none⟩,
    ⟨some 47, .fa 11 1 11 (.t 2), none⟩,
    ⟨some 48, .ld 1 false (.t 47), none⟩,
    ⟨some 49, .lens (.t 48), none⟩,
    ⟨some 50, .bin .sub (.t 46) (.t 49), none⟩,
    ⟨some 1, .mv (.t 50), none⟩])
  (.seq (.seq (.ops [⟨some 51, .mv (.t 1), none⟩,
    ⟨some 52, .bin .lss (.t 51) (.k (.int .i64 0)), none⟩])
  (.cond (.t 52)
  (.seq (.ops [⟨some 4, .mv (.k (.int .i64 (-1))), none⟩])
  .ret)
  .skip))
  (.seq (.ops [⟨some 53, .mv (.t 1), none⟩,
    ⟨some 4, .mv (.t 53), none⟩])
  .ret))))))))))))))))⟩
theorem c62 : compileF Try.prog [] 62 = some cf62 := by kernel_rfl
/-- laws.toPilotCopy -/
def cf65 : CF := ⟨42, [.c 2 12 true],
  (.seq (.ops [⟨some 1, .bx (.t 0), none⟩,
    ⟨some 2, .al (.agg [.str ⟨#[]⟩, .str ⟨#[]⟩, .int .i64 0, .int .i64 0, .int .i64 0, .int .i64 0, .str ⟨#[]⟩, .nil, .int .i64 0, .str ⟨#[]⟩, .str ⟨#[]⟩, .str ⟨#[]⟩]), none⟩])
  (.seq (.ops [⟨some 3, .al (.agg [.str ⟨#[]⟩, .str ⟨#[]⟩, .int .i64 0, .int .i64 0, .int .i64 0, .int .i64 0, .str ⟨#[]⟩, .nil, .int .i64 0, .str ⟨#[]⟩, .str ⟨#[]⟩, .str ⟨#[]⟩]), none⟩])
  (.seq (.ops [⟨some 4, .fa 0 1 0 (.t 1), none⟩,
    ⟨some 5, .ld 1 false (.t 4), none⟩,
    ⟨some 6, .fa 0 1 0 (.t 3), none⟩,
    ⟨none, .st 1 (.t 6) (.t 5), none⟩])
  (.seq (.ops [⟨some 7, .fa 1 1 1 (.t 1), none⟩,
    ⟨some 8, .ld 1 false (.t 7), none⟩,
    ⟨some 9, .fa 1 1 1 (.t 3), none⟩,
    ⟨none, .st 1 (.t 9) (.t 8), none⟩])
  (.seq (.ops [⟨some 10, .fa 2 1 2 (.t 1), none⟩,
    ⟨some 11, .ld 1 false (.t 10), none⟩,
    ⟨some 12, .fa 2 1 2 (.t 3), none⟩,
    ⟨none, .st 1 (.t 12) (.t 11), none⟩])
  (.seq (.ops [⟨some 13, .fa 3 1 3 (.t 1), none⟩,
    ⟨some 14, .ld 1 false (.t 13), none⟩,
    ⟨some 15, .fa 3 1 3 (.t 3), none⟩,
    ⟨none, .st 1 (.t 15) (.t 14), none⟩])
  (.seq (.ops [⟨some 16, .fa 4 1 4 (.t 1), none⟩,
    ⟨some 17, .ld 1 false (.t 16), none⟩,
    ⟨some 18, .fa 4 1 4 (.t 3), none⟩,
    ⟨none, .st 1 (.t 18) (.t 17), none⟩])
  (.seq (.ops [⟨some 19, .fa 5 1 5 (.t 1), none⟩,
    ⟨some 20, .ld 1 false (.t 19), none⟩,
    ⟨some 21, .fa 5 1 5 (.t 3), none⟩,
    ⟨none, .st 1 (.t 21) (.t 20), none⟩])
  (.seq (.ops [⟨some 22, .fa 6 1 6 (.t 1), none⟩,
    ⟨some 23, .ld 1 false (.t 22), none⟩,
    ⟨some 24, .fa 6 1 6 (.t 3), none⟩,
    ⟨none, .st 1 (.t 24) (.t 23), none⟩])
  (.seq (.ops [⟨some 25, .fa 7 1 7 (.t 1), none⟩,
    ⟨some 26, .ld 1 false (.t 25), none⟩,
    ⟨some 27, .call 100 [(.t 26)], none⟩,
    ⟨some 28, .fa 7 1 7 (.t 3), none⟩,
    ⟨none, .st 1 (.t 28) (.t 27), none⟩])
  (.seq (.ops [⟨some 29, .fa 8 1 8 (.t 1), none⟩,
    ⟨some 30, .ld 1 false (.t 29), none⟩,
    ⟨some 31, .fa 8 1 8 (.t 3), none⟩,
    ⟨none, .st 1 (.t 31) (.t 30), none⟩])
  (.seq (.ops [⟨some 32, .fa 9 1 9 (.t 1), none⟩,
    ⟨some 33, .ld 1 false (.t 32), none⟩,
    ⟨some 34, .fa 9 1 9 (.t 3), none⟩,
    ⟨none, .st 1 (.t 34) (.t 33), none⟩])
  (.seq (.ops [⟨some 35, .fa 10 1 10 (.t 1), none⟩,
    ⟨some 36, .ld 1 false (.t 35), none⟩,
    ⟨some 37, .fa 10 1 10 (.t 3), none⟩,
    ⟨none, .st 1 (.t 37) (.t 36), none⟩])
  (.seq (.ops [⟨some 38, .fa 11 1 11 (.t 1), none⟩,
    ⟨some 39, .ld 1 false (.t 38), none⟩,
    ⟨some 40, .fa 11 1 11 (.t 3), none⟩,
    ⟨none, .st 1 (.t 40) (.t 39), none⟩])
  (.seq (.ops [⟨some 41, .ld 12 true (.t 3), none⟩,
    ⟨none, .st 12 (.t 2) (.t 41), none⟩])
  .ret)))))))))))))))⟩
theorem c65 : compileF Try.prog [] 65 = some cf65 := by kernel_rfl
/-- laws.eqPilotCopy -/
def cf70 : CF := ⟨66, [.t 4],
  (.seq (.ops [⟨some 2, .bx (.t 0), none⟩,
    ⟨some 3, .bx (.t 1), none⟩,
    ⟨some 4, .mv (.k (.bool false)), none⟩])
  (.seq (.seq (.ops [⟨some 5, .fa 0 1 0 (.t 2), none⟩,
    ⟨some 6, .ld 1 false (.t 5), none⟩,
    ⟨some 7, .fa 0 1 0 (.t 3), none⟩,
    ⟨some 8, .ld 1 false (.t 7), none⟩,
    ⟨some 9, .bin .neq (.t 6) (.t 8), none⟩])
  (.cond (.t 9)
  (.seq (.ops [⟨some 4, .mv (.k (.bool false)), none⟩])
  .ret)
  .skip))
  (.seq (.seq (.ops [⟨some 10, .fa 1 1 1 (.t 2), none⟩,
    ⟨some 11, .ld 1 false (.t 10), none⟩,
    ⟨some 12, .fa 1 1 1 (.t 3), none⟩,
    ⟨some 13, .ld 1 false (.t 12), none⟩,
    ⟨some 14, .bin .neq (.t 11) (.t 13), none⟩])
  (.cond (.t 14)
  (.seq (.ops [⟨some 4, .mv (.k (.bool false)), none⟩])
  .ret)
  .skip))
  (.seq (.seq (.ops [⟨some 15, .fa 2 1 2 (.t 2), none⟩,
    ⟨some 16, .ld 1 false (.t 15), none⟩,
    ⟨some 17, .fa 2 1 2 (.t 3), none⟩,
    ⟨some 18, .ld 1 false (.t 17), none⟩,
    ⟨some 19, .bin .neq (.t 16) (.t 18), none⟩])
  (.cond (.t 19)
  (.seq (.ops [⟨some 4, .mv (.k (.bool false)), none⟩])
  .ret)
  .skip))
  (.seq (.seq (.ops [⟨some 20, .fa 3 1 3 (.t 2), none⟩,
    ⟨some 21, .ld 1 false (.t 20), none⟩,
    ⟨some 22, .fa 3 1 3 (.t 3), none⟩,
    ⟨some 23, .ld 1 false (.t 22), none⟩,
    ⟨some 24, .bin .neq (.t 21) (.t 23), none⟩])
  (.cond (.t 24)
  (.seq (.ops [⟨some 4, .mv (.k (.bool false)), none⟩])
  .ret)
  .skip))
  (.seq (.seq (.ops [⟨some 25, .fa 4 1 4 (.t 2), none⟩,
    ⟨some 26, .ld 1 false (.t 25), none⟩,
    ⟨some 27, .fa 4 1 4 (.t 3), none⟩,
    ⟨some 28, .ld 1 false (.t 27), none⟩,
    ⟨some 29, .bin .neq (.t 26) (.t 28), none⟩])
  (.cond (.t 29)
  (.seq (.ops [⟨some 4, .mv (.k (.bool false)), none⟩])
  .ret)
  .skip))
  (.seq (.seq (.ops [⟨some 30, .fa 5 1 5 (.t 2), none⟩,
    ⟨some 31, .ld 1 false (.t 30), none⟩,
    ⟨some 32, .fa 5 1 5 (.t 3), none⟩,
    ⟨some 33, .ld 1 false (.t 32), none⟩,
    ⟨some 34, .bin .neq (.t 31) (.t 33), none⟩])
  (.cond (.t 34)
  (.seq (.ops [⟨some 4, .mv (.k (.bool false)), none⟩])
  .ret)
  .skip))
  (.seq (.seq (.ops [⟨some 35, .fa 6 1 6 (.t 2), none⟩,
    ⟨some 36, .ld 1 false (.t 35), none⟩,
    ⟨some 37, .fa 6 1 6 (.t 3), none⟩,
    ⟨some 38, .ld 1 false (.t 37), none⟩,
    ⟨some 39, .bin .neq (.t 36) (.t 38), none⟩])
  (.cond (.t 39)
  (.seq (.ops [⟨some 4, .mv (.k (.bool false)), none⟩])
  .ret)
  .skip))
  (.seq (.seq (.ops [⟨some 40, .fa 7 1 7 (.t 2), none⟩,
    ⟨some 41, .ld 1 false (.t 40), none⟩,
    ⟨some 42, .fa 7 1 7 (.t 3), none⟩,
    ⟨some 43, .ld 1 false (.t 42), none⟩,
    ⟨some 44, .call 102 [(.t 41), (.t 43)], none⟩,
    ⟨some 45, .not (.t 44), none⟩])
  (.cond (.t 45)
  (.seq (.ops [⟨some 4, .mv (.k (.bool false)), none⟩])
  .ret)
  .skip))
  (.seq (.seq (.ops [⟨some 46, .fa 8 1 8 (.t 2), none⟩,
    ⟨some 47, .ld 1 false (.t 46), none⟩,
    ⟨some 48, .fa 8 1 8 (.t 3), none⟩,
    ⟨some 49, .ld 1 false (.t 48), none⟩,
    ⟨some 50, .bin .neq (.t 47) (.t 49), none⟩])
  (.cond (.t 50)
  (.seq (.ops [⟨some 4, .mv (.k (.bool false)), none⟩])
  .ret)
  .skip))
  (.seq (.seq (.ops [⟨some 51, .fa 9 1 9 (.t 2), none⟩,
    ⟨some 52, .ld 1 false (.t 51), none⟩,
    ⟨some 53, .fa 9 1 9 (.t 3), none⟩,
    ⟨some 54, .ld 1 false (.t 53), none⟩,
    ⟨some 55, .bin .neq (.t 52) (.t 54), none⟩])
  (.cond (.t 55)
  (.seq (.ops [⟨some 4, .mv (.k (.bool false)), none⟩])
  .ret)
  .skip))
  (.seq (.seq (.ops [⟨some 56, .fa 10 1 10 (.t 2), none⟩,
    ⟨some 57, .ld 1 false (.t 56), none⟩,
    ⟨some 58, .fa 10 1 10 (.t 3), none⟩,
    ⟨some 59, .ld 1 false (.t 58), none⟩,
    ⟨some 60, .bin .neq (.t 57) (.t 59), none⟩])
  (.cond (.t 60)
  (.seq (.ops [⟨some 4, .mv (.k (.bool false)), none⟩])
  .ret)
  .skip))
  (.seq (.seq (.ops [⟨some 61, .fa 11 1 11 (.t 2), none⟩,
    ⟨some 62, .ld 1 false (.t 61), none⟩,
    ⟨some 63, .fa 11 1 11 (.t 3), none⟩,
    ⟨some 64, .ld 1 false (.t 63), none⟩,
    ⟨some 65, .bin .neq (.t 62) (.t 64), none⟩])
  (.cond (.t 65)
  (.seq (.ops [⟨some 4, .mv (.k (.bool false)), none⟩])
  .ret)
  .skip))
  (.seq (.ops [⟨some 4, .mv (.k (.bool true)), none⟩])
  .ret))))))))))))))⟩
theorem c70 : compileF Try.prog [] 70 = some cf70 := by kernel_rfl
/-- laws.szPilotCopyS -/
def cf32 : CF := ⟨27, [.t 4],
  (.seq (.ops [⟨some 4, .mv (.k (.int .i64 0)), none⟩])
  (.seq (.ops [⟨some 6, .mv (.t 1), none⟩,
    ⟨some 7, .mv (.t 0), none⟩,
    ⟨some 8, .lenl (.t 7), none⟩,
    ⟨some 9, .bin .sub (.t 6) (.t 8), none⟩,
    ⟨some 1, .mv (.t 9), none⟩])
  (.seq (.seq (.ops [⟨some 10, .mv (.t 1), none⟩,
    ⟨some 11, .bin .lss (.t 10) (.k (.int .i64 0)), none⟩])
  (.cond (.t 11)
  (.seq (.ops [⟨some 4, .mv (.k (.int .i64 (-1))), none⟩])
  .ret)
  .skip))
  (.seq (.seq (.ops [⟨some 5, .mv (.k (.int .i64 0)), none⟩])
  (.block 0 (.loop (.seq (.seq (.ops [⟨some 12, .mv (.t 5), none⟩,
    ⟨some 13, .mv (.t 0), none⟩,
    ⟨some 14, .lenl (.t 13), none⟩,
    ⟨some 15, .bin .lss (.t 12) (.t 14), none⟩])
  (.cond (.t 15)
  .skip
  (.exit 0)))
  (.seq (.block 1 (.seq (.ops [⟨some 18, .mv (.t 0), none⟩,
    ⟨some 19, .mv (.t 5), none⟩,
    ⟨some 20, .ix 12 (.t 18) (.t 19), none⟩,
    ⟨some 21, .ld 12 true (.t 20), none⟩,
    ⟨some 22, .mv (.t 1), none⟩,
    ⟨some 23, .call 62 [(.t 21), (.t 22)], none⟩,
    ⟨some 1, .mv (.t 23), none⟩])
  (.seq (.ops [⟨some 24, .mv (.t 1), none⟩,
    ⟨some 25, .bin .lss (.t 24) (.k (.int .i64 0)), none⟩])
  (.cond (.t 25)
  (.seq (.ops [⟨some 4, .mv (.k (.int .i64 (-1))), none⟩])
  .ret)
  .skip))))
  (.ops [⟨some 16, .mv (.t 5), none⟩,
    ⟨some 17, .bin .add (.t 16) (.k (.int .i64 1)), none⟩,
    ⟨some 5, .mv (.t 17), none⟩]))))))
  (.seq (.ops [⟨some 26, .mv (.t 1), none⟩,
    ⟨some 4, .mv (.t 26), none⟩])
  .ret)))))⟩
theorem c32 : compileF Try.prog [] 32 = some cf32 := by kernel_rfl
/-- laws.toPilotCopyS -/
def cf36 : CF := ⟨23, [.t 2],
  (.seq (.ops [⟨some 2, .mv (.k (.nil)), none⟩])
  (.seq (.ops [⟨some 5, .mv (.t 0), none⟩,
    ⟨some 6, .lenl (.t 5), none⟩,
    ⟨some 7, .mk (.agg [.str ⟨#[]⟩, .str ⟨#[]⟩, .int .i64 0, .int .i64 0, .int .i64 0, .int .i64 0, .str ⟨#[]⟩, .nil, .int .i64 0, .str ⟨#[]⟩, .str ⟨#[]⟩, .str ⟨#[]⟩]) 160 (.t 6) (.t 6), none⟩,
    ⟨some 3, .mv (.t 7), none⟩])
  (.seq (.seq (.ops [⟨some 4, .mv (.k (.int .i64 0)), none⟩])
  (.block 0 (.loop (.seq (.seq (.ops [⟨some 8, .mv (.t 4), none⟩,
    ⟨some 9, .mv (.t 0), none⟩,
    ⟨some 10, .lenl (.t 9), none⟩,
    ⟨some 11, .bin .lss (.t 8) (.t 10), none⟩])
  (.cond (.t 11)
  .skip
  (.exit 0)))
  (.seq (.block 1 (.ops [⟨some 14, .mv (.t 3), none⟩,
    ⟨some 15, .mv (.t 4), none⟩,
    ⟨some 16, .mv (.t 0), none⟩,
    ⟨some 17, .mv (.t 4), none⟩,
    ⟨some 18, .ix 12 (.t 16) (.t 17), none⟩,
    ⟨some 19, .ld 12 true (.t 18), none⟩,
    ⟨some 20, .call 65 [(.t 19)], none⟩,
    ⟨some 21, .ix 12 (.t 14) (.t 15), none⟩,
    ⟨none, .st 12 (.t 21) (.t 20), none⟩]))
  (.ops [⟨some 12, .mv (.t 4), none⟩,
    ⟨some 13, .bin .add (.t 12) (.k (.int .i64 1)), none⟩,
    ⟨some 4, .mv (.t 13), none⟩]))))))
  (.seq (.ops [⟨some 22, .mv (.t 3), none⟩,
    ⟨some 2, .mv (.t 22), none⟩])
  .ret))))⟩
theorem c36 : compileF Try.prog [] 36 = some cf36 := by kernel_rfl
/-- laws.eqPilotCopyS -/
def cf40 : CF := ⟨27, [.t 4],
  (.seq (.ops [⟨some 4, .mv (.k (.bool false)), none⟩])
  (.seq (.seq (.ops [⟨some 6, .mv (.t 0), none⟩,
    ⟨some 7, .lenl (.t 6), none⟩,
    ⟨some 8, .mv (.t 1), none⟩,
    ⟨some 9, .lenl (.t 8), none⟩,
    ⟨some 10, .bin .neq (.t 7) (.t 9), none⟩])
  (.cond (.t 10)
  (.seq (.ops [⟨some 4, .mv (.k (.bool false)), none⟩])
  .ret)
  .skip))
  (.seq (.seq (.ops [⟨some 5, .mv (.k (.int .i64 0)), none⟩])
  (.block 0 (.loop (.seq (.seq (.ops [⟨some 11, .mv (.t 5), none⟩,
    ⟨some 12, .mv (.t 0), none⟩,
    ⟨some 13, .lenl (.t 12), none⟩,
    ⟨some 14, .bin .lss (.t 11) (.t 13), none⟩])
  (.cond (.t 14)
  .skip
  (.exit 0)))
  (.seq (.block 1 (.seq (.quiet [⟨some 17, .mv (.t 0), none⟩,
    ⟨some 18, .mv (.t 5), none⟩,
    ⟨some 19, .ix 12 (.t 17) (.t 18), none⟩,
    ⟨some 20, .ld 12 true (.t 19), none⟩,
    ⟨some 21, .mv (.t 1), none⟩,
    ⟨some 22, .mv (.t 5), none⟩,
    ⟨some 23, .ix 12 (.t 21) (.t 22), none⟩,
    ⟨some 24, .ld 12 true (.t 23), none⟩,
    ⟨some 25, .call 70 [(.t 20), (.t 24)], none⟩,
    ⟨some 26, .not (.t 25), none⟩])
  (.cond (.t 26)
  (.seq (.ops [⟨some 4, .mv (.k (.bool false)), none⟩])
  .ret)
  .skip)))
  (.ops [⟨some 15, .mv (.t 5), none⟩,
    ⟨some 16, .bin .add (.t 15) (.k (.int .i64 1)), none⟩,
    ⟨some 5, .mv (.t 16), none⟩]))))))
  (.seq (.ops [⟨some 4, .mv (.k (.bool true)), none⟩])
  .ret))))⟩
theorem c40 : compileF Try.prog [] 40 = some cf40 := by kernel_rfl
/-- laws.szPilotService -/
def cf61 : CF := ⟨13, [.t 4],
  (.seq (.ops [⟨some 2, .bx (.t 0), none⟩,
    ⟨some 4, .mv (.k (.int .i64 0)), none⟩])
  (.seq (.ops [⟨some 5, .mv (.t 1), none⟩,
    ⟨some 6, .fa 0 1 0 (.t 2), none⟩,
    ⟨some 7, .ld 1 false (.t 6), none⟩,
    ⟨some 8, .lens (.t 7), none⟩,
    ⟨some 9, .bin .sub (.t 5) (.t 8), none⟩,
    ⟨some 1, .mv (.t 9), none⟩])
  (.seq (.seq (.ops [⟨some 10, .mv (.t 1), none⟩,
    ⟨some 11, .bin .lss (.t 10) (.k (.int .i64 0)), none⟩])
  (.cond (.t 11)
  (.seq (.ops [⟨some 4, .mv (.k (.int .i64 (-1))), none⟩])
  .ret)
  .skip))
  (.seq (.ops [⟨some 12, .mv (.t 1), none⟩,
    ⟨some 4, .mv (.t 12), none⟩])
  .ret))))⟩
theorem c61 : compileF Try.prog [] 61 = some cf61 := by kernel_rfl
/-- laws.toPilotService -/
def cf64 : CF := ⟨11, [.c 2 2 true],
  (.seq (.ops [⟨some 1, .bx (.t 0), none⟩,
    ⟨some 2, .al (.agg [.str ⟨#[]⟩, .int .i64 0]), none⟩])
  (.seq (.ops [⟨some 3, .al (.agg [.str ⟨#[]⟩, .int .i64 0]), none⟩])
  (.seq (.ops [⟨some 4, .fa 0 1 0 (.t 1), none⟩,
    ⟨some 5, .ld 1 false (.t 4), none⟩,
    ⟨some 6, .fa 0 1 0 (.t 3), none⟩,
    ⟨none, .st 1 (.t 6) (.t 5), none⟩])
  (.seq (.ops [⟨some 7, .fa 1 1 1 (.t 1), none⟩,
    ⟨some 8, .ld 1 false (.t 7), none⟩,
    ⟨some 9, .fa 1 1 1 (.t 3), none⟩,
    ⟨none, .st 1 (.t 9) (.t 8), none⟩])
  (.seq (.ops [⟨some 10, .ld 2 true (.t 3), none⟩,
    ⟨none, .st 2 (.t 2) (.t 10), none⟩])
  .ret)))))⟩
theorem c64 : compileF Try.prog [] 64 = some cf64 := by kernel_rfl
/-- laws.eqPilotService -/
def cf69 : CF := ⟨15, [.t 4],
  (.seq (.ops [⟨some 2, .bx (.t 0), none⟩,
    ⟨some 3, .bx (.t 1), none⟩,
    ⟨some 4, .mv (.k (.bool false)), none⟩])
  (.seq (.seq (.ops [⟨some 5, .fa 0 1 0 (.t 2), none⟩,
    ⟨some 6, .ld 1 false (.t 5), none⟩,
    ⟨some 7, .fa 0 1 0 (.t 3), none⟩,
    ⟨some 8, .ld 1 false (.t 7), none⟩,
    ⟨some 9, .bin .neq (.t 6) (.t 8), none⟩])
  (.cond (.t 9)
  (.seq (.ops [⟨some 4, .mv (.k (.bool false)), none⟩])
  .ret)
  .skip))
  (.seq (.seq (.ops [⟨some 10, .fa 1 1 1 (.t 2), none⟩,
    ⟨some 11, .ld 1 false (.t 10), none⟩,
    ⟨some 12, .fa 1 1 1 (.t 3), none⟩,
    ⟨some 13, .ld 1 false (.t 12), none⟩,
    ⟨some 14, .bin .neq (.t 11) (.t 13), none⟩])
  (.cond (.t 14)
  (.seq (.ops [⟨some 4, .mv (.k (.bool false)), none⟩])
  .ret)
  .skip))
  (.seq (.ops [⟨some 4, .mv (.k (.bool true)), none⟩])
  .ret))))⟩
theorem c69 : compileF Try.prog [] 69 = some cf69 := by kernel_rfl
/-- laws.szPilotServiceS -/
def cf31 : CF := ⟨27, [.t 4],
  (.seq (.ops [⟨some 4, .mv (.k (.int .i64 0)), none⟩])
  (.seq (.ops [⟨some 6, .mv (.t 1), none⟩,
    ⟨some 7, .mv (.t 0), none⟩,
    ⟨some 8, .lenl (.t 7), none⟩,
    ⟨some 9, .bin .sub (.t 6) (.t 8), none⟩,
    ⟨some 1, .mv (.t 9), none⟩])
  (.seq (.seq (.ops [⟨some 10, .mv (.t 1), none⟩,
    ⟨some 11, .bin .lss (.t 10) (.k (.int .i64 0)), none⟩])
  (.cond (.t 11)
  (.seq (.ops [⟨some 4, .mv (.k (.int .i64 (-1))), none⟩])
  .ret)
  .skip))
  (.seq (.seq (.ops [⟨some 5, .mv (.k (.int .i64 0)), none⟩])
  (.block 0 (.loop (.seq (.seq (.ops [⟨some 12, .mv (.t 5), none⟩,
    ⟨some 13, .mv (.t 0), none⟩,
    ⟨some 14, .lenl (.t 13), none⟩,
    ⟨some 15, .bin .lss (.t 12) (.t 14), none⟩])
  (.cond (.t 15)
  .skip
  (.exit 0)))
  (.seq (.block 1 (.seq (.ops [⟨some 18, .mv (.t 0), none⟩,
    ⟨some 19, .mv (.t 5), none⟩,
    ⟨some 20, .ix 2 (.t 18) (.t 19), none⟩,
    ⟨some 21, .ld 2 true (.t 20), none⟩,
    ⟨some 22, .mv (.t 1), none⟩,
    ⟨some 23, .call 61 [(.t 21), (.t 22)], none⟩,
    ⟨some 1, .mv (.t 23), none⟩])
  (.seq (.ops [⟨some 24, .mv (.t 1), none⟩,
    ⟨some 25, .bin .lss (.t 24) (.k (.int .i64 0)), none⟩])
  (.cond (.t 25)
  (.seq (.ops [⟨some 4, .mv (.k (.int .i64 (-1))), none⟩])
  .ret)
  .skip))))
  (.ops [⟨some 16, .mv (.t 5), none⟩,
    ⟨some 17, .bin .add (.t 16) (.k (.int .i64 1)), none⟩,
    ⟨some 5, .mv (.t 17), none⟩]))))))
  (.seq (.ops [⟨some 26, .mv (.t 1), none⟩,
    ⟨some 4, .mv (.t 26), none⟩])
  .ret)))))⟩
theorem c31 : compileF Try.prog [] 31 = some cf31 := by kernel_rfl
/-- laws.toPilotServiceS -/
def cf35 : CF := ⟨23, [.t 2],
  (.seq (.ops [⟨some 2, .mv (.k (.nil)), none⟩])
  (.seq (.ops [⟨some 5, .mv (.t 0), none⟩,
    ⟨some 6, .lenl (.t 5), none⟩,
    ⟨some 7, .mk (.agg [.str ⟨#[]⟩, .int .i64 0]) 24 (.t 6) (.t 6), none⟩,
    ⟨some 3, .mv (.t 7), none⟩])
  (.seq (.seq (.ops [⟨some 4, .mv (.k (.int .i64 0)), none⟩])
  (.block 0 (.loop (.seq (.seq (.ops [⟨some 8, .mv (.t 4), none⟩,
    ⟨some 9, .mv (.t 0), none⟩,
    ⟨some 10, .lenl (.t 9), none⟩,
    ⟨some 11, .bin .lss (.t 8) (.t 10), none⟩])
  (.cond (.t 11)
  .skip
  (.exit 0)))
  (.seq (.block 1 (.ops [⟨some 14, .mv (.t 3), none⟩,
    ⟨some 15, .mv (.t 4), none⟩,
    ⟨some 16, .mv (.t 0), none⟩,
    ⟨some 17, .mv (.t 4), none⟩,
    ⟨some 18, .ix 2 (.t 16) (.t 17), none⟩,
    ⟨some 19, .ld 2 true (.t 18), none⟩,
    ⟨some 20, .call 64 [(.t 19)], none⟩,
    ⟨some 21, .ix 2 (.t 14) (.t 15), none⟩,
    ⟨none, .st 2 (.t 21) (.t 20), none⟩]))
  (.ops [⟨some 12, .mv (.t 4), none⟩,
    ⟨some 13, .bin .add (.t 12) (.k (.int .i64 1)), none⟩,
    ⟨some 4, .mv (.t 13), none⟩]))))))
  (.seq (.ops [⟨some 22, .mv (.t 3), none⟩,
    ⟨some 2, .mv (.t 22), none⟩])
  .ret))))⟩
theorem c35 : compileF Try.prog [] 35 = some cf35 := by kernel_rfl
/-- laws.eqPilotServiceS -/
def cf39 : CF := ⟨27, [.t 4],
  (.seq (.ops [⟨some 4, .mv (.k (.bool false)), none⟩])
  (.seq (.seq (.ops [⟨some 6, .mv (.t 0), none⟩,
    ⟨some 7, .lenl (.t 6), none⟩,
    ⟨some 8, .mv (.t 1), none⟩,
    ⟨some 9, .lenl (.t 8), none⟩,
    ⟨some 10, .bin .neq (.t 7) (.t 9), none⟩])
  (.cond (.t 10)
  (.seq (.ops [⟨some 4, .mv (.k (.bool false)), none⟩])
  .ret)
  .skip))
  (.seq (.seq (.ops [⟨some 5, .mv (.k (.int .i64 0)), none⟩])
  (.block 0 (.loop (.seq (.seq (.ops [⟨some 11, .mv (.t 5), none⟩,
    ⟨some 12, .mv (.t 0), none⟩,
    ⟨some 13, .lenl (.t 12), none⟩,
    ⟨some 14, .bin .lss (.t 11) (.t 13), none⟩])
  (.cond (.t 14)
  .skip
  (.exit 0)))
  (.seq (.block 1 (.seq (.quiet [⟨some 17, .mv (.t 0), none⟩,
    ⟨some 18, .mv (.t 5), none⟩,
    ⟨some 19, .ix 2 (.t 17) (.t 18), none⟩,
    ⟨some 20, .ld 2 true (.t 19), none⟩,
    ⟨some 21, .mv (.t 1), none⟩,
    ⟨some 22, .mv (.t 5), none⟩,
    ⟨some 23, .ix 2 (.t 21) (.t 22), none⟩,
    ⟨some 24, .ld 2 true (.t 23), none⟩,
    ⟨some 25, .call 69 [(.t 20), (.t 24)], none⟩,
    ⟨some 26, .not (.t 25), none⟩])
  (.cond (.t 26)
  (.seq (.ops [⟨some 4, .mv (.k (.bool false)), none⟩])
  .ret)
  .skip)))
  (.ops [⟨some 15, .mv (.t 5), none⟩,
    ⟨some 16, .bin .add (.t 15) (.k (.int .i64 1)), none⟩,
    ⟨some 5, .mv (.t 16), none⟩]))))))
  (.seq (.ops [⟨some 4, .mv (.k (.bool true)), none⟩])
  .ret))))⟩
theorem c39 : compileF Try.prog [] 39 = some cf39 := by kernel_rfl
/-- laws.szPilotBerth -/
def cf60 : CF := ⟨26, [.t 4],
  (.seq (.ops [⟨some 2, .bx (.t 0), none⟩,
    ⟨some 4, .mv (.k (.int .i64 0)), none⟩])
  (.seq (.ops [⟨some 5, .mv (.t 1), none⟩,
    ⟨some 6, .fa 0 1 0 (.t 2), none⟩,
    ⟨some 7, .ld 1 false (.t 6), none⟩,
    ⟨some 8, .lens (.t 7), none⟩,
    ⟨some 9, .bin .sub (.t 5) (.t 8), none⟩,
    ⟨some 1, .mv (.t 9), none⟩])
  (.seq (.seq (.ops [⟨some 10, .mv (.t 1), none⟩,
    ⟨some 11, .bin .lss (.t 10) (.k (.int .i64 0)), none⟩])
  (.cond (.t 11)
  (.seq (.ops [⟨some 4, .mv (.k (.int .i64 (-1))), none⟩])
  .ret)
  .skip))
  (.seq (.ops [⟨some 12, .mv (.t 1), none⟩,
    ⟨some 13, .fa 1 1 1 (.t 2), none⟩,
    ⟨some 14, .ld 1 false (.t 13), none⟩,
    ⟨some 15, .lens (.t 14), none⟩,
    ⟨some 16, .bin .sub (.t 12) (.t 15), none⟩,
    ⟨some 1, .mv (.t 16), none⟩])
  (.seq (.seq (.ops [⟨some 17, .mv (.t 1), none⟩,
    ⟨some 18, .bin .lss (.t 17) (.k (.int .i64 0)), none⟩])
  (.cond (.t 18)
  (.seq (.ops [⟨some 4, .mv (.k (.int .i64 (-1))), none⟩])
  .ret)
  .skip))
  (.seq (.ops [⟨some 19, .fa 2 1 2 (.t 2), none⟩,
    ⟨some 20, .ld 1 false (.t 19), none⟩,
    ⟨some 21, .mv (.t 1), none⟩,
    ⟨some 22, .call 97 [(.t 20), (.t 21)], none⟩,
    ⟨some 1, .mv (.t 22), none⟩])
  (.seq (.seq (.ops [⟨some 23, .mv (.t 1), none⟩,
    ⟨some 24, .bin .lss (.t 23) (.k (.int .i64 0)), none⟩])
  (.cond (.t 24)
  (.seq (.ops [⟨some 4, .mv (.k (.int .i64 (-1))), none⟩])
  .ret)
  .skip))
  (.seq (.ops [⟨some 25, .mv (.t 1), none⟩,
    ⟨some 4, .mv (.t 25), none⟩])
  .ret))))))))⟩
theorem c60 : compileF Try.prog [] 60 = some cf60 := by kernel_rfl
/-- laws.toPilotBerth -/
def cf63 : CF := ⟨24, [.c 2 6 true],
  (.seq (.ops [⟨some 1, .bx (.t 0), none⟩,
    ⟨some 2, .al (.agg [.str ⟨#[]⟩, .str ⟨#[]⟩, .nil, .int .i64 0, .int .i64 0, .bool false]), none⟩])
  (.seq (.ops [⟨some 3, .al (.agg [.str ⟨#[]⟩, .str ⟨#[]⟩, .nil, .int .i64 0, .int .i64 0, .bool false]), none⟩])
  (.seq (.ops [⟨some 4, .fa 0 1 0 (.t 1), none⟩,
    ⟨some 5, .ld 1 false (.t 4), none⟩,
    ⟨some 6, .fa 0 1 0 (.t 3), none⟩,
    ⟨none, .st 1 (.t 6) (.t 5), none⟩])
  (.seq (.ops [⟨some 7, .fa 1 1 1 (.t 1), none⟩,
    ⟨some 8, .ld 1 false (.t 7), none⟩,
    ⟨some 9, .fa 1 1 1 (.t 3), none⟩,
    ⟨none, .st 1 (.t 9) (.t 8), none⟩])
  (.seq (.ops [⟨some 10, .fa 2 1 2 (.t 1), none⟩,
    ⟨some 11, .ld 1 false (.t 10), none⟩,
    ⟨some 12, .call 99 [(.t 11)], none⟩,
    ⟨some 13, .fa 2 1 2 (.t 3), none⟩,
    ⟨none, .st 1 (.t 13) (.t 12), none⟩])
  (.seq (.ops [⟨some 14, .fa 3 1 3 (.t 1), none⟩,
    ⟨some 15, .ld 1 false (.t 14), none⟩,
    ⟨some 16, .fa 3 1 3 (.t 3), none⟩,
    ⟨none, .st 1 (.t 16) (.t 15), none⟩])
  (.seq (.ops [⟨some 17, .fa 4 1 4 (.t 1), none⟩,
    ⟨some 18, .ld 1 false (.t 17), none⟩,
    ⟨some 19, .fa 4 1 4 (.t 3), none⟩,
    ⟨none, .st 1 (.t 19) (.t 18), none⟩])
  (.seq (.ops [⟨some 20, .fa 5 1 5 (.t 1), none⟩,
    ⟨some 21, .ld 1 false (.t 20), none⟩,
    ⟨some 22, .fa 5 1 5 (.t 3), none⟩,
    ⟨none, .st 1 (.t 22) (.t 21), none⟩])
  (.seq (.ops [⟨some 23, .ld 6 true (.t 3), none⟩,
    ⟨none, .st 6 (.t 2) (.t 23), none⟩])
  .ret)))))))))⟩
theorem c63 : compileF Try.prog [] 63 = some cf63 := by kernel_rfl
/-- laws.eqPilotBerth -/
def cf68 : CF := ⟨36, [.t 4],
  (.seq (.ops [⟨some 2, .bx (.t 0), none⟩,
    ⟨some 3, .bx (.t 1), none⟩,
    ⟨some 4, .mv (.k (.bool false)), none⟩])
  (.seq (.seq (.ops [⟨some 5, .fa 0 1 0 (.t 2), none⟩,
    ⟨some 6, .ld 1 false (.t 5), none⟩,
    ⟨some 7, .fa 0 1 0 (.t 3), none⟩,
    ⟨some 8, .ld 1 false (.t 7), none⟩,
    ⟨some 9, .bin .neq (.t 6) (.t 8), none⟩])
  (.cond (.t 9)
  (.seq (.ops [⟨some 4, .mv (.k (.bool false)), none⟩])
  .ret)
  .skip))
  (.seq (.seq (.ops [⟨some 10, .fa 1 1 1 (.t 2), none⟩,
    ⟨some 11, .ld 1 false (.t 10), none⟩,
    ⟨some 12, .fa 1 1 1 (.t 3), none⟩,
    ⟨some 13, .ld 1 false (.t 12), none⟩,
    ⟨some 14, .bin .neq (.t 11) (.t 13), none⟩])
  (.cond (.t 14)
  (.seq (.ops [⟨some 4, .mv (.k (.bool false)), none⟩])
  .ret)
  .skip))
  (.seq (.seq (.ops [⟨some 15, .fa 2 1 2 (.t 2), none⟩,
    ⟨some 16, .ld 1 false (.t 15), none⟩,
    ⟨some 17, .fa 2 1 2 (.t 3), none⟩,
    ⟨some 18, .ld 1 false (.t 17), none⟩,
    ⟨some 19, .call 101 [(.t 16), (.t 18)], none⟩,
    ⟨some 20, .not (.t 19), none⟩])
  (.cond (.t 20)
  (.seq (.ops [⟨some 4, .mv (.k (.bool false)), none⟩])
  .ret)
  .skip))
  (.seq (.seq (.ops [⟨some 21, .fa 3 1 3 (.t 2), none⟩,
    ⟨some 22, .ld 1 false (.t 21), none⟩,
    ⟨some 23, .fa 3 1 3 (.t 3), none⟩,
    ⟨some 24, .ld 1 false (.t 23), none⟩,
    ⟨some 25, .bin .neq (.t 22) (.t 24), none⟩])
  (.cond (.t 25)
  (.seq (.ops [⟨some 4, .mv (.k (.bool false)), none⟩])
  .ret)
  .skip))
  (.seq (.seq (.ops [⟨some 26, .fa 4 1 4 (.t 2), none⟩,
    ⟨some 27, .ld 1 false (.t 26), none⟩,
    ⟨some 28, .fa 4 1 4 (.t 3), none⟩,
    ⟨some 29, .ld 1 false (.t 28), none⟩,
    ⟨some 30, .bin .neq (.t 27) (.t 29), none⟩])
  (.cond (.t 30)
  (.seq (.ops [⟨some 4, .mv (.k (.bool false)), none⟩])
  .ret)
  .skip))
  (.seq (.seq (.ops [⟨some 31, .fa 5 1 5 (.t 2), none⟩,
    ⟨some 32, .ld 1 false (.t 31), none⟩,
    ⟨some 33, .fa 5 1 5 (.t 3), none⟩,
    ⟨some 34, .ld 1 false (.t 33), none⟩,
    ⟨some 35, .binb true (.t 32) (.t 34), none⟩])
  (.cond (.t 35)
  (.seq (.ops [⟨some 4, .mv (.k (.bool false)), none⟩])
  .ret)
  .skip))
  (.seq (.ops [⟨some 4, .mv (.k (.bool true)), none⟩])
  .ret))))))))⟩
theorem c68 : compileF Try.prog [] 68 = some cf68 := by kernel_rfl
/-- laws.szPilotBerthS -/
def cf30 : CF := ⟨27, [.t 4],
  (.seq (.ops [⟨some 4, .mv (.k (.int .i64 0)), none⟩])
  (.seq (.ops [⟨some 6, .mv (.t 1), none⟩,
    ⟨some 7, .mv (.t 0), none⟩,
    ⟨some 8, .lenl (.t 7), none⟩,
    ⟨some 9, .bin .sub (.t 6) (.t 8), none⟩,
    ⟨some 1, .mv (.t 9), none⟩])
  (.seq (.seq (.ops [⟨some 10, .mv (.t 1), none⟩,
    ⟨some 11, .bin .lss (.t 10) (.k (.int .i64 0)), none⟩])
  (.cond (.t 11)
  (.seq (.ops [⟨some 4, .mv (.k (.int .i64 (-1))), none⟩])
  .ret)
  .skip))
  (.seq (.seq (.ops [⟨some 5, .mv (.k (.int .i64 0)), none⟩])
  (.block 0 (.loop (.seq (.seq (.ops [⟨some 12, .mv (.t 5), none⟩,
    ⟨some 13, .mv (.t 0), none⟩,
    ⟨some 14, .lenl (.t 13), none⟩,
    ⟨some 15, .bin .lss (.t 12) (.t 14), none⟩])
  (.cond (.t 15)
  .skip
  (.exit 0)))
  (.seq (.block 1 (.seq (.ops [⟨some 18, .mv (.t 0), none⟩,
    ⟨some 19, .mv (.t 5), none⟩,
    ⟨some 20, .ix 6 (.t 18) (.t 19), none⟩,
    ⟨some 21, .ld 6 true (.t 20), none⟩,
    ⟨some 22, .mv (.t 1), none⟩,
    ⟨some 23, .call 60 [(.t 21), (.t 22)], none⟩,
    ⟨some 1, .mv (.t 23), none⟩])
  (.seq (.ops [⟨some 24, .mv (.t 1), none⟩,
    ⟨some 25, .bin .lss (.t 24) (.k (.int .i64 0)), none⟩])
  (.cond (.t 25)
  (.seq (.ops [⟨some 4, .mv (.k (.int .i64 (-1))), none⟩])
  .ret)
  .skip))))
  (.ops [⟨some 16, .mv (.t 5), none⟩,
    ⟨some 17, .bin .add (.t 16) (.k (.int .i64 1)), none⟩,
    ⟨some 5, .mv (.t 17), none⟩]))))))
  (.seq (.ops [⟨some 26, .mv (.t 1), none⟩,
    ⟨some 4, .mv (.t 26), none⟩])
  .ret)))))⟩
theorem c30 : compileF Try.prog [] 30 = some cf30 := by kernel_rfl
/-- laws.toPilotBerthS -/
def cf34 : CF := ⟨23, [.t 2],
  (.seq (.ops [⟨some 2, .mv (.k (.nil)), none⟩])
  (.seq (.ops [⟨some 5, .mv (.t 0), none⟩,
    ⟨some 6, .lenl (.t 5), none⟩,
    ⟨some 7, .mk (.agg [.str ⟨#[]⟩, .str ⟨#[]⟩, .nil, .int .i64 0, .int .i64 0, .bool false]) 80 (.t 6) (.t 6), none⟩,
    ⟨some 3, .mv (.t 7), none⟩])
  (.seq (.seq (.ops [⟨some 4, .mv (.k (.int .i64 0)), none⟩])
  (.block 0 (.loop (.seq (.seq (.ops [⟨some 8, .mv (.t 4), none⟩,
    ⟨some 9, .mv (.t 0), none⟩,
    ⟨some 10, .lenl (.t 9), none⟩,
    ⟨some 11, .bin .lss (.t 8) (.t 10), none⟩])
  (.cond (.t 11)
  .skip
  (.exit 0)))
  (.seq (.block 1 (.ops [⟨some 14, .mv (.t 3), none⟩,
    ⟨some 15, .mv (.t 4), none⟩,
    ⟨some 16, .mv (.t 0), none⟩,
    ⟨some 17, .mv (.t 4), none⟩,
    ⟨some 18, .ix 6 (.t 16) (.t 17), none⟩,
    ⟨some 19, .ld 6 true (.t 18), none⟩,
    ⟨some 20, .call 63 [(.t 19)], none⟩,
    ⟨some 21, .ix 6 (.t 14) (.t 15), none⟩,
    ⟨none, .st 6 (.t 21) (.t 20), none⟩]))
  (.ops [⟨some 12, .mv (.t 4), none⟩,
    ⟨some 13, .bin .add (.t 12) (.k (.int .i64 1)), none⟩,
    ⟨some 4, .mv (.t 13), none⟩]))))))
  (.seq (.ops [⟨some 22, .mv (.t 3), none⟩,
    ⟨some 2, .mv (.t 22), none⟩])
  .ret))))⟩
theorem c34 : compileF Try.prog [] 34 = some cf34 := by kernel_rfl
/-- laws.eqPilotBerthS -/
def cf38 : CF := ⟨27, [.t 4],
  (.seq (.ops [⟨some 4, .mv (.k (.bool false)), none⟩])
  (.seq (.seq (.ops [⟨some 6, .mv (.t 0), none⟩,
    ⟨some 7, .lenl (.t 6), none⟩,
    ⟨some 8, .mv (.t 1), none⟩,
    ⟨some 9, .lenl (.t 8), none⟩,
    ⟨some 10, .bin .neq (.t 7) (.t 9), none⟩])
  (.cond (.t 10)
  (.seq (.ops [⟨some 4, .mv (.k (.bool false)), none⟩])
  .ret)
  .skip))
  (.seq (.seq (.ops [⟨some 5, .mv (.k (.int .i64 0)), none⟩])
  (.block 0 (.loop (.seq (.seq (.ops [⟨some 11, .mv (.t 5), none⟩,
    ⟨some 12, .mv (.t 0), none⟩,
    ⟨some 13, .lenl (.t 12), none⟩,
    ⟨some 14, .bin .lss (.t 11) (.t 13), none⟩])
  (.cond (.t 14)
  .skip
  (.exit 0)))
  (.seq (.block 1 (.seq (.quiet [⟨some 17, .mv (.t 0), none⟩,
    ⟨some 18, .mv (.t 5), none⟩,
    ⟨some 19, .ix 6 (.t 17) (.t 18), none⟩,
    ⟨some 20, .ld 6 true (.t 19), none⟩,
    ⟨some 21, .mv (.t 1), none⟩,
    ⟨some 22, .mv (.t 5), none⟩,
    ⟨some 23, .ix 6 (.t 21) (.t 22), none⟩,
    ⟨some 24, .ld 6 true (.t 23), none⟩,
    ⟨some 25, .call 68 [(.t 20), (.t 24)], none⟩,
    ⟨some 26, .not (.t 25), none⟩])
  (.cond (.t 26)
  (.seq (.ops [⟨some 4, .mv (.k (.bool false)), none⟩])
  .ret)
  .skip)))
  (.ops [⟨some 15, .mv (.t 5), none⟩,
    ⟨some 16, .bin .add (.t 15) (.k (.int .i64 1)), none⟩,
    ⟨some 5, .mv (.t 16), none⟩]))))))
  (.seq (.ops [⟨some 4, .mv (.k (.bool true)), none⟩])
  .ret))))⟩
theorem c38 : compileF Try.prog [] 38 = some cf38 := by kernel_rfl
/-- laws.szPilotFleet -/
def cf15 : CF := ⟨24, [.t 4],
  (.seq (.ops [⟨some 2, .bx (.t 0), none⟩,
    ⟨some 4, .mv (.k (.int .i64 0)), none⟩])
  (.seq (.ops [⟨some 5, .fa 1 1 1 (.t 2), none⟩,
    ⟨some 6, .ld 1 false (.t 5), none⟩,
    ⟨some 7, .mv (.t 1), none⟩,
    ⟨some 8, .call 30 [(.t 6), (.t 7)], none⟩,
    ⟨some 1, .mv (.t 8), none⟩])
  (.seq (.seq (.ops [⟨some 9, .mv (.t 1), none⟩,
    ⟨some 10, .bin .lss (.t 9) (.k (.int .i64 0)), none⟩])
  (.cond (.t 10)
  (.seq (.ops [⟨some 4, .mv (.k (.int .i64 (-1))), none⟩])
  .ret)
  .skip))
  (.seq (.ops [⟨some 11, .fa 2 1 2 (.t 2), none⟩,
    ⟨some 12, .ld 1 false (.t 11), none⟩,
    ⟨some 13, .mv (.t 1), none⟩,
    ⟨some 14, .call 31 [(.t 12), (.t 13)], none⟩,
    ⟨some 1, .mv (.t 14), none⟩])
  (.seq (.seq (.ops [⟨some 15, .mv (.t 1), none⟩,
    ⟨some 16, .bin .lss (.t 15) (.k (.int .i64 0)), none⟩])
  (.cond (.t 16)
  (.seq (.ops [⟨some 4, .mv (.k (.int .i64 (-1))), none⟩])
  .ret)
  .skip))
  (.seq (.ops [⟨some 17, .fa 3 1 3 (.t 2), none⟩,
    ⟨some 18, .ld 1 false (.t 17), none⟩,
    ⟨some 19, .mv (.t 1), none⟩,
    ⟨some 20, .call 32 [(.t 18), (.t 19)], none⟩,
    ⟨some 1, .mv (.t 20), none⟩])
  (.seq (.seq (.ops [⟨some 21, .mv (.t 1), none⟩,
    ⟨some 22, .bin .lss (.t 21) (.k (.int .i64 0)), none⟩])
  (.cond (.t 22)
  (.seq (.ops [⟨some 4, .mv (.k (.int .i64 (-1))), none⟩])
  .ret)
  .skip))
  (.seq (.ops [⟨some 23, .mv (.t 1), none⟩,
    ⟨some 4, .mv (.t 23), none⟩])
  .ret))))))))⟩
theorem c15 : compileF Try.prog [] 15 = some cf15 := by kernel_rfl
/-- laws.toPilotFleet -/
def cf17 : CF := ⟨20, [.c 2 4 true],
  (.seq (.ops [⟨some 1, .bx (.t 0), none⟩,
    ⟨some 2, .al (.agg [.bool false, .nil, .nil, .nil]), none⟩])
  (.seq (.ops [⟨some 3, .al (.agg [.bool false, .nil, .nil, .nil]), none⟩])
  (.seq (.ops [⟨some 4, .fa 0 1 0 (.t 1), none⟩,
    ⟨some 5, .ld 1 false (.t 4), none⟩,
    ⟨some 6, .fa 0 1 0 (.t 3), none⟩,
    ⟨none, .st 1 (.t 6) (.t 5), none⟩])
  (.seq (.ops [⟨some 7, .fa 1 1 1 (.t 1), none⟩,
    ⟨some 8, .ld 1 false (.t 7), none⟩,
    ⟨some 9, .call 34 [(.t 8)], none⟩,
    ⟨some 10, .fa 1 1 1 (.t 3), none⟩,
    ⟨none, .st 1 (.t 10) (.t 9), none⟩])
  (.seq (.ops [⟨some 11, .fa 2 1 2 (.t 1), none⟩,
    ⟨some 12, .ld 1 false (.t 11), none⟩,
    ⟨some 13, .call 35 [(.t 12)], none⟩,
    ⟨some 14, .fa 2 1 2 (.t 3), none⟩,
    ⟨none, .st 1 (.t 14) (.t 13), none⟩])
  (.seq (.ops [⟨some 15, .fa 3 1 3 (.t 1), none⟩,
    ⟨some 16, .ld 1 false (.t 15), none⟩,
    ⟨some 17, .call 36 [(.t 16)], none⟩,
    ⟨some 18, .fa 3 1 3 (.t 3), none⟩,
    ⟨none, .st 1 (.t 18) (.t 17), none⟩])
  (.seq (.ops [⟨some 19, .ld 4 true (.t 3), none⟩,
    ⟨none, .st 4 (.t 2) (.t 19), none⟩])
  .ret)))))))⟩
theorem c17 : compileF Try.prog [] 17 = some cf17 := by kernel_rfl
/-- laws.eqPilotFleet -/
def cf19 : CF := ⟨28, [.t 4],
  (.seq (.ops [⟨some 2, .bx (.t 0), none⟩,
    ⟨some 3, .bx (.t 1), none⟩,
    ⟨some 4, .mv (.k (.bool false)), none⟩])
  (.seq (.seq (.ops [⟨some 5, .fa 0 1 0 (.t 2), none⟩,
    ⟨some 6, .ld 1 false (.t 5), none⟩,
    ⟨some 7, .fa 0 1 0 (.t 3), none⟩,
    ⟨some 8, .ld 1 false (.t 7), none⟩,
    ⟨some 9, .binb true (.t 6) (.t 8), none⟩])
  (.cond (.t 9)
  (.seq (.ops [⟨some 4, .mv (.k (.bool false)), none⟩])
  .ret)
  .skip))
  (.seq (.seq (.ops [⟨some 10, .fa 1 1 1 (.t 2), none⟩,
    ⟨some 11, .ld 1 false (.t 10), none⟩,
    ⟨some 12, .fa 1 1 1 (.t 3), none⟩,
    ⟨some 13, .ld 1 false (.t 12), none⟩,
    ⟨some 14, .call 38 [(.t 11), (.t 13)], none⟩,
    ⟨some 15, .not (.t 14), none⟩])
  (.cond (.t 15)
  (.seq (.ops [⟨some 4, .mv (.k (.bool false)), none⟩])
  .ret)
  .skip))
  (.seq (.seq (.ops [⟨some 16, .fa 2 1 2 (.t 2), none⟩,
    ⟨some 17, .ld 1 false (.t 16), none⟩,
    ⟨some 18, .fa 2 1 2 (.t 3), none⟩,
    ⟨some 19, .ld 1 false (.t 18), none⟩,
    ⟨some 20, .call 39 [(.t 17), (.t 19)], none⟩,
    ⟨some 21, .not (.t 20), none⟩])
  (.cond (.t 21)
  (.seq (.ops [⟨some 4, .mv (.k (.bool false)), none⟩])
  .ret)
  .skip))
  (.seq (.seq (.ops [⟨some 22, .fa 3 1 3 (.t 2), none⟩,
    ⟨some 23, .ld 1 false (.t 22), none⟩,
    ⟨some 24, .fa 3 1 3 (.t 3), none⟩,
    ⟨some 25, .ld 1 false (.t 24), none⟩,
    ⟨some 26, .call 40 [(.t 23), (.t 25)], none⟩,
    ⟨some 27, .not (.t 26), none⟩])
  (.cond (.t 27)
  (.seq (.ops [⟨some 4, .mv (.k (.bool false)), none⟩])
  .ret)
  .skip))
  (.seq (.ops [⟨some 4, .mv (.k (.bool true)), none⟩])
  .ret))))))⟩
theorem c19 : compileF Try.prog [] 19 = some cf19 := by kernel_rfl
theorem args_StringS {d : D} (h : Has (.sl 1 (.str)) d) : ∃ l : (List ByteArray), d = .ro 1 (l.map D.str) ∧ l.length ≤ 9223372036854775807 ∧ ∀ y ∈ l, y.size ≤ 9223372036854775807 := by
  rw [Has] at h
  obtain ⟨ds, rfl, hm, hd⟩ := h
  have : ∃ l : (List ByteArray), ds = l.map D.str ∧ ∀ y ∈ l, y.size ≤ 9223372036854775807 := by
    clear hm
    induction ds with
    | nil => exact ⟨[], rfl, by simp⟩
    | cons d ds ih =>
      obtain ⟨l, rfl, hl⟩ := ih (fun x hx => hd x (List.mem_cons_of_mem _ hx))
      obtain ⟨v, rfl, wv⟩ : ∃ v : ByteArray, d = D.str v ∧ v.size ≤ 9223372036854775807 := by
        have h := hd _ (List.mem_cons_self ..)
        rw [Has] at h
        obtain ⟨v, rfl, w⟩ := h
        exact ⟨v, rfl, w⟩
      exact ⟨v :: l, rfl, fun y hy => by rcases List.mem_cons.1 hy with rfl | hy <;> first | exact wv | exact hl y hy⟩
  obtain ⟨l, rfl, hl⟩ := this
  exact ⟨l, rfl, by rw [List.length_map] at hm; exact hm, hl⟩
theorem to_StringS (l : (List ByteArray)) (hs : l.length ≤ 1048576 ∧ ∀ y ∈ l, True) : Rdr Try.prog 99 [.ro 1 (l.map D.str)] (.ro 1 (l.map D.str)) := toStr_rdr hm c99 (by decide) hs.1
theorem eq_StringS (l : (List ByteArray)) (hs : l.length ≤ 1048576 ∧ ∀ y ∈ l, True) : Rdr Try.prog 101 [.ro 1 (l.map D.str), .ro 1 (l.map D.str)] (.bool true) := eqStr_rdr hm c101 hs.1
theorem sz_StringS (l : (List ByteArray)) (k : Int) (hw : l.length ≤ 9223372036854775807 ∧ ∀ y ∈ l, y.size ≤ 9223372036854775807) (h0 : 0 ≤ k) (h1 : k ≤ 1048576) : XC Try.prog 97 [.ro 1 (l.map D.str), .int .i64 k] [] (fun d ls => ls = [] ∧ ∃ n, d = .int .i64 n ∧ (0 ≤ n → n ≤ k ∧ l.length ≤ 1048576 ∧ ∀ y ∈ l, True)) := szT_xc hm c97 l k hw h0 h1
structure PilotLike where
  fSelect : ByteArray
  fWeight : Int
def PilotLike.D (x : PilotLike) : D := .agg [.str x.fSelect, .int .i64 x.fWeight]
instance : Inhabited PilotLike := ⟨⟨⟨#[]⟩, 0⟩⟩
structure PilotLike.wf (x : PilotLike) : Prop where
  fSelect : x.fSelect.size ≤ 9223372036854775807
structure PilotLike.small (x : PilotLike) : Prop where
theorem PilotLike.len (x : PilotLike) : x.D.len = 2 := rfl
theorem args_PilotLike {d : D} (h : Has (.st [.str, .int .i64]) d) : ∃ x : PilotLike, d = x.D ∧ x.wf := by
  rw [Has] at h
  obtain ⟨_, rfl, h⟩ := h
  simp only [HasF] at h
  obtain ⟨_, _, rfl, hSelect, _, _, rfl, hWeight, rfl⟩ := h
  rw [Has] at hSelect
  obtain ⟨vSelect, rfl, wSelect⟩ := hSelect
  rw [Has] at hWeight
  obtain ⟨vWeight, rfl, _⟩ := hWeight
  exact ⟨⟨vSelect, vWeight⟩, rfl, ⟨wSelect⟩⟩
theorem sz_PilotLike (x : PilotLike) (k : Int) (hw : x.wf) (h0 : 0 ≤ k) (h1 : k ≤ 1048576) : XC Try.prog 110 [x.D, .int .i64 k] [] (fun d ls => ls = [] ∧ ∃ n, d = .int .i64 n ∧ (0 ≤ n → n ≤ k ∧ x.small)) := by
  refine XC.intro' hm [] rfl c110 (Nat.le_of_ble_eq_true rfl) ?_
  conv => whnf
  repeat' (first | (refine g_op ?_; conv => whnf) | (refine And.intro ?_ ?_; (focus (first | exact rfl | exact Nat.le_of_ble_eq_true rfl | decide | omega | fail)); conv => whnf) | (refine g_seq ?_) | (refine XS.go ?_) | (refine g_ops ?_) | (refine g_nil ?_; conv => whnf) | (refine g_cond ?_; conv => whnf) | (refine fun _ => ?_; conv => whnf) | fail)
  have q1 := hw.fSelect
  have e1 : IntKind.wrap .i64 (k - (x.fSelect.size : Int)) = k - (x.fSelect.size : Int) := wrap_ok (by omega) (by omega)
  rw [e1]
  refine Br.mk (fun hb => ?_) (fun hb => ?_)
  · conv => whnf
    repeat' (first | (refine g_op ?_; conv => whnf) | (refine And.intro ?_ ?_; (focus (first | exact rfl | exact Nat.le_of_ble_eq_true rfl | decide | omega | fail)); conv => whnf) | (refine g_seq ?_) | (refine XS.go ?_) | (refine g_ops ?_) | (refine g_nil ?_; conv => whnf) | (refine g_ret ?_; conv => whnf) | (refine r_t ?_; conv => whnf) | (refine r_nil ?_; conv => whnf) | fail)
    exact ⟨_, rfl, fun h => absurd h (by decide)⟩
  have p1 : 0 ≤ (k - (x.fSelect.size : Int)) := Int.not_lt.1 (of_decide_eq_false hb)
  conv => whnf
  repeat' (first | (refine g_op ?_; conv => whnf) | (refine And.intro ?_ ?_; (focus (first | exact rfl | exact Nat.le_of_ble_eq_true rfl | decide | omega | fail)); conv => whnf) | (refine g_seq ?_) | (refine XS.go ?_) | (refine g_ops ?_) | (refine g_nil ?_; conv => whnf) | (refine g_skip ?_; conv => whnf) | (refine g_ret ?_; conv => whnf) | (refine r_t ?_; conv => whnf) | (refine r_nil ?_; conv => whnf) | fail)
  exact ⟨_, rfl, fun _ => ⟨by omega, ⟨⟩⟩⟩
theorem to_PilotLike (x : PilotLike) (hs : x.small) : Rdr Try.prog 111 [x.D] x.D := by
  refine Rdr.intro' hm c111 (Nat.le_of_ble_eq_true rfl) ?_
  conv => whnf
  repeat' (first | (refine g_op ?_; conv => whnf) | (refine And.intro ?_ ?_; (focus (first | exact rfl | exact Nat.le_of_ble_eq_true rfl | decide | omega | fail)); conv => whnf) | (refine g_seq ?_) | (refine XS.go ?_) | (refine g_ops ?_) | (refine g_nil ?_; conv => whnf) | (refine g_ret ?_; conv => whnf) | (refine r_c ?_; conv => whnf) | (refine r_nil ?_; conv => whnf) | (refine fun _ => ?_; conv => whnf) | fail)
  all_goals rfl
theorem eq_PilotLike (x : PilotLike) (hs : x.small) : Rdr Try.prog 112 [x.D, x.D] (.bool true) := by
  refine Rdr.intro' hm c112 (Nat.le_of_ble_eq_true rfl) ?_
  conv => whnf
  repeat' (first | (refine g_op ?_; conv => whnf) | (refine And.intro ?_ ?_; (focus (first | exact rfl | exact Nat.le_of_ble_eq_true rfl | decide | omega | fail)); conv => whnf) | (refine g_seq ?_) | (refine XS.go ?_) | (refine g_ops ?_) | (refine g_nil ?_; conv => whnf) | (refine g_cond ?_; conv => whnf) | (refine g_skip ?_; conv => whnf) | (refine g_ret ?_; conv => whnf) | (refine r_t ?_; conv => whnf) | (refine r_nil ?_; conv => whnf) | (refine fun _ => ?_; conv => whnf) | (refine Br.f (by simp) ?_; conv => whnf) | fail)
  all_goals rfl
theorem args_PilotLikeS {d : D} (h : Has (.sl 2 (.st [.str, .int .i64])) d) : ∃ l : (List PilotLike), d = .ro 2 (l.map PilotLike.D) ∧ l.length ≤ 9223372036854775807 ∧ ∀ y ∈ l, y.wf := by
  rw [Has] at h
  obtain ⟨ds, rfl, hm, hd⟩ := h
  have : ∃ l : (List PilotLike), ds = l.map PilotLike.D ∧ ∀ y ∈ l, y.wf := by
    clear hm
    induction ds with
    | nil => exact ⟨[], rfl, by simp⟩
    | cons d ds ih =>
      obtain ⟨l, rfl, hl⟩ := ih (fun x hx => hd x (List.mem_cons_of_mem _ hx))
      obtain ⟨v, rfl, wv⟩ : ∃ v : PilotLike, d = PilotLike.D v ∧ v.wf := args_PilotLike (hd _ (List.mem_cons_self ..))
      exact ⟨v :: l, rfl, fun y hy => by rcases List.mem_cons.1 hy with rfl | hy <;> first | exact wv | exact hl y hy⟩
  obtain ⟨l, rfl, hl⟩ := this
  exact ⟨l, rfl, by rw [List.length_map] at hm; exact hm, hl⟩
theorem to_PilotLikeS (l : (List PilotLike)) (hs : l.length ≤ 1048576 ∧ ∀ y ∈ l, y.small) : Rdr Try.prog 100 [.ro 2 (l.map PilotLike.D)] (.ro 2 (l.map PilotLike.D)) :=
  toS_rdr hm c100 (zs := [.str ⟨#[]⟩, .int .i64 0]) rfl (by decide) (by decide) (by simpa using hs.1) (fun d hd => by obtain ⟨x, hx, rfl⟩ := List.mem_map.1 hd; exact ⟨_, rfl, rfl, to_PilotLike x (hs.2 x hx)⟩) (D.frozs_map (fun _ => rfl) _)
theorem eq_PilotLikeS (l : (List PilotLike)) (hs : l.length ≤ 1048576 ∧ ∀ y ∈ l, y.small) : Rdr Try.prog 102 [.ro 2 (l.map PilotLike.D), .ro 2 (l.map PilotLike.D)] (.bool true) :=
  eqS_rdr hm c102 (by decide) (by rw [List.length_map]; exact Nat.le_trans hs.1 (by decide)) (fun d hd => by obtain ⟨x, hx, rfl⟩ := List.mem_map.1 hd; exact ⟨_, rfl, rfl, eq_PilotLike x (hs.2 x hx)⟩)
theorem sz_PilotLikeS (l : (List PilotLike)) (k : Int) (hw : l.length ≤ 9223372036854775807 ∧ ∀ y ∈ l, y.wf) (h0 : 0 ≤ k) (h1 : k ≤ 1048576) : XC Try.prog 98 [.ro 2 (l.map PilotLike.D), .int .i64 k] [] (fun d ls => ls = [] ∧ ∃ n, d = .int .i64 n ∧ (0 ≤ n → n ≤ k ∧ l.length ≤ 1048576 ∧ ∀ y ∈ l, y.small)) :=
  szS_xc hm c98 (fun x : PilotLike => [.str x.fSelect, .int .i64 x.fWeight]) (fun x => x.small) l k (by decide) (fun x => rfl) hw.1 h0 h1 (fun x hx k' h0' h1' => sz_PilotLike x k' (hw.2 x hx) h0' h1')
structure PilotCopy where
  fName : ByteArray
  fService : ByteArray
  fRank : Int
  fBorn : Int
  fRoom : Int
  fHold : Int
  fSelect : ByteArray
  fLikes : (List PilotLike)
  fApart : Int
  fNear : ByteArray
  fFixed : ByteArray
  fAt : ByteArray
def PilotCopy.D (x : PilotCopy) : D := .agg [.str x.fName, .str x.fService, .int .i64 x.fRank, .int .i64 x.fBorn, .int .i64 x.fRoom, .int .i64 x.fHold, .str x.fSelect, .ro 2 (x.fLikes.map PilotLike.D), .int .i64 x.fApart, .str x.fNear, .str x.fFixed, .str x.fAt]
instance : Inhabited PilotCopy := ⟨⟨⟨#[]⟩, ⟨#[]⟩, 0, 0, 0, 0, ⟨#[]⟩, [], 0, ⟨#[]⟩, ⟨#[]⟩, ⟨#[]⟩⟩⟩
structure PilotCopy.wf (x : PilotCopy) : Prop where
  fName : x.fName.size ≤ 9223372036854775807
  fService : x.fService.size ≤ 9223372036854775807
  fSelect : x.fSelect.size ≤ 9223372036854775807
  fLikes : x.fLikes.length ≤ 9223372036854775807 ∧ ∀ y ∈ x.fLikes, y.wf
  fNear : x.fNear.size ≤ 9223372036854775807
  fFixed : x.fFixed.size ≤ 9223372036854775807
  fAt : x.fAt.size ≤ 9223372036854775807
structure PilotCopy.small (x : PilotCopy) : Prop where
  fLikes : x.fLikes.length ≤ 1048576 ∧ ∀ y ∈ x.fLikes, y.small
theorem PilotCopy.len (x : PilotCopy) : x.D.len = 12 := rfl
theorem args_PilotCopy {d : D} (h : Has (.st [.str, .str, .int .i64, .int .i64, .int .i64, .int .i64, .str, .sl 2 (.st [.str, .int .i64]), .int .i64, .str, .str, .str]) d) : ∃ x : PilotCopy, d = x.D ∧ x.wf := by
  rw [Has] at h
  obtain ⟨_, rfl, h⟩ := h
  simp only [HasF] at h
  obtain ⟨_, _, rfl, hName, _, _, rfl, hService, _, _, rfl, hRank, _, _, rfl, hBorn, _, _, rfl, hRoom, _, _, rfl, hHold, _, _, rfl, hSelect, _, _, rfl, hLikes, _, _, rfl, hApart, _, _, rfl, hNear, _, _, rfl, hFixed, _, _, rfl, hAt, rfl⟩ := h
  rw [Has] at hName
  obtain ⟨vName, rfl, wName⟩ := hName
  rw [Has] at hService
  obtain ⟨vService, rfl, wService⟩ := hService
  rw [Has] at hRank
  obtain ⟨vRank, rfl, _⟩ := hRank
  rw [Has] at hBorn
  obtain ⟨vBorn, rfl, _⟩ := hBorn
  rw [Has] at hRoom
  obtain ⟨vRoom, rfl, _⟩ := hRoom
  rw [Has] at hHold
  obtain ⟨vHold, rfl, _⟩ := hHold
  rw [Has] at hSelect
  obtain ⟨vSelect, rfl, wSelect⟩ := hSelect
  obtain ⟨vLikes, rfl, wLikes⟩ := args_PilotLikeS hLikes
  rw [Has] at hApart
  obtain ⟨vApart, rfl, _⟩ := hApart
  rw [Has] at hNear
  obtain ⟨vNear, rfl, wNear⟩ := hNear
  rw [Has] at hFixed
  obtain ⟨vFixed, rfl, wFixed⟩ := hFixed
  rw [Has] at hAt
  obtain ⟨vAt, rfl, wAt⟩ := hAt
  exact ⟨⟨vName, vService, vRank, vBorn, vRoom, vHold, vSelect, vLikes, vApart, vNear, vFixed, vAt⟩, rfl, ⟨wName, wService, wSelect, wLikes, wNear, wFixed, wAt⟩⟩
theorem sz_PilotCopy (x : PilotCopy) (k : Int) (hw : x.wf) (h0 : 0 ≤ k) (h1 : k ≤ 1048576) : XC Try.prog 62 [x.D, .int .i64 k] [] (fun d ls => ls = [] ∧ ∃ n, d = .int .i64 n ∧ (0 ≤ n → n ≤ k ∧ x.small)) := by
  refine XC.intro' hm [] rfl c62 (Nat.le_of_ble_eq_true rfl) ?_
  conv => whnf
  repeat' (first | (refine g_op ?_; conv => whnf) | (refine And.intro ?_ ?_; (focus (first | exact rfl | exact Nat.le_of_ble_eq_true rfl | decide | omega | fail)); conv => whnf) | (refine g_seq ?_) | (refine XS.go ?_) | (refine g_ops ?_) | (refine g_nil ?_; conv => whnf) | (refine g_cond ?_; conv => whnf) | (refine fun _ => ?_; conv => whnf) | fail)
  have q1 := hw.fName
  have e1 : IntKind.wrap .i64 (k - (x.fName.size : Int)) = k - (x.fName.size : Int) := wrap_ok (by omega) (by omega)
  rw [e1]
  refine Br.mk (fun hb => ?_) (fun hb => ?_)
  · conv => whnf
    repeat' (first | (refine g_op ?_; conv => whnf) | (refine And.intro ?_ ?_; (focus (first | exact rfl | exact Nat.le_of_ble_eq_true rfl | decide | omega | fail)); conv => whnf) | (refine g_seq ?_) | (refine XS.go ?_) | (refine g_ops ?_) | (refine g_nil ?_; conv => whnf) | (refine g_ret ?_; conv => whnf) | (refine r_t ?_; conv => whnf) | (refine r_nil ?_; conv => whnf) | fail)
    exact ⟨_, rfl, fun h => absurd h (by decide)⟩
  have p1 : 0 ≤ (k - (x.fName.size : Int)) := Int.not_lt.1 (of_decide_eq_false hb)
  conv => whnf
  repeat' (first | (refine g_op ?_; conv => whnf) | (refine And.intro ?_ ?_; (focus (first | exact rfl | exact Nat.le_of_ble_eq_true rfl | decide | omega | fail)); conv => whnf) | (refine g_seq ?_) | (refine XS.go ?_) | (refine g_ops ?_) | (refine g_nil ?_; conv => whnf) | (refine g_cond ?_; conv => whnf) | (refine g_skip ?_; conv => whnf) | fail)
  have q2 := hw.fService
  have e2 : IntKind.wrap .i64 ((k - (x.fName.size : Int)) - (x.fService.size : Int)) = (k - (x.fName.size : Int)) - (x.fService.size : Int) := wrap_ok (by omega) (by omega)
  rw [e2]
  refine Br.mk (fun hb => ?_) (fun hb => ?_)
  · conv => whnf
    repeat' (first | (refine g_op ?_; conv => whnf) | (refine And.intro ?_ ?_; (focus (first | exact rfl | exact Nat.le_of_ble_eq_true rfl | decide | omega | fail)); conv => whnf) | (refine g_seq ?_) | (refine XS.go ?_) | (refine g_ops ?_) | (refine g_nil ?_; conv => whnf) | (refine g_ret ?_; conv => whnf) | (refine r_t ?_; conv => whnf) | (refine r_nil ?_; conv => whnf) | fail)
    exact ⟨_, rfl, fun h => absurd h (by decide)⟩
  have p2 : 0 ≤ ((k - (x.fName.size : Int)) - (x.fService.size : Int)) := Int.not_lt.1 (of_decide_eq_false hb)
  conv => whnf
  repeat' (first | (refine g_op ?_; conv => whnf) | (refine And.intro ?_ ?_; (focus (first | exact rfl | exact Nat.le_of_ble_eq_true rfl | decide | omega | fail)); conv => whnf) | (refine g_seq ?_) | (refine XS.go ?_) | (refine g_ops ?_) | (refine g_nil ?_; conv => whnf) | (refine g_cond ?_; conv => whnf) | (refine g_skip ?_; conv => whnf) | fail)
  have q3 := hw.fSelect
  have e3 : IntKind.wrap .i64 (((k - (x.fName.size : Int)) - (x.fService.size : Int)) - (x.fSelect.size : Int)) = ((k - (x.fName.size : Int)) - (x.fService.size : Int)) - (x.fSelect.size : Int) := wrap_ok (by omega) (by omega)
  rw [e3]
  refine Br.mk (fun hb => ?_) (fun hb => ?_)
  · conv => whnf
    repeat' (first | (refine g_op ?_; conv => whnf) | (refine And.intro ?_ ?_; (focus (first | exact rfl | exact Nat.le_of_ble_eq_true rfl | decide | omega | fail)); conv => whnf) | (refine g_seq ?_) | (refine XS.go ?_) | (refine g_ops ?_) | (refine g_nil ?_; conv => whnf) | (refine g_ret ?_; conv => whnf) | (refine r_t ?_; conv => whnf) | (refine r_nil ?_; conv => whnf) | fail)
    exact ⟨_, rfl, fun h => absurd h (by decide)⟩
  have p3 : 0 ≤ (((k - (x.fName.size : Int)) - (x.fService.size : Int)) - (x.fSelect.size : Int)) := Int.not_lt.1 (of_decide_eq_false hb)
  conv => whnf
  repeat' (first | (refine g_op ?_; conv => whnf) | (refine And.intro ?_ ?_; (focus (first | exact rfl | exact Nat.le_of_ble_eq_true rfl | decide | omega | fail)); conv => whnf) | (refine g_seq ?_) | (refine XS.go ?_) | (refine g_ops ?_) | (refine g_skip ?_; conv => whnf) | fail)
  refine XCL.ask (sz_PilotLikeS x.fLikes _ hw.fLikes (by omega) (by omega)) (fun d h => ?_)
  obtain ⟨n4, rfl, m4⟩ := h
  conv => whnf
  repeat' (first | (refine g_op ?_; conv => whnf) | (refine And.intro ?_ ?_; (focus (first | exact rfl | exact Nat.le_of_ble_eq_true rfl | decide | omega | fail)); conv => whnf) | (refine g_seq ?_) | (refine XS.go ?_) | (refine g_ops ?_) | (refine g_nil ?_; conv => whnf) | (refine g_cond ?_; conv => whnf) | fail)
  refine Br.mk (fun hb => ?_) (fun hb => ?_)
  · conv => whnf
    repeat' (first | (refine g_op ?_; conv => whnf) | (refine And.intro ?_ ?_; (focus (first | exact rfl | exact Nat.le_of_ble_eq_true rfl | decide | omega | fail)); conv => whnf) | (refine g_seq ?_) | (refine XS.go ?_) | (refine g_ops ?_) | (refine g_nil ?_; conv => whnf) | (refine g_ret ?_; conv => whnf) | (refine r_t ?_; conv => whnf) | (refine r_nil ?_; conv => whnf) | fail)
    exact ⟨_, rfl, fun h => absurd h (by decide)⟩
  have p4 : 0 ≤ n4 := Int.not_lt.1 (of_decide_eq_false hb)
  obtain ⟨l4, s4⟩ := m4 p4
  conv => whnf
  repeat' (first | (refine g_op ?_; conv => whnf) | (refine And.intro ?_ ?_; (focus (first | exact rfl | exact Nat.le_of_ble_eq_true rfl | decide | omega | fail)); conv => whnf) | (refine g_seq ?_) | (refine XS.go ?_) | (refine g_ops ?_) | (refine g_nil ?_; conv => whnf) | (refine g_cond ?_; conv => whnf) | (refine g_skip ?_; conv => whnf) | fail)
  have q5 := hw.fNear
  have e5 : IntKind.wrap .i64 (n4 - (x.fNear.size : Int)) = n4 - (x.fNear.size : Int) := wrap_ok (by omega) (by omega)
  rw [e5]
  refine Br.mk (fun hb => ?_) (fun hb => ?_)
  · conv => whnf
    repeat' (first | (refine g_op ?_; conv => whnf) | (refine And.intro ?_ ?_; (focus (first | exact rfl | exact Nat.le_of_ble_eq_true rfl | decide | omega | fail)); conv => whnf) | (refine g_seq ?_) | (refine XS.go ?_) | (refine g_ops ?_) | (refine g_nil ?_; conv => whnf) | (refine g_ret ?_; conv => whnf) | (refine r_t ?_; conv => whnf) | (refine r_nil ?_; conv => whnf) | fail)
    exact ⟨_, rfl, fun h => absurd h (by decide)⟩
  have p5 : 0 ≤ (n4 - (x.fNear.size : Int)) := Int.not_lt.1 (of_decide_eq_false hb)
  conv => whnf
  repeat' (first | (refine g_op ?_; conv => whnf) | (refine And.intro ?_ ?_; (focus (first | exact rfl | exact Nat.le_of_ble_eq_true rfl | decide | omega | fail)); conv => whnf) | (refine g_seq ?_) | (refine XS.go ?_) | (refine g_ops ?_) | (refine g_nil ?_; conv => whnf) | (refine g_cond ?_; conv => whnf) | (refine g_skip ?_; conv => whnf) | fail)
  have q6 := hw.fFixed
  have e6 : IntKind.wrap .i64 ((n4 - (x.fNear.size : Int)) - (x.fFixed.size : Int)) = (n4 - (x.fNear.size : Int)) - (x.fFixed.size : Int) := wrap_ok (by omega) (by omega)
  rw [e6]
  refine Br.mk (fun hb => ?_) (fun hb => ?_)
  · conv => whnf
    repeat' (first | (refine g_op ?_; conv => whnf) | (refine And.intro ?_ ?_; (focus (first | exact rfl | exact Nat.le_of_ble_eq_true rfl | decide | omega | fail)); conv => whnf) | (refine g_seq ?_) | (refine XS.go ?_) | (refine g_ops ?_) | (refine g_nil ?_; conv => whnf) | (refine g_ret ?_; conv => whnf) | (refine r_t ?_; conv => whnf) | (refine r_nil ?_; conv => whnf) | fail)
    exact ⟨_, rfl, fun h => absurd h (by decide)⟩
  have p6 : 0 ≤ ((n4 - (x.fNear.size : Int)) - (x.fFixed.size : Int)) := Int.not_lt.1 (of_decide_eq_false hb)
  conv => whnf
  repeat' (first | (refine g_op ?_; conv => whnf) | (refine And.intro ?_ ?_; (focus (first | exact rfl | exact Nat.le_of_ble_eq_true rfl | decide | omega | fail)); conv => whnf) | (refine g_seq ?_) | (refine XS.go ?_) | (refine g_ops ?_) | (refine g_nil ?_; conv => whnf) | (refine g_cond ?_; conv => whnf) | (refine g_skip ?_; conv => whnf) | fail)
  have q7 := hw.fAt
  have e7 : IntKind.wrap .i64 (((n4 - (x.fNear.size : Int)) - (x.fFixed.size : Int)) - (x.fAt.size : Int)) = ((n4 - (x.fNear.size : Int)) - (x.fFixed.size : Int)) - (x.fAt.size : Int) := wrap_ok (by omega) (by omega)
  rw [e7]
  refine Br.mk (fun hb => ?_) (fun hb => ?_)
  · conv => whnf
    repeat' (first | (refine g_op ?_; conv => whnf) | (refine And.intro ?_ ?_; (focus (first | exact rfl | exact Nat.le_of_ble_eq_true rfl | decide | omega | fail)); conv => whnf) | (refine g_seq ?_) | (refine XS.go ?_) | (refine g_ops ?_) | (refine g_nil ?_; conv => whnf) | (refine g_ret ?_; conv => whnf) | (refine r_t ?_; conv => whnf) | (refine r_nil ?_; conv => whnf) | fail)
    exact ⟨_, rfl, fun h => absurd h (by decide)⟩
  have p7 : 0 ≤ (((n4 - (x.fNear.size : Int)) - (x.fFixed.size : Int)) - (x.fAt.size : Int)) := Int.not_lt.1 (of_decide_eq_false hb)
  conv => whnf
  repeat' (first | (refine g_op ?_; conv => whnf) | (refine And.intro ?_ ?_; (focus (first | exact rfl | exact Nat.le_of_ble_eq_true rfl | decide | omega | fail)); conv => whnf) | (refine g_seq ?_) | (refine XS.go ?_) | (refine g_ops ?_) | (refine g_nil ?_; conv => whnf) | (refine g_skip ?_; conv => whnf) | (refine g_ret ?_; conv => whnf) | (refine r_t ?_; conv => whnf) | (refine r_nil ?_; conv => whnf) | fail)
  exact ⟨_, rfl, fun _ => ⟨by omega, ⟨s4⟩⟩⟩
theorem to_PilotCopy (x : PilotCopy) (hs : x.small) : Rdr Try.prog 65 [x.D] x.D := by
  refine Rdr.intro' hm c65 (Nat.le_of_ble_eq_true rfl) ?_
  conv => whnf
  repeat' (first | (refine g_op ?_; conv => whnf) | (refine And.intro ?_ ?_; (focus (first | exact rfl | exact Nat.le_of_ble_eq_true rfl | decide | omega | fail)); conv => whnf) | (refine g_seq ?_) | (refine XS.go ?_) | (refine g_ops ?_) | (refine g_nil ?_; conv => whnf) | (refine g_ret ?_; conv => whnf) | (refine r_c ?_; conv => whnf) | (refine r_nil ?_; conv => whnf) | (refine fun _ => ?_; conv => whnf) | (refine XCL.of_rdr (to_PilotLikeS x.fLikes hs.fLikes) ?_; conv => whnf) | fail)
  all_goals rfl
theorem eq_PilotCopy (x : PilotCopy) (hs : x.small) : Rdr Try.prog 70 [x.D, x.D] (.bool true) := by
  refine Rdr.intro' hm c70 (Nat.le_of_ble_eq_true rfl) ?_
  conv => whnf
  repeat' (first | (refine g_op ?_; conv => whnf) | (refine And.intro ?_ ?_; (focus (first | exact rfl | exact Nat.le_of_ble_eq_true rfl | decide | omega | fail)); conv => whnf) | (refine g_seq ?_) | (refine XS.go ?_) | (refine g_ops ?_) | (refine g_nil ?_; conv => whnf) | (refine Br.f ?_ ?_; (focus (first | assumption | exact rfl)); conv => whnf) | (refine g_cond ?_; conv => whnf) | (refine g_skip ?_; conv => whnf) | (refine g_ret ?_; conv => whnf) | (refine r_t ?_; conv => whnf) | (refine r_nil ?_; conv => whnf) | (refine fun _ => ?_; conv => whnf) | (refine Br.f (by simp) ?_; conv => whnf) | (refine XCL.of_rdr (eq_PilotLikeS x.fLikes hs.fLikes) ?_; conv => whnf) | fail)
  all_goals rfl
theorem args_PilotCopyS {d : D} (h : Has (.sl 12 (.st [.str, .str, .int .i64, .int .i64, .int .i64, .int .i64, .str, .sl 2 (.st [.str, .int .i64]), .int .i64, .str, .str, .str])) d) : ∃ l : (List PilotCopy), d = .ro 12 (l.map PilotCopy.D) ∧ l.length ≤ 9223372036854775807 ∧ ∀ y ∈ l, y.wf := by
  rw [Has] at h
  obtain ⟨ds, rfl, hm, hd⟩ := h
  have : ∃ l : (List PilotCopy), ds = l.map PilotCopy.D ∧ ∀ y ∈ l, y.wf := by
    clear hm
    induction ds with
    | nil => exact ⟨[], rfl, by simp⟩
    | cons d ds ih =>
      obtain ⟨l, rfl, hl⟩ := ih (fun x hx => hd x (List.mem_cons_of_mem _ hx))
      obtain ⟨v, rfl, wv⟩ : ∃ v : PilotCopy, d = PilotCopy.D v ∧ v.wf := args_PilotCopy (hd _ (List.mem_cons_self ..))
      exact ⟨v :: l, rfl, fun y hy => by rcases List.mem_cons.1 hy with rfl | hy <;> first | exact wv | exact hl y hy⟩
  obtain ⟨l, rfl, hl⟩ := this
  exact ⟨l, rfl, by rw [List.length_map] at hm; exact hm, hl⟩
theorem to_PilotCopyS (l : (List PilotCopy)) (hs : l.length ≤ 1048576 ∧ ∀ y ∈ l, y.small) : Rdr Try.prog 36 [.ro 12 (l.map PilotCopy.D)] (.ro 12 (l.map PilotCopy.D)) :=
  toS_rdr hm c36 (zs := [.str ⟨#[]⟩, .str ⟨#[]⟩, .int .i64 0, .int .i64 0, .int .i64 0, .int .i64 0, .str ⟨#[]⟩, .nil, .int .i64 0, .str ⟨#[]⟩, .str ⟨#[]⟩, .str ⟨#[]⟩]) rfl (by decide) (by decide) (by simpa using hs.1) (fun d hd => by obtain ⟨x, hx, rfl⟩ := List.mem_map.1 hd; exact ⟨_, rfl, rfl, to_PilotCopy x (hs.2 x hx)⟩) (D.frozs_map (fun _ => rfl) _)
theorem eq_PilotCopyS (l : (List PilotCopy)) (hs : l.length ≤ 1048576 ∧ ∀ y ∈ l, y.small) : Rdr Try.prog 40 [.ro 12 (l.map PilotCopy.D), .ro 12 (l.map PilotCopy.D)] (.bool true) :=
  eqS_rdr hm c40 (by decide) (by rw [List.length_map]; exact Nat.le_trans hs.1 (by decide)) (fun d hd => by obtain ⟨x, hx, rfl⟩ := List.mem_map.1 hd; exact ⟨_, rfl, rfl, eq_PilotCopy x (hs.2 x hx)⟩)
theorem sz_PilotCopyS (l : (List PilotCopy)) (k : Int) (hw : l.length ≤ 9223372036854775807 ∧ ∀ y ∈ l, y.wf) (h0 : 0 ≤ k) (h1 : k ≤ 1048576) : XC Try.prog 32 [.ro 12 (l.map PilotCopy.D), .int .i64 k] [] (fun d ls => ls = [] ∧ ∃ n, d = .int .i64 n ∧ (0 ≤ n → n ≤ k ∧ l.length ≤ 1048576 ∧ ∀ y ∈ l, y.small)) :=
  szS_xc hm c32 (fun x : PilotCopy => [.str x.fName, .str x.fService, .int .i64 x.fRank, .int .i64 x.fBorn, .int .i64 x.fRoom, .int .i64 x.fHold, .str x.fSelect, .ro 2 (x.fLikes.map PilotLike.D), .int .i64 x.fApart, .str x.fNear, .str x.fFixed, .str x.fAt]) (fun x => x.small) l k (by decide) (fun x => rfl) hw.1 h0 h1 (fun x hx k' h0' h1' => sz_PilotCopy x k' (hw.2 x hx) h0' h1')
structure PilotService where
  fName : ByteArray
  fSpare : Int
def PilotService.D (x : PilotService) : D := .agg [.str x.fName, .int .i64 x.fSpare]
instance : Inhabited PilotService := ⟨⟨⟨#[]⟩, 0⟩⟩
structure PilotService.wf (x : PilotService) : Prop where
  fName : x.fName.size ≤ 9223372036854775807
structure PilotService.small (x : PilotService) : Prop where
theorem PilotService.len (x : PilotService) : x.D.len = 2 := rfl
theorem args_PilotService {d : D} (h : Has (.st [.str, .int .i64]) d) : ∃ x : PilotService, d = x.D ∧ x.wf := by
  rw [Has] at h
  obtain ⟨_, rfl, h⟩ := h
  simp only [HasF] at h
  obtain ⟨_, _, rfl, hName, _, _, rfl, hSpare, rfl⟩ := h
  rw [Has] at hName
  obtain ⟨vName, rfl, wName⟩ := hName
  rw [Has] at hSpare
  obtain ⟨vSpare, rfl, _⟩ := hSpare
  exact ⟨⟨vName, vSpare⟩, rfl, ⟨wName⟩⟩
theorem sz_PilotService (x : PilotService) (k : Int) (hw : x.wf) (h0 : 0 ≤ k) (h1 : k ≤ 1048576) : XC Try.prog 61 [x.D, .int .i64 k] [] (fun d ls => ls = [] ∧ ∃ n, d = .int .i64 n ∧ (0 ≤ n → n ≤ k ∧ x.small)) := by
  refine XC.intro' hm [] rfl c61 (Nat.le_of_ble_eq_true rfl) ?_
  conv => whnf
  repeat' (first | (refine g_op ?_; conv => whnf) | (refine And.intro ?_ ?_; (focus (first | exact rfl | exact Nat.le_of_ble_eq_true rfl | decide | omega | fail)); conv => whnf) | (refine g_seq ?_) | (refine XS.go ?_) | (refine g_ops ?_) | (refine g_nil ?_; conv => whnf) | (refine g_cond ?_; conv => whnf) | (refine fun _ => ?_; conv => whnf) | fail)
  have q1 := hw.fName
  have e1 : IntKind.wrap .i64 (k - (x.fName.size : Int)) = k - (x.fName.size : Int) := wrap_ok (by omega) (by omega)
  rw [e1]
  refine Br.mk (fun hb => ?_) (fun hb => ?_)
  · conv => whnf
    repeat' (first | (refine g_op ?_; conv => whnf) | (refine And.intro ?_ ?_; (focus (first | exact rfl | exact Nat.le_of_ble_eq_true rfl | decide | omega | fail)); conv => whnf) | (refine g_seq ?_) | (refine XS.go ?_) | (refine g_ops ?_) | (refine g_nil ?_; conv => whnf) | (refine g_ret ?_; conv => whnf) | (refine r_t ?_; conv => whnf) | (refine r_nil ?_; conv => whnf) | fail)
    exact ⟨_, rfl, fun h => absurd h (by decide)⟩
  have p1 : 0 ≤ (k - (x.fName.size : Int)) := Int.not_lt.1 (of_decide_eq_false hb)
  conv => whnf
  repeat' (first | (refine g_op ?_; conv => whnf) | (refine And.intro ?_ ?_; (focus (first | exact rfl | exact Nat.le_of_ble_eq_true rfl | decide | omega | fail)); conv => whnf) | (refine g_seq ?_) | (refine XS.go ?_) | (refine g_ops ?_) | (refine g_nil ?_; conv => whnf) | (refine g_skip ?_; conv => whnf) | (refine g_ret ?_; conv => whnf) | (refine r_t ?_; conv => whnf) | (refine r_nil ?_; conv => whnf) | fail)
  exact ⟨_, rfl, fun _ => ⟨by omega, ⟨⟩⟩⟩
theorem to_PilotService (x : PilotService) (hs : x.small) : Rdr Try.prog 64 [x.D] x.D := by
  refine Rdr.intro' hm c64 (Nat.le_of_ble_eq_true rfl) ?_
  conv => whnf
  repeat' (first | (refine g_op ?_; conv => whnf) | (refine And.intro ?_ ?_; (focus (first | exact rfl | exact Nat.le_of_ble_eq_true rfl | decide | omega | fail)); conv => whnf) | (refine g_seq ?_) | (refine XS.go ?_) | (refine g_ops ?_) | (refine g_nil ?_; conv => whnf) | (refine g_ret ?_; conv => whnf) | (refine r_c ?_; conv => whnf) | (refine r_nil ?_; conv => whnf) | (refine fun _ => ?_; conv => whnf) | fail)
  all_goals rfl
theorem eq_PilotService (x : PilotService) (hs : x.small) : Rdr Try.prog 69 [x.D, x.D] (.bool true) := by
  refine Rdr.intro' hm c69 (Nat.le_of_ble_eq_true rfl) ?_
  conv => whnf
  repeat' (first | (refine g_op ?_; conv => whnf) | (refine And.intro ?_ ?_; (focus (first | exact rfl | exact Nat.le_of_ble_eq_true rfl | decide | omega | fail)); conv => whnf) | (refine g_seq ?_) | (refine XS.go ?_) | (refine g_ops ?_) | (refine g_nil ?_; conv => whnf) | (refine g_cond ?_; conv => whnf) | (refine g_skip ?_; conv => whnf) | (refine g_ret ?_; conv => whnf) | (refine r_t ?_; conv => whnf) | (refine r_nil ?_; conv => whnf) | (refine fun _ => ?_; conv => whnf) | (refine Br.f (by simp) ?_; conv => whnf) | fail)
  all_goals rfl
theorem args_PilotServiceS {d : D} (h : Has (.sl 2 (.st [.str, .int .i64])) d) : ∃ l : (List PilotService), d = .ro 2 (l.map PilotService.D) ∧ l.length ≤ 9223372036854775807 ∧ ∀ y ∈ l, y.wf := by
  rw [Has] at h
  obtain ⟨ds, rfl, hm, hd⟩ := h
  have : ∃ l : (List PilotService), ds = l.map PilotService.D ∧ ∀ y ∈ l, y.wf := by
    clear hm
    induction ds with
    | nil => exact ⟨[], rfl, by simp⟩
    | cons d ds ih =>
      obtain ⟨l, rfl, hl⟩ := ih (fun x hx => hd x (List.mem_cons_of_mem _ hx))
      obtain ⟨v, rfl, wv⟩ : ∃ v : PilotService, d = PilotService.D v ∧ v.wf := args_PilotService (hd _ (List.mem_cons_self ..))
      exact ⟨v :: l, rfl, fun y hy => by rcases List.mem_cons.1 hy with rfl | hy <;> first | exact wv | exact hl y hy⟩
  obtain ⟨l, rfl, hl⟩ := this
  exact ⟨l, rfl, by rw [List.length_map] at hm; exact hm, hl⟩
theorem to_PilotServiceS (l : (List PilotService)) (hs : l.length ≤ 1048576 ∧ ∀ y ∈ l, y.small) : Rdr Try.prog 35 [.ro 2 (l.map PilotService.D)] (.ro 2 (l.map PilotService.D)) :=
  toS_rdr hm c35 (zs := [.str ⟨#[]⟩, .int .i64 0]) rfl (by decide) (by decide) (by simpa using hs.1) (fun d hd => by obtain ⟨x, hx, rfl⟩ := List.mem_map.1 hd; exact ⟨_, rfl, rfl, to_PilotService x (hs.2 x hx)⟩) (D.frozs_map (fun _ => rfl) _)
theorem eq_PilotServiceS (l : (List PilotService)) (hs : l.length ≤ 1048576 ∧ ∀ y ∈ l, y.small) : Rdr Try.prog 39 [.ro 2 (l.map PilotService.D), .ro 2 (l.map PilotService.D)] (.bool true) :=
  eqS_rdr hm c39 (by decide) (by rw [List.length_map]; exact Nat.le_trans hs.1 (by decide)) (fun d hd => by obtain ⟨x, hx, rfl⟩ := List.mem_map.1 hd; exact ⟨_, rfl, rfl, eq_PilotService x (hs.2 x hx)⟩)
theorem sz_PilotServiceS (l : (List PilotService)) (k : Int) (hw : l.length ≤ 9223372036854775807 ∧ ∀ y ∈ l, y.wf) (h0 : 0 ≤ k) (h1 : k ≤ 1048576) : XC Try.prog 31 [.ro 2 (l.map PilotService.D), .int .i64 k] [] (fun d ls => ls = [] ∧ ∃ n, d = .int .i64 n ∧ (0 ≤ n → n ≤ k ∧ l.length ≤ 1048576 ∧ ∀ y ∈ l, y.small)) :=
  szS_xc hm c31 (fun x : PilotService => [.str x.fName, .int .i64 x.fSpare]) (fun x => x.small) l k (by decide) (fun x => rfl) hw.1 h0 h1 (fun x hx k' h0' h1' => sz_PilotService x k' (hw.2 x hx) h0' h1')
structure PilotBerth where
  fName : ByteArray
  fZone : ByteArray
  fMarks : (List ByteArray)
  fRoom : Int
  fHold : Int
  fClosed : Bool
def PilotBerth.D (x : PilotBerth) : D := .agg [.str x.fName, .str x.fZone, .ro 1 (x.fMarks.map D.str), .int .i64 x.fRoom, .int .i64 x.fHold, .bool x.fClosed]
instance : Inhabited PilotBerth := ⟨⟨⟨#[]⟩, ⟨#[]⟩, [], 0, 0, false⟩⟩
structure PilotBerth.wf (x : PilotBerth) : Prop where
  fName : x.fName.size ≤ 9223372036854775807
  fZone : x.fZone.size ≤ 9223372036854775807
  fMarks : x.fMarks.length ≤ 9223372036854775807 ∧ ∀ y ∈ x.fMarks, y.size ≤ 9223372036854775807
structure PilotBerth.small (x : PilotBerth) : Prop where
  fMarks : x.fMarks.length ≤ 1048576 ∧ ∀ y ∈ x.fMarks, True
theorem PilotBerth.len (x : PilotBerth) : x.D.len = 6 := rfl
theorem args_PilotBerth {d : D} (h : Has (.st [.str, .str, .sl 1 (.str), .int .i64, .int .i64, .bool]) d) : ∃ x : PilotBerth, d = x.D ∧ x.wf := by
  rw [Has] at h
  obtain ⟨_, rfl, h⟩ := h
  simp only [HasF] at h
  obtain ⟨_, _, rfl, hName, _, _, rfl, hZone, _, _, rfl, hMarks, _, _, rfl, hRoom, _, _, rfl, hHold, _, _, rfl, hClosed, rfl⟩ := h
  rw [Has] at hName
  obtain ⟨vName, rfl, wName⟩ := hName
  rw [Has] at hZone
  obtain ⟨vZone, rfl, wZone⟩ := hZone
  obtain ⟨vMarks, rfl, wMarks⟩ := args_StringS hMarks
  rw [Has] at hRoom
  obtain ⟨vRoom, rfl, _⟩ := hRoom
  rw [Has] at hHold
  obtain ⟨vHold, rfl, _⟩ := hHold
  rw [Has] at hClosed
  obtain ⟨vClosed, rfl⟩ := hClosed
  exact ⟨⟨vName, vZone, vMarks, vRoom, vHold, vClosed⟩, rfl, ⟨wName, wZone, wMarks⟩⟩
theorem sz_PilotBerth (x : PilotBerth) (k : Int) (hw : x.wf) (h0 : 0 ≤ k) (h1 : k ≤ 1048576) : XC Try.prog 60 [x.D, .int .i64 k] [] (fun d ls => ls = [] ∧ ∃ n, d = .int .i64 n ∧ (0 ≤ n → n ≤ k ∧ x.small)) := by
  refine XC.intro' hm [] rfl c60 (Nat.le_of_ble_eq_true rfl) ?_
  conv => whnf
  repeat' (first | (refine g_op ?_; conv => whnf) | (refine And.intro ?_ ?_; (focus (first | exact rfl | exact Nat.le_of_ble_eq_true rfl | decide | omega | fail)); conv => whnf) | (refine g_seq ?_) | (refine XS.go ?_) | (refine g_ops ?_) | (refine g_nil ?_; conv => whnf) | (refine g_cond ?_; conv => whnf) | (refine fun _ => ?_; conv => whnf) | fail)
  have q1 := hw.fName
  have e1 : IntKind.wrap .i64 (k - (x.fName.size : Int)) = k - (x.fName.size : Int) := wrap_ok (by omega) (by omega)
  rw [e1]
  refine Br.mk (fun hb => ?_) (fun hb => ?_)
  · conv => whnf
    repeat' (first | (refine g_op ?_; conv => whnf) | (refine And.intro ?_ ?_; (focus (first | exact rfl | exact Nat.le_of_ble_eq_true rfl | decide | omega | fail)); conv => whnf) | (refine g_seq ?_) | (refine XS.go ?_) | (refine g_ops ?_) | (refine g_nil ?_; conv => whnf) | (refine g_ret ?_; conv => whnf) | (refine r_t ?_; conv => whnf) | (refine r_nil ?_; conv => whnf) | fail)
    exact ⟨_, rfl, fun h => absurd h (by decide)⟩
  have p1 : 0 ≤ (k - (x.fName.size : Int)) := Int.not_lt.1 (of_decide_eq_false hb)
  conv => whnf
  repeat' (first | (refine g_op ?_; conv => whnf) | (refine And.intro ?_ ?_; (focus (first | exact rfl | exact Nat.le_of_ble_eq_true rfl | decide | omega | fail)); conv => whnf) | (refine g_seq ?_) | (refine XS.go ?_) | (refine g_ops ?_) | (refine g_nil ?_; conv => whnf) | (refine g_cond ?_; conv => whnf) | (refine g_skip ?_; conv => whnf) | fail)
  have q2 := hw.fZone
  have e2 : IntKind.wrap .i64 ((k - (x.fName.size : Int)) - (x.fZone.size : Int)) = (k - (x.fName.size : Int)) - (x.fZone.size : Int) := wrap_ok (by omega) (by omega)
  rw [e2]
  refine Br.mk (fun hb => ?_) (fun hb => ?_)
  · conv => whnf
    repeat' (first | (refine g_op ?_; conv => whnf) | (refine And.intro ?_ ?_; (focus (first | exact rfl | exact Nat.le_of_ble_eq_true rfl | decide | omega | fail)); conv => whnf) | (refine g_seq ?_) | (refine XS.go ?_) | (refine g_ops ?_) | (refine g_nil ?_; conv => whnf) | (refine g_ret ?_; conv => whnf) | (refine r_t ?_; conv => whnf) | (refine r_nil ?_; conv => whnf) | fail)
    exact ⟨_, rfl, fun h => absurd h (by decide)⟩
  have p2 : 0 ≤ ((k - (x.fName.size : Int)) - (x.fZone.size : Int)) := Int.not_lt.1 (of_decide_eq_false hb)
  conv => whnf
  repeat' (first | (refine g_op ?_; conv => whnf) | (refine And.intro ?_ ?_; (focus (first | exact rfl | exact Nat.le_of_ble_eq_true rfl | decide | omega | fail)); conv => whnf) | (refine g_seq ?_) | (refine XS.go ?_) | (refine g_ops ?_) | (refine g_skip ?_; conv => whnf) | fail)
  refine XCL.ask (sz_StringS x.fMarks _ hw.fMarks (by omega) (by omega)) (fun d h => ?_)
  obtain ⟨n3, rfl, m3⟩ := h
  conv => whnf
  repeat' (first | (refine g_op ?_; conv => whnf) | (refine And.intro ?_ ?_; (focus (first | exact rfl | exact Nat.le_of_ble_eq_true rfl | decide | omega | fail)); conv => whnf) | (refine g_seq ?_) | (refine XS.go ?_) | (refine g_ops ?_) | (refine g_nil ?_; conv => whnf) | (refine g_cond ?_; conv => whnf) | fail)
  refine Br.mk (fun hb => ?_) (fun hb => ?_)
  · conv => whnf
    repeat' (first | (refine g_op ?_; conv => whnf) | (refine And.intro ?_ ?_; (focus (first | exact rfl | exact Nat.le_of_ble_eq_true rfl | decide | omega | fail)); conv => whnf) | (refine g_seq ?_) | (refine XS.go ?_) | (refine g_ops ?_) | (refine g_nil ?_; conv => whnf) | (refine g_ret ?_; conv => whnf) | (refine r_t ?_; conv => whnf) | (refine r_nil ?_; conv => whnf) | fail)
    exact ⟨_, rfl, fun h => absurd h (by decide)⟩
  have p3 : 0 ≤ n3 := Int.not_lt.1 (of_decide_eq_false hb)
  obtain ⟨l3, s3⟩ := m3 p3
  conv => whnf
  repeat' (first | (refine g_op ?_; conv => whnf) | (refine And.intro ?_ ?_; (focus (first | exact rfl | exact Nat.le_of_ble_eq_true rfl | decide | omega | fail)); conv => whnf) | (refine g_seq ?_) | (refine XS.go ?_) | (refine g_ops ?_) | (refine g_nil ?_; conv => whnf) | (refine g_skip ?_; conv => whnf) | (refine g_ret ?_; conv => whnf) | (refine r_t ?_; conv => whnf) | (refine r_nil ?_; conv => whnf) | fail)
  exact ⟨_, rfl, fun _ => ⟨by omega, ⟨s3⟩⟩⟩
theorem to_PilotBerth (x : PilotBerth) (hs : x.small) : Rdr Try.prog 63 [x.D] x.D := by
  refine Rdr.intro' hm c63 (Nat.le_of_ble_eq_true rfl) ?_
  conv => whnf
  repeat' (first | (refine g_op ?_; conv => whnf) | (refine And.intro ?_ ?_; (focus (first | exact rfl | exact Nat.le_of_ble_eq_true rfl | decide | omega | fail)); conv => whnf) | (refine g_seq ?_) | (refine XS.go ?_) | (refine g_ops ?_) | (refine g_nil ?_; conv => whnf) | (refine g_ret ?_; conv => whnf) | (refine r_c ?_; conv => whnf) | (refine r_nil ?_; conv => whnf) | (refine fun _ => ?_; conv => whnf) | (refine XCL.of_rdr (to_StringS x.fMarks hs.fMarks) ?_; conv => whnf) | fail)
  all_goals rfl
theorem eq_PilotBerth (x : PilotBerth) (hs : x.small) : Rdr Try.prog 68 [x.D, x.D] (.bool true) := by
  refine Rdr.intro' hm c68 (Nat.le_of_ble_eq_true rfl) ?_
  conv => whnf
  repeat' (first | (refine g_op ?_; conv => whnf) | (refine And.intro ?_ ?_; (focus (first | exact rfl | exact Nat.le_of_ble_eq_true rfl | decide | omega | fail)); conv => whnf) | (refine g_seq ?_) | (refine XS.go ?_) | (refine g_ops ?_) | (refine g_nil ?_; conv => whnf) | (refine Br.f ?_ ?_; (focus (first | assumption | exact rfl)); conv => whnf) | (refine g_cond ?_; conv => whnf) | (refine g_skip ?_; conv => whnf) | (refine g_ret ?_; conv => whnf) | (refine r_t ?_; conv => whnf) | (refine r_nil ?_; conv => whnf) | (refine fun _ => ?_; conv => whnf) | (refine Br.f (by simp) ?_; conv => whnf) | (refine XCL.of_rdr (eq_StringS x.fMarks hs.fMarks) ?_; conv => whnf) | fail)
  all_goals rfl
theorem args_PilotBerthS {d : D} (h : Has (.sl 6 (.st [.str, .str, .sl 1 (.str), .int .i64, .int .i64, .bool])) d) : ∃ l : (List PilotBerth), d = .ro 6 (l.map PilotBerth.D) ∧ l.length ≤ 9223372036854775807 ∧ ∀ y ∈ l, y.wf := by
  rw [Has] at h
  obtain ⟨ds, rfl, hm, hd⟩ := h
  have : ∃ l : (List PilotBerth), ds = l.map PilotBerth.D ∧ ∀ y ∈ l, y.wf := by
    clear hm
    induction ds with
    | nil => exact ⟨[], rfl, by simp⟩
    | cons d ds ih =>
      obtain ⟨l, rfl, hl⟩ := ih (fun x hx => hd x (List.mem_cons_of_mem _ hx))
      obtain ⟨v, rfl, wv⟩ : ∃ v : PilotBerth, d = PilotBerth.D v ∧ v.wf := args_PilotBerth (hd _ (List.mem_cons_self ..))
      exact ⟨v :: l, rfl, fun y hy => by rcases List.mem_cons.1 hy with rfl | hy <;> first | exact wv | exact hl y hy⟩
  obtain ⟨l, rfl, hl⟩ := this
  exact ⟨l, rfl, by rw [List.length_map] at hm; exact hm, hl⟩
theorem to_PilotBerthS (l : (List PilotBerth)) (hs : l.length ≤ 1048576 ∧ ∀ y ∈ l, y.small) : Rdr Try.prog 34 [.ro 6 (l.map PilotBerth.D)] (.ro 6 (l.map PilotBerth.D)) :=
  toS_rdr hm c34 (zs := [.str ⟨#[]⟩, .str ⟨#[]⟩, .nil, .int .i64 0, .int .i64 0, .bool false]) rfl (by decide) (by decide) (by simpa using hs.1) (fun d hd => by obtain ⟨x, hx, rfl⟩ := List.mem_map.1 hd; exact ⟨_, rfl, rfl, to_PilotBerth x (hs.2 x hx)⟩) (D.frozs_map (fun _ => rfl) _)
theorem eq_PilotBerthS (l : (List PilotBerth)) (hs : l.length ≤ 1048576 ∧ ∀ y ∈ l, y.small) : Rdr Try.prog 38 [.ro 6 (l.map PilotBerth.D), .ro 6 (l.map PilotBerth.D)] (.bool true) :=
  eqS_rdr hm c38 (by decide) (by rw [List.length_map]; exact Nat.le_trans hs.1 (by decide)) (fun d hd => by obtain ⟨x, hx, rfl⟩ := List.mem_map.1 hd; exact ⟨_, rfl, rfl, eq_PilotBerth x (hs.2 x hx)⟩)
theorem sz_PilotBerthS (l : (List PilotBerth)) (k : Int) (hw : l.length ≤ 9223372036854775807 ∧ ∀ y ∈ l, y.wf) (h0 : 0 ≤ k) (h1 : k ≤ 1048576) : XC Try.prog 30 [.ro 6 (l.map PilotBerth.D), .int .i64 k] [] (fun d ls => ls = [] ∧ ∃ n, d = .int .i64 n ∧ (0 ≤ n → n ≤ k ∧ l.length ≤ 1048576 ∧ ∀ y ∈ l, y.small)) :=
  szS_xc hm c30 (fun x : PilotBerth => [.str x.fName, .str x.fZone, .ro 1 (x.fMarks.map D.str), .int .i64 x.fRoom, .int .i64 x.fHold, .bool x.fClosed]) (fun x => x.small) l k (by decide) (fun x => rfl) hw.1 h0 h1 (fun x hx k' h0' h1' => sz_PilotBerth x k' (hw.2 x hx) h0' h1')
structure PilotFleet where
  fPack : Bool
  fBerths : (List PilotBerth)
  fServices : (List PilotService)
  fCopies : (List PilotCopy)
def PilotFleet.D (x : PilotFleet) : D := .agg [.bool x.fPack, .ro 6 (x.fBerths.map PilotBerth.D), .ro 2 (x.fServices.map PilotService.D), .ro 12 (x.fCopies.map PilotCopy.D)]
instance : Inhabited PilotFleet := ⟨⟨false, [], [], []⟩⟩
structure PilotFleet.wf (x : PilotFleet) : Prop where
  fBerths : x.fBerths.length ≤ 9223372036854775807 ∧ ∀ y ∈ x.fBerths, y.wf
  fServices : x.fServices.length ≤ 9223372036854775807 ∧ ∀ y ∈ x.fServices, y.wf
  fCopies : x.fCopies.length ≤ 9223372036854775807 ∧ ∀ y ∈ x.fCopies, y.wf
structure PilotFleet.small (x : PilotFleet) : Prop where
  fBerths : x.fBerths.length ≤ 1048576 ∧ ∀ y ∈ x.fBerths, y.small
  fServices : x.fServices.length ≤ 1048576 ∧ ∀ y ∈ x.fServices, y.small
  fCopies : x.fCopies.length ≤ 1048576 ∧ ∀ y ∈ x.fCopies, y.small
theorem PilotFleet.len (x : PilotFleet) : x.D.len = 4 := rfl
theorem args_PilotFleet {d : D} (h : Has (.st [.bool, .sl 6 (.st [.str, .str, .sl 1 (.str), .int .i64, .int .i64, .bool]), .sl 2 (.st [.str, .int .i64]), .sl 12 (.st [.str, .str, .int .i64, .int .i64, .int .i64, .int .i64, .str, .sl 2 (.st [.str, .int .i64]), .int .i64, .str, .str, .str])]) d) : ∃ x : PilotFleet, d = x.D ∧ x.wf := by
  rw [Has] at h
  obtain ⟨_, rfl, h⟩ := h
  simp only [HasF] at h
  obtain ⟨_, _, rfl, hPack, _, _, rfl, hBerths, _, _, rfl, hServices, _, _, rfl, hCopies, rfl⟩ := h
  rw [Has] at hPack
  obtain ⟨vPack, rfl⟩ := hPack
  obtain ⟨vBerths, rfl, wBerths⟩ := args_PilotBerthS hBerths
  obtain ⟨vServices, rfl, wServices⟩ := args_PilotServiceS hServices
  obtain ⟨vCopies, rfl, wCopies⟩ := args_PilotCopyS hCopies
  exact ⟨⟨vPack, vBerths, vServices, vCopies⟩, rfl, ⟨wBerths, wServices, wCopies⟩⟩
theorem sz_PilotFleet (x : PilotFleet) (k : Int) (hw : x.wf) (h0 : 0 ≤ k) (h1 : k ≤ 1048576) : XC Try.prog 15 [x.D, .int .i64 k] [] (fun d ls => ls = [] ∧ ∃ n, d = .int .i64 n ∧ (0 ≤ n → n ≤ k ∧ x.small)) := by
  refine XC.intro' hm [] rfl c15 (Nat.le_of_ble_eq_true rfl) ?_
  conv => whnf
  repeat' (first | (refine g_op ?_; conv => whnf) | (refine And.intro ?_ ?_; (focus (first | exact rfl | exact Nat.le_of_ble_eq_true rfl | decide | omega | fail)); conv => whnf) | (refine g_seq ?_) | (refine XS.go ?_) | (refine g_ops ?_) | (refine g_nil ?_; conv => whnf) | (refine fun _ => ?_; conv => whnf) | fail)
  refine XCL.ask (sz_PilotBerthS x.fBerths _ hw.fBerths (by omega) (by omega)) (fun d h => ?_)
  obtain ⟨n1, rfl, m1⟩ := h
  conv => whnf
  repeat' (first | (refine g_op ?_; conv => whnf) | (refine And.intro ?_ ?_; (focus (first | exact rfl | exact Nat.le_of_ble_eq_true rfl | decide | omega | fail)); conv => whnf) | (refine g_seq ?_) | (refine XS.go ?_) | (refine g_ops ?_) | (refine g_nil ?_; conv => whnf) | (refine g_cond ?_; conv => whnf) | fail)
  refine Br.mk (fun hb => ?_) (fun hb => ?_)
  · conv => whnf
    repeat' (first | (refine g_op ?_; conv => whnf) | (refine And.intro ?_ ?_; (focus (first | exact rfl | exact Nat.le_of_ble_eq_true rfl | decide | omega | fail)); conv => whnf) | (refine g_seq ?_) | (refine XS.go ?_) | (refine g_ops ?_) | (refine g_nil ?_; conv => whnf) | (refine g_ret ?_; conv => whnf) | (refine r_t ?_; conv => whnf) | (refine r_nil ?_; conv => whnf) | fail)
    exact ⟨_, rfl, fun h => absurd h (by decide)⟩
  have p1 : 0 ≤ n1 := Int.not_lt.1 (of_decide_eq_false hb)
  obtain ⟨l1, s1⟩ := m1 p1
  conv => whnf
  repeat' (first | (refine g_op ?_; conv => whnf) | (refine And.intro ?_ ?_; (focus (first | exact rfl | exact Nat.le_of_ble_eq_true rfl | decide | omega | fail)); conv => whnf) | (refine g_seq ?_) | (refine XS.go ?_) | (refine g_ops ?_) | (refine g_skip ?_; conv => whnf) | fail)
  refine XCL.ask (sz_PilotServiceS x.fServices _ hw.fServices (by omega) (by omega)) (fun d h => ?_)
  obtain ⟨n2, rfl, m2⟩ := h
  conv => whnf
  repeat' (first | (refine g_op ?_; conv => whnf) | (refine And.intro ?_ ?_; (focus (first | exact rfl | exact Nat.le_of_ble_eq_true rfl | decide | omega | fail)); conv => whnf) | (refine g_seq ?_) | (refine XS.go ?_) | (refine g_ops ?_) | (refine g_nil ?_; conv => whnf) | (refine g_cond ?_; conv => whnf) | fail)
  refine Br.mk (fun hb => ?_) (fun hb => ?_)
  · conv => whnf
    repeat' (first | (refine g_op ?_; conv => whnf) | (refine And.intro ?_ ?_; (focus (first | exact rfl | exact Nat.le_of_ble_eq_true rfl | decide | omega | fail)); conv => whnf) | (refine g_seq ?_) | (refine XS.go ?_) | (refine g_ops ?_) | (refine g_nil ?_; conv => whnf) | (refine g_ret ?_; conv => whnf) | (refine r_t ?_; conv => whnf) | (refine r_nil ?_; conv => whnf) | fail)
    exact ⟨_, rfl, fun h => absurd h (by decide)⟩
  have p2 : 0 ≤ n2 := Int.not_lt.1 (of_decide_eq_false hb)
  obtain ⟨l2, s2⟩ := m2 p2
  conv => whnf
  repeat' (first | (refine g_op ?_; conv => whnf) | (refine And.intro ?_ ?_; (focus (first | exact rfl | exact Nat.le_of_ble_eq_true rfl | decide | omega | fail)); conv => whnf) | (refine g_seq ?_) | (refine XS.go ?_) | (refine g_ops ?_) | (refine g_skip ?_; conv => whnf) | fail)
  refine XCL.ask (sz_PilotCopyS x.fCopies _ hw.fCopies (by omega) (by omega)) (fun d h => ?_)
  obtain ⟨n3, rfl, m3⟩ := h
  conv => whnf
  repeat' (first | (refine g_op ?_; conv => whnf) | (refine And.intro ?_ ?_; (focus (first | exact rfl | exact Nat.le_of_ble_eq_true rfl | decide | omega | fail)); conv => whnf) | (refine g_seq ?_) | (refine XS.go ?_) | (refine g_ops ?_) | (refine g_nil ?_; conv => whnf) | (refine g_cond ?_; conv => whnf) | fail)
  refine Br.mk (fun hb => ?_) (fun hb => ?_)
  · conv => whnf
    repeat' (first | (refine g_op ?_; conv => whnf) | (refine And.intro ?_ ?_; (focus (first | exact rfl | exact Nat.le_of_ble_eq_true rfl | decide | omega | fail)); conv => whnf) | (refine g_seq ?_) | (refine XS.go ?_) | (refine g_ops ?_) | (refine g_nil ?_; conv => whnf) | (refine g_ret ?_; conv => whnf) | (refine r_t ?_; conv => whnf) | (refine r_nil ?_; conv => whnf) | fail)
    exact ⟨_, rfl, fun h => absurd h (by decide)⟩
  have p3 : 0 ≤ n3 := Int.not_lt.1 (of_decide_eq_false hb)
  obtain ⟨l3, s3⟩ := m3 p3
  conv => whnf
  repeat' (first | (refine g_op ?_; conv => whnf) | (refine And.intro ?_ ?_; (focus (first | exact rfl | exact Nat.le_of_ble_eq_true rfl | decide | omega | fail)); conv => whnf) | (refine g_seq ?_) | (refine XS.go ?_) | (refine g_ops ?_) | (refine g_nil ?_; conv => whnf) | (refine g_skip ?_; conv => whnf) | (refine g_ret ?_; conv => whnf) | (refine r_t ?_; conv => whnf) | (refine r_nil ?_; conv => whnf) | fail)
  exact ⟨_, rfl, fun _ => ⟨by omega, ⟨s1, s2, s3⟩⟩⟩
theorem to_PilotFleet (x : PilotFleet) (hs : x.small) : Rdr Try.prog 17 [x.D] x.D := by
  refine Rdr.intro' hm c17 (Nat.le_of_ble_eq_true rfl) ?_
  conv => whnf
  repeat' (first | (refine g_op ?_; conv => whnf) | (refine And.intro ?_ ?_; (focus (first | exact rfl | exact Nat.le_of_ble_eq_true rfl | decide | omega | fail)); conv => whnf) | (refine g_seq ?_) | (refine XS.go ?_) | (refine g_ops ?_) | (refine g_nil ?_; conv => whnf) | (refine g_ret ?_; conv => whnf) | (refine r_c ?_; conv => whnf) | (refine r_nil ?_; conv => whnf) | (refine fun _ => ?_; conv => whnf) | (refine XCL.of_rdr (to_PilotBerthS x.fBerths hs.fBerths) ?_; conv => whnf) | (refine XCL.of_rdr (to_PilotServiceS x.fServices hs.fServices) ?_; conv => whnf) | (refine XCL.of_rdr (to_PilotCopyS x.fCopies hs.fCopies) ?_; conv => whnf) | fail)
  all_goals rfl
theorem eq_PilotFleet (x : PilotFleet) (hs : x.small) : Rdr Try.prog 19 [x.D, x.D] (.bool true) := by
  refine Rdr.intro' hm c19 (Nat.le_of_ble_eq_true rfl) ?_
  conv => whnf
  repeat' (first | (refine g_op ?_; conv => whnf) | (refine And.intro ?_ ?_; (focus (first | exact rfl | exact Nat.le_of_ble_eq_true rfl | decide | omega | fail)); conv => whnf) | (refine g_seq ?_) | (refine XS.go ?_) | (refine g_ops ?_) | (refine g_nil ?_; conv => whnf) | (refine Br.f ?_ ?_; (focus (first | assumption | exact rfl)); conv => whnf) | (refine g_cond ?_; conv => whnf) | (refine g_skip ?_; conv => whnf) | (refine g_ret ?_; conv => whnf) | (refine r_t ?_; conv => whnf) | (refine r_nil ?_; conv => whnf) | (refine fun _ => ?_; conv => whnf) | (refine Br.f (by simp) ?_; conv => whnf) | (refine XCL.of_rdr (eq_PilotBerthS x.fBerths hs.fBerths) ?_; conv => whnf) | (refine XCL.of_rdr (eq_PilotServiceS x.fServices hs.fServices) ?_; conv => whnf) | (refine XCL.of_rdr (eq_PilotCopyS x.fCopies hs.fCopies) ?_; conv => whnf) | fail)
  all_goals rfl
end Go.Ab
