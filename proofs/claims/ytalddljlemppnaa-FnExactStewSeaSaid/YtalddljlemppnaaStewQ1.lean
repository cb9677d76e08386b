/- Steps towards the law: the machine, contracts of functions and facts of lists. -/
import Derived.Test.YtalddljlemppnaaAb10
import Derived.Test.YtalddljlemppnaaRows
import Derived.Test.YtalddljlemppnaaAb11
set_option linter.unusedSimpArgs false
set_option linter.unusedVariables false
namespace Go.Ab
open Go Go.RowKit Go.Proofs
attribute [local irreducible] XC Rdr IntKind.wrap xw xos xqs xr xd
set_option maxRecDepth 100000
theorem hm : Try.prog.follows .mixedOrders = true := by kernel_rfl
def cf108 : CF := ⟨13,[.t 4],(.seq (.ops [Oo 2 (.bx (.t 0)),Ok 4 (.int .i64 0)]) (.seq (.ops [Om 5 1,Of 6 0 2,Ol 7 6,Oo 8 (.lens (.t 7)),Ob 9 .sub 5 8,Om 1 9]) (.seq (.seq (.ops [Om 10 1,Oo 11 (.bin .lss (.t 10) (.k (.int .i64 0)))]) (.cond (.t 11) (.seq (.ops [Ok 4 (.int .i64 (-1))]) .ret) .skip)) (.seq (.ops [Om 12 1,Om 4 12]) .ret))))⟩
theorem c108 : compileF Try.prog [] 108 = some cf108 := by kernel_rfl
def cf110 : CF := ⟨44,[.c 2 13 true],(.seq (.ops [Oo 1 (.bx (.t 0)),Oo 2 (.al (.agg [.str ⟨#[]⟩,.int .i64 0,.bool false,.int .i64 0,.int .i64 0,.int .i64 0,.int .i64 0,.int .i64 0,.int .i64 0,.int .i64 0,.int .i64 0,.int .i64 0,.int .i64 0]))]) (.seq (.ops [Oo 3 (.al (.agg [.str ⟨#[]⟩,.int .i64 0,.bool false,.int .i64 0,.int .i64 0,.int .i64 0,.int .i64 0,.int .i64 0,.int .i64 0,.int .i64 0,.int .i64 0,.int .i64 0,.int .i64 0]))]) (.seq (.ops [Of 4 0 1,Ol 5 4,Of 6 0 3,Os 1 6 5]) (.seq (.ops [Of 7 1 1,Ol 8 7,Of 9 1 3,Os 1 9 8]) (.seq (.ops [Of 10 2 1,Ol 11 10,Of 12 2 3,Os 1 12 11]) (.seq (.ops [Of 13 3 1,Ol 14 13,Of 15 3 3,Os 1 15 14]) (.seq (.ops [Of 16 4 1,Ol 17 16,Of 18 4 3,Os 1 18 17]) (.seq (.ops [Of 19 5 1,Ol 20 19,Of 21 5 3,Os 1 21 20]) (.seq (.ops [Of 22 6 1,Ol 23 22,Of 24 6 3,Os 1 24 23]) (.seq (.ops [Of 25 7 1,Ol 26 25,Of 27 7 3,Os 1 27 26]) (.seq (.ops [Of 28 8 1,Ol 29 28,Of 30 8 3,Os 1 30 29]) (.seq (.ops [Of 31 9 1,Ol 32 31,Of 33 9 3,Os 1 33 32]) (.seq (.ops [Of 34 10 1,Ol 35 34,Of 36 10 3,Os 1 36 35]) (.seq (.ops [Of 37 11 1,Ol 38 37,Of 39 11 3,Os 1 39 38]) (.seq (.ops [Of 40 12 1,Ol 41 40,Of 42 12 3,Os 1 42 41]) (.seq (.ops [Od 43 13 3,Os 13 2 43]) .ret))))))))))))))))⟩
theorem c110 : compileF Try.prog [] 110 = some cf110 := by kernel_rfl
def cf143 : CF := ⟨70,[.t 4],(.seq (.ops [Oo 2 (.bx (.t 0)),Oo 3 (.bx (.t 1)),Ok 4 (.bool false)]) (.seq (.seq (.ops [Of 5 0 2,Ol 6 5,Of 7 0 3,Ol 8 7,Ob 9 .neq 6 8]) (.cond (.t 9) (.seq (.ops [Ok 4 (.bool false)]) .ret) .skip)) (.seq (.seq (.ops [Of 10 1 2,Ol 11 10,Of 12 1 3,Ol 13 12,Ob 14 .neq 11 13]) (.cond (.t 14) (.seq (.ops [Ok 4 (.bool false)]) .ret) .skip)) (.seq (.seq (.ops [Of 15 2 2,Ol 16 15,Of 17 2 3,Ol 18 17,Oo 19 (.binb true (.t 16) (.t 18))]) (.cond (.t 19) (.seq (.ops [Ok 4 (.bool false)]) .ret) .skip)) (.seq (.seq (.ops [Of 20 3 2,Ol 21 20,Of 22 3 3,Ol 23 22,Ob 24 .neq 21 23]) (.cond (.t 24) (.seq (.ops [Ok 4 (.bool false)]) .ret) .skip)) (.seq (.seq (.ops [Of 25 4 2,Ol 26 25,Of 27 4 3,Ol 28 27,Ob 29 .neq 26 28]) (.cond (.t 29) (.seq (.ops [Ok 4 (.bool false)]) .ret) .skip)) (.seq (.seq (.ops [Of 30 5 2,Ol 31 30,Of 32 5 3,Ol 33 32,Ob 34 .neq 31 33]) (.cond (.t 34) (.seq (.ops [Ok 4 (.bool false)]) .ret) .skip)) (.seq (.seq (.ops [Of 35 6 2,Ol 36 35,Of 37 6 3,Ol 38 37,Ob 39 .neq 36 38]) (.cond (.t 39) (.seq (.ops [Ok 4 (.bool false)]) .ret) .skip)) (.seq (.seq (.ops [Of 40 7 2,Ol 41 40,Of 42 7 3,Ol 43 42,Ob 44 .neq 41 43]) (.cond (.t 44) (.seq (.ops [Ok 4 (.bool false)]) .ret) .skip)) (.seq (.seq (.ops [Of 45 8 2,Ol 46 45,Of 47 8 3,Ol 48 47,Ob 49 .neq 46 48]) (.cond (.t 49) (.seq (.ops [Ok 4 (.bool false)]) .ret) .skip)) (.seq (.seq (.ops [Of 50 9 2,Ol 51 50,Of 52 9 3,Ol 53 52,Ob 54 .neq 51 53]) (.cond (.t 54) (.seq (.ops [Ok 4 (.bool false)]) .ret) .skip)) (.seq (.seq (.ops [Of 55 10 2,Ol 56 55,Of 57 10 3,Ol 58 57,Ob 59 .neq 56 58]) (.cond (.t 59) (.seq (.ops [Ok 4 (.bool false)]) .ret) .skip)) (.seq (.seq (.ops [Of 60 11 2,Ol 61 60,Of 62 11 3,Ol 63 62,Ob 64 .neq 61 63]) (.cond (.t 64) (.seq (.ops [Ok 4 (.bool false)]) .ret) .skip)) (.seq (.seq (.ops [Of 65 12 2,Ol 66 65,Of 67 12 3,Ol 68 67,Ob 69 .neq 66 68]) (.cond (.t 69) (.seq (.ops [Ok 4 (.bool false)]) .ret) .skip)) (.seq (.ops [Ok 4 (.bool true)]) .ret)))))))))))))))⟩
theorem c143 : compileF Try.prog [] 143 = some cf143 := by kernel_rfl
def cf81 : CF := ⟨27,[.t 4],(.seq (.ops [Ok 4 (.int .i64 0)]) (.seq (.ops [Om 6 1,Om 7 0,Og 8 7,Ob 9 .sub 6 8,Om 1 9]) (.seq (.seq (.ops [Om 10 1,Oo 11 (.bin .lss (.t 10) (.k (.int .i64 0)))]) (.cond (.t 11) (.seq (.ops [Ok 4 (.int .i64 (-1))]) .ret) .skip)) (.seq (.seq (.ops [Ok 5 (.int .i64 0)]) (.block 0 (.loop (.seq (.seq (.ops [Om 12 5,Om 13 0,Og 14 13,Ob 15 .lss 12 14]) (.cond (.t 15) .skip (.exit 0))) (.seq (.block 1 (.seq (.ops [Om 18 0,Om 19 5,Ox 20 13 18 19,Od 21 13 20,Om 22 1,Oc 23 108 [.t 21,.t 22],Om 1 23]) (.seq (.ops [Om 24 1,Oo 25 (.bin .lss (.t 24) (.k (.int .i64 0)))]) (.cond (.t 25) (.seq (.ops [Ok 4 (.int .i64 (-1))]) .ret) .skip)))) (.ops [Om 16 5,Oi 17 16,Om 5 17])))))) (.seq (.ops [Om 26 1,Om 4 26]) .ret)))))⟩
theorem c81 : compileF Try.prog [] 81 = some cf81 := by kernel_rfl
def cf84 : CF := ⟨23,[.t 2],(.seq (.ops [Ok 2 (.nil)]) (.seq (.ops [Om 5 0,Og 6 5,Oo 7 (.mk (.agg [.str ⟨#[]⟩,.int .i64 0,.bool false,.int .i64 0,.int .i64 0,.int .i64 0,.int .i64 0,.int .i64 0,.int .i64 0,.int .i64 0,.int .i64 0,.int .i64 0,.int .i64 0]) 112 (.t 6) (.t 6)),Om 3 7]) (.seq (.seq (.ops [Ok 4 (.int .i64 0)]) (.block 0 (.loop (.seq (.seq (.ops [Om 8 4,Om 9 0,Og 10 9,Ob 11 .lss 8 10]) (.cond (.t 11) .skip (.exit 0))) (.seq (.block 1 (.ops [Om 14 3,Om 15 4,Om 16 0,Om 17 4,Ox 18 13 16 17,Od 19 13 18,Oc 20 110 [.t 19],Ox 21 13 14 15,Os 13 21 20])) (.ops [Om 12 4,Oi 13 12,Om 4 13])))))) (.seq (.ops [Om 22 3,Om 2 22]) .ret))))⟩
theorem c84 : compileF Try.prog [] 84 = some cf84 := by kernel_rfl
def cf87 : CF := ⟨27,[.t 4],(.seq (.ops [Ok 4 (.bool false)]) (.seq (.seq (.ops [Om 6 0,Og 7 6,Om 8 1,Og 9 8,Ob 10 .neq 7 9]) (.cond (.t 10) (.seq (.ops [Ok 4 (.bool false)]) .ret) .skip)) (.seq (.seq (.ops [Ok 5 (.int .i64 0)]) (.block 0 (.loop (.seq (.seq (.ops [Om 11 5,Om 12 0,Og 13 12,Ob 14 .lss 11 13]) (.cond (.t 14) .skip (.exit 0))) (.seq (.block 1 (.seq (.quiet [Om 17 0,Om 18 5,Ox 19 13 17 18,Od 20 13 19,Om 21 1,Om 22 5,Ox 23 13 21 22,Od 24 13 23,Oc 25 143 [.t 20,.t 24],Oo 26 (.not (.t 25))]) (.cond (.t 26) (.seq (.ops [Ok 4 (.bool false)]) .ret) .skip))) (.ops [Om 15 5,Oi 16 15,Om 5 16])))))) (.seq (.ops [Ok 4 (.bool true)]) .ret))))⟩
theorem c87 : compileF Try.prog [] 87 = some cf87 := by kernel_rfl
def cf139 : CF := ⟨20,[.t 4],(.seq (.ops [Oo 2 (.bx (.t 0)),Ok 4 (.int .i64 0)]) (.seq (.ops [Om 5 1,Of 6 0 2,Ol 7 6,Oo 8 (.lens (.t 7)),Ob 9 .sub 5 8,Om 1 9]) (.seq (.seq (.ops [Om 10 1,Oo 11 (.bin .lss (.t 10) (.k (.int .i64 0)))]) (.cond (.t 11) (.seq (.ops [Ok 4 (.int .i64 (-1))]) .ret) .skip)) (.seq (.ops [Om 12 1,Of 13 6 2,Ol 14 13,Oo 15 (.lens (.t 14)),Ob 16 .sub 12 15,Om 1 16]) (.seq (.seq (.ops [Om 17 1,Oo 18 (.bin .lss (.t 17) (.k (.int .i64 0)))]) (.cond (.t 18) (.seq (.ops [Ok 4 (.int .i64 (-1))]) .ret) .skip)) (.seq (.ops [Om 19 1,Om 4 19]) .ret))))))⟩
theorem c139 : compileF Try.prog [] 139 = some cf139 := by kernel_rfl
def cf141 : CF := ⟨26,[.c 2 7 true],(.seq (.ops [Oo 1 (.bx (.t 0)),Oo 2 (.al (.agg [.str ⟨#[]⟩,.int .i64 0,.int .i64 0,.int .i64 0,.int .i64 0,.bool false,.str ⟨#[]⟩]))]) (.seq (.ops [Oo 3 (.al (.agg [.str ⟨#[]⟩,.int .i64 0,.int .i64 0,.int .i64 0,.int .i64 0,.bool false,.str ⟨#[]⟩]))]) (.seq (.ops [Of 4 0 1,Ol 5 4,Of 6 0 3,Os 1 6 5]) (.seq (.ops [Of 7 1 1,Ol 8 7,Of 9 1 3,Os 1 9 8]) (.seq (.ops [Of 10 2 1,Ol 11 10,Of 12 2 3,Os 1 12 11]) (.seq (.ops [Of 13 3 1,Ol 14 13,Of 15 3 3,Os 1 15 14]) (.seq (.ops [Of 16 4 1,Ol 17 16,Of 18 4 3,Os 1 18 17]) (.seq (.ops [Of 19 5 1,Ol 20 19,Of 21 5 3,Os 1 21 20]) (.seq (.ops [Of 22 6 1,Ol 23 22,Of 24 6 3,Os 1 24 23]) (.seq (.ops [Od 25 7 3,Os 7 2 25]) .ret))))))))))⟩
theorem c141 : compileF Try.prog [] 141 = some cf141 := by kernel_rfl
def cf144 : CF := ⟨40,[.t 4],(.seq (.ops [Oo 2 (.bx (.t 0)),Oo 3 (.bx (.t 1)),Ok 4 (.bool false)]) (.seq (.seq (.ops [Of 5 0 2,Ol 6 5,Of 7 0 3,Ol 8 7,Ob 9 .neq 6 8]) (.cond (.t 9) (.seq (.ops [Ok 4 (.bool false)]) .ret) .skip)) (.seq (.seq (.ops [Of 10 1 2,Ol 11 10,Of 12 1 3,Ol 13 12,Ob 14 .neq 11 13]) (.cond (.t 14) (.seq (.ops [Ok 4 (.bool false)]) .ret) .skip)) (.seq (.seq (.ops [Of 15 2 2,Ol 16 15,Of 17 2 3,Ol 18 17,Ob 19 .neq 16 18]) (.cond (.t 19) (.seq (.ops [Ok 4 (.bool false)]) .ret) .skip)) (.seq (.seq (.ops [Of 20 3 2,Ol 21 20,Of 22 3 3,Ol 23 22,Ob 24 .neq 21 23]) (.cond (.t 24) (.seq (.ops [Ok 4 (.bool false)]) .ret) .skip)) (.seq (.seq (.ops [Of 25 4 2,Ol 26 25,Of 27 4 3,Ol 28 27,Ob 29 .neq 26 28]) (.cond (.t 29) (.seq (.ops [Ok 4 (.bool false)]) .ret) .skip)) (.seq (.seq (.ops [Of 30 5 2,Ol 31 30,Of 32 5 3,Ol 33 32,Oo 34 (.binb true (.t 31) (.t 33))]) (.cond (.t 34) (.seq (.ops [Ok 4 (.bool false)]) .ret) .skip)) (.seq (.seq (.ops [Of 35 6 2,Ol 36 35,Of 37 6 3,Ol 38 37,Ob 39 .neq 36 38]) (.cond (.t 39) (.seq (.ops [Ok 4 (.bool false)]) .ret) .skip)) (.seq (.ops [Ok 4 (.bool true)]) .ret)))))))))⟩
theorem c144 : compileF Try.prog [] 144 = some cf144 := by kernel_rfl
def cf82 : CF := ⟨27,[.t 4],(.seq (.ops [Ok 4 (.int .i64 0)]) (.seq (.ops [Om 6 1,Om 7 0,Og 8 7,Ob 9 .sub 6 8,Om 1 9]) (.seq (.seq (.ops [Om 10 1,Oo 11 (.bin .lss (.t 10) (.k (.int .i64 0)))]) (.cond (.t 11) (.seq (.ops [Ok 4 (.int .i64 (-1))]) .ret) .skip)) (.seq (.seq (.ops [Ok 5 (.int .i64 0)]) (.block 0 (.loop (.seq (.seq (.ops [Om 12 5,Om 13 0,Og 14 13,Ob 15 .lss 12 14]) (.cond (.t 15) .skip (.exit 0))) (.seq (.block 1 (.seq (.ops [Om 18 0,Om 19 5,Ox 20 7 18 19,Od 21 7 20,Om 22 1,Oc 23 139 [.t 21,.t 22],Om 1 23]) (.seq (.ops [Om 24 1,Oo 25 (.bin .lss (.t 24) (.k (.int .i64 0)))]) (.cond (.t 25) (.seq (.ops [Ok 4 (.int .i64 (-1))]) .ret) .skip)))) (.ops [Om 16 5,Oi 17 16,Om 5 17])))))) (.seq (.ops [Om 26 1,Om 4 26]) .ret)))))⟩
theorem c82 : compileF Try.prog [] 82 = some cf82 := by kernel_rfl
def cf85 : CF := ⟨23,[.t 2],(.seq (.ops [Ok 2 (.nil)]) (.seq (.ops [Om 5 0,Og 6 5,Oo 7 (.mk (.agg [.str ⟨#[]⟩,.int .i64 0,.int .i64 0,.int .i64 0,.int .i64 0,.bool false,.str ⟨#[]⟩]) 72 (.t 6) (.t 6)),Om 3 7]) (.seq (.seq (.ops [Ok 4 (.int .i64 0)]) (.block 0 (.loop (.seq (.seq (.ops [Om 8 4,Om 9 0,Og 10 9,Ob 11 .lss 8 10]) (.cond (.t 11) .skip (.exit 0))) (.seq (.block 1 (.ops [Om 14 3,Om 15 4,Om 16 0,Om 17 4,Ox 18 7 16 17,Od 19 7 18,Oc 20 141 [.t 19],Ox 21 7 14 15,Os 7 21 20])) (.ops [Om 12 4,Oi 13 12,Om 4 13])))))) (.seq (.ops [Om 22 3,Om 2 22]) .ret))))⟩
theorem c85 : compileF Try.prog [] 85 = some cf85 := by kernel_rfl
def cf88 : CF := ⟨27,[.t 4],(.seq (.ops [Ok 4 (.bool false)]) (.seq (.seq (.ops [Om 6 0,Og 7 6,Om 8 1,Og 9 8,Ob 10 .neq 7 9]) (.cond (.t 10) (.seq (.ops [Ok 4 (.bool false)]) .ret) .skip)) (.seq (.seq (.ops [Ok 5 (.int .i64 0)]) (.block 0 (.loop (.seq (.seq (.ops [Om 11 5,Om 12 0,Og 13 12,Ob 14 .lss 11 13]) (.cond (.t 14) .skip (.exit 0))) (.seq (.block 1 (.seq (.quiet [Om 17 0,Om 18 5,Ox 19 7 17 18,Od 20 7 19,Om 21 1,Om 22 5,Ox 23 7 21 22,Od 24 7 23,Oc 25 144 [.t 20,.t 24],Oo 26 (.not (.t 25))]) (.cond (.t 26) (.seq (.ops [Ok 4 (.bool false)]) .ret) .skip))) (.ops [Om 15 5,Oi 16 15,Om 5 16])))))) (.seq (.ops [Ok 4 (.bool true)]) .ret))))⟩
theorem c88 : compileF Try.prog [] 88 = some cf88 := by kernel_rfl
def cf140 : CF := ⟨13,[.t 4],(.seq (.ops [Oo 2 (.bx (.t 0)),Ok 4 (.int .i64 0)]) (.seq (.ops [Om 5 1,Of 6 0 2,Ol 7 6,Oo 8 (.lens (.t 7)),Ob 9 .sub 5 8,Om 1 9]) (.seq (.seq (.ops [Om 10 1,Oo 11 (.bin .lss (.t 10) (.k (.int .i64 0)))]) (.cond (.t 11) (.seq (.ops [Ok 4 (.int .i64 (-1))]) .ret) .skip)) (.seq (.ops [Om 12 1,Om 4 12]) .ret))))⟩
theorem c140 : compileF Try.prog [] 140 = some cf140 := by kernel_rfl
def cf142 : CF := ⟨11,[.c 2 2 true],(.seq (.ops [Oo 1 (.bx (.t 0)),Oo 2 (.al (.agg [.str ⟨#[]⟩,.bool false]))]) (.seq (.ops [Oo 3 (.al (.agg [.str ⟨#[]⟩,.bool false]))]) (.seq (.ops [Of 4 0 1,Ol 5 4,Of 6 0 3,Os 1 6 5]) (.seq (.ops [Of 7 1 1,Ol 8 7,Of 9 1 3,Os 1 9 8]) (.seq (.ops [Od 10 2 3,Os 2 2 10]) .ret)))))⟩
theorem c142 : compileF Try.prog [] 142 = some cf142 := by kernel_rfl
def cf145 : CF := ⟨15,[.t 4],(.seq (.ops [Oo 2 (.bx (.t 0)),Oo 3 (.bx (.t 1)),Ok 4 (.bool false)]) (.seq (.seq (.ops [Of 5 0 2,Ol 6 5,Of 7 0 3,Ol 8 7,Ob 9 .neq 6 8]) (.cond (.t 9) (.seq (.ops [Ok 4 (.bool false)]) .ret) .skip)) (.seq (.seq (.ops [Of 10 1 2,Ol 11 10,Of 12 1 3,Ol 13 12,Oo 14 (.binb true (.t 11) (.t 13))]) (.cond (.t 14) (.seq (.ops [Ok 4 (.bool false)]) .ret) .skip)) (.seq (.ops [Ok 4 (.bool true)]) .ret))))⟩
theorem c145 : compileF Try.prog [] 145 = some cf145 := by kernel_rfl
def cf83 : CF := ⟨27,[.t 4],(.seq (.ops [Ok 4 (.int .i64 0)]) (.seq (.ops [Om 6 1,Om 7 0,Og 8 7,Ob 9 .sub 6 8,Om 1 9]) (.seq (.seq (.ops [Om 10 1,Oo 11 (.bin .lss (.t 10) (.k (.int .i64 0)))]) (.cond (.t 11) (.seq (.ops [Ok 4 (.int .i64 (-1))]) .ret) .skip)) (.seq (.seq (.ops [Ok 5 (.int .i64 0)]) (.block 0 (.loop (.seq (.seq (.ops [Om 12 5,Om 13 0,Og 14 13,Ob 15 .lss 12 14]) (.cond (.t 15) .skip (.exit 0))) (.seq (.block 1 (.seq (.ops [Om 18 0,Om 19 5,Ox 20 2 18 19,Od 21 2 20,Om 22 1,Oc 23 140 [.t 21,.t 22],Om 1 23]) (.seq (.ops [Om 24 1,Oo 25 (.bin .lss (.t 24) (.k (.int .i64 0)))]) (.cond (.t 25) (.seq (.ops [Ok 4 (.int .i64 (-1))]) .ret) .skip)))) (.ops [Om 16 5,Oi 17 16,Om 5 17])))))) (.seq (.ops [Om 26 1,Om 4 26]) .ret)))))⟩
theorem c83 : compileF Try.prog [] 83 = some cf83 := by kernel_rfl
def cf86 : CF := ⟨23,[.t 2],(.seq (.ops [Ok 2 (.nil)]) (.seq (.ops [Om 5 0,Og 6 5,Oo 7 (.mk (.agg [.str ⟨#[]⟩,.bool false]) 24 (.t 6) (.t 6)),Om 3 7]) (.seq (.seq (.ops [Ok 4 (.int .i64 0)]) (.block 0 (.loop (.seq (.seq (.ops [Om 8 4,Om 9 0,Og 10 9,Ob 11 .lss 8 10]) (.cond (.t 11) .skip (.exit 0))) (.seq (.block 1 (.ops [Om 14 3,Om 15 4,Om 16 0,Om 17 4,Ox 18 2 16 17,Od 19 2 18,Oc 20 142 [.t 19],Ox 21 2 14 15,Os 2 21 20])) (.ops [Om 12 4,Oi 13 12,Om 4 13])))))) (.seq (.ops [Om 22 3,Om 2 22]) .ret))))⟩
theorem c86 : compileF Try.prog [] 86 = some cf86 := by kernel_rfl
def cf89 : CF := ⟨27,[.t 4],(.seq (.ops [Ok 4 (.bool false)]) (.seq (.seq (.ops [Om 6 0,Og 7 6,Om 8 1,Og 9 8,Ob 10 .neq 7 9]) (.cond (.t 10) (.seq (.ops [Ok 4 (.bool false)]) .ret) .skip)) (.seq (.seq (.ops [Ok 5 (.int .i64 0)]) (.block 0 (.loop (.seq (.seq (.ops [Om 11 5,Om 12 0,Og 13 12,Ob 14 .lss 11 13]) (.cond (.t 14) .skip (.exit 0))) (.seq (.block 1 (.seq (.quiet [Om 17 0,Om 18 5,Ox 19 2 17 18,Od 20 2 19,Om 21 1,Om 22 5,Ox 23 2 21 22,Od 24 2 23,Oc 25 145 [.t 20,.t 24],Oo 26 (.not (.t 25))]) (.cond (.t 26) (.seq (.ops [Ok 4 (.bool false)]) .ret) .skip))) (.ops [Om 15 5,Oi 16 15,Om 5 16])))))) (.seq (.ops [Ok 4 (.bool true)]) .ret))))⟩
theorem c89 : compileF Try.prog [] 89 = some cf89 := by kernel_rfl
def cf22 : CF := ⟨24,[.t 4],(.seq (.ops [Oo 2 (.bx (.t 0)),Ok 4 (.int .i64 0)]) (.seq (.ops [Of 5 1 2,Ol 6 5,Om 7 1,Oc 8 81 [.t 6,.t 7],Om 1 8]) (.seq (.seq (.ops [Om 9 1,Oo 10 (.bin .lss (.t 9) (.k (.int .i64 0)))]) (.cond (.t 10) (.seq (.ops [Ok 4 (.int .i64 (-1))]) .ret) .skip)) (.seq (.ops [Of 11 2 2,Ol 12 11,Om 13 1,Oc 14 82 [.t 12,.t 13],Om 1 14]) (.seq (.seq (.ops [Om 15 1,Oo 16 (.bin .lss (.t 15) (.k (.int .i64 0)))]) (.cond (.t 16) (.seq (.ops [Ok 4 (.int .i64 (-1))]) .ret) .skip)) (.seq (.ops [Of 17 3 2,Ol 18 17,Om 19 1,Oc 20 83 [.t 18,.t 19],Om 1 20]) (.seq (.seq (.ops [Om 21 1,Oo 22 (.bin .lss (.t 21) (.k (.int .i64 0)))]) (.cond (.t 22) (.seq (.ops [Ok 4 (.int .i64 (-1))]) .ret) .skip)) (.seq (.ops [Om 23 1,Om 4 23]) .ret))))))))⟩
theorem c22 : compileF Try.prog [] 22 = some cf22 := by kernel_rfl
def cf23 : CF := ⟨20,[.c 2 4 true],(.seq (.ops [Oo 1 (.bx (.t 0)),Oo 2 (.al (.agg [.int .i64 0,.nil,.nil,.nil]))]) (.seq (.ops [Oo 3 (.al (.agg [.int .i64 0,.nil,.nil,.nil]))]) (.seq (.ops [Of 4 0 1,Ol 5 4,Of 6 0 3,Os 1 6 5]) (.seq (.ops [Of 7 1 1,Ol 8 7,Oc 9 84 [.t 8],Of 10 1 3,Os 1 10 9]) (.seq (.ops [Of 11 2 1,Ol 12 11,Oc 13 85 [.t 12],Of 14 2 3,Os 1 14 13]) (.seq (.ops [Of 15 3 1,Ol 16 15,Oc 17 86 [.t 16],Of 18 3 3,Os 1 18 17]) (.seq (.ops [Od 19 4 3,Os 4 2 19]) .ret)))))))⟩
theorem c23 : compileF Try.prog [] 23 = some cf23 := by kernel_rfl
def cf24 : CF := ⟨28,[.t 4],(.seq (.ops [Oo 2 (.bx (.t 0)),Oo 3 (.bx (.t 1)),Ok 4 (.bool false)]) (.seq (.seq (.ops [Of 5 0 2,Ol 6 5,Of 7 0 3,Ol 8 7,Ob 9 .neq 6 8]) (.cond (.t 9) (.seq (.ops [Ok 4 (.bool false)]) .ret) .skip)) (.seq (.seq (.ops [Of 10 1 2,Ol 11 10,Of 12 1 3,Ol 13 12,Oc 14 87 [.t 11,.t 13],Oo 15 (.not (.t 14))]) (.cond (.t 15) (.seq (.ops [Ok 4 (.bool false)]) .ret) .skip)) (.seq (.seq (.ops [Of 16 2 2,Ol 17 16,Of 18 2 3,Ol 19 18,Oc 20 88 [.t 17,.t 19],Oo 21 (.not (.t 20))]) (.cond (.t 21) (.seq (.ops [Ok 4 (.bool false)]) .ret) .skip)) (.seq (.seq (.ops [Of 22 3 2,Ol 23 22,Of 24 3 3,Ol 25 24,Oc 26 89 [.t 23,.t 25],Oo 27 (.not (.t 26))]) (.cond (.t 27) (.seq (.ops [Ok 4 (.bool false)]) .ret) .skip)) (.seq (.ops [Ok 4 (.bool true)]) .ret))))))⟩
theorem c24 : compileF Try.prog [] 24 = some cf24 := by kernel_rfl
structure StewService where
 fName : ByteArray
 fVersion : Int
 fGone : Bool
 fImage : Int
 fWant : Int
 fDown : Int
 fOver : Int
 fNext : Int
 fPer : Int
 fLeast : Int
 fMost : Int
 fLoad : Int
 fCool : Int
def StewService.D (x : StewService) : D := .agg [.str x.fName, .int .i64 x.fVersion, .bool x.fGone, .int .i64 x.fImage, .int .i64 x.fWant, .int .i64 x.fDown, .int .i64 x.fOver, .int .i64 x.fNext, .int .i64 x.fPer, .int .i64 x.fLeast, .int .i64 x.fMost, .int .i64 x.fLoad, .int .i64 x.fCool]
instance : Inhabited StewService := ⟨⟨⟨#[]⟩, 0, false, 0, 0, 0, 0, 0, 0, 0, 0, 0, 0⟩⟩
structure StewService.wf (x : StewService) : Prop where
 fName : x.fName.size ≤ 9223372036854775807
structure StewService.small (x : StewService) : Prop where
theorem args_StewService {d : D} (h : Has (.st [.str, .int .i64, .bool, .int .i64, .int .i64, .int .i64, .int .i64, .int .i64, .int .i64, .int .i64, .int .i64, .int .i64, .int .i64]) d) : ∃ x : StewService, d = x.D ∧ x.wf := by
 rw [Has] at h
 obtain ⟨_, rfl, h⟩ := h
 simp only [HasF] at h
 obtain ⟨_, _, rfl, hName, _, _, rfl, hVersion, _, _, rfl, hGone, _, _, rfl, hImage, _, _, rfl, hWant, _, _, rfl, hDown, _, _, rfl, hOver, _, _, rfl, hNext, _, _, rfl, hPer, _, _, rfl, hLeast, _, _, rfl, hMost, _, _, rfl, hLoad, _, _, rfl, hCool, rfl⟩ := h
 rw [Has] at hName
 obtain ⟨vName, rfl, wName⟩ := hName
 rw [Has] at hVersion
 obtain ⟨vVersion, rfl, _⟩ := hVersion
 rw [Has] at hGone
 obtain ⟨vGone, rfl⟩ := hGone
 rw [Has] at hImage
 obtain ⟨vImage, rfl, _⟩ := hImage
 rw [Has] at hWant
 obtain ⟨vWant, rfl, _⟩ := hWant
 rw [Has] at hDown
 obtain ⟨vDown, rfl, _⟩ := hDown
 rw [Has] at hOver
 obtain ⟨vOver, rfl, _⟩ := hOver
 rw [Has] at hNext
 obtain ⟨vNext, rfl, _⟩ := hNext
 rw [Has] at hPer
 obtain ⟨vPer, rfl, _⟩ := hPer
 rw [Has] at hLeast
 obtain ⟨vLeast, rfl, _⟩ := hLeast
 rw [Has] at hMost
 obtain ⟨vMost, rfl, _⟩ := hMost
 rw [Has] at hLoad
 obtain ⟨vLoad, rfl, _⟩ := hLoad
 rw [Has] at hCool
 obtain ⟨vCool, rfl, _⟩ := hCool
 exact ⟨⟨vName, vVersion, vGone, vImage, vWant, vDown, vOver, vNext, vPer, vLeast, vMost, vLoad, vCool⟩, rfl, ⟨wName⟩⟩
theorem sz_StewService (x : StewService) (k : Int) (hw : x.wf) (h0 : 0 ≤ k) (h1 : k ≤ 1048576) : XC Try.prog 108 [x.D, .int .i64 k] [] (fun d ls => ls = [] ∧ ∃ n, d = .int .i64 n ∧ (0 ≤ n → n ≤ k ∧ x.small)) := by
 refine XC.intro' hm [] rfl c108 (Nat.le_of_ble_eq_true rfl) ?_
 conv => whnf
 repeat' (first | (refine g_op ?_; conv => whnf) | (refine And.intro ?_ ?_; (focus exact au0); conv => whnf) | (refine g_seq ?_) | (refine XS.go ?_) | (refine g_ops ?_) | ((first | refine g_nil ?_ | refine g_cond ?_ | refine fun _ => ?_); conv => whnf) | fail)
 have q1 := hw.fName
 have e1 : IntKind.wrap .i64 (k - (x.fName.size : Int)) = k - (x.fName.size : Int) := wrap_ok (by omega) (by omega)
 rw [e1]
 refine Br.mk (fun hb => ?_) (fun hb => ?_)
 ·conv => whnf
  repeat' (first | (refine g_op ?_; conv => whnf) | (refine And.intro ?_ ?_; (focus exact au0); conv => whnf) | (refine g_seq ?_) | (refine XS.go ?_) | (refine g_ops ?_) | ((first | refine g_nil ?_ | refine g_ret ?_ | refine r_t ?_ | refine r_nil ?_); conv => whnf) | fail)
  exact ⟨_, rfl, fun h => absurd h (by decide)⟩
 have p1 : 0 ≤ (k - (x.fName.size : Int)) := Int.not_lt.1 (of_decide_eq_false hb)
 conv => whnf
 repeat' (first | (refine g_op ?_; conv => whnf) | (refine And.intro ?_ ?_; (focus exact au0); conv => whnf) | (refine g_seq ?_) | (refine XS.go ?_) | (refine g_ops ?_) | ((first | refine g_nil ?_ | refine g_skip ?_ | refine g_ret ?_ | refine r_t ?_ | refine r_nil ?_); conv => whnf) | fail)
 exact ⟨_, rfl, fun _ => ⟨by omega, ⟨⟩⟩⟩
theorem to_StewService (x : StewService) (hs : x.small) : Rdr Try.prog 110 [x.D] x.D := by
 refine Rdr.intro' hm c110 (Nat.le_of_ble_eq_true rfl) ?_
 conv => whnf
 repeat' (first | (refine g_op ?_; conv => whnf) | (refine And.intro ?_ ?_; (focus exact au0); conv => whnf) | (refine g_seq ?_) | (refine XS.go ?_) | (refine g_ops ?_) | ((first | refine g_nil ?_ | refine g_ret ?_ | refine r_c ?_ | refine r_nil ?_ | refine fun _ => ?_); conv => whnf) | fail)
 all_goals rfl
theorem eq_StewService (x : StewService) (hs : x.small) : Rdr Try.prog 143 [x.D, x.D] (.bool true) := by
 refine Rdr.intro' hm c143 (Nat.le_of_ble_eq_true rfl) ?_
 conv => whnf
 repeat' (first | (refine g_op ?_; conv => whnf) | (refine And.intro ?_ ?_; (focus exact au0); conv => whnf) | (refine g_seq ?_) | (refine XS.go ?_) | (refine g_ops ?_) | ((first | refine g_nil ?_ | refine g_cond ?_ | refine g_skip ?_ | refine g_ret ?_ | refine r_t ?_ | refine r_nil ?_ | refine fun _ => ?_ | refine Br.f (by simp) ?_); conv => whnf) | fail)
 all_goals rfl
theorem args_StewServiceS {d : D} (h : Has (.sl 13 (.st [.str, .int .i64, .bool, .int .i64, .int .i64, .int .i64, .int .i64, .int .i64, .int .i64, .int .i64, .int .i64, .int .i64, .int .i64])) d) : ∃ l : (List StewService), d = .ro 13 (l.map StewService.D) ∧ l.length ≤ 9223372036854775807 ∧ ∀ y ∈ l, y.wf := by
 rw [Has] at h
 obtain ⟨ds, rfl, hm, hd⟩ := h
 have : ∃ l : (List StewService), ds = l.map StewService.D ∧ ∀ y ∈ l, y.wf := by
  clear hm
  induction ds with
  | nil => exact ⟨[], rfl, by simp⟩
  | cons d ds ih =>
   obtain ⟨l, rfl, hl⟩ := ih (fun x hx => hd x (List.mem_cons_of_mem _ hx))
   obtain ⟨v, rfl, wv⟩ : ∃ v : StewService, d = StewService.D v ∧ v.wf := args_StewService (hd _ (List.mem_cons_self ..))
   exact ⟨v :: l, rfl, fun y hy => by rcases List.mem_cons.1 hy with rfl | hy <;> first | exact wv | exact hl y hy⟩
 obtain ⟨l, rfl, hl⟩ := this
 exact ⟨l, rfl, by rw [List.length_map] at hm; exact hm, hl⟩
theorem to_StewServiceS (l : (List StewService)) (hs : l.length ≤ 1048576 ∧ ∀ y ∈ l, y.small) : Rdr Try.prog 84 [.ro 13 (l.map StewService.D)] (.ro 13 (l.map StewService.D)) :=
 toS_rdr hm c84 (zs := [.str ⟨#[]⟩, .int .i64 0, .bool false, .int .i64 0, .int .i64 0, .int .i64 0, .int .i64 0, .int .i64 0, .int .i64 0, .int .i64 0, .int .i64 0, .int .i64 0, .int .i64 0]) rfl (by decide) (by decide) (by simpa using hs.1) (fun d hd => by obtain ⟨x, hx, rfl⟩ := List.mem_map.1 hd; exact ⟨_, rfl, rfl, to_StewService x (hs.2 x hx)⟩) (D.frozs_map (fun _ => rfl) _)
theorem eq_StewServiceS (l : (List StewService)) (hs : l.length ≤ 1048576 ∧ ∀ y ∈ l, y.small) : Rdr Try.prog 87 [.ro 13 (l.map StewService.D), .ro 13 (l.map StewService.D)] (.bool true) :=
 eqS_rdr hm c87 (by decide) (by rw [List.length_map]; exact Nat.le_trans hs.1 (by decide)) (fun d hd => by obtain ⟨x, hx, rfl⟩ := List.mem_map.1 hd; exact ⟨_, rfl, rfl, eq_StewService x (hs.2 x hx)⟩)
theorem sz_StewServiceS (l : (List StewService)) (k : Int) (hw : l.length ≤ 9223372036854775807 ∧ ∀ y ∈ l, y.wf) (h0 : 0 ≤ k) (h1 : k ≤ 1048576) : XC Try.prog 81 [.ro 13 (l.map StewService.D), .int .i64 k] [] (fun d ls => ls = [] ∧ ∃ n, d = .int .i64 n ∧ (0 ≤ n → n ≤ k ∧ l.length ≤ 1048576 ∧ ∀ y ∈ l, y.small)) :=
 szS_xc hm c81 (fun x : StewService => [.str x.fName, .int .i64 x.fVersion, .bool x.fGone, .int .i64 x.fImage, .int .i64 x.fWant, .int .i64 x.fDown, .int .i64 x.fOver, .int .i64 x.fNext, .int .i64 x.fPer, .int .i64 x.fLeast, .int .i64 x.fMost, .int .i64 x.fLoad, .int .i64 x.fCool]) (fun x => x.small) l k (by decide) (fun x => rfl) hw.1 h0 h1 (fun x hx k' h0' h1' => sz_StewService x k' (hw.2 x hx) h0' h1')
structure StewCopy where
 fService : ByteArray
 fNumber : Int
 fVersion : Int
 fImage : Int
 fState : Int
 fEnding : Bool
 fBerth : ByteArray
def StewCopy.D (x : StewCopy) : D := .agg [.str x.fService, .int .i64 x.fNumber, .int .i64 x.fVersion, .int .i64 x.fImage, .int .i64 x.fState, .bool x.fEnding, .str x.fBerth]
instance : Inhabited StewCopy := ⟨⟨⟨#[]⟩, 0, 0, 0, 0, false, ⟨#[]⟩⟩⟩
structure StewCopy.wf (x : StewCopy) : Prop where
 fService : x.fService.size ≤ 9223372036854775807
 fBerth : x.fBerth.size ≤ 9223372036854775807
structure StewCopy.small (x : StewCopy) : Prop where
theorem args_StewCopy {d : D} (h : Has (.st [.str, .int .i64, .int .i64, .int .i64, .int .i64, .bool, .str]) d) : ∃ x : StewCopy, d = x.D ∧ x.wf := by
 rw [Has] at h
 obtain ⟨_, rfl, h⟩ := h
 simp only [HasF] at h
 obtain ⟨_, _, rfl, hService, _, _, rfl, hNumber, _, _, rfl, hVersion, _, _, rfl, hImage, _, _, rfl, hState, _, _, rfl, hEnding, _, _, rfl, hBerth, rfl⟩ := h
 rw [Has] at hService
 obtain ⟨vService, rfl, wService⟩ := hService
 rw [Has] at hNumber
 obtain ⟨vNumber, rfl, _⟩ := hNumber
 rw [Has] at hVersion
 obtain ⟨vVersion, rfl, _⟩ := hVersion
 rw [Has] at hImage
 obtain ⟨vImage, rfl, _⟩ := hImage
 rw [Has] at hState
 obtain ⟨vState, rfl, _⟩ := hState
 rw [Has] at hEnding
 obtain ⟨vEnding, rfl⟩ := hEnding
 rw [Has] at hBerth
 obtain ⟨vBerth, rfl, wBerth⟩ := hBerth
 exact ⟨⟨vService, vNumber, vVersion, vImage, vState, vEnding, vBerth⟩, rfl, ⟨wService, wBerth⟩⟩
theorem sz_StewCopy (x : StewCopy) (k : Int) (hw : x.wf) (h0 : 0 ≤ k) (h1 : k ≤ 1048576) : XC Try.prog 139 [x.D, .int .i64 k] [] (fun d ls => ls = [] ∧ ∃ n, d = .int .i64 n ∧ (0 ≤ n → n ≤ k ∧ x.small)) := by
 refine XC.intro' hm [] rfl c139 (Nat.le_of_ble_eq_true rfl) ?_
 conv => whnf
 repeat' (first | (refine g_op ?_; conv => whnf) | (refine And.intro ?_ ?_; (focus exact au0); conv => whnf) | (refine g_seq ?_) | (refine XS.go ?_) | (refine g_ops ?_) | ((first | refine g_nil ?_ | refine g_cond ?_ | refine fun _ => ?_); conv => whnf) | fail)
 have q1 := hw.fService
 have e1 : IntKind.wrap .i64 (k - (x.fService.size : Int)) = k - (x.fService.size : Int) := wrap_ok (by omega) (by omega)
 rw [e1]
 refine Br.mk (fun hb => ?_) (fun hb => ?_)
 ·conv => whnf
  repeat' (first | (refine g_op ?_; conv => whnf) | (refine And.intro ?_ ?_; (focus exact au0); conv => whnf) | (refine g_seq ?_) | (refine XS.go ?_) | (refine g_ops ?_) | ((first | refine g_nil ?_ | refine g_ret ?_ | refine r_t ?_ | refine r_nil ?_); conv => whnf) | fail)
  exact ⟨_, rfl, fun h => absurd h (by decide)⟩
 have p1 : 0 ≤ (k - (x.fService.size : Int)) := Int.not_lt.1 (of_decide_eq_false hb)
 conv => whnf
 repeat' (first | (refine g_op ?_; conv => whnf) | (refine And.intro ?_ ?_; (focus exact au0); conv => whnf) | (refine g_seq ?_) | (refine XS.go ?_) | (refine g_ops ?_) | ((first | refine g_nil ?_ | refine g_cond ?_ | refine g_skip ?_); conv => whnf) | fail)
 have q2 := hw.fBerth
 have e2 : IntKind.wrap .i64 ((k - (x.fService.size : Int)) - (x.fBerth.size : Int)) = (k - (x.fService.size : Int)) - (x.fBerth.size : Int) := wrap_ok (by omega) (by omega)
 rw [e2]
 refine Br.mk (fun hb => ?_) (fun hb => ?_)
 ·conv => whnf
  repeat' (first | (refine g_op ?_; conv => whnf) | (refine And.intro ?_ ?_; (focus exact au0); conv => whnf) | (refine g_seq ?_) | (refine XS.go ?_) | (refine g_ops ?_) | ((first | refine g_nil ?_ | refine g_ret ?_ | refine r_t ?_ | refine r_nil ?_); conv => whnf) | fail)
  exact ⟨_, rfl, fun h => absurd h (by decide)⟩
 have p2 : 0 ≤ ((k - (x.fService.size : Int)) - (x.fBerth.size : Int)) := Int.not_lt.1 (of_decide_eq_false hb)
 conv => whnf
 repeat' (first | (refine g_op ?_; conv => whnf) | (refine And.intro ?_ ?_; (focus exact au0); conv => whnf) | (refine g_seq ?_) | (refine XS.go ?_) | (refine g_ops ?_) | ((first | refine g_nil ?_ | refine g_skip ?_ | refine g_ret ?_ | refine r_t ?_ | refine r_nil ?_); conv => whnf) | fail)
 exact ⟨_, rfl, fun _ => ⟨by omega, ⟨⟩⟩⟩
theorem to_StewCopy (x : StewCopy) (hs : x.small) : Rdr Try.prog 141 [x.D] x.D := by
 refine Rdr.intro' hm c141 (Nat.le_of_ble_eq_true rfl) ?_
 conv => whnf
 repeat' (first | (refine g_op ?_; conv => whnf) | (refine And.intro ?_ ?_; (focus exact au0); conv => whnf) | (refine g_seq ?_) | (refine XS.go ?_) | (refine g_ops ?_) | ((first | refine g_nil ?_ | refine g_ret ?_ | refine r_c ?_ | refine r_nil ?_ | refine fun _ => ?_); conv => whnf) | fail)
 all_goals rfl
theorem eq_StewCopy (x : StewCopy) (hs : x.small) : Rdr Try.prog 144 [x.D, x.D] (.bool true) := by
 refine Rdr.intro' hm c144 (Nat.le_of_ble_eq_true rfl) ?_
 conv => whnf
 repeat' (first | (refine g_op ?_; conv => whnf) | (refine And.intro ?_ ?_; (focus exact au0); conv => whnf) | (refine g_seq ?_) | (refine XS.go ?_) | (refine g_ops ?_) | ((first | refine g_nil ?_ | refine g_cond ?_ | refine g_skip ?_ | refine g_ret ?_ | refine r_t ?_ | refine r_nil ?_ | refine fun _ => ?_ | refine Br.f (by simp) ?_); conv => whnf) | fail)
 all_goals rfl
theorem args_StewCopyS {d : D} (h : Has (.sl 7 (.st [.str, .int .i64, .int .i64, .int .i64, .int .i64, .bool, .str])) d) : ∃ l : (List StewCopy), d = .ro 7 (l.map StewCopy.D) ∧ l.length ≤ 9223372036854775807 ∧ ∀ y ∈ l, y.wf := by
 rw [Has] at h
 obtain ⟨ds, rfl, hm, hd⟩ := h
 have : ∃ l : (List StewCopy), ds = l.map StewCopy.D ∧ ∀ y ∈ l, y.wf := by
  clear hm
  induction ds with
  | nil => exact ⟨[], rfl, by simp⟩
  | cons d ds ih =>
   obtain ⟨l, rfl, hl⟩ := ih (fun x hx => hd x (List.mem_cons_of_mem _ hx))
   obtain ⟨v, rfl, wv⟩ : ∃ v : StewCopy, d = StewCopy.D v ∧ v.wf := args_StewCopy (hd _ (List.mem_cons_self ..))
   exact ⟨v :: l, rfl, fun y hy => by rcases List.mem_cons.1 hy with rfl | hy <;> first | exact wv | exact hl y hy⟩
 obtain ⟨l, rfl, hl⟩ := this
 exact ⟨l, rfl, by rw [List.length_map] at hm; exact hm, hl⟩
theorem to_StewCopyS (l : (List StewCopy)) (hs : l.length ≤ 1048576 ∧ ∀ y ∈ l, y.small) : Rdr Try.prog 85 [.ro 7 (l.map StewCopy.D)] (.ro 7 (l.map StewCopy.D)) :=
 toS_rdr hm c85 (zs := [.str ⟨#[]⟩, .int .i64 0, .int .i64 0, .int .i64 0, .int .i64 0, .bool false, .str ⟨#[]⟩]) rfl (by decide) (by decide) (by simpa using hs.1) (fun d hd => by obtain ⟨x, hx, rfl⟩ := List.mem_map.1 hd; exact ⟨_, rfl, rfl, to_StewCopy x (hs.2 x hx)⟩) (D.frozs_map (fun _ => rfl) _)
theorem eq_StewCopyS (l : (List StewCopy)) (hs : l.length ≤ 1048576 ∧ ∀ y ∈ l, y.small) : Rdr Try.prog 88 [.ro 7 (l.map StewCopy.D), .ro 7 (l.map StewCopy.D)] (.bool true) :=
 eqS_rdr hm c88 (by decide) (by rw [List.length_map]; exact Nat.le_trans hs.1 (by decide)) (fun d hd => by obtain ⟨x, hx, rfl⟩ := List.mem_map.1 hd; exact ⟨_, rfl, rfl, eq_StewCopy x (hs.2 x hx)⟩)
theorem sz_StewCopyS (l : (List StewCopy)) (k : Int) (hw : l.length ≤ 9223372036854775807 ∧ ∀ y ∈ l, y.wf) (h0 : 0 ≤ k) (h1 : k ≤ 1048576) : XC Try.prog 82 [.ro 7 (l.map StewCopy.D), .int .i64 k] [] (fun d ls => ls = [] ∧ ∃ n, d = .int .i64 n ∧ (0 ≤ n → n ≤ k ∧ l.length ≤ 1048576 ∧ ∀ y ∈ l, y.small)) :=
 szS_xc hm c82 (fun x : StewCopy => [.str x.fService, .int .i64 x.fNumber, .int .i64 x.fVersion, .int .i64 x.fImage, .int .i64 x.fState, .bool x.fEnding, .str x.fBerth]) (fun x => x.small) l k (by decide) (fun x => rfl) hw.1 h0 h1 (fun x hx k' h0' h1' => sz_StewCopy x k' (hw.2 x hx) h0' h1')
structure StewBerth where
 fName : ByteArray
 fDrain : Bool
def StewBerth.D (x : StewBerth) : D := .agg [.str x.fName, .bool x.fDrain]
instance : Inhabited StewBerth := ⟨⟨⟨#[]⟩, false⟩⟩
structure StewBerth.wf (x : StewBerth) : Prop where
 fName : x.fName.size ≤ 9223372036854775807
structure StewBerth.small (x : StewBerth) : Prop where
theorem args_StewBerth {d : D} (h : Has (.st [.str, .bool]) d) : ∃ x : StewBerth, d = x.D ∧ x.wf := by
 rw [Has] at h
 obtain ⟨_, rfl, h⟩ := h
 simp only [HasF] at h
 obtain ⟨_, _, rfl, hName, _, _, rfl, hDrain, rfl⟩ := h
 rw [Has] at hName
 obtain ⟨vName, rfl, wName⟩ := hName
 rw [Has] at hDrain
 obtain ⟨vDrain, rfl⟩ := hDrain
 exact ⟨⟨vName, vDrain⟩, rfl, ⟨wName⟩⟩
theorem sz_StewBerth (x : StewBerth) (k : Int) (hw : x.wf) (h0 : 0 ≤ k) (h1 : k ≤ 1048576) : XC Try.prog 140 [x.D, .int .i64 k] [] (fun d ls => ls = [] ∧ ∃ n, d = .int .i64 n ∧ (0 ≤ n → n ≤ k ∧ x.small)) := by
 refine XC.intro' hm [] rfl c140 (Nat.le_of_ble_eq_true rfl) ?_
 conv => whnf
 repeat' (first | (refine g_op ?_; conv => whnf) | (refine And.intro ?_ ?_; (focus exact au0); conv => whnf) | (refine g_seq ?_) | (refine XS.go ?_) | (refine g_ops ?_) | ((first | refine g_nil ?_ | refine g_cond ?_ | refine fun _ => ?_); conv => whnf) | fail)
 have q1 := hw.fName
 have e1 : IntKind.wrap .i64 (k - (x.fName.size : Int)) = k - (x.fName.size : Int) := wrap_ok (by omega) (by omega)
 rw [e1]
 refine Br.mk (fun hb => ?_) (fun hb => ?_)
 ·conv => whnf
  repeat' (first | (refine g_op ?_; conv => whnf) | (refine And.intro ?_ ?_; (focus exact au0); conv => whnf) | (refine g_seq ?_) | (refine XS.go ?_) | (refine g_ops ?_) | ((first | refine g_nil ?_ | refine g_ret ?_ | refine r_t ?_ | refine r_nil ?_); conv => whnf) | fail)
  exact ⟨_, rfl, fun h => absurd h (by decide)⟩
 have p1 : 0 ≤ (k - (x.fName.size : Int)) := Int.not_lt.1 (of_decide_eq_false hb)
 conv => whnf
 repeat' (first | (refine g_op ?_; conv => whnf) | (refine And.intro ?_ ?_; (focus exact au0); conv => whnf) | (refine g_seq ?_) | (refine XS.go ?_) | (refine g_ops ?_) | ((first | refine g_nil ?_ | refine g_skip ?_ | refine g_ret ?_ | refine r_t ?_ | refine r_nil ?_); conv => whnf) | fail)
 exact ⟨_, rfl, fun _ => ⟨by omega, ⟨⟩⟩⟩
theorem to_StewBerth (x : StewBerth) (hs : x.small) : Rdr Try.prog 142 [x.D] x.D := by
 refine Rdr.intro' hm c142 (Nat.le_of_ble_eq_true rfl) ?_
 conv => whnf
 repeat' (first | (refine g_op ?_; conv => whnf) | (refine And.intro ?_ ?_; (focus exact au0); conv => whnf) | (refine g_seq ?_) | (refine XS.go ?_) | (refine g_ops ?_) | ((first | refine g_nil ?_ | refine g_ret ?_ | refine r_c ?_ | refine r_nil ?_ | refine fun _ => ?_); conv => whnf) | fail)
 all_goals rfl
theorem eq_StewBerth (x : StewBerth) (hs : x.small) : Rdr Try.prog 145 [x.D, x.D] (.bool true) := by
 refine Rdr.intro' hm c145 (Nat.le_of_ble_eq_true rfl) ?_
 conv => whnf
 repeat' (first | (refine g_op ?_; conv => whnf) | (refine And.intro ?_ ?_; (focus exact au0); conv => whnf) | (refine g_seq ?_) | (refine XS.go ?_) | (refine g_ops ?_) | ((first | refine g_nil ?_ | refine g_cond ?_ | refine g_skip ?_ | refine g_ret ?_ | refine r_t ?_ | refine r_nil ?_ | refine fun _ => ?_ | refine Br.f (by simp) ?_); conv => whnf) | fail)
 all_goals rfl
theorem args_StewBerthS {d : D} (h : Has (.sl 2 (.st [.str, .bool])) d) : ∃ l : (List StewBerth), d = .ro 2 (l.map StewBerth.D) ∧ l.length ≤ 9223372036854775807 ∧ ∀ y ∈ l, y.wf := by
 rw [Has] at h
 obtain ⟨ds, rfl, hm, hd⟩ := h
 have : ∃ l : (List StewBerth), ds = l.map StewBerth.D ∧ ∀ y ∈ l, y.wf := by
  clear hm
  induction ds with
  | nil => exact ⟨[], rfl, by simp⟩
  | cons d ds ih =>
   obtain ⟨l, rfl, hl⟩ := ih (fun x hx => hd x (List.mem_cons_of_mem _ hx))
   obtain ⟨v, rfl, wv⟩ : ∃ v : StewBerth, d = StewBerth.D v ∧ v.wf := args_StewBerth (hd _ (List.mem_cons_self ..))
   exact ⟨v :: l, rfl, fun y hy => by rcases List.mem_cons.1 hy with rfl | hy <;> first | exact wv | exact hl y hy⟩
 obtain ⟨l, rfl, hl⟩ := this
 exact ⟨l, rfl, by rw [List.length_map] at hm; exact hm, hl⟩
theorem to_StewBerthS (l : (List StewBerth)) (hs : l.length ≤ 1048576 ∧ ∀ y ∈ l, y.small) : Rdr Try.prog 86 [.ro 2 (l.map StewBerth.D)] (.ro 2 (l.map StewBerth.D)) :=
 toS_rdr hm c86 (zs := [.str ⟨#[]⟩, .bool false]) rfl (by decide) (by decide) (by simpa using hs.1) (fun d hd => by obtain ⟨x, hx, rfl⟩ := List.mem_map.1 hd; exact ⟨_, rfl, rfl, to_StewBerth x (hs.2 x hx)⟩) (D.frozs_map (fun _ => rfl) _)
theorem eq_StewBerthS (l : (List StewBerth)) (hs : l.length ≤ 1048576 ∧ ∀ y ∈ l, y.small) : Rdr Try.prog 89 [.ro 2 (l.map StewBerth.D), .ro 2 (l.map StewBerth.D)] (.bool true) :=
 eqS_rdr hm c89 (by decide) (by rw [List.length_map]; exact Nat.le_trans hs.1 (by decide)) (fun d hd => by obtain ⟨x, hx, rfl⟩ := List.mem_map.1 hd; exact ⟨_, rfl, rfl, eq_StewBerth x (hs.2 x hx)⟩)
theorem sz_StewBerthS (l : (List StewBerth)) (k : Int) (hw : l.length ≤ 9223372036854775807 ∧ ∀ y ∈ l, y.wf) (h0 : 0 ≤ k) (h1 : k ≤ 1048576) : XC Try.prog 83 [.ro 2 (l.map StewBerth.D), .int .i64 k] [] (fun d ls => ls = [] ∧ ∃ n, d = .int .i64 n ∧ (0 ≤ n → n ≤ k ∧ l.length ≤ 1048576 ∧ ∀ y ∈ l, y.small)) :=
 szS_xc hm c83 (fun x : StewBerth => [.str x.fName, .bool x.fDrain]) (fun x => x.small) l k (by decide) (fun x => rfl) hw.1 h0 h1 (fun x hx k' h0' h1' => sz_StewBerth x k' (hw.2 x hx) h0' h1')
structure StewBook where
 fNow : Int
 fServices : (List StewService)
 fCopies : (List StewCopy)
 fBerths : (List StewBerth)
def StewBook.D (x : StewBook) : D := .agg [.int .i64 x.fNow, .ro 13 (x.fServices.map StewService.D), .ro 7 (x.fCopies.map StewCopy.D), .ro 2 (x.fBerths.map StewBerth.D)]
instance : Inhabited StewBook := ⟨⟨0, [], [], []⟩⟩
structure StewBook.wf (x : StewBook) : Prop where
 fServices : x.fServices.length ≤ 9223372036854775807 ∧ ∀ y ∈ x.fServices, y.wf
 fCopies : x.fCopies.length ≤ 9223372036854775807 ∧ ∀ y ∈ x.fCopies, y.wf
 fBerths : x.fBerths.length ≤ 9223372036854775807 ∧ ∀ y ∈ x.fBerths, y.wf
structure StewBook.small (x : StewBook) : Prop where
 fServices : x.fServices.length ≤ 1048576 ∧ ∀ y ∈ x.fServices, y.small
 fCopies : x.fCopies.length ≤ 1048576 ∧ ∀ y ∈ x.fCopies, y.small
 fBerths : x.fBerths.length ≤ 1048576 ∧ ∀ y ∈ x.fBerths, y.small
theorem args_StewBook {d : D} (h : Has (.st [.int .i64, .sl 13 (.st [.str, .int .i64, .bool, .int .i64, .int .i64, .int .i64, .int .i64, .int .i64, .int .i64, .int .i64, .int .i64, .int .i64, .int .i64]), .sl 7 (.st [.str, .int .i64, .int .i64, .int .i64, .int .i64, .bool, .str]), .sl 2 (.st [.str, .bool])]) d) : ∃ x : StewBook, d = x.D ∧ x.wf := by
 rw [Has] at h
 obtain ⟨_, rfl, h⟩ := h
 simp only [HasF] at h
 obtain ⟨_, _, rfl, hNow, _, _, rfl, hServices, _, _, rfl, hCopies, _, _, rfl, hBerths, rfl⟩ := h
 rw [Has] at hNow
 obtain ⟨vNow, rfl, _⟩ := hNow
 obtain ⟨vServices, rfl, wServices⟩ := args_StewServiceS hServices
 obtain ⟨vCopies, rfl, wCopies⟩ := args_StewCopyS hCopies
 obtain ⟨vBerths, rfl, wBerths⟩ := args_StewBerthS hBerths
 exact ⟨⟨vNow, vServices, vCopies, vBerths⟩, rfl, ⟨wServices, wCopies, wBerths⟩⟩
theorem sz_StewBook (x : StewBook) (k : Int) (hw : x.wf) (h0 : 0 ≤ k) (h1 : k ≤ 1048576) : XC Try.prog 22 [x.D, .int .i64 k] [] (fun d ls => ls = [] ∧ ∃ n, d = .int .i64 n ∧ (0 ≤ n → n ≤ k ∧ x.small)) := by
 refine XC.intro' hm [] rfl c22 (Nat.le_of_ble_eq_true rfl) ?_
 conv => whnf
 repeat' (first | (refine g_op ?_; conv => whnf) | (refine And.intro ?_ ?_; (focus exact au0); conv => whnf) | (refine g_seq ?_) | (refine XS.go ?_) | (refine g_ops ?_) | ((first | refine g_nil ?_ | refine fun _ => ?_); conv => whnf) | fail)
 refine XCL.ask (sz_StewServiceS x.fServices _ hw.fServices (by omega) (by omega)) (fun d h => ?_)
 obtain ⟨n1, rfl, m1⟩ := h
 conv => whnf
 repeat' (first | (refine g_op ?_; conv => whnf) | (refine And.intro ?_ ?_; (focus exact au0); conv => whnf) | (refine g_seq ?_) | (refine XS.go ?_) | (refine g_ops ?_) | ((first | refine g_nil ?_ | refine g_cond ?_); conv => whnf) | fail)
 refine Br.mk (fun hb => ?_) (fun hb => ?_)
 ·conv => whnf
  repeat' (first | (refine g_op ?_; conv => whnf) | (refine And.intro ?_ ?_; (focus exact au0); conv => whnf) | (refine g_seq ?_) | (refine XS.go ?_) | (refine g_ops ?_) | ((first | refine g_nil ?_ | refine g_ret ?_ | refine r_t ?_ | refine r_nil ?_); conv => whnf) | fail)
  exact ⟨_, rfl, fun h => absurd h (by decide)⟩
 have p1 : 0 ≤ n1 := Int.not_lt.1 (of_decide_eq_false hb)
 obtain ⟨l1, s1⟩ := m1 p1
 conv => whnf
 repeat' (first | (refine g_op ?_; conv => whnf) | (refine And.intro ?_ ?_; (focus exact au0); conv => whnf) | (refine g_seq ?_) | (refine XS.go ?_) | (refine g_ops ?_) | (refine g_skip ?_; conv => whnf) | fail)
 refine XCL.ask (sz_StewCopyS x.fCopies _ hw.fCopies (by omega) (by omega)) (fun d h => ?_)
 obtain ⟨n2, rfl, m2⟩ := h
 conv => whnf
 repeat' (first | (refine g_op ?_; conv => whnf) | (refine And.intro ?_ ?_; (focus exact au0); conv => whnf) | (refine g_seq ?_) | (refine XS.go ?_) | (refine g_ops ?_) | ((first | refine g_nil ?_ | refine g_cond ?_); conv => whnf) | fail)
 refine Br.mk (fun hb => ?_) (fun hb => ?_)
 ·conv => whnf
  repeat' (first | (refine g_op ?_; conv => whnf) | (refine And.intro ?_ ?_; (focus exact au0); conv => whnf) | (refine g_seq ?_) | (refine XS.go ?_) | (refine g_ops ?_) | ((first | refine g_nil ?_ | refine g_ret ?_ | refine r_t ?_ | refine r_nil ?_); conv => whnf) | fail)
  exact ⟨_, rfl, fun h => absurd h (by decide)⟩
 have p2 : 0 ≤ n2 := Int.not_lt.1 (of_decide_eq_false hb)
 obtain ⟨l2, s2⟩ := m2 p2
 conv => whnf
 repeat' (first | (refine g_op ?_; conv => whnf) | (refine And.intro ?_ ?_; (focus exact au0); conv => whnf) | (refine g_seq ?_) | (refine XS.go ?_) | (refine g_ops ?_) | (refine g_skip ?_; conv => whnf) | fail)
 refine XCL.ask (sz_StewBerthS x.fBerths _ hw.fBerths (by omega) (by omega)) (fun d h => ?_)
 obtain ⟨n3, rfl, m3⟩ := h
 conv => whnf
 repeat' (first | (refine g_op ?_; conv => whnf) | (refine And.intro ?_ ?_; (focus exact au0); conv => whnf) | (refine g_seq ?_) | (refine XS.go ?_) | (refine g_ops ?_) | ((first | refine g_nil ?_ | refine g_cond ?_); conv => whnf) | fail)
 refine Br.mk (fun hb => ?_) (fun hb => ?_)
 ·conv => whnf
  repeat' (first | (refine g_op ?_; conv => whnf) | (refine And.intro ?_ ?_; (focus exact au0); conv => whnf) | (refine g_seq ?_) | (refine XS.go ?_) | (refine g_ops ?_) | ((first | refine g_nil ?_ | refine g_ret ?_ | refine r_t ?_ | refine r_nil ?_); conv => whnf) | fail)
  exact ⟨_, rfl, fun h => absurd h (by decide)⟩
 have p3 : 0 ≤ n3 := Int.not_lt.1 (of_decide_eq_false hb)
 obtain ⟨l3, s3⟩ := m3 p3
 conv => whnf
 repeat' (first | (refine g_op ?_; conv => whnf) | (refine And.intro ?_ ?_; (focus exact au0); conv => whnf) | (refine g_seq ?_) | (refine XS.go ?_) | (refine g_ops ?_) | ((first | refine g_nil ?_ | refine g_skip ?_ | refine g_ret ?_ | refine r_t ?_ | refine r_nil ?_); conv => whnf) | fail)
 exact ⟨_, rfl, fun _ => ⟨by omega, ⟨s1, s2, s3⟩⟩⟩
theorem to_StewBook (x : StewBook) (hs : x.small) : Rdr Try.prog 23 [x.D] x.D := by
 refine Rdr.intro' hm c23 (Nat.le_of_ble_eq_true rfl) ?_
 conv => whnf
 repeat' (first | (refine g_op ?_; conv => whnf) | (refine And.intro ?_ ?_; (focus exact au0); conv => whnf) | (refine g_seq ?_) | (refine XS.go ?_) | (refine g_ops ?_) | ((first | refine g_nil ?_ | refine g_ret ?_ | refine r_c ?_ | refine r_nil ?_ | refine fun _ => ?_ | refine XCL.of_rdr (to_StewServiceS x.fServices hs.fServices) ?_ | refine XCL.of_rdr (to_StewCopyS x.fCopies hs.fCopies) ?_ | refine XCL.of_rdr (to_StewBerthS x.fBerths hs.fBerths) ?_); conv => whnf) | fail)
 all_goals rfl
theorem eq_StewBook (x : StewBook) (hs : x.small) : Rdr Try.prog 24 [x.D, x.D] (.bool true) := by
 refine Rdr.intro' hm c24 (Nat.le_of_ble_eq_true rfl) ?_
 conv => whnf
 repeat' (first | (refine g_op ?_; conv => whnf) | (refine And.intro ?_ ?_; (focus exact au0); conv => whnf) | (refine g_seq ?_) | (refine XS.go ?_) | (refine g_ops ?_) | (refine g_nil ?_; conv => whnf) | (refine Br.f ?_ ?_; (focus (first | assumption | exact rfl)); conv => whnf) | ((first | refine g_cond ?_ | refine g_skip ?_ | refine g_ret ?_ | refine r_t ?_ | refine r_nil ?_ | refine fun _ => ?_ | refine Br.f (by simp) ?_ | refine XCL.of_rdr (eq_StewServiceS x.fServices hs.fServices) ?_ | refine XCL.of_rdr (eq_StewCopyS x.fCopies hs.fCopies) ?_ | refine XCL.of_rdr (eq_StewBerthS x.fBerths hs.fBerths) ?_); conv => whnf) | fail)
 all_goals rfl
end Go.Ab
set_option linter.unusedSimpArgs false
set_option linter.unusedVariables false
namespace Go.Ab
open Go Go.RowKit Go.Proofs
attribute [local irreducible] XC Rdr IntKind.wrap xw xos xqs xr xd
set_option maxRecDepth 100000
set_option maxHeartbeats 16000000
def cf117 : CF := ⟨20,[.t 2],(.seq (.ops [Ok 2 (.str ⟨#[]⟩)]) (.seq (.seq (.ops [Om 4 0,Oo 5 (.bin .leq (.t 4) (.k (.int .i64 0)))]) (.cond (.t 5) (.seq (.ops [Ok 2 (.str ⟨#[109,48]⟩)]) .ret) .skip)) (.seq (.ops [Ok 3 (.str ⟨#[]⟩)]) (.seq (.block 0 (.loop (.seq (.seq (.ops [Om 6 0,Oo 7 (.bin .gtr (.t 6) (.k (.int .i64 0)))]) (.cond (.t 7) .skip (.exit 0))) (.block 1 (.seq (.ops [Om 8 0,Oo 9 (.bin .rem (.t 8) (.k (.int .i64 10))),Oo 10 (.bin .add (.k (.int .i64 48)) (.t 9)),Oo 11 (.cvi .u8 (.t 10)),Oo 12 (.bsl (.int .u8 0) 1 [(0,(.t 11))]),Oo 13 (.bst (.t 12)),Om 14 3,Ob 15 .add 13 14,Om 3 15]) (.ops [Om 16 0,Oo 17 (.bin .quo (.t 16) (.k (.int .i64 10))),Om 0 17])))))) (.seq (.ops [Om 18 3,Oo 19 (.bin .add (.k (.str ⟨#[109]⟩)) (.t 18)),Om 2 19]) .ret)))))⟩
theorem c117 : compileF Try.prog [] 117 = some cf117 := by kernel_rfl
def dg (k : Int) : ByteArray := ⟨([D.int .u8 (IntKind.wrap .u8 (IntKind.wrap .i64 (48 + k.tmod 10)))].map byteD).toArray⟩
def digs : Nat → Int → ByteArray → ByteArray
 | 0, _, o => o
 | n + 1, k, o => if k > 0 then digs n (k.tdiv 10) (dg k ++ o) else o
def mtext (k : Int) : ByteArray := ⟨#[109]⟩ ++ digs k.toNat k ⟨#[]⟩
theorem sz_cat (a b : ByteArray) : (a ++ b).size = a.size + b.size := by simp
theorem sz_dg (k : Int) : (dg k).size = 1 := rfl
theorem sz_nil : (ByteArray.mk #[]).size = 0 := rfl
theorem sz_m : (ByteArray.mk #[109]).size = 1 := rfl
theorem mark_text (k : Int) (h1 : 1 ≤ k) (h2 : k ≤ 100000000) : Rdr Try.prog 117 [.int .i64 k] (.str (mtext k)) := by
 refine Rdr.intro' hm c117 (Nat.le_of_ble_eq_true rfl) ?_
 conv => whnf
 repeat' (first | (refine g_op ?_; conv => whnf) | (refine And.intro ?_ ?_; (focus exact au0); conv => whnf) | (refine g_seq ?_) | (refine XS.go ?_) | (refine g_ops ?_) | ((first | refine g_nil ?_ | refine g_cond ?_); conv => whnf) | fail)
 refine Br.f ?_ ?_
 ·simp; omega
 repeat' (first | (refine g_op ?_; conv => whnf) | (refine And.intro ?_ ?_; (focus exact au0); conv => whnf) | (refine g_seq ?_) | (refine XS.go ?_) | (refine g_ops ?_) | (refine g_loop ?_) | ((first | refine g_nil ?_ | refine g_skip ?_); conv => whnf) | (refine g_block ?_) | fail)
 refine XLc.mkL (α := Nat × Int × ByteArray) (fun i => 0 ≤ i.2.1 ∧ i.2.1.toNat ≤ i.1 ∧ i.2.2.size + i.1 ≤ 100000000 ∧ mtext k = ⟨#[109]⟩ ++ digs i.1 i.2.1 i.2.2) (fun i => i.1) (fun i gs => [.int .i64 i.2.1, .any, .any, .str i.2.2]) (fun i gs => []) (k.toNat, k, ⟨#[]⟩) ⟨by simp; omega, by simp, by rw [sz_nil]; omega, rfl⟩ ?_ ?_
 ·refine ⟨?_, ?_⟩
  ·repeat' (first | exact True.intro | refine And.intro rfl ?_)
  ·repeat' (first | exact True.intro | refine And.intro rfl ?_)
 intro i gs hI
 obtain ⟨n, j, o⟩ := i
 obtain ⟨hi0, hi1, hi2, hi3⟩ := hI
 simp only at hi0 hi1 hi2 hi3
 repeat' (first | (refine g_op ?_; conv => whnf) | (refine And.intro ?_ ?_; (focus exact au0); conv => whnf) | (refine g_seq ?_) | (refine XS.go ?_) | (refine g_ops ?_) | ((first | refine g_nil ?_ | refine g_cond ?_); conv => whnf) | fail)
 refine Br.mk (fun hb => ?_) (fun hb => ?_)
 ·have hb : j > 0 := by simpa using hb
  conv => whnf
  repeat' (first | (refine g_op ?_; conv => whnf) | (refine And.intro ?_ ?_; (focus exact au0); conv => whnf) | (refine g_seq ?_) | (refine XS.go ?_) | (refine g_ops ?_) | (refine g_skip ?_; conv => whnf) | (refine g_block ?_) | (refine fun _ => ?_; conv => whnf) | fail)
  refine And.intro ?_ ?_
  ·show ¬ (((dg j).size + o.size : Nat) : Int) > IntKind.i64.max
   have : IntKind.i64.max = 9223372036854775807 := rfl
   rw [sz_dg, this]; omega
  conv => whnf
  repeat' (first | (refine g_op ?_; conv => whnf) | (refine And.intro ?_ ?_; (focus exact au0); conv => whnf) | (refine XS.go ?_) | (refine g_ops ?_) | (refine g_nil ?_; conv => whnf) | fail)
  have hq : IntKind.wrap .i64 (j.tdiv 10) = j / 10 := by
   rw [Int.tdiv_eq_ediv_of_nonneg (by omega)]
   exact wrap_ok (by omega) (by omega)
  cases n with
  | zero => omega
  | succ n =>
  refine ⟨(n, j / 10, dg j ++ o), ⟨by simp only; omega, by simp only; omega, by simp only [sz_cat, sz_dg]; omega, ?_⟩, by simp only; omega, ?_, ?_⟩
  ·rw [hi3]
   simp only [digs]
   rw [if_pos (by simpa using hb), Int.tdiv_eq_ediv_of_nonneg (by omega)]
  ·repeat' (first | exact True.intro | refine And.intro (congrArg (D.int .i64) hq) ?_ | refine And.intro rfl ?_)
  ·repeat' (first | exact True.intro | refine And.intro rfl ?_)
 have hb : ¬ j > 0 := by simpa using hb
 conv => whnf
 repeat' (first | (refine g_op ?_; conv => whnf) | (refine And.intro ?_ ?_; (focus exact au0); conv => whnf) | (refine g_seq ?_) | (refine XS.go ?_) | (refine g_ops ?_) | (refine g_exit ?_; conv => whnf) | fail)
 refine And.intro ?_ ?_
 ·show ¬ (((ByteArray.mk #[109]).size + o.size : Nat) : Int) > IntKind.i64.max
  have : IntKind.i64.max = 9223372036854775807 := rfl
  rw [sz_m, this]; omega
 conv => whnf
 repeat' (first | (refine g_op ?_; conv => whnf) | (refine And.intro ?_ ?_; (focus exact au0); conv => whnf) | (refine XS.go ?_) | ((first | refine g_nil ?_ | refine g_ret ?_ | refine r_t ?_ | refine r_nil ?_); conv => whnf) | fail)
 show D.str (⟨#[109]⟩ ++ o) = _
 rw [hi3]
 cases n with
 | zero => rfl
 | succ n =>
  simp only [digs]
  rw [if_neg (by simpa using hb)]
def cf104 : CF := ⟨107,[.t 4],(.seq (.ops [Ok 4 (.int .i64 0)]) (.seq (.seq (.ops [Ok 5 (.int .i64 0)]) (.block 0 (.loop (.seq (.seq (.ops [Om 6 5,Om 7 0,Og 8 7,Ob 9 .lss 6 8]) (.cond (.t 9) .skip (.exit 0))) (.seq (.block 1 (.seq (.ops [Om 12 0,Om 13 5,Om 14 1,Oc 15 117 [.t 14],Ox 16 13 12 13,Of 17 0 16,Os 1 17 15]) (.seq (.ops [Om 18 1,Oi 19 18,Om 1 19]) (.seq (.ops [Om 20 0,Om 21 5,Om 22 1,Ox 23 13 20 21,Of 24 1 23,Os 1 24 22]) (.seq (.ops [Om 25 1,Oi 26 25,Om 1 26]) (.seq (.ops [Om 27 0,Om 28 5,Om 29 1,Oo 30 (.bin .rem (.t 29) (.k (.int .i64 3))),Oo 31 (.bin .eql (.t 30) (.k (.int .i64 0))),Ox 32 13 27 28,Of 33 2 32,Os 1 33 31]) (.seq (.ops [Om 34 1,Oi 35 34,Om 1 35]) (.seq (.ops [Om 36 0,Om 37 5,Om 38 1,Ox 39 13 36 37,Of 40 3 39,Os 1 40 38]) (.seq (.ops [Om 41 1,Oi 42 41,Om 1 42]) (.seq (.ops [Om 43 0,Om 44 5,Om 45 1,Ox 46 13 43 44,Of 47 4 46,Os 1 47 45]) (.seq (.ops [Om 48 1,Oi 49 48,Om 1 49]) (.seq (.ops [Om 50 0,Om 51 5,Om 52 1,Ox 53 13 50 51,Of 54 5 53,Os 1 54 52]) (.seq (.ops [Om 55 1,Oi 56 55,Om 1 56]) (.seq (.ops [Om 57 0,Om 58 5,Om 59 1,Ox 60 13 57 58,Of 61 6 60,Os 1 61 59]) (.seq (.ops [Om 62 1,Oi 63 62,Om 1 63]) (.seq (.ops [Om 64 0,Om 65 5,Om 66 1,Ox 67 13 64 65,Of 68 7 67,Os 1 68 66]) (.seq (.ops [Om 69 1,Oi 70 69,Om 1 70]) (.seq (.ops [Om 71 0,Om 72 5,Om 73 1,Ox 74 13 71 72,Of 75 8 74,Os 1 75 73]) (.seq (.ops [Om 76 1,Oi 77 76,Om 1 77]) (.seq (.ops [Om 78 0,Om 79 5,Om 80 1,Ox 81 13 78 79,Of 82 9 81,Os 1 82 80]) (.seq (.ops [Om 83 1,Oi 84 83,Om 1 84]) (.seq (.ops [Om 85 0,Om 86 5,Om 87 1,Ox 88 13 85 86,Of 89 10 88,Os 1 89 87]) (.seq (.ops [Om 90 1,Oi 91 90,Om 1 91]) (.seq (.ops [Om 92 0,Om 93 5,Om 94 1,Ox 95 13 92 93,Of 96 11 95,Os 1 96 94]) (.seq (.ops [Om 97 1,Oi 98 97,Om 1 98]) (.seq (.ops [Om 99 0,Om 100 5,Om 101 1,Ox 102 13 99 100,Of 103 12 102,Os 1 103 101]) (.ops [Om 104 1,Oi 105 104,Om 1 105]))))))))))))))))))))))))))) (.ops [Om 10 5,Oi 11 10,Om 5 11])))))) (.seq (.ops [Om 106 1,Om 4 106]) .ret)))⟩
theorem c104 : compileF Try.prog [] 104 = some cf104 := by kernel_rfl
def cf112 : CF := ⟨133,[.t 4],(.seq (.ops [Ok 4 (.int .i64 0)]) (.seq (.seq (.ops [Ok 5 (.int .i64 0)]) (.block 0 (.loop (.seq (.seq (.ops [Om 6 5,Om 7 0,Og 8 7,Ob 9 .lss 6 8]) (.cond (.t 9) .skip (.exit 0))) (.seq (.block 1 (.seq (.seq (.quiet [Om 12 0,Om 13 5,Ox 14 13 12 13,Of 15 0 14,Ol 16 15,Om 17 1,Oc 18 117 [.t 17],Ob 19 .neq 16 18]) (.cond (.t 19) (.seq (.ops [Ok 4 (.int .i64 (-1))]) .ret) .skip)) (.seq (.ops [Om 20 1,Oi 21 20,Om 1 21]) (.seq (.seq (.ops [Om 22 0,Om 23 5,Ox 24 13 22 23,Of 25 1 24,Ol 26 25,Om 27 1,Ob 28 .neq 26 27]) (.cond (.t 28) (.seq (.ops [Ok 4 (.int .i64 (-1))]) .ret) .skip)) (.seq (.ops [Om 29 1,Oi 30 29,Om 1 30]) (.seq (.seq (.ops [Om 31 0,Om 32 5,Ox 33 13 31 32,Of 34 2 33,Ol 35 34,Om 36 1,Oo 37 (.bin .rem (.t 36) (.k (.int .i64 3))),Oo 38 (.bin .eql (.t 37) (.k (.int .i64 0))),Oo 39 (.binb true (.t 35) (.t 38))]) (.cond (.t 39) (.seq (.ops [Ok 4 (.int .i64 (-1))]) .ret) .skip)) (.seq (.ops [Om 40 1,Oi 41 40,Om 1 41]) (.seq (.seq (.ops [Om 42 0,Om 43 5,Ox 44 13 42 43,Of 45 3 44,Ol 46 45,Om 47 1,Ob 48 .neq 46 47]) (.cond (.t 48) (.seq (.ops [Ok 4 (.int .i64 (-1))]) .ret) .skip)) (.seq (.ops [Om 49 1,Oi 50 49,Om 1 50]) (.seq (.seq (.ops [Om 51 0,Om 52 5,Ox 53 13 51 52,Of 54 4 53,Ol 55 54,Om 56 1,Ob 57 .neq 55 56]) (.cond (.t 57) (.seq (.ops [Ok 4 (.int .i64 (-1))]) .ret) .skip)) (.seq (.ops [Om 58 1,Oi 59 58,Om 1 59]) (.seq (.seq (.ops [Om 60 0,Om 61 5,Ox 62 13 60 61,Of 63 5 62,Ol 64 63,Om 65 1,Ob 66 .neq 64 65]) (.cond (.t 66) (.seq (.ops [Ok 4 (.int .i64 (-1))]) .ret) .skip)) (.seq (.ops [Om 67 1,Oi 68 67,Om 1 68]) (.seq (.seq (.ops [Om 69 0,Om 70 5,Ox 71 13 69 70,Of 72 6 71,Ol 73 72,Om 74 1,Ob 75 .neq 73 74]) (.cond (.t 75) (.seq (.ops [Ok 4 (.int .i64 (-1))]) .ret) .skip)) (.seq (.ops [Om 76 1,Oi 77 76,Om 1 77]) (.seq (.seq (.ops [Om 78 0,Om 79 5,Ox 80 13 78 79,Of 81 7 80,Ol 82 81,Om 83 1,Ob 84 .neq 82 83]) (.cond (.t 84) (.seq (.ops [Ok 4 (.int .i64 (-1))]) .ret) .skip)) (.seq (.ops [Om 85 1,Oi 86 85,Om 1 86]) (.seq (.seq (.ops [Om 87 0,Om 88 5,Ox 89 13 87 88,Of 90 8 89,Ol 91 90,Om 92 1,Ob 93 .neq 91 92]) (.cond (.t 93) (.seq (.ops [Ok 4 (.int .i64 (-1))]) .ret) .skip)) (.seq (.ops [Om 94 1,Oi 95 94,Om 1 95]) (.seq (.seq (.ops [Om 96 0,Om 97 5,Ox 98 13 96 97,Of 99 9 98,Ol 100 99,Om 101 1,Ob 102 .neq 100 101]) (.cond (.t 102) (.seq (.ops [Ok 4 (.int .i64 (-1))]) .ret) .skip)) (.seq (.ops [Om 103 1,Oi 104 103,Om 1 104]) (.seq (.seq (.ops [Om 105 0,Om 106 5,Ox 107 13 105 106,Of 108 10 107,Ol 109 108,Om 110 1,Ob 111 .neq 109 110]) (.cond (.t 111) (.seq (.ops [Ok 4 (.int .i64 (-1))]) .ret) .skip)) (.seq (.ops [Om 112 1,Oi 113 112,Om 1 113]) (.seq (.seq (.ops [Om 114 0,Om 115 5,Ox 116 13 114 115,Of 117 11 116,Ol 118 117,Om 119 1,Ob 120 .neq 118 119]) (.cond (.t 120) (.seq (.ops [Ok 4 (.int .i64 (-1))]) .ret) .skip)) (.seq (.ops [Om 121 1,Oi 122 121,Om 1 122]) (.seq (.seq (.ops [Om 123 0,Om 124 5,Ox 125 13 123 124,Of 126 12 125,Ol 127 126,Om 128 1,Ob 129 .neq 127 128]) (.cond (.t 129) (.seq (.ops [Ok 4 (.int .i64 (-1))]) .ret) .skip)) (.ops [Om 130 1,Oi 131 130,Om 1 131]))))))))))))))))))))))))))) (.ops [Om 10 5,Oi 11 10,Om 5 11])))))) (.seq (.ops [Om 132 1,Om 4 132]) .ret)))⟩
theorem c112 : compileF Try.prog [] 112 = some cf112 := by kernel_rfl
def cf105 : CF := ⟨66,[.t 4],(.seq (.ops [Ok 4 (.int .i64 0)]) (.seq (.seq (.ops [Ok 5 (.int .i64 0)]) (.block 0 (.loop (.seq (.seq (.ops [Om 6 5,Om 7 0,Og 8 7,Ob 9 .lss 6 8]) (.cond (.t 9) .skip (.exit 0))) (.seq (.block 1 (.seq (.ops [Om 12 0,Om 13 5,Om 14 1,Oc 15 117 [.t 14],Ox 16 7 12 13,Of 17 0 16,Os 1 17 15]) (.seq (.ops [Om 18 1,Oi 19 18,Om 1 19]) (.seq (.ops [Om 20 0,Om 21 5,Om 22 1,Ox 23 7 20 21,Of 24 1 23,Os 1 24 22]) (.seq (.ops [Om 25 1,Oi 26 25,Om 1 26]) (.seq (.ops [Om 27 0,Om 28 5,Om 29 1,Ox 30 7 27 28,Of 31 2 30,Os 1 31 29]) (.seq (.ops [Om 32 1,Oi 33 32,Om 1 33]) (.seq (.ops [Om 34 0,Om 35 5,Om 36 1,Ox 37 7 34 35,Of 38 3 37,Os 1 38 36]) (.seq (.ops [Om 39 1,Oi 40 39,Om 1 40]) (.seq (.ops [Om 41 0,Om 42 5,Om 43 1,Ox 44 7 41 42,Of 45 4 44,Os 1 45 43]) (.seq (.ops [Om 46 1,Oi 47 46,Om 1 47]) (.seq (.ops [Om 48 0,Om 49 5,Om 50 1,Oo 51 (.bin .rem (.t 50) (.k (.int .i64 3))),Oo 52 (.bin .eql (.t 51) (.k (.int .i64 0))),Ox 53 7 48 49,Of 54 5 53,Os 1 54 52]) (.seq (.ops [Om 55 1,Oi 56 55,Om 1 56]) (.seq (.ops [Om 57 0,Om 58 5,Om 59 1,Oc 60 117 [.t 59],Ox 61 7 57 58,Of 62 6 61,Os 1 62 60]) (.ops [Om 63 1,Oi 64 63,Om 1 64]))))))))))))))) (.ops [Om 10 5,Oi 11 10,Om 5 11])))))) (.seq (.ops [Om 65 1,Om 4 65]) .ret)))⟩
theorem c105 : compileF Try.prog [] 105 = some cf105 := by kernel_rfl
def cf113 : CF := ⟨80,[.t 4],(.seq (.ops [Ok 4 (.int .i64 0)]) (.seq (.seq (.ops [Ok 5 (.int .i64 0)]) (.block 0 (.loop (.seq (.seq (.ops [Om 6 5,Om 7 0,Og 8 7,Ob 9 .lss 6 8]) (.cond (.t 9) .skip (.exit 0))) (.seq (.block 1 (.seq (.seq (.quiet [Om 12 0,Om 13 5,Ox 14 7 12 13,Of 15 0 14,Ol 16 15,Om 17 1,Oc 18 117 [.t 17],Ob 19 .neq 16 18]) (.cond (.t 19) (.seq (.ops [Ok 4 (.int .i64 (-1))]) .ret) .skip)) (.seq (.ops [Om 20 1,Oi 21 20,Om 1 21]) (.seq (.seq (.ops [Om 22 0,Om 23 5,Ox 24 7 22 23,Of 25 1 24,Ol 26 25,Om 27 1,Ob 28 .neq 26 27]) (.cond (.t 28) (.seq (.ops [Ok 4 (.int .i64 (-1))]) .ret) .skip)) (.seq (.ops [Om 29 1,Oi 30 29,Om 1 30]) (.seq (.seq (.ops [Om 31 0,Om 32 5,Ox 33 7 31 32,Of 34 2 33,Ol 35 34,Om 36 1,Ob 37 .neq 35 36]) (.cond (.t 37) (.seq (.ops [Ok 4 (.int .i64 (-1))]) .ret) .skip)) (.seq (.ops [Om 38 1,Oi 39 38,Om 1 39]) (.seq (.seq (.ops [Om 40 0,Om 41 5,Ox 42 7 40 41,Of 43 3 42,Ol 44 43,Om 45 1,Ob 46 .neq 44 45]) (.cond (.t 46) (.seq (.ops [Ok 4 (.int .i64 (-1))]) .ret) .skip)) (.seq (.ops [Om 47 1,Oi 48 47,Om 1 48]) (.seq (.seq (.ops [Om 49 0,Om 50 5,Ox 51 7 49 50,Of 52 4 51,Ol 53 52,Om 54 1,Ob 55 .neq 53 54]) (.cond (.t 55) (.seq (.ops [Ok 4 (.int .i64 (-1))]) .ret) .skip)) (.seq (.ops [Om 56 1,Oi 57 56,Om 1 57]) (.seq (.seq (.ops [Om 58 0,Om 59 5,Ox 60 7 58 59,Of 61 5 60,Ol 62 61,Om 63 1,Oo 64 (.bin .rem (.t 63) (.k (.int .i64 3))),Oo 65 (.bin .eql (.t 64) (.k (.int .i64 0))),Oo 66 (.binb true (.t 62) (.t 65))]) (.cond (.t 66) (.seq (.ops [Ok 4 (.int .i64 (-1))]) .ret) .skip)) (.seq (.ops [Om 67 1,Oi 68 67,Om 1 68]) (.seq (.seq (.quiet [Om 69 0,Om 70 5,Ox 71 7 69 70,Of 72 6 71,Ol 73 72,Om 74 1,Oc 75 117 [.t 74],Ob 76 .neq 73 75]) (.cond (.t 76) (.seq (.ops [Ok 4 (.int .i64 (-1))]) .ret) .skip)) (.ops [Om 77 1,Oi 78 77,Om 1 78]))))))))))))))) (.ops [Om 10 5,Oi 11 10,Om 5 11])))))) (.seq (.ops [Om 79 1,Om 4 79]) .ret)))⟩
theorem c113 : compileF Try.prog [] 113 = some cf113 := by kernel_rfl
def cf106 : CF := ⟨30,[.t 4],(.seq (.ops [Ok 4 (.int .i64 0)]) (.seq (.seq (.ops [Ok 5 (.int .i64 0)]) (.block 0 (.loop (.seq (.seq (.ops [Om 6 5,Om 7 0,Og 8 7,Ob 9 .lss 6 8]) (.cond (.t 9) .skip (.exit 0))) (.seq (.block 1 (.seq (.ops [Om 12 0,Om 13 5,Om 14 1,Oc 15 117 [.t 14],Ox 16 2 12 13,Of 17 0 16,Os 1 17 15]) (.seq (.ops [Om 18 1,Oi 19 18,Om 1 19]) (.seq (.ops [Om 20 0,Om 21 5,Om 22 1,Oo 23 (.bin .rem (.t 22) (.k (.int .i64 3))),Oo 24 (.bin .eql (.t 23) (.k (.int .i64 0))),Ox 25 2 20 21,Of 26 1 25,Os 1 26 24]) (.ops [Om 27 1,Oi 28 27,Om 1 28]))))) (.ops [Om 10 5,Oi 11 10,Om 5 11])))))) (.seq (.ops [Om 29 1,Om 4 29]) .ret)))⟩
theorem c106 : compileF Try.prog [] 106 = some cf106 := by kernel_rfl
def cf114 : CF := ⟨34,[.t 4],(.seq (.ops [Ok 4 (.int .i64 0)]) (.seq (.seq (.ops [Ok 5 (.int .i64 0)]) (.block 0 (.loop (.seq (.seq (.ops [Om 6 5,Om 7 0,Og 8 7,Ob 9 .lss 6 8]) (.cond (.t 9) .skip (.exit 0))) (.seq (.block 1 (.seq (.seq (.quiet [Om 12 0,Om 13 5,Ox 14 2 12 13,Of 15 0 14,Ol 16 15,Om 17 1,Oc 18 117 [.t 17],Ob 19 .neq 16 18]) (.cond (.t 19) (.seq (.ops [Ok 4 (.int .i64 (-1))]) .ret) .skip)) (.seq (.ops [Om 20 1,Oi 21 20,Om 1 21]) (.seq (.seq (.ops [Om 22 0,Om 23 5,Ox 24 2 22 23,Of 25 1 24,Ol 26 25,Om 27 1,Oo 28 (.bin .rem (.t 27) (.k (.int .i64 3))),Oo 29 (.bin .eql (.t 28) (.k (.int .i64 0))),Oo 30 (.binb true (.t 26) (.t 29))]) (.cond (.t 30) (.seq (.ops [Ok 4 (.int .i64 (-1))]) .ret) .skip)) (.ops [Om 31 1,Oi 32 31,Om 1 32]))))) (.ops [Om 10 5,Oi 11 10,Om 5 11])))))) (.seq (.ops [Om 33 1,Om 4 33]) .ret)))⟩
theorem c114 : compileF Try.prog [] 114 = some cf114 := by kernel_rfl
def mk_StewService (x : StewService) (k : Int) : StewService := { x with fName := mtext k, fVersion := (k + 1), fGone := (Int.tmod ((k + 1) + 1) 3 == 0), fImage := (((k + 1) + 1) + 1), fWant := ((((k + 1) + 1) + 1) + 1), fDown := (((((k + 1) + 1) + 1) + 1) + 1), fOver := ((((((k + 1) + 1) + 1) + 1) + 1) + 1), fNext := (((((((k + 1) + 1) + 1) + 1) + 1) + 1) + 1), fPer := ((((((((k + 1) + 1) + 1) + 1) + 1) + 1) + 1) + 1), fLeast := (((((((((k + 1) + 1) + 1) + 1) + 1) + 1) + 1) + 1) + 1), fMost := ((((((((((k + 1) + 1) + 1) + 1) + 1) + 1) + 1) + 1) + 1) + 1), fLoad := (((((((((((k + 1) + 1) + 1) + 1) + 1) + 1) + 1) + 1) + 1) + 1) + 1), fCool := ((((((((((((k + 1) + 1) + 1) + 1) + 1) + 1) + 1) + 1) + 1) + 1) + 1) + 1) }
theorem mark_StewServiceS (xs : List StewService) (b0 c0 : Nat) (k : Int) (hk : 1 ≤ k) (hl : xs.length ≤ 1048576) (hB : k + (13 * xs.length : Nat) ≤ 50000000) : XC Try.prog 104 [.lsl 0 b0 xs.length c0, .int .i64 k] [(0, b0, .arr 13 (xs.map StewService.D) c0)] (fun d ls => d = .int .i64 (k + (13 * xs.length : Nat)) ∧ ls = [(0, b0, .arr 13 ((mkS mk_StewService 13 xs k).map StewService.D) c0)]) := by
 refine XC.intro' hm [0] rfl c104 (Nat.le_of_ble_eq_true rfl) ?_
 conv => whnf
 repeat' (first | (refine g_op ?_; conv => whnf) | (refine And.intro ?_ ?_; (focus exact au0); conv => whnf) | (refine g_seq ?_) | (refine XS.go ?_) | (refine g_ops ?_) | (refine g_loop ?_) | (refine g_nil ?_; conv => whnf) | (refine g_block ?_) | fail)
 refine XLc.mkG (α := Nat) (fun i gs => i ≤ xs.length ∧ gs 0 = b0) (fun i => xs.length - i) (fun i gs => [.lsl 0 (gs 0) xs.length c0, .int .i64 (k + (13 * i : Nat)), .any, .any, .any, .int .i64 (i : Int)]) (fun i gs => [(0, .arr 13 ((mkP mk_StewService 13 xs k i).map StewService.D) c0)]) 0 ⟨Nat.zero_le _, rfl⟩ ?_ ?_
 ·refine ⟨?_, ?_⟩
  ·repeat' (first | exact True.intro | refine And.intro rfl ?_ | refine And.intro (congrArg (D.int .i64) (by simp)) ?_)
  ·exact And.intro (by rw [mkP_zero]; rfl) True.intro
 intro i gs hI
 obtain ⟨hi0, hg⟩ := hI
 subst hg
 repeat' (first | (refine g_op ?_; conv => whnf) | (refine And.intro ?_ ?_; (focus exact au0); conv => whnf) | (refine g_seq ?_) | (refine XS.go ?_) | (refine g_ops ?_) | ((first | refine g_nil ?_ | refine g_cond ?_); conv => whnf) | fail)
 refine Br.mk (fun hb => ?_) (fun hb => ?_)
 ·have hlt : i < xs.length := by simpa using hb
  have hj0 : i < ((mkP mk_StewService 13 xs k i).map StewService.D).length := by rw [List.length_map, mkP_len]; exact hlt
  have he0 : ((mkP mk_StewService 13 xs k i).map StewService.D).getD i .any = (xs.getD i default).D := by
   rw [elt_map (by rw [mkP_len]; exact hlt), mkP_get _ hlt]
  have hfin : ∀ d, d = (mk_StewService (xs.getD i default) (k + (13 * i : Nat))).D → ((mkP mk_StewService 13 xs k i).map StewService.D).set i d = (mkP mk_StewService 13 xs k (i + 1)).map StewService.D := fun d h => by
   rw [h, ← mkP_set default hlt, List.map_set]
  have hKe : k + (13 * (i + 1) : Nat) = k + (13 * i : Nat) + 13 := by omega
  have hK0 : 1 ≤ k + (13 * i : Nat) := by omega
  have hK1 : k + (13 * i : Nat) + 13 ≤ 50000000 := by omega
  generalize hK : k + (13 * i : Nat) = K at hfin hK0 hK1 hKe ⊢
  have hw1 : IntKind.wrap .i64 (K + 1) = (K + 1) := wrap_ok (by omega) (by omega)
  have hw2 : IntKind.wrap .i64 ((K + 1) + 1) = ((K + 1) + 1) := wrap_ok (by omega) (by omega)
  have hw3 : IntKind.wrap .i64 (((K + 1) + 1) + 1) = (((K + 1) + 1) + 1) := wrap_ok (by omega) (by omega)
  have hw4 : IntKind.wrap .i64 ((((K + 1) + 1) + 1) + 1) = ((((K + 1) + 1) + 1) + 1) := wrap_ok (by omega) (by omega)
  have hw5 : IntKind.wrap .i64 (((((K + 1) + 1) + 1) + 1) + 1) = (((((K + 1) + 1) + 1) + 1) + 1) := wrap_ok (by omega) (by omega)
  have hw6 : IntKind.wrap .i64 ((((((K + 1) + 1) + 1) + 1) + 1) + 1) = ((((((K + 1) + 1) + 1) + 1) + 1) + 1) := wrap_ok (by omega) (by omega)
  have hw7 : IntKind.wrap .i64 (((((((K + 1) + 1) + 1) + 1) + 1) + 1) + 1) = (((((((K + 1) + 1) + 1) + 1) + 1) + 1) + 1) := wrap_ok (by omega) (by omega)
  have hw8 : IntKind.wrap .i64 ((((((((K + 1) + 1) + 1) + 1) + 1) + 1) + 1) + 1) = ((((((((K + 1) + 1) + 1) + 1) + 1) + 1) + 1) + 1) := wrap_ok (by omega) (by omega)
  have hw9 : IntKind.wrap .i64 (((((((((K + 1) + 1) + 1) + 1) + 1) + 1) + 1) + 1) + 1) = (((((((((K + 1) + 1) + 1) + 1) + 1) + 1) + 1) + 1) + 1) := wrap_ok (by omega) (by omega)
  have hw10 : IntKind.wrap .i64 ((((((((((K + 1) + 1) + 1) + 1) + 1) + 1) + 1) + 1) + 1) + 1) = ((((((((((K + 1) + 1) + 1) + 1) + 1) + 1) + 1) + 1) + 1) + 1) := wrap_ok (by omega) (by omega)
  have hw11 : IntKind.wrap .i64 (((((((((((K + 1) + 1) + 1) + 1) + 1) + 1) + 1) + 1) + 1) + 1) + 1) = (((((((((((K + 1) + 1) + 1) + 1) + 1) + 1) + 1) + 1) + 1) + 1) + 1) := wrap_ok (by omega) (by omega)
  have hw12 : IntKind.wrap .i64 ((((((((((((K + 1) + 1) + 1) + 1) + 1) + 1) + 1) + 1) + 1) + 1) + 1) + 1) = ((((((((((((K + 1) + 1) + 1) + 1) + 1) + 1) + 1) + 1) + 1) + 1) + 1) + 1) := wrap_ok (by omega) (by omega)
  have hw13 : IntKind.wrap .i64 (((((((((((((K + 1) + 1) + 1) + 1) + 1) + 1) + 1) + 1) + 1) + 1) + 1) + 1) + 1) = (((((((((((((K + 1) + 1) + 1) + 1) + 1) + 1) + 1) + 1) + 1) + 1) + 1) + 1) + 1) := wrap_ok (by omega) (by omega)
  have ht0 := mark_text K (by first | omega | (simp only [hw1, hw2, hw3, hw4, hw5, hw6, hw7, hw8, hw9, hw10, hw11, hw12, hw13]; omega)) (by first | omega | (simp only [hw1, hw2, hw3, hw4, hw5, hw6, hw7, hw8, hw9, hw10, hw11, hw12, hw13]; omega))
  conv => whnf
  repeat' (first | (refine z_st1 ?_; first | (refine z_st rfl rfl rfl au1 au2 rfl rfl ?_; conv => whnf) | (refine z_st0 ?_; conv => whnf)) | (refine z_ix1 ?_; first | (refine z_ix rfl rfl rfl rfl rfl ⟨by first | omega | (simp only [decide_eq_true_eq, Bool.not_eq_true', Bool.or_eq_false_iff, decide_eq_false_iff_not, Bool.and_eq_true, Bool.not_eq_false'] at *; omega), by first | omega | (simp only [decide_eq_true_eq, Bool.not_eq_true', Bool.or_eq_false_iff, decide_eq_false_iff_not, Bool.and_eq_true, Bool.not_eq_false'] at *; omega)⟩ ?_; conv => whnf) | (refine z_ix0 rfl rfl ?_; conv => whnf)) | (refine z_op ?_ ?_; (focus exact rfl); conv => whnf) | (refine zs_ops ?_ ?_; (focus exact rfl)) | (refine z_nil fun vals => ?_; conv => whnf) | (refine z_call ?_ ?_; (focus exact rfl)) | (refine RC.of (ht0) ?_ ?_; (focus exact rfl); conv => whnf) | (refine g_op ?_; conv => whnf) | (refine And.intro ?_ ?_; (focus exact au0); conv => whnf) | (refine g_seq ?_) | (refine XS.go ?_) | (refine g_ops ?_) | ((first | refine g_nil ?_ | refine g_skip ?_); conv => whnf) | (refine g_block ?_) | fail)
  have hw : IntKind.wrap .i64 ((i : Int) + 1) = ((i + 1 : Nat) : Int) := by rw [wrap_ok (by omega) (by omega)]; rfl
  refine ⟨i + 1, ⟨by omega, rfl⟩, by omega, ?_, ?_⟩
  ·repeat' (first | exact True.intro | refine And.intro (congrArg (D.int .i64) hw) ?_ | refine And.intro rfl ?_ | refine And.intro (congrArg (D.int .i64) (by simp only [hw1, hw2, hw3, hw4, hw5, hw6, hw7, hw8, hw9, hw10, hw11, hw12, hw13]; omega)) ?_)
  ·refine And.intro ?_ True.intro
   refine congrArg (fun l => some (D.arr 13 l c0)) ?_
   simp only [List.set_set]
   exact hfin _ (by simp only [hw1, hw2, hw3, hw4, hw5, hw6, hw7, hw8, hw9, hw10, hw11, hw12, hw13]; rfl)
 have hi : i = xs.length := by
  have : ¬ i < xs.length := by simpa using hb
  omega
 subst hi
 rw [mkP_all]
 conv => whnf
 repeat' (first | (refine g_op ?_; conv => whnf) | (refine And.intro ?_ ?_; (focus exact au0); conv => whnf) | (refine g_seq ?_) | (refine XS.go ?_) | (refine g_ops ?_) | ((first | refine g_nil ?_ | refine g_ret ?_ | refine g_exit ?_ | refine r_t ?_ | refine r_nil ?_); conv => whnf) | fail)
 first | exact ⟨rfl, rfl⟩ | exact rfl
theorem held_StewServiceS (xs : List StewService) (k : Int) (hk : 1 ≤ k) (hl : xs.length ≤ 1048576) (hB : k + (13 * xs.length : Nat) ≤ 50000000) : Rdr Try.prog 112 [.ro 13 ((mkS mk_StewService 13 xs k).map StewService.D), .int .i64 k] (.int .i64 (k + (13 * xs.length : Nat))) := by
 have hml : (mkS mk_StewService 13 xs k).length = xs.length := mkS_len
 refine Rdr.intro' hm c112 (Nat.le_of_ble_eq_true rfl) ?_
 conv => whnf
 repeat' (first | (refine g_op ?_; conv => whnf) | (refine And.intro ?_ ?_; (focus exact au0); conv => whnf) | (refine g_seq ?_) | (refine XS.go ?_) | (refine g_ops ?_) | (refine g_loop ?_) | (refine g_nil ?_; conv => whnf) | (refine g_block ?_) | fail)
 refine XLc.mkA (α := Nat) (fun i => i ≤ xs.length) (fun i => xs.length - i) (fun i gs => [.ro 13 ((mkS mk_StewService 13 xs k).map StewService.D), .int .i64 (k + (13 * i : Nat)), .any, .any, .any, .int .i64 (i : Int)]) (fun i gs => []) 0 (Nat.zero_le _) ?_ ?_
 ·refine ⟨?_, True.intro⟩
  ·repeat' (first | exact True.intro | refine And.intro rfl ?_ | refine And.intro (congrArg (D.int .i64) (by simp)) ?_)
 intro i gs hi0
 repeat' (first | (refine g_op ?_; conv => whnf) | (refine And.intro ?_ ?_; (focus exact au0); conv => whnf) | (refine g_seq ?_) | (refine XS.go ?_) | (refine g_ops ?_) | ((first | refine g_nil ?_ | refine g_cond ?_); conv => whnf) | fail)
 refine Br.mk (fun hb => ?_) (fun hb => ?_)
 ·have hlt : i < xs.length := by simpa [mkS_len] using hb
  have hel : (mkS mk_StewService 13 xs k).getD i default = mk_StewService (xs.getD i default) (k + (13 * i : Nat)) := mkS_get default hlt
  have hlt' : i < (mkS mk_StewService 13 xs k).length := by rw [hml]; exact hlt
  have hKe : k + (13 * (i + 1) : Nat) = k + (13 * i : Nat) + 13 := by omega
  have hK0 : 1 ≤ k + (13 * i : Nat) := by omega
  have hK1 : k + (13 * i : Nat) + 13 ≤ 50000000 := by omega
  generalize hK : k + (13 * i : Nat) = K at hel hK0 hK1 hKe ⊢
  have hw1 : IntKind.wrap .i64 (K + 1) = (K + 1) := wrap_ok (by omega) (by omega)
  have hw2 : IntKind.wrap .i64 ((K + 1) + 1) = ((K + 1) + 1) := wrap_ok (by omega) (by omega)
  have hw3 : IntKind.wrap .i64 (((K + 1) + 1) + 1) = (((K + 1) + 1) + 1) := wrap_ok (by omega) (by omega)
  have hw4 : IntKind.wrap .i64 ((((K + 1) + 1) + 1) + 1) = ((((K + 1) + 1) + 1) + 1) := wrap_ok (by omega) (by omega)
  have hw5 : IntKind.wrap .i64 (((((K + 1) + 1) + 1) + 1) + 1) = (((((K + 1) + 1) + 1) + 1) + 1) := wrap_ok (by omega) (by omega)
  have hw6 : IntKind.wrap .i64 ((((((K + 1) + 1) + 1) + 1) + 1) + 1) = ((((((K + 1) + 1) + 1) + 1) + 1) + 1) := wrap_ok (by omega) (by omega)
  have hw7 : IntKind.wrap .i64 (((((((K + 1) + 1) + 1) + 1) + 1) + 1) + 1) = (((((((K + 1) + 1) + 1) + 1) + 1) + 1) + 1) := wrap_ok (by omega) (by omega)
  have hw8 : IntKind.wrap .i64 ((((((((K + 1) + 1) + 1) + 1) + 1) + 1) + 1) + 1) = ((((((((K + 1) + 1) + 1) + 1) + 1) + 1) + 1) + 1) := wrap_ok (by omega) (by omega)
  have hw9 : IntKind.wrap .i64 (((((((((K + 1) + 1) + 1) + 1) + 1) + 1) + 1) + 1) + 1) = (((((((((K + 1) + 1) + 1) + 1) + 1) + 1) + 1) + 1) + 1) := wrap_ok (by omega) (by omega)
  have hw10 : IntKind.wrap .i64 ((((((((((K + 1) + 1) + 1) + 1) + 1) + 1) + 1) + 1) + 1) + 1) = ((((((((((K + 1) + 1) + 1) + 1) + 1) + 1) + 1) + 1) + 1) + 1) := wrap_ok (by omega) (by omega)
  have hw11 : IntKind.wrap .i64 (((((((((((K + 1) + 1) + 1) + 1) + 1) + 1) + 1) + 1) + 1) + 1) + 1) = (((((((((((K + 1) + 1) + 1) + 1) + 1) + 1) + 1) + 1) + 1) + 1) + 1) := wrap_ok (by omega) (by omega)
  have hw12 : IntKind.wrap .i64 ((((((((((((K + 1) + 1) + 1) + 1) + 1) + 1) + 1) + 1) + 1) + 1) + 1) + 1) = ((((((((((((K + 1) + 1) + 1) + 1) + 1) + 1) + 1) + 1) + 1) + 1) + 1) + 1) := wrap_ok (by omega) (by omega)
  have hw13 : IntKind.wrap .i64 (((((((((((((K + 1) + 1) + 1) + 1) + 1) + 1) + 1) + 1) + 1) + 1) + 1) + 1) + 1) = (((((((((((((K + 1) + 1) + 1) + 1) + 1) + 1) + 1) + 1) + 1) + 1) + 1) + 1) + 1) := wrap_ok (by omega) (by omega)
  have ht0 := mark_text K (by first | omega | (simp only [hw1, hw2, hw3, hw4, hw5, hw6, hw7, hw8, hw9, hw10, hw11, hw12, hw13]; omega)) (by first | omega | (simp only [hw1, hw2, hw3, hw4, hw5, hw6, hw7, hw8, hw9, hw10, hw11, hw12, hw13]; omega))
  conv => whnf
  repeat' (first | (refine z_ld1 ?_; first | (refine z_ld rfl rfl rfl rfl au1 au2 ?_; conv => whnf) | (refine z_ld0 rfl ?_; conv => whnf)) | (refine z_ix1 ?_; first | (refine z_ix rfl rfl rfl rfl rfl ⟨by first | omega | (simp only [decide_eq_true_eq, Bool.not_eq_true', Bool.or_eq_false_iff, decide_eq_false_iff_not, Bool.and_eq_true, Bool.not_eq_false'] at *; omega), by first | omega | (simp only [decide_eq_true_eq, Bool.not_eq_true', Bool.or_eq_false_iff, decide_eq_false_iff_not, Bool.and_eq_true, Bool.not_eq_false'] at *; omega)⟩ ?_; conv => whnf) | (refine z_ix0 rfl rfl ?_; conv => whnf)) | (refine z_op ?_ ?_; (focus exact rfl); conv => whnf) | (refine zs_ops ?_ ?_; (focus exact rfl)) | (refine zs_quiet ?_ ?_; (focus exact rfl)) | (refine z_nil fun vals => ?_; conv => whnf) | (refine z_call ?_ ?_; (focus exact rfl)) | (refine RC.of (ht0) ?_ ?_; (focus exact rfl); conv => whnf) | (refine g_op ?_; conv => whnf) | (refine And.intro ?_ ?_; (focus exact au0); conv => whnf) | (refine g_seq ?_) | (refine XS.go ?_) | (refine g_ops ?_) | ((first | refine g_nil ?_ | refine g_cond ?_ | refine g_skip ?_); conv => whnf) | (refine g_block ?_) | (refine Br.f (by simp only [Int.toNat_natCast, hel, hw1, hw2, hw3, hw4, hw5, hw6, hw7, hw8, hw9, hw10, hw11, hw12, hw13, mk_StewService] <;> simp) ?_; conv => whnf) | fail)
  have hw : IntKind.wrap .i64 ((i : Int) + 1) = ((i + 1 : Nat) : Int) := by rw [wrap_ok (by omega) (by omega)]; rfl
  refine ⟨i + 1, by omega, by omega, ?_, True.intro⟩
  ·repeat' (first | exact True.intro | refine And.intro (congrArg (D.int .i64) hw) ?_ | refine And.intro rfl ?_ | refine And.intro (congrArg (D.int .i64) (by simp only [hw1, hw2, hw3, hw4, hw5, hw6, hw7, hw8, hw9, hw10, hw11, hw12, hw13]; omega)) ?_)
 have hi : i = xs.length := by
  have : ¬ i < xs.length := by simpa [mkS_len] using hb
  omega
 subst hi
 conv => whnf
 repeat' (first | (refine g_op ?_; conv => whnf) | (refine And.intro ?_ ?_; (focus exact au0); conv => whnf) | (refine g_seq ?_) | (refine XS.go ?_) | (refine g_ops ?_) | ((first | refine g_nil ?_ | refine g_ret ?_ | refine g_exit ?_ | refine r_t ?_ | refine r_nil ?_); conv => whnf) | fail)
 rfl
def mk_StewCopy (x : StewCopy) (k : Int) : StewCopy := { x with fService := mtext k, fNumber := (k + 1), fVersion := ((k + 1) + 1), fImage := (((k + 1) + 1) + 1), fState := ((((k + 1) + 1) + 1) + 1), fEnding := (Int.tmod (((((k + 1) + 1) + 1) + 1) + 1) 3 == 0), fBerth := mtext ((((((k + 1) + 1) + 1) + 1) + 1) + 1) }
theorem mark_StewCopyS (xs : List StewCopy) (b0 c0 : Nat) (k : Int) (hk : 1 ≤ k) (hl : xs.length ≤ 1048576) (hB : k + (7 * xs.length : Nat) ≤ 50000000) : XC Try.prog 105 [.lsl 0 b0 xs.length c0, .int .i64 k] [(0, b0, .arr 7 (xs.map StewCopy.D) c0)] (fun d ls => d = .int .i64 (k + (7 * xs.length : Nat)) ∧ ls = [(0, b0, .arr 7 ((mkS mk_StewCopy 7 xs k).map StewCopy.D) c0)]) := by
 refine XC.intro' hm [0] rfl c105 (Nat.le_of_ble_eq_true rfl) ?_
 conv => whnf
 repeat' (first | (refine g_op ?_; conv => whnf) | (refine And.intro ?_ ?_; (focus exact au0); conv => whnf) | (refine g_seq ?_) | (refine XS.go ?_) | (refine g_ops ?_) | (refine g_loop ?_) | (refine g_nil ?_; conv => whnf) | (refine g_block ?_) | fail)
 refine XLc.mkG (α := Nat) (fun i gs => i ≤ xs.length ∧ gs 0 = b0) (fun i => xs.length - i) (fun i gs => [.lsl 0 (gs 0) xs.length c0, .int .i64 (k + (7 * i : Nat)), .any, .any, .any, .int .i64 (i : Int)]) (fun i gs => [(0, .arr 7 ((mkP mk_StewCopy 7 xs k i).map StewCopy.D) c0)]) 0 ⟨Nat.zero_le _, rfl⟩ ?_ ?_
 ·refine ⟨?_, ?_⟩
  ·repeat' (first | exact True.intro | refine And.intro rfl ?_ | refine And.intro (congrArg (D.int .i64) (by simp)) ?_)
  ·exact And.intro (by rw [mkP_zero]; rfl) True.intro
 intro i gs hI
 obtain ⟨hi0, hg⟩ := hI
 subst hg
 repeat' (first | (refine g_op ?_; conv => whnf) | (refine And.intro ?_ ?_; (focus exact au0); conv => whnf) | (refine g_seq ?_) | (refine XS.go ?_) | (refine g_ops ?_) | ((first | refine g_nil ?_ | refine g_cond ?_); conv => whnf) | fail)
 refine Br.mk (fun hb => ?_) (fun hb => ?_)
 ·have hlt : i < xs.length := by simpa using hb
  have hj0 : i < ((mkP mk_StewCopy 7 xs k i).map StewCopy.D).length := by rw [List.length_map, mkP_len]; exact hlt
  have he0 : ((mkP mk_StewCopy 7 xs k i).map StewCopy.D).getD i .any = (xs.getD i default).D := by
   rw [elt_map (by rw [mkP_len]; exact hlt), mkP_get _ hlt]
  have hfin : ∀ d, d = (mk_StewCopy (xs.getD i default) (k + (7 * i : Nat))).D → ((mkP mk_StewCopy 7 xs k i).map StewCopy.D).set i d = (mkP mk_StewCopy 7 xs k (i + 1)).map StewCopy.D := fun d h => by
   rw [h, ← mkP_set default hlt, List.map_set]
  have hKe : k + (7 * (i + 1) : Nat) = k + (7 * i : Nat) + 7 := by omega
  have hK0 : 1 ≤ k + (7 * i : Nat) := by omega
  have hK1 : k + (7 * i : Nat) + 7 ≤ 50000000 := by omega
  generalize hK : k + (7 * i : Nat) = K at hfin hK0 hK1 hKe ⊢
  have hw1 : IntKind.wrap .i64 (K + 1) = (K + 1) := wrap_ok (by omega) (by omega)
  have hw2 : IntKind.wrap .i64 ((K + 1) + 1) = ((K + 1) + 1) := wrap_ok (by omega) (by omega)
  have hw3 : IntKind.wrap .i64 (((K + 1) + 1) + 1) = (((K + 1) + 1) + 1) := wrap_ok (by omega) (by omega)
  have hw4 : IntKind.wrap .i64 ((((K + 1) + 1) + 1) + 1) = ((((K + 1) + 1) + 1) + 1) := wrap_ok (by omega) (by omega)
  have hw5 : IntKind.wrap .i64 (((((K + 1) + 1) + 1) + 1) + 1) = (((((K + 1) + 1) + 1) + 1) + 1) := wrap_ok (by omega) (by omega)
  have hw6 : IntKind.wrap .i64 ((((((K + 1) + 1) + 1) + 1) + 1) + 1) = ((((((K + 1) + 1) + 1) + 1) + 1) + 1) := wrap_ok (by omega) (by omega)
  have hw7 : IntKind.wrap .i64 (((((((K + 1) + 1) + 1) + 1) + 1) + 1) + 1) = (((((((K + 1) + 1) + 1) + 1) + 1) + 1) + 1) := wrap_ok (by omega) (by omega)
  have ht0 := mark_text K (by first | omega | (simp only [hw1, hw2, hw3, hw4, hw5, hw6, hw7]; omega)) (by first | omega | (simp only [hw1, hw2, hw3, hw4, hw5, hw6, hw7]; omega))
  have ht6 := mark_text (IntKind.wrap .i64 ((IntKind.wrap .i64 ((IntKind.wrap .i64 ((IntKind.wrap .i64 ((IntKind.wrap .i64 ((IntKind.wrap .i64 (K + 1)) + 1)) + 1)) + 1)) + 1)) + 1)) (by first | omega | (simp only [hw1, hw2, hw3, hw4, hw5, hw6, hw7]; omega)) (by first | omega | (simp only [hw1, hw2, hw3, hw4, hw5, hw6, hw7]; omega))
  conv => whnf
  repeat' (first | (refine z_st1 ?_; first | (refine z_st rfl rfl rfl au1 au2 rfl rfl ?_; conv => whnf) | (refine z_st0 ?_; conv => whnf)) | (refine z_ix1 ?_; first | (refine z_ix rfl rfl rfl rfl rfl ⟨by first | omega | (simp only [decide_eq_true_eq, Bool.not_eq_true', Bool.or_eq_false_iff, decide_eq_false_iff_not, Bool.and_eq_true, Bool.not_eq_false'] at *; omega), by first | omega | (simp only [decide_eq_true_eq, Bool.not_eq_true', Bool.or_eq_false_iff, decide_eq_false_iff_not, Bool.and_eq_true, Bool.not_eq_false'] at *; omega)⟩ ?_; conv => whnf) | (refine z_ix0 rfl rfl ?_; conv => whnf)) | (refine z_op ?_ ?_; (focus exact rfl); conv => whnf) | (refine zs_ops ?_ ?_; (focus exact rfl)) | (refine z_nil fun vals => ?_; conv => whnf) | (refine z_call ?_ ?_; (focus exact rfl)) | (refine RC.of (ht0) ?_ ?_; (focus exact rfl); conv => whnf) | (refine RC.of (ht6) ?_ ?_; (focus exact rfl); conv => whnf) | (refine g_op ?_; conv => whnf) | (refine And.intro ?_ ?_; (focus exact au0); conv => whnf) | (refine g_seq ?_) | (refine XS.go ?_) | (refine g_ops ?_) | ((first | refine g_nil ?_ | refine g_skip ?_); conv => whnf) | (refine g_block ?_) | fail)
  have hw : IntKind.wrap .i64 ((i : Int) + 1) = ((i + 1 : Nat) : Int) := by rw [wrap_ok (by omega) (by omega)]; rfl
  refine ⟨i + 1, ⟨by omega, rfl⟩, by omega, ?_, ?_⟩
  ·repeat' (first | exact True.intro | refine And.intro (congrArg (D.int .i64) hw) ?_ | refine And.intro rfl ?_ | refine And.intro (congrArg (D.int .i64) (by simp only [hw1, hw2, hw3, hw4, hw5, hw6, hw7]; omega)) ?_)
  ·refine And.intro ?_ True.intro
   refine congrArg (fun l => some (D.arr 7 l c0)) ?_
   simp only [List.set_set]
   exact hfin _ (by simp only [hw1, hw2, hw3, hw4, hw5, hw6, hw7]; rfl)
 have hi : i = xs.length := by
  have : ¬ i < xs.length := by simpa using hb
  omega
 subst hi
 rw [mkP_all]
 conv => whnf
 repeat' (first | (refine g_op ?_; conv => whnf) | (refine And.intro ?_ ?_; (focus exact au0); conv => whnf) | (refine g_seq ?_) | (refine XS.go ?_) | (refine g_ops ?_) | ((first | refine g_nil ?_ | refine g_ret ?_ | refine g_exit ?_ | refine r_t ?_ | refine r_nil ?_); conv => whnf) | fail)
 first | exact ⟨rfl, rfl⟩ | exact rfl
theorem held_StewCopyS (xs : List StewCopy) (k : Int) (hk : 1 ≤ k) (hl : xs.length ≤ 1048576) (hB : k + (7 * xs.length : Nat) ≤ 50000000) : Rdr Try.prog 113 [.ro 7 ((mkS mk_StewCopy 7 xs k).map StewCopy.D), .int .i64 k] (.int .i64 (k + (7 * xs.length : Nat))) := by
 have hml : (mkS mk_StewCopy 7 xs k).length = xs.length := mkS_len
 refine Rdr.intro' hm c113 (Nat.le_of_ble_eq_true rfl) ?_
 conv => whnf
 repeat' (first | (refine g_op ?_; conv => whnf) | (refine And.intro ?_ ?_; (focus exact au0); conv => whnf) | (refine g_seq ?_) | (refine XS.go ?_) | (refine g_ops ?_) | (refine g_loop ?_) | (refine g_nil ?_; conv => whnf) | (refine g_block ?_) | fail)
 refine XLc.mkA (α := Nat) (fun i => i ≤ xs.length) (fun i => xs.length - i) (fun i gs => [.ro 7 ((mkS mk_StewCopy 7 xs k).map StewCopy.D), .int .i64 (k + (7 * i : Nat)), .any, .any, .any, .int .i64 (i : Int)]) (fun i gs => []) 0 (Nat.zero_le _) ?_ ?_
 ·refine ⟨?_, True.intro⟩
  ·repeat' (first | exact True.intro | refine And.intro rfl ?_ | refine And.intro (congrArg (D.int .i64) (by simp)) ?_)
 intro i gs hi0
 repeat' (first | (refine g_op ?_; conv => whnf) | (refine And.intro ?_ ?_; (focus exact au0); conv => whnf) | (refine g_seq ?_) | (refine XS.go ?_) | (refine g_ops ?_) | ((first | refine g_nil ?_ | refine g_cond ?_); conv => whnf) | fail)
 refine Br.mk (fun hb => ?_) (fun hb => ?_)
 ·have hlt : i < xs.length := by simpa [mkS_len] using hb
  have hel : (mkS mk_StewCopy 7 xs k).getD i default = mk_StewCopy (xs.getD i default) (k + (7 * i : Nat)) := mkS_get default hlt
  have hlt' : i < (mkS mk_StewCopy 7 xs k).length := by rw [hml]; exact hlt
  have hKe : k + (7 * (i + 1) : Nat) = k + (7 * i : Nat) + 7 := by omega
  have hK0 : 1 ≤ k + (7 * i : Nat) := by omega
  have hK1 : k + (7 * i : Nat) + 7 ≤ 50000000 := by omega
  generalize hK : k + (7 * i : Nat) = K at hel hK0 hK1 hKe ⊢
  have hw1 : IntKind.wrap .i64 (K + 1) = (K + 1) := wrap_ok (by omega) (by omega)
  have hw2 : IntKind.wrap .i64 ((K + 1) + 1) = ((K + 1) + 1) := wrap_ok (by omega) (by omega)
  have hw3 : IntKind.wrap .i64 (((K + 1) + 1) + 1) = (((K + 1) + 1) + 1) := wrap_ok (by omega) (by omega)
  have hw4 : IntKind.wrap .i64 ((((K + 1) + 1) + 1) + 1) = ((((K + 1) + 1) + 1) + 1) := wrap_ok (by omega) (by omega)
  have hw5 : IntKind.wrap .i64 (((((K + 1) + 1) + 1) + 1) + 1) = (((((K + 1) + 1) + 1) + 1) + 1) := wrap_ok (by omega) (by omega)
  have hw6 : IntKind.wrap .i64 ((((((K + 1) + 1) + 1) + 1) + 1) + 1) = ((((((K + 1) + 1) + 1) + 1) + 1) + 1) := wrap_ok (by omega) (by omega)
  have hw7 : IntKind.wrap .i64 (((((((K + 1) + 1) + 1) + 1) + 1) + 1) + 1) = (((((((K + 1) + 1) + 1) + 1) + 1) + 1) + 1) := wrap_ok (by omega) (by omega)
  have ht0 := mark_text K (by first | omega | (simp only [hw1, hw2, hw3, hw4, hw5, hw6, hw7]; omega)) (by first | omega | (simp only [hw1, hw2, hw3, hw4, hw5, hw6, hw7]; omega))
  have ht6 := mark_text (IntKind.wrap .i64 ((IntKind.wrap .i64 ((IntKind.wrap .i64 ((IntKind.wrap .i64 ((IntKind.wrap .i64 ((IntKind.wrap .i64 (K + 1)) + 1)) + 1)) + 1)) + 1)) + 1)) (by first | omega | (simp only [hw1, hw2, hw3, hw4, hw5, hw6, hw7]; omega)) (by first | omega | (simp only [hw1, hw2, hw3, hw4, hw5, hw6, hw7]; omega))
  conv => whnf
  repeat' (first | (refine z_ld1 ?_; first | (refine z_ld rfl rfl rfl rfl au1 au2 ?_; conv => whnf) | (refine z_ld0 rfl ?_; conv => whnf)) | (refine z_ix1 ?_; first | (refine z_ix rfl rfl rfl rfl rfl ⟨by first | omega | (simp only [decide_eq_true_eq, Bool.not_eq_true', Bool.or_eq_false_iff, decide_eq_false_iff_not, Bool.and_eq_true, Bool.not_eq_false'] at *; omega), by first | omega | (simp only [decide_eq_true_eq, Bool.not_eq_true', Bool.or_eq_false_iff, decide_eq_false_iff_not, Bool.and_eq_true, Bool.not_eq_false'] at *; omega)⟩ ?_; conv => whnf) | (refine z_ix0 rfl rfl ?_; conv => whnf)) | (refine z_op ?_ ?_; (focus exact rfl); conv => whnf) | (refine zs_ops ?_ ?_; (focus exact rfl)) | (refine zs_quiet ?_ ?_; (focus exact rfl)) | (refine z_nil fun vals => ?_; conv => whnf) | (refine z_call ?_ ?_; (focus exact rfl)) | (refine RC.of (ht0) ?_ ?_; (focus exact rfl); conv => whnf) | (refine RC.of (ht6) ?_ ?_; (focus exact rfl); conv => whnf) | (refine g_op ?_; conv => whnf) | (refine And.intro ?_ ?_; (focus exact au0); conv => whnf) | (refine g_seq ?_) | (refine XS.go ?_) | (refine g_ops ?_) | ((first | refine g_nil ?_ | refine g_cond ?_ | refine g_skip ?_); conv => whnf) | (refine g_block ?_) | (refine Br.f (by simp only [Int.toNat_natCast, hel, hw1, hw2, hw3, hw4, hw5, hw6, hw7, mk_StewCopy] <;> simp) ?_; conv => whnf) | fail)
  have hw : IntKind.wrap .i64 ((i : Int) + 1) = ((i + 1 : Nat) : Int) := by rw [wrap_ok (by omega) (by omega)]; rfl
  refine ⟨i + 1, by omega, by omega, ?_, True.intro⟩
  ·repeat' (first | exact True.intro | refine And.intro (congrArg (D.int .i64) hw) ?_ | refine And.intro rfl ?_ | refine And.intro (congrArg (D.int .i64) (by simp only [hw1, hw2, hw3, hw4, hw5, hw6, hw7]; omega)) ?_)
 have hi : i = xs.length := by
  have : ¬ i < xs.length := by simpa [mkS_len] using hb
  omega
 subst hi
 conv => whnf
 repeat' (first | (refine g_op ?_; conv => whnf) | (refine And.intro ?_ ?_; (focus exact au0); conv => whnf) | (refine g_seq ?_) | (refine XS.go ?_) | (refine g_ops ?_) | ((first | refine g_nil ?_ | refine g_ret ?_ | refine g_exit ?_ | refine r_t ?_ | refine r_nil ?_); conv => whnf) | fail)
 rfl
def mk_StewBerth (x : StewBerth) (k : Int) : StewBerth := { x with fName := mtext k, fDrain := (Int.tmod (k + 1) 3 == 0) }
theorem mark_StewBerthS (xs : List StewBerth) (b0 c0 : Nat) (k : Int) (hk : 1 ≤ k) (hl : xs.length ≤ 1048576) (hB : k + (2 * xs.length : Nat) ≤ 50000000) : XC Try.prog 106 [.lsl 0 b0 xs.length c0, .int .i64 k] [(0, b0, .arr 2 (xs.map StewBerth.D) c0)] (fun d ls => d = .int .i64 (k + (2 * xs.length : Nat)) ∧ ls = [(0, b0, .arr 2 ((mkS mk_StewBerth 2 xs k).map StewBerth.D) c0)]) := by
 refine XC.intro' hm [0] rfl c106 (Nat.le_of_ble_eq_true rfl) ?_
 conv => whnf
 repeat' (first | (refine g_op ?_; conv => whnf) | (refine And.intro ?_ ?_; (focus exact au0); conv => whnf) | (refine g_seq ?_) | (refine XS.go ?_) | (refine g_ops ?_) | (refine g_loop ?_) | (refine g_nil ?_; conv => whnf) | (refine g_block ?_) | fail)
 refine XLc.mkG (α := Nat) (fun i gs => i ≤ xs.length ∧ gs 0 = b0) (fun i => xs.length - i) (fun i gs => [.lsl 0 (gs 0) xs.length c0, .int .i64 (k + (2 * i : Nat)), .any, .any, .any, .int .i64 (i : Int)]) (fun i gs => [(0, .arr 2 ((mkP mk_StewBerth 2 xs k i).map StewBerth.D) c0)]) 0 ⟨Nat.zero_le _, rfl⟩ ?_ ?_
 ·refine ⟨?_, ?_⟩
  ·repeat' (first | exact True.intro | refine And.intro rfl ?_ | refine And.intro (congrArg (D.int .i64) (by simp)) ?_)
  ·exact And.intro (by rw [mkP_zero]; rfl) True.intro
 intro i gs hI
 obtain ⟨hi0, hg⟩ := hI
 subst hg
 repeat' (first | (refine g_op ?_; conv => whnf) | (refine And.intro ?_ ?_; (focus exact au0); conv => whnf) | (refine g_seq ?_) | (refine XS.go ?_) | (refine g_ops ?_) | ((first | refine g_nil ?_ | refine g_cond ?_); conv => whnf) | fail)
 refine Br.mk (fun hb => ?_) (fun hb => ?_)
 ·have hlt : i < xs.length := by simpa using hb
  have hj0 : i < ((mkP mk_StewBerth 2 xs k i).map StewBerth.D).length := by rw [List.length_map, mkP_len]; exact hlt
  have he0 : ((mkP mk_StewBerth 2 xs k i).map StewBerth.D).getD i .any = (xs.getD i default).D := by
   rw [elt_map (by rw [mkP_len]; exact hlt), mkP_get _ hlt]
  have hfin : ∀ d, d = (mk_StewBerth (xs.getD i default) (k + (2 * i : Nat))).D → ((mkP mk_StewBerth 2 xs k i).map StewBerth.D).set i d = (mkP mk_StewBerth 2 xs k (i + 1)).map StewBerth.D := fun d h => by
   rw [h, ← mkP_set default hlt, List.map_set]
  have hKe : k + (2 * (i + 1) : Nat) = k + (2 * i : Nat) + 2 := by omega
  have hK0 : 1 ≤ k + (2 * i : Nat) := by omega
  have hK1 : k + (2 * i : Nat) + 2 ≤ 50000000 := by omega
  generalize hK : k + (2 * i : Nat) = K at hfin hK0 hK1 hKe ⊢
  have hw1 : IntKind.wrap .i64 (K + 1) = (K + 1) := wrap_ok (by omega) (by omega)
  have hw2 : IntKind.wrap .i64 ((K + 1) + 1) = ((K + 1) + 1) := wrap_ok (by omega) (by omega)
  have ht0 := mark_text K (by first | omega | (simp only [hw1, hw2]; omega)) (by first | omega | (simp only [hw1, hw2]; omega))
  conv => whnf
  repeat' (first | (refine z_st1 ?_; first | (refine z_st rfl rfl rfl au1 au2 rfl rfl ?_; conv => whnf) | (refine z_st0 ?_; conv => whnf)) | (refine z_ix1 ?_; first | (refine z_ix rfl rfl rfl rfl rfl ⟨by first | omega | (simp only [decide_eq_true_eq, Bool.not_eq_true', Bool.or_eq_false_iff, decide_eq_false_iff_not, Bool.and_eq_true, Bool.not_eq_false'] at *; omega), by first | omega | (simp only [decide_eq_true_eq, Bool.not_eq_true', Bool.or_eq_false_iff, decide_eq_false_iff_not, Bool.and_eq_true, Bool.not_eq_false'] at *; omega)⟩ ?_; conv => whnf) | (refine z_ix0 rfl rfl ?_; conv => whnf)) | (refine z_op ?_ ?_; (focus exact rfl); conv => whnf) | (refine zs_ops ?_ ?_; (focus exact rfl)) | (refine z_nil fun vals => ?_; conv => whnf) | (refine z_call ?_ ?_; (focus exact rfl)) | (refine RC.of (ht0) ?_ ?_; (focus exact rfl); conv => whnf) | (refine g_op ?_; conv => whnf) | (refine And.intro ?_ ?_; (focus exact au0); conv => whnf) | (refine g_seq ?_) | (refine XS.go ?_) | (refine g_ops ?_) | ((first | refine g_nil ?_ | refine g_skip ?_); conv => whnf) | (refine g_block ?_) | fail)
  have hw : IntKind.wrap .i64 ((i : Int) + 1) = ((i + 1 : Nat) : Int) := by rw [wrap_ok (by omega) (by omega)]; rfl
  refine ⟨i + 1, ⟨by omega, rfl⟩, by omega, ?_, ?_⟩
  ·repeat' (first | exact True.intro | refine And.intro (congrArg (D.int .i64) hw) ?_ | refine And.intro rfl ?_ | refine And.intro (congrArg (D.int .i64) (by simp only [hw1, hw2]; omega)) ?_)
  ·refine And.intro ?_ True.intro
   refine congrArg (fun l => some (D.arr 2 l c0)) ?_
   simp only [List.set_set]
   exact hfin _ (by simp only [hw1, hw2]; rfl)
 have hi : i = xs.length := by
  have : ¬ i < xs.length := by simpa using hb
  omega
 subst hi
 rw [mkP_all]
 conv => whnf
 repeat' (first | (refine g_op ?_; conv => whnf) | (refine And.intro ?_ ?_; (focus exact au0); conv => whnf) | (refine g_seq ?_) | (refine XS.go ?_) | (refine g_ops ?_) | ((first | refine g_nil ?_ | refine g_ret ?_ | refine g_exit ?_ | refine r_t ?_ | refine r_nil ?_); conv => whnf) | fail)
 first | exact ⟨rfl, rfl⟩ | exact rfl
theorem held_StewBerthS (xs : List StewBerth) (k : Int) (hk : 1 ≤ k) (hl : xs.length ≤ 1048576) (hB : k + (2 * xs.length : Nat) ≤ 50000000) : Rdr Try.prog 114 [.ro 2 ((mkS mk_StewBerth 2 xs k).map StewBerth.D), .int .i64 k] (.int .i64 (k + (2 * xs.length : Nat))) := by
 have hml : (mkS mk_StewBerth 2 xs k).length = xs.length := mkS_len
 refine Rdr.intro' hm c114 (Nat.le_of_ble_eq_true rfl) ?_
 conv => whnf
 repeat' (first | (refine g_op ?_; conv => whnf) | (refine And.intro ?_ ?_; (focus exact au0); conv => whnf) | (refine g_seq ?_) | (refine XS.go ?_) | (refine g_ops ?_) | (refine g_loop ?_) | (refine g_nil ?_; conv => whnf) | (refine g_block ?_) | fail)
 refine XLc.mkA (α := Nat) (fun i => i ≤ xs.length) (fun i => xs.length - i) (fun i gs => [.ro 2 ((mkS mk_StewBerth 2 xs k).map StewBerth.D), .int .i64 (k + (2 * i : Nat)), .any, .any, .any, .int .i64 (i : Int)]) (fun i gs => []) 0 (Nat.zero_le _) ?_ ?_
 ·refine ⟨?_, True.intro⟩
  ·repeat' (first | exact True.intro | refine And.intro rfl ?_ | refine And.intro (congrArg (D.int .i64) (by simp)) ?_)
 intro i gs hi0
 repeat' (first | (refine g_op ?_; conv => whnf) | (refine And.intro ?_ ?_; (focus exact au0); conv => whnf) | (refine g_seq ?_) | (refine XS.go ?_) | (refine g_ops ?_) | ((first | refine g_nil ?_ | refine g_cond ?_); conv => whnf) | fail)
 refine Br.mk (fun hb => ?_) (fun hb => ?_)
 ·have hlt : i < xs.length := by simpa [mkS_len] using hb
  have hel : (mkS mk_StewBerth 2 xs k).getD i default = mk_StewBerth (xs.getD i default) (k + (2 * i : Nat)) := mkS_get default hlt
  have hlt' : i < (mkS mk_StewBerth 2 xs k).length := by rw [hml]; exact hlt
  have hKe : k + (2 * (i + 1) : Nat) = k + (2 * i : Nat) + 2 := by omega
  have hK0 : 1 ≤ k + (2 * i : Nat) := by omega
  have hK1 : k + (2 * i : Nat) + 2 ≤ 50000000 := by omega
  generalize hK : k + (2 * i : Nat) = K at hel hK0 hK1 hKe ⊢
  have hw1 : IntKind.wrap .i64 (K + 1) = (K + 1) := wrap_ok (by omega) (by omega)
  have hw2 : IntKind.wrap .i64 ((K + 1) + 1) = ((K + 1) + 1) := wrap_ok (by omega) (by omega)
  have ht0 := mark_text K (by first | omega | (simp only [hw1, hw2]; omega)) (by first | omega | (simp only [hw1, hw2]; omega))
  conv => whnf
  repeat' (first | (refine z_ld1 ?_; first | (refine z_ld rfl rfl rfl rfl au1 au2 ?_; conv => whnf) | (refine z_ld0 rfl ?_; conv => whnf)) | (refine z_ix1 ?_; first | (refine z_ix rfl rfl rfl rfl rfl ⟨by first | omega | (simp only [decide_eq_true_eq, Bool.not_eq_true', Bool.or_eq_false_iff, decide_eq_false_iff_not, Bool.and_eq_true, Bool.not_eq_false'] at *; omega), by first | omega | (simp only [decide_eq_true_eq, Bool.not_eq_true', Bool.or_eq_false_iff, decide_eq_false_iff_not, Bool.and_eq_true, Bool.not_eq_false'] at *; omega)⟩ ?_; conv => whnf) | (refine z_ix0 rfl rfl ?_; conv => whnf)) | (refine z_op ?_ ?_; (focus exact rfl); conv => whnf) | (refine zs_ops ?_ ?_; (focus exact rfl)) | (refine zs_quiet ?_ ?_; (focus exact rfl)) | (refine z_nil fun vals => ?_; conv => whnf) | (refine z_call ?_ ?_; (focus exact rfl)) | (refine RC.of (ht0) ?_ ?_; (focus exact rfl); conv => whnf) | (refine g_op ?_; conv => whnf) | (refine And.intro ?_ ?_; (focus exact au0); conv => whnf) | (refine g_seq ?_) | (refine XS.go ?_) | (refine g_ops ?_) | ((first | refine g_nil ?_ | refine g_cond ?_ | refine g_skip ?_); conv => whnf) | (refine g_block ?_) | (refine Br.f (by simp only [Int.toNat_natCast, hel, hw1, hw2, mk_StewBerth] <;> simp) ?_; conv => whnf) | fail)
  have hw : IntKind.wrap .i64 ((i : Int) + 1) = ((i + 1 : Nat) : Int) := by rw [wrap_ok (by omega) (by omega)]; rfl
  refine ⟨i + 1, by omega, by omega, ?_, True.intro⟩
  ·repeat' (first | exact True.intro | refine And.intro (congrArg (D.int .i64) hw) ?_ | refine And.intro rfl ?_ | refine And.intro (congrArg (D.int .i64) (by simp only [hw1, hw2]; omega)) ?_)
 have hi : i = xs.length := by
  have : ¬ i < xs.length := by simpa [mkS_len] using hb
  omega
 subst hi
 conv => whnf
 repeat' (first | (refine g_op ?_; conv => whnf) | (refine And.intro ?_ ?_; (focus exact au0); conv => whnf) | (refine g_seq ?_) | (refine XS.go ?_) | (refine g_ops ?_) | ((first | refine g_nil ?_ | refine g_ret ?_ | refine g_exit ?_ | refine r_t ?_ | refine r_nil ?_); conv => whnf) | fail)
 rfl
theorem Bor.rowM {α : Type} {st : St} {s b n c es : Nat} {F : α → D} {xs : List α} {cp : Nat} (hl : st.lc s = some (.arr es (xs.map F) cp)) (hb : st.gen s = b) (hn : n = xs.length) (hf : ∀ x, (F x).froz = F x) : Bor st (.lsl s b n c) (.ro es (xs.map F)) := by
 have hn' : n = (xs.map F).length := by rw [List.length_map]; exact hn
 have h := Bor.row (c := c) hl hb hn'
 rw [D.frozs_map hf] at h
 exact h
theorem HolL.ren {U : Nat → Prop} {w : World} : ∀ {ls ls2 : List Loan} {F : List Nat}, ls2.map (·.2) = ls.map (·.2) → HolL U w ls F → HolL U w ls2 F
 | [], [], F, _, h => h
 | l :: ls, l2 :: ls2, F, e, h => by
  simp only [List.map_cons, List.cons.injEq] at e
  obtain ⟨F1, F2, h1, h2, h3⟩ := h
  exact ⟨F1, F2, h1, by rw [e.1]; exact h2, HolL.ren e.2 h3⟩
 | [], _ :: _, _, e, _ => by simp at e
 | _ :: _, [], _, e, _ => by simp at e
theorem HolL.snil {U : Nat → Prop} {w : World} (s b es : Nat) : ∀ {ls : List Loan} {F : List Nat}, HolL U w ls F → HolL U w ((s, b, .arr es [] 0) :: ls) F
 | _, F, h => ⟨[], F, rfl, .inl ⟨rfl, rfl, rfl⟩, h⟩
/-- A contract under other names. -/
theorem XC.ren {P : Program} {f : FuncId} {ds ds2 : List D} {ls ls2 : List Loan} {K K2 : D → List Loan → Prop} (h : XC P f ds ls K)
  (hd : ∀ U w vs, RelT U w ds2 vs → RelT U w ds vs) (hl : ls.map (·.2) = ls2.map (·.2))
  (hk : ∀ d l, K d l → ∃ d2 l2, K2 d2 l2 ∧ (∀ U w F, HolL U w l F → HolL U w l2 F) ∧ ∀ U w v, RelV U w d v → RelV U w d2 v) : XC P f ds2 ls2 K2 := by
 unfold XC at h ⊢
 refine ⟨h.1, fun U w vs F hU hH hn hF hT => (h.2 U w vs F hU (hH.ren hl) hn hF (hd _ _ _ hT)).mono fun e w' ⟨v, d, l, U', F', h1, h2, h3, h4, h5, h6, h7, h8, h9⟩ => ?_⟩
 obtain ⟨d2, l2, k1, k2, k3⟩ := hk d l h9
 exact ⟨v, d2, l2, U', F', h1, k2 _ _ _ h2, h3, h4, k3 _ _ _ h5, h6, h7, h8, k1⟩
theorem nil_lsl {U : Nat → Prop} {w : World} {s b : Nat} {cs : List Value} (h : RelC U w .nil cs) : RelC U w (.lsl s b 0 0) cs := by
 simp only [RelC] at h ⊢
 obtain ⟨a, rfl⟩ := h
 exact ⟨a, rfl, Nat.le_refl _, fun h => absurd rfl h⟩
theorem RelF.imp {U : Nat → Prop} {w : World} {d d' : D} {ds ds' : List D} (h1 : ∀ cs, RelC U w d cs → RelC U w d' cs) (h2 : ∀ cs, RelF U w ds cs → RelF U w ds' cs) (cs : List Value) (h : RelF U w (d :: ds) cs) : RelF U w (d' :: ds') cs := by
 simp only [RelF] at h ⊢
 obtain ⟨c1, c2, e, q1, q2⟩ := h
 exact ⟨c1, c2, e, h1 _ q1, h2 _ q2⟩
theorem RelV.aggImp {U : Nat → Prop} {w : World} {fs fs' : List D} (h : ∀ cs, RelF U w fs cs → RelF U w fs' cs) (v : Value) (hv : RelV U w (.agg fs) v) : RelV U w (.agg fs') v := by
 obtain ⟨cs, e, q⟩ := hv
 exact ⟨cs, e, h _ q⟩
theorem tox_StewServiceS (t : Nat) (l : List StewService) (hs : l.length ≤ 1048576 ∧ ∀ y ∈ l, y.small) : XC Try.prog 84 [.ro 13 (l.map StewService.D)] [] (fun d ls => ∃ b, d = .lsl t b l.length l.length ∧ ls = [(t, b, .arr 13 (l.map StewService.D) l.length)]) := by
 have h := toS_xc hm c84 (zs := [.str ⟨#[]⟩, .int .i64 0, .bool false, .int .i64 0, .int .i64 0, .int .i64 0, .int .i64 0, .int .i64 0, .int .i64 0, .int .i64 0, .int .i64 0, .int .i64 0, .int .i64 0]) (ds := l.map StewService.D) rfl (by decide) (by decide) (by simpa using hs.1) (fun d hd => by obtain ⟨x, hx, rfl⟩ := List.mem_map.1 hd; exact ⟨_, rfl, rfl, to_StewService x (hs.2 x hx)⟩)
 rw [List.length_map] at h
 refine h.ren (fun _ _ _ h => h) rfl (fun d ls ⟨b, h1, h2⟩ => ?_)
 subst h1 h2
 exact ⟨_, _, ⟨b, rfl, rfl⟩, fun _ _ _ h => HolL.ren rfl h, fun _ _ _ h => h⟩
theorem markx_StewServiceS (s : Nat) (xs : List StewService) (b0 c0 : Nat) (k : Int) (hk : 1 ≤ k) (hl : xs.length ≤ 1048576) (hB : k + (13 * xs.length : Nat) ≤ 50000000) : XC Try.prog 104 [.lsl s b0 xs.length c0, .int .i64 k] [(s, b0, .arr 13 (xs.map StewService.D) c0)] (fun d ls => d = .int .i64 (k + (13 * xs.length : Nat)) ∧ ls = [(s, b0, .arr 13 ((mkS mk_StewService 13 xs k).map StewService.D) c0)]) := by
 refine (mark_StewServiceS xs b0 c0 k hk hl hB).ren (fun _ _ _ h => h) rfl (fun d ls ⟨h1, h2⟩ => ?_)
 subst h1 h2
 exact ⟨_, _, ⟨rfl, rfl⟩, fun _ _ _ h => HolL.ren rfl h, fun _ _ _ h => h⟩
theorem tox_StewCopyS (t : Nat) (l : List StewCopy) (hs : l.length ≤ 1048576 ∧ ∀ y ∈ l, y.small) : XC Try.prog 85 [.ro 7 (l.map StewCopy.D)] [] (fun d ls => ∃ b, d = .lsl t b l.length l.length ∧ ls = [(t, b, .arr 7 (l.map StewCopy.D) l.length)]) := by
 have h := toS_xc hm c85 (zs := [.str ⟨#[]⟩, .int .i64 0, .int .i64 0, .int .i64 0, .int .i64 0, .bool false, .str ⟨#[]⟩]) (ds := l.map StewCopy.D) rfl (by decide) (by decide) (by simpa using hs.1) (fun d hd => by obtain ⟨x, hx, rfl⟩ := List.mem_map.1 hd; exact ⟨_, rfl, rfl, to_StewCopy x (hs.2 x hx)⟩)
 rw [List.length_map] at h
 refine h.ren (fun _ _ _ h => h) rfl (fun d ls ⟨b, h1, h2⟩ => ?_)
 subst h1 h2
 exact ⟨_, _, ⟨b, rfl, rfl⟩, fun _ _ _ h => HolL.ren rfl h, fun _ _ _ h => h⟩
theorem markx_StewCopyS (s : Nat) (xs : List StewCopy) (b0 c0 : Nat) (k : Int) (hk : 1 ≤ k) (hl : xs.length ≤ 1048576) (hB : k + (7 * xs.length : Nat) ≤ 50000000) : XC Try.prog 105 [.lsl s b0 xs.length c0, .int .i64 k] [(s, b0, .arr 7 (xs.map StewCopy.D) c0)] (fun d ls => d = .int .i64 (k + (7 * xs.length : Nat)) ∧ ls = [(s, b0, .arr 7 ((mkS mk_StewCopy 7 xs k).map StewCopy.D) c0)]) := by
 refine (mark_StewCopyS xs b0 c0 k hk hl hB).ren (fun _ _ _ h => h) rfl (fun d ls ⟨h1, h2⟩ => ?_)
 subst h1 h2
 exact ⟨_, _, ⟨rfl, rfl⟩, fun _ _ _ h => HolL.ren rfl h, fun _ _ _ h => h⟩
theorem tox_StewBerthS (t : Nat) (l : List StewBerth) (hs : l.length ≤ 1048576 ∧ ∀ y ∈ l, y.small) : XC Try.prog 86 [.ro 2 (l.map StewBerth.D)] [] (fun d ls => ∃ b, d = .lsl t b l.length l.length ∧ ls = [(t, b, .arr 2 (l.map StewBerth.D) l.length)]) := by
 have h := toS_xc hm c86 (zs := [.str ⟨#[]⟩, .bool false]) (ds := l.map StewBerth.D) rfl (by decide) (by decide) (by simpa using hs.1) (fun d hd => by obtain ⟨x, hx, rfl⟩ := List.mem_map.1 hd; exact ⟨_, rfl, rfl, to_StewBerth x (hs.2 x hx)⟩)
 rw [List.length_map] at h
 refine h.ren (fun _ _ _ h => h) rfl (fun d ls ⟨b, h1, h2⟩ => ?_)
 subst h1 h2
 exact ⟨_, _, ⟨b, rfl, rfl⟩, fun _ _ _ h => HolL.ren rfl h, fun _ _ _ h => h⟩
theorem markx_StewBerthS (s : Nat) (xs : List StewBerth) (b0 c0 : Nat) (k : Int) (hk : 1 ≤ k) (hl : xs.length ≤ 1048576) (hB : k + (2 * xs.length : Nat) ≤ 50000000) : XC Try.prog 106 [.lsl s b0 xs.length c0, .int .i64 k] [(s, b0, .arr 2 (xs.map StewBerth.D) c0)] (fun d ls => d = .int .i64 (k + (2 * xs.length : Nat)) ∧ ls = [(s, b0, .arr 2 ((mkS mk_StewBerth 2 xs k).map StewBerth.D) c0)]) := by
 refine (mark_StewBerthS xs b0 c0 k hk hl hB).ren (fun _ _ _ h => h) rfl (fun d ls ⟨h1, h2⟩ => ?_)
 subst h1 h2
 exact ⟨_, _, ⟨rfl, rfl⟩, fun _ _ _ h => HolL.ren rfl h, fun _ _ _ h => h⟩
end Go.Ab
set_option linter.unusedSimpArgs false
set_option linter.unusedVariables false
namespace Go.Ab
open Go Go.RowKit Go.Proofs
attribute [local irreducible] XC Rdr IntKind.wrap xw xos xqs xr xd
set_option maxRecDepth 100000
set_option maxHeartbeats 16000000
def cf40 : CF := ⟨18,[.t 4],(.seq (.ops [Oo 2 (.bx (.t 0)),Ok 4 (.int .i64 0)]) (.seq (.ops [Of 5 1 2,Ol 6 5,Om 7 1,Oc 8 104 [.t 6,.t 7],Om 1 8]) (.seq (.ops [Of 9 2 2,Ol 10 9,Om 11 1,Oc 12 105 [.t 10,.t 11],Om 1 12]) (.seq (.ops [Of 13 3 2,Ol 14 13,Om 15 1,Oc 16 106 [.t 14,.t 15],Om 1 16]) (.seq (.ops [Om 17 1,Om 4 17]) .ret)))))⟩
theorem c40 : compileF Try.prog [] 40 = some cf40 := by kernel_rfl
def cf49 : CF := ⟨24,[.t 4],(.seq (.ops [Oo 2 (.bx (.t 0)),Ok 4 (.int .i64 0)]) (.seq (.ops [Of 5 1 2,Ol 6 5,Om 7 1,Oc 8 112 [.t 6,.t 7],Om 1 8]) (.seq (.seq (.ops [Om 9 1,Oo 10 (.bin .lss (.t 9) (.k (.int .i64 0)))]) (.cond (.t 10) (.seq (.ops [Ok 4 (.int .i64 (-1))]) .ret) .skip)) (.seq (.ops [Of 11 2 2,Ol 12 11,Om 13 1,Oc 14 113 [.t 12,.t 13],Om 1 14]) (.seq (.seq (.ops [Om 15 1,Oo 16 (.bin .lss (.t 15) (.k (.int .i64 0)))]) (.cond (.t 16) (.seq (.ops [Ok 4 (.int .i64 (-1))]) .ret) .skip)) (.seq (.ops [Of 17 3 2,Ol 18 17,Om 19 1,Oc 20 114 [.t 18,.t 19],Om 1 20]) (.seq (.seq (.ops [Om 21 1,Oo 22 (.bin .lss (.t 21) (.k (.int .i64 0)))]) (.cond (.t 22) (.seq (.ops [Ok 4 (.int .i64 (-1))]) .ret) .skip)) (.seq (.ops [Om 23 1,Om 4 23]) .ret))))))))⟩
theorem c49 : compileF Try.prog [] 49 = some cf49 := by kernel_rfl
def StewBook.O (x : StewBook) (s1 s2 s3 b1 b2 b3 c1 c2 c3 : Nat) : Go.Ab.D := .agg [.int .i64 x.fNow, .lsl s1 b1 x.fServices.length c1, .lsl s2 b2 x.fCopies.length c2, .lsl s3 b3 x.fBerths.length c3]
def StewBook.L (x : StewBook) (s1 s2 s3 b1 b2 b3 c1 c2 c3 : Nat) : List Go.Ab.Loan := [(s1, b1, .arr 13 (x.fServices.map StewService.D) c1), (s2, b2, .arr 7 (x.fCopies.map StewCopy.D) c2), (s3, b3, .arr 2 (x.fBerths.map StewBerth.D) c3)]
theorem Bor.bookO {st : St} {x : StewBook} {s1 s2 s3 b1 b2 b3 c1 c2 c3 k1 k2 k3 : Nat} (h1 : st.lc s1 = some (.arr 13 (x.fServices.map StewService.D) k1)) (h2 : st.lc s2 = some (.arr 7 (x.fCopies.map StewCopy.D) k2)) (h3 : st.lc s3 = some (.arr 2 (x.fBerths.map StewBerth.D) k3))
  (g1 : st.gen s1 = b1) (g2 : st.gen s2 = b2) (g3 : st.gen s3 = b3) : Bor st (x.O s1 s2 s3 b1 b2 b3 c1 c2 c3) x.D :=
 Bor.agg (.cons (Bor.refl _ _) (.cons (Bor.rowM h1 g1 rfl (fun _ => rfl)) (.cons (Bor.rowM h2 g2 rfl (fun _ => rfl)) (.cons (Bor.rowM h3 g3 rfl (fun _ => rfl)) .nil)))) rfl rfl rfl
def mkB (x : StewBook) (k : Int) : StewBook := { x with fServices := mkS mk_StewService 13 x.fServices k, fCopies := mkS mk_StewCopy 7 x.fCopies (k + (13 * x.fServices.length : Nat)), fBerths := mkS mk_StewBerth 2 x.fBerths ((k + (13 * x.fServices.length : Nat)) + (7 * x.fCopies.length : Nat)) }
def mkBK (x : StewBook) (k : Int) : Int := (((k + (13 * x.fServices.length : Nat)) + (7 * x.fCopies.length : Nat)) + (2 * x.fBerths.length : Nat))
theorem Bor.bookM {st : St} {x : StewBook} {k : Int} {s1 s2 s3 b1 b2 b3 c1 c2 c3 k1 k2 k3 : Nat} (h1 : st.lc s1 = some (.arr 13 ((mkB x k).fServices.map StewService.D) k1)) (h2 : st.lc s2 = some (.arr 7 ((mkB x k).fCopies.map StewCopy.D) k2)) (h3 : st.lc s3 = some (.arr 2 ((mkB x k).fBerths.map StewBerth.D) k3))
  (g1 : st.gen s1 = b1) (g2 : st.gen s2 = b2) (g3 : st.gen s3 = b3) : Bor st (x.O s1 s2 s3 b1 b2 b3 c1 c2 c3) (mkB x k).D :=
 Bor.agg (.cons (Bor.refl _ _) (.cons (Bor.rowM h1 g1 mkS_len.symm (fun _ => rfl)) (.cons (Bor.rowM h2 g2 mkS_len.symm (fun _ => rfl)) (.cons (Bor.rowM h3 g3 mkS_len.symm (fun _ => rfl)) .nil)))) rfl rfl rfl
theorem tox_Book0 (x : StewBook) (hs : x.small) : XC Try.prog 23 [x.D] [] (fun d ls => ∃ b1 b2 b3, d = x.O 31 32 33 b1 b2 b3 x.fServices.length x.fCopies.length x.fBerths.length ∧ ls = x.L 31 32 33 b1 b2 b3 x.fServices.length x.fCopies.length x.fBerths.length) := by
 refine XC.intro' hm [31, 32, 33] rfl c23 (Nat.le_of_ble_eq_true rfl) ?_
 conv => whnf
 repeat' (first | (refine g_op ?_; conv => whnf) | (refine And.intro ?_ ?_; (focus exact au0); conv => whnf) | (refine g_seq ?_) | (refine XS.go ?_) | (refine g_ops ?_) | ((first | refine g_nil ?_ | refine fun _ => ?_); conv => whnf) | fail)
 refine XCL.of_XC (ls := []) True.intro ((tox_StewServiceS 31 x.fServices hs.fServices).mono fun d ls h => ?_)
 obtain ⟨b1, rfl, rfl⟩ := h
 conv => whnf
 repeat' (first | (refine g_op ?_; conv => whnf) | (refine And.intro ?_ ?_; (focus exact au0); conv => whnf) | (refine g_seq ?_) | (refine XS.go ?_) | (refine g_ops ?_) | (refine g_nil ?_; conv => whnf) | fail)
 refine XCL.of_XC (ls := []) True.intro ((tox_StewCopyS 32 x.fCopies hs.fCopies).mono fun d ls h => ?_)
 obtain ⟨b2, rfl, rfl⟩ := h
 conv => whnf
 repeat' (first | (refine g_op ?_; conv => whnf) | (refine And.intro ?_ ?_; (focus exact au0); conv => whnf) | (refine g_seq ?_) | (refine XS.go ?_) | (refine g_ops ?_) | (refine g_nil ?_; conv => whnf) | fail)
 refine XCL.of_XC (ls := []) True.intro ((tox_StewBerthS 33 x.fBerths hs.fBerths).mono fun d ls h => ?_)
 obtain ⟨b3, rfl, rfl⟩ := h
 conv => whnf
 repeat' (first | (refine g_op ?_; conv => whnf) | (refine And.intro ?_ ?_; (focus exact au0); conv => whnf) | (refine g_seq ?_) | (refine XS.go ?_) | (refine g_ops ?_) | ((first | refine g_nil ?_ | refine g_ret ?_ | refine r_c ?_ | refine r_nil ?_); conv => whnf) | fail)
 exact ⟨b1, b2, b3, rfl, rfl⟩
theorem tox_Book (s1 s2 s3 : Nat) (x : StewBook) (hs : x.small) : XC Try.prog 23 [x.D] [] (fun d ls => ∃ b1 b2 b3, d = x.O s1 s2 s3 b1 b2 b3 x.fServices.length x.fCopies.length x.fBerths.length ∧ ls = x.L s1 s2 s3 b1 b2 b3 x.fServices.length x.fCopies.length x.fBerths.length) := by
 refine (tox_Book0 x hs).ren (fun _ _ _ h => h) rfl (fun d ls ⟨b1, b2, b3, h1, h2⟩ => ?_)
 subst h1 h2
 exact ⟨_, _, ⟨b1, b2, b3, rfl, rfl⟩, fun _ _ _ h => HolL.ren rfl h, fun _ _ _ h => h⟩
theorem mark_Book0 (x : StewBook) (b1 b2 b3 c1 c2 c3 : Nat) (k : Int) (hk : 1 ≤ k) (hs : x.small) (hB : mkBK x k ≤ 50000000) : XC Try.prog 40 [x.O 31 32 33 b1 b2 b3 c1 c2 c3, .int .i64 k] (x.L 31 32 33 b1 b2 b3 c1 c2 c3) (fun d ls => d = .int .i64 (mkBK x k) ∧ ls = (mkB x k).L 31 32 33 b1 b2 b3 c1 c2 c3) := by
 have l1 := hs.fServices.1
 have l2 := hs.fCopies.1
 have l3 := hs.fBerths.1
 unfold mkBK at hB
 refine XC.intro' hm [31, 32, 33] rfl c40 (Nat.le_of_ble_eq_true rfl) ?_
 conv => whnf
 repeat' (first | (refine g_op ?_; conv => whnf) | (refine And.intro ?_ ?_; (focus exact au0); conv => whnf) | (refine g_seq ?_) | (refine XS.go ?_) | (refine g_ops ?_) | ((first | refine g_nil ?_ | refine fun _ => ?_); conv => whnf) | fail)
 refine XCL.of_XC (ls := [(31, b1, .arr 13 (x.fServices.map StewService.D) c1)]) ⟨rfl, rfl, rfl, True.intro⟩ ((markx_StewServiceS 31 x.fServices b1 c1 k (by omega) l1 (by omega)).mono fun d ls h => ?_)
 obtain ⟨rfl, rfl⟩ := h
 conv => whnf
 repeat' (first | (refine g_op ?_; conv => whnf) | (refine And.intro ?_ ?_; (focus exact au0); conv => whnf) | (refine g_seq ?_) | (refine XS.go ?_) | (refine g_ops ?_) | (refine g_nil ?_; conv => whnf) | fail)
 refine XCL.of_XC (ls := [(32, b2, .arr 7 (x.fCopies.map StewCopy.D) c2)]) ⟨rfl, rfl, rfl, True.intro⟩ ((markx_StewCopyS 32 x.fCopies b2 c2 (k + (13 * x.fServices.length : Nat)) (by omega) l2 (by omega)).mono fun d ls h => ?_)
 obtain ⟨rfl, rfl⟩ := h
 conv => whnf
 repeat' (first | (refine g_op ?_; conv => whnf) | (refine And.intro ?_ ?_; (focus exact au0); conv => whnf) | (refine g_seq ?_) | (refine XS.go ?_) | (refine g_ops ?_) | (refine g_nil ?_; conv => whnf) | fail)
 refine XCL.of_XC (ls := [(33, b3, .arr 2 (x.fBerths.map StewBerth.D) c3)]) ⟨rfl, rfl, rfl, True.intro⟩ ((markx_StewBerthS 33 x.fBerths b3 c3 ((k + (13 * x.fServices.length : Nat)) + (7 * x.fCopies.length : Nat)) (by omega) l3 (by omega)).mono fun d ls h => ?_)
 obtain ⟨rfl, rfl⟩ := h
 conv => whnf
 repeat' (first | (refine g_op ?_; conv => whnf) | (refine And.intro ?_ ?_; (focus exact au0); conv => whnf) | (refine g_seq ?_) | (refine XS.go ?_) | (refine g_ops ?_) | ((first | refine g_nil ?_ | refine g_ret ?_ | refine r_t ?_ | refine r_nil ?_); conv => whnf) | fail)
 first | exact ⟨rfl, rfl⟩ | exact rfl
theorem mark_Book (s1 s2 s3 : Nat) (x : StewBook) (b1 b2 b3 c1 c2 c3 : Nat) (k : Int) (hk : 1 ≤ k) (hs : x.small) (hB : mkBK x k ≤ 50000000) : XC Try.prog 40 [x.O s1 s2 s3 b1 b2 b3 c1 c2 c3, .int .i64 k] (x.L s1 s2 s3 b1 b2 b3 c1 c2 c3) (fun d ls => d = .int .i64 (mkBK x k) ∧ ls = (mkB x k).L s1 s2 s3 b1 b2 b3 c1 c2 c3) := by
 refine (mark_Book0 x b1 b2 b3 c1 c2 c3 k hk hs hB).ren (fun _ _ _ h => h) rfl (fun d ls ⟨h1, h2⟩ => ?_)
 subst h1 h2
 exact ⟨_, _, ⟨rfl, rfl⟩, fun _ _ _ h => HolL.ren rfl h, fun _ _ _ h => h⟩
theorem mkBK_bd (x : StewBook) (hs : x.small) : 0 ≤ mkBK x 1 ∧ mkBK x 1 ≤ 50000000 := by
 have l1 := hs.fServices.1
 have l2 := hs.fCopies.1
 have l3 := hs.fBerths.1
 unfold mkBK
 omega
theorem held_Book (x : StewBook) (k : Int) (hk : 1 ≤ k) (hs : x.small) (hB : mkBK x k ≤ 50000000) : Rdr Try.prog 49 [(mkB x k).D, .int .i64 k] (.int .i64 (mkBK x k)) := by
 have l1 := hs.fServices.1
 have l2 := hs.fCopies.1
 have l3 := hs.fBerths.1
 unfold mkBK at hB
 have q1 := held_StewServiceS x.fServices k (by omega) l1 (by omega)
 have p1 : decide ((k + (13 * x.fServices.length : Nat)) < 0) = false := by simp; omega
 have q2 := held_StewCopyS x.fCopies (k + (13 * x.fServices.length : Nat)) (by omega) l2 (by omega)
 have p2 : decide (((k + (13 * x.fServices.length : Nat)) + (7 * x.fCopies.length : Nat)) < 0) = false := by simp; omega
 have q3 := held_StewBerthS x.fBerths ((k + (13 * x.fServices.length : Nat)) + (7 * x.fCopies.length : Nat)) (by omega) l3 (by omega)
 have p3 : decide ((((k + (13 * x.fServices.length : Nat)) + (7 * x.fCopies.length : Nat)) + (2 * x.fBerths.length : Nat)) < 0) = false := by simp; omega
 refine Rdr.intro' hm c49 (Nat.le_of_ble_eq_true rfl) ?_
 conv => whnf
 repeat' (first | (refine g_op ?_; conv => whnf) | (refine And.intro ?_ ?_; (focus exact au0); conv => whnf) | (refine g_seq ?_) | (refine XS.go ?_) | (refine g_ops ?_) | (refine g_nil ?_; conv => whnf) | (refine Br.f ?_ ?_; (focus (first | assumption | exact rfl)); conv => whnf) | ((first | refine g_cond ?_ | refine g_skip ?_ | refine g_ret ?_ | refine r_t ?_ | refine r_nil ?_ | refine fun _ => ?_ | refine XCL.of_rdr (q1) ?_ | refine XCL.of_rdr (q2) ?_ | refine XCL.of_rdr (q3) ?_); conv => whnf) | fail)
 rfl
/-! Marks of numbers. -/
end Go.Ab
set_option linter.unusedSimpArgs false
set_option linter.unusedVariables false
namespace Go.Ab
open Go Go.RowKit Go.Proofs
attribute [local irreducible] XC Rdr IntKind.wrap xw xos xqs xr xd
set_option maxRecDepth 100000
def cf159 : CF := ⟨95,[.t 6],(.seq (.ops [Ok 6 (.nil)]) (.seq (.ops [Om 10 0,Om 11 1,Oo 12 (.slc 2 false (.t 10) (some (.t 11)) none)]) (.seq (.ops [Om 13 2,Og 14 13,Om 7 14]) (.seq (.seq (.ops [Om 15 7,Oo 16 (.bin .eql (.t 15) (.k (.int .i64 0)))]) (.cond (.t 16) (.seq (.ops [Om 17 0,Om 6 17]) .ret) .skip)) (.seq (.ops [Om 18 0,Og 19 18,Om 8 19]) (.seq (.seq (.ops [Om 20 1,Om 21 8,Ob 22 .eql 20 21]) (.cond (.t 22) (.seq (.ops [Om 23 0,Om 24 2,Oo 25 (.app 2 24 (.t 23) (.t 24)),Om 6 25]) .ret) .skip)) (.seq (.seq (.ops [Om 26 8,Om 27 7,Ob 28 .add 26 27,Om 29 0,Oo 30 (.capl (.t 29)),Ob 31 .gtr 28 30]) (.cond (.t 31) (.seq (.ops [Om 32 0,Om 33 1,Oo 34 (.slc 2 false (.t 32) none (some (.t 33))),Om 35 8,Om 36 7,Ob 37 .add 35 36,Om 38 1,Ob 39 .sub 37 38,Oo 40 (.apz 24 (.agg [.str ⟨#[]⟩,.bool false]) (.t 34) (.t 39)),Om 9 40]) (.seq (.ops [Om 41 9,Om 42 1,Oo 43 (.slc 2 false (.t 41) (some (.t 42)) none),Om 44 2,Oo 45 (.cpy 2 (.t 43) (.t 44))]) (.seq (.drawn [Qm 46 9,Qm 47 1,Qm 48 7,Qb 49 .add 47 48,Qo 50 (.slc 2 false (.t 46) (some (.t 49)) none),Qm 51 0,Qm 52 1,Qo 53 (.slc 2 false (.t 51) (some (.t 52)) none),(Oo 54 (.cpy 2 (.t 50) (.t 53)),true,[])]) (.seq (.ops [Om 55 9,Om 6 55]) .ret)))) .skip)) (.seq (.ops [Om 56 0,Om 57 8,Om 58 7,Ob 59 .add 57 58,Oo 60 (.slc 2 false (.t 56) none (some (.t 59))),Om 0 60]) (.seq (.seq (.ops [Om 61 2,Om 62 0,Om 63 1,Om 64 7,Ob 65 .add 63 64,Oo 66 (.slc 2 false (.t 62) (some (.t 65)) none),Oo 67 (.ovl 186 (.t 61) (.t 66)),Oo 68 (.not (.t 67))]) (.cond (.t 68) (.seq (.drawn [Qm 69 0,Qm 70 1,Qm 71 7,Qb 72 .add 70 71,Qo 73 (.slc 2 false (.t 69) (some (.t 72)) none),Qm 74 0,Qm 75 1,Qo 76 (.slc 2 false (.t 74) (some (.t 75)) none),(Oo 77 (.cpy 2 (.t 73) (.t 76)),true,[])]) (.seq (.ops [Om 78 0,Om 79 1,Oo 80 (.slc 2 false (.t 78) (some (.t 79)) none),Om 81 2,Oo 82 (.cpy 2 (.t 80) (.t 81))]) (.seq (.ops [Om 83 0,Om 6 83]) .ret))) .skip)) (.seq (.ops [Om 84 0,Om 85 8,Oo 86 (.slc 2 false (.t 84) (some (.t 85)) none),Om 87 2,Oo 88 (.cpy 2 (.t 86) (.t 87))]) (.seq (.ops [Om 89 0,Om 90 1,Oo 91 (.slc 2 false (.t 89) (some (.t 90)) none),Om 92 7,Oc 93 187 [.t 91,.t 92]]) (.seq (.ops [Om 94 0,Om 6 94]) .ret))))))))))))⟩
theorem c159 : compileF Try.prog [] 159 = some cf159 := by kernel_rfl
theorem ovl_StewBerth : OvlF Try.prog 186 := ovlF_mk (fn := Try.prog.funcs[186]!) (t := (Try.prog.funcs[186]!).params[0]!) (r := (Try.prog.funcs[186]!).resultTypes[0]!) (e := sliceOf Try.prog ((Try.prog.funcs[186]!).params[0]!)) (i := (Try.prog.info? (sliceOf Try.prog ((Try.prog.funcs[186]!).params[0]!))).get!) (by kernel_rfl) (by kernel_rfl) (by kernel_rfl) (by kernel_rfl) (by kernel_rfl) (by kernel_rfl) (by kernel_rfl)
def cf152 : CF := ⟨95,[.t 6],(.seq (.ops [Ok 6 (.nil)]) (.seq (.ops [Om 10 0,Om 11 1,Oo 12 (.slc 13 false (.t 10) (some (.t 11)) none)]) (.seq (.ops [Om 13 2,Og 14 13,Om 7 14]) (.seq (.seq (.ops [Om 15 7,Oo 16 (.bin .eql (.t 15) (.k (.int .i64 0)))]) (.cond (.t 16) (.seq (.ops [Om 17 0,Om 6 17]) .ret) .skip)) (.seq (.ops [Om 18 0,Og 19 18,Om 8 19]) (.seq (.seq (.ops [Om 20 1,Om 21 8,Ob 22 .eql 20 21]) (.cond (.t 22) (.seq (.ops [Om 23 0,Om 24 2,Oo 25 (.app 13 112 (.t 23) (.t 24)),Om 6 25]) .ret) .skip)) (.seq (.seq (.ops [Om 26 8,Om 27 7,Ob 28 .add 26 27,Om 29 0,Oo 30 (.capl (.t 29)),Ob 31 .gtr 28 30]) (.cond (.t 31) (.seq (.ops [Om 32 0,Om 33 1,Oo 34 (.slc 13 false (.t 32) none (some (.t 33))),Om 35 8,Om 36 7,Ob 37 .add 35 36,Om 38 1,Ob 39 .sub 37 38,Oo 40 (.apz 112 (.agg [.str ⟨#[]⟩,.int .i64 0,.bool false,.int .i64 0,.int .i64 0,.int .i64 0,.int .i64 0,.int .i64 0,.int .i64 0,.int .i64 0,.int .i64 0,.int .i64 0,.int .i64 0]) (.t 34) (.t 39)),Om 9 40]) (.seq (.ops [Om 41 9,Om 42 1,Oo 43 (.slc 13 false (.t 41) (some (.t 42)) none),Om 44 2,Oo 45 (.cpy 13 (.t 43) (.t 44))]) (.seq (.drawn [Qm 46 9,Qm 47 1,Qm 48 7,Qb 49 .add 47 48,Qo 50 (.slc 13 false (.t 46) (some (.t 49)) none),Qm 51 0,Qm 52 1,Qo 53 (.slc 13 false (.t 51) (some (.t 52)) none),(Oo 54 (.cpy 13 (.t 50) (.t 53)),true,[])]) (.seq (.ops [Om 55 9,Om 6 55]) .ret)))) .skip)) (.seq (.ops [Om 56 0,Om 57 8,Om 58 7,Ob 59 .add 57 58,Oo 60 (.slc 13 false (.t 56) none (some (.t 59))),Om 0 60]) (.seq (.seq (.ops [Om 61 2,Om 62 0,Om 63 1,Om 64 7,Ob 65 .add 63 64,Oo 66 (.slc 13 false (.t 62) (some (.t 65)) none),Oo 67 (.ovl 183 (.t 61) (.t 66)),Oo 68 (.not (.t 67))]) (.cond (.t 68) (.seq (.drawn [Qm 69 0,Qm 70 1,Qm 71 7,Qb 72 .add 70 71,Qo 73 (.slc 13 false (.t 69) (some (.t 72)) none),Qm 74 0,Qm 75 1,Qo 76 (.slc 13 false (.t 74) (some (.t 75)) none),(Oo 77 (.cpy 13 (.t 73) (.t 76)),true,[])]) (.seq (.ops [Om 78 0,Om 79 1,Oo 80 (.slc 13 false (.t 78) (some (.t 79)) none),Om 81 2,Oo 82 (.cpy 13 (.t 80) (.t 81))]) (.seq (.ops [Om 83 0,Om 6 83]) .ret))) .skip)) (.seq (.ops [Om 84 0,Om 85 8,Oo 86 (.slc 13 false (.t 84) (some (.t 85)) none),Om 87 2,Oo 88 (.cpy 13 (.t 86) (.t 87))]) (.seq (.ops [Om 89 0,Om 90 1,Oo 91 (.slc 13 false (.t 89) (some (.t 90)) none),Om 92 7,Oc 93 184 [.t 91,.t 92]]) (.seq (.ops [Om 94 0,Om 6 94]) .ret))))))))))))⟩
theorem c152 : compileF Try.prog [] 152 = some cf152 := by kernel_rfl
theorem ovl_StewService : OvlF Try.prog 183 := ovlF_mk (fn := Try.prog.funcs[183]!) (t := (Try.prog.funcs[183]!).params[0]!) (r := (Try.prog.funcs[183]!).resultTypes[0]!) (e := sliceOf Try.prog ((Try.prog.funcs[183]!).params[0]!)) (i := (Try.prog.info? (sliceOf Try.prog ((Try.prog.funcs[183]!).params[0]!))).get!) (by kernel_rfl) (by kernel_rfl) (by kernel_rfl) (by kernel_rfl) (by kernel_rfl) (by kernel_rfl) (by kernel_rfl)
end Go.Ab
set_option linter.unusedSimpArgs false
set_option linter.unusedVariables false
namespace Go.Ab
open Go Go.RowKit Go.Proofs
attribute [local irreducible] XC Rdr IntKind.wrap xw xos xqs xr xd
set_option maxRecDepth 100000
set_option maxHeartbeats 16000000
def cf69 : CF := ⟨18,[.c 2 4 true],(.seq (.ops [Oo 1 (.bx (.t 0)),Oo 2 (.al (.agg [.int .i64 0,.nil,.nil,.nil]))]) (.seq (.drawn [Qf 3 0 1,Ql 4 3,Qo 5 (.bsl (.agg [.str ⟨#[]⟩,.int .i64 0,.bool false,.int .i64 0,.int .i64 0,.int .i64 0,.int .i64 0,.int .i64 0,.int .i64 0,.int .i64 0,.int .i64 0,.int .i64 0,.int .i64 0]) 0 []),Qf 6 1 1,Ql 7 6,Qo 9 (.bsl (.agg [.str ⟨#[]⟩,.int .i64 0,.int .i64 0,.int .i64 0,.int .i64 0,.bool false,.str ⟨#[]⟩]) 0 []),Qf 10 2 1,Ql 11 10,Qo 13 (.bsl (.agg [.str ⟨#[]⟩,.bool false]) 0 []),Qf 14 3 1,Ql 15 14,(Oo 8 (.app 13 112 (.t 5) (.t 7)),true,[(.t 14),(.t 10),(.t 3)]),(Oo 12 (.app 7 72 (.t 9) (.t 11)),true,[(.t 14),(.t 3)]),(Oo 16 (.app 2 24 (.t 13) (.t 15)),true,[(.t 3)]),Qo 17 (.bld (.agg [.int .i64 0,.nil,.nil,.nil]) [(0,0,1,(.t 4)),(1,1,1,(.t 8)),(2,2,1,(.t 12)),(3,3,1,(.t 16))]),Qs 4 2 17]) .ret))⟩
theorem c69 : compileF Try.prog [] 69 = some cf69 := by kernel_rfl
def cf66 : CF := ⟨16,[.c 2 4 true],(.seq (.ops [Oo 1 (.bx (.t 0)),Oo 2 (.al (.agg [.int .i64 0,.nil,.nil,.nil]))]) (.seq (.ops [Of 3 1 1,Ol 4 3,Oo 5 (.app 13 112 (.k (.nil)) (.t 4)),Of 6 1 1,Os 1 6 5]) (.seq (.ops [Of 7 2 1,Ol 8 7,Oo 9 (.app 7 72 (.k (.nil)) (.t 8)),Of 10 2 1,Os 1 10 9]) (.seq (.ops [Of 11 3 1,Ol 12 11,Oo 13 (.app 2 24 (.k (.nil)) (.t 12)),Of 14 3 1,Os 1 14 13]) (.seq (.ops [Od 15 4 1,Os 4 2 15]) .ret)))))⟩
theorem c66 : compileF Try.prog [] 66 = some cf66 := by kernel_rfl
section
variable {P : Program} {n : Nat} {st : St}
/-- A row whose header lies in a box is from now on only read. -/
theorem XS.freezeRB {cc : CC} {Q : Post} (s : Nat) (L : List Nat) (k : Nat) (p : List Nat) {es cp o : Nat} {ds : List Go.Ab.D} {c d0 c1 : Go.Ab.D} (hks : Nat.beq s k = false) (hl : st.lc s = some (.arr es ds cp)) (hz : D.frozs ds = ds) (hh : hdrs st (st.gen s) ds.length L)
  (hk : st.lc k = some c) (hmp : c.mpB = false) (hat : c.at p = some (d0, o)) (hd0 : isHdr (st.gen s) ds.length d0) (hset : c.set p (.ro es ds) = some c1) (hm1 : c1.mpB = false)
  (h : XS P n cc { st with fr := fun i => bif elemN i L then .ro es ds else st.fr i, lc := upd (upd st.lc s none) k (some c1) } Q) : XS P n cc st Q :=
 h.ghost fun _ _ _ _ hH => hH.freeze hl _ _ (fun i => by
  cases he : elemN i L with
  | false => exact .inl rfl
  | true =>
   refine .inr ?_
   have := hdrs_get hh he
   simp only [cond_true]
   cases hd : st.fr i <;> rw [hd] at this <;> try exact this.elim
   obtain ⟨rfl, rfl⟩ := this
   exact ⟨rfl, es, ds, cp, rfl, Nat.le_refl _, by rw [hz, List.take_length]⟩) (fun k' d hk' hd => by
  rw [upd_apply] at hd
  split at hd
  ·rename_i e
   subst e
   simp only [Option.some.injEq] at hd
   subst hd
   refine .inr ⟨c, hk, hmp, hm1, .step hat ?_ hset (.refl _)⟩
   cases d0 <;> try exact hd0.elim
   obtain ⟨rfl, rfl⟩ := hd0
   exact ⟨rfl, es, ds, cp, rfl, Nat.le_refl _, by rw [hz, List.take_length]⟩
  ·rw [upd_apply, if_neg hk'] at hd
   exact .inl hd) (by
  have e : s ≠ k := fun e => by subst e; simp at hks
  rw [upd_apply, if_neg e, upd_apply, if_pos rfl])
end
def KB (R : StewBook) (s1 s2 s3 : Nat) (d : Go.Ab.D) (ls : List Loan) : Prop := ∃ b1 b2 b3 c1 c2 c3, d = R.O s1 s2 s3 b1 b2 b3 c1 c2 c3 ∧ ls = R.L s1 s2 s3 b1 b2 b3 c1 c2 c3
theorem spec_BookX (x : StewBook) (hs : x.small) : XC Try.prog 69 [x.D] [] (KB x 8 12 16) := by
 have l1 := hs.fServices.1
 have l2 := hs.fCopies.1
 have l3 := hs.fBerths.1
 refine XC.intro' hm [8, 12, 16] rfl c69 (Nat.le_of_ble_eq_true rfl) ?_
 conv => whnf
 repeat' (first | (refine g_op ?_; conv => whnf) | (refine And.intro ?_ ?_; (focus exact au0); conv => whnf) | (refine g_seq ?_) | (refine g_ops ?_) | ((first | refine g_nil ?_ | refine fun _ => ?_); conv => whnf) | fail)
 refine XS.freezeB 1 rfl ?_
 refine XS.go ?_
 conv => whnf
 repeat' (first | (refine And.intro ?_ ?_; (focus exact au0); conv => whnf) | (refine g_seq ?_) | (refine g_drawn ?_) | ((first | refine d_p ?_ | refine d_e ?_); conv => whnf) | fail)
 refine ⟨by show 0 + _ ≤ _; rw [List.length_map]; omega, Nat.le_of_ble_eq_true rfl, by decide, fun n1 d1 e1 hn1 hc1 => ?_⟩
 have hm1 : n1 = x.fServices.length := by rw [hn1]; show 0 + _ = _; simp
 clear hn1
 subst hm1
 conv => whnf
 repeat' (first | ((refine And.intro True.intro ?_; conv => whnf)) | (refine And.intro ?_ ?_; (focus exact au0); conv => whnf) | (refine d_e ?_; conv => whnf) | fail)
 refine ⟨by show 0 + _ ≤ _; rw [List.length_map]; omega, Nat.le_of_ble_eq_true rfl, by decide, fun n2 d2 e2 hn2 hc2 => ?_⟩
 have hm2 : n2 = x.fCopies.length := by rw [hn2]; show 0 + _ = _; simp
 clear hn2
 subst hm2
 conv => whnf
 repeat' (first | ((refine And.intro True.intro ?_; conv => whnf)) | (refine And.intro ?_ ?_; (focus exact au0); conv => whnf) | (refine d_e ?_; conv => whnf) | fail)
 refine ⟨by show 0 + _ ≤ _; rw [List.length_map]; omega, Nat.le_of_ble_eq_true rfl, by decide, fun n3 d3 e3 hn3 hc3 => ?_⟩
 have hm3 : n3 = x.fBerths.length := by rw [hn3]; show 0 + _ = _; simp
 clear hn3
 subst hm3
 conv => whnf
 repeat' (first | ((refine And.intro True.intro ?_; conv => whnf)) | (refine And.intro ?_ ?_; (focus exact au0); conv => whnf) | (refine XS.go ?_) | ((first | refine g_ret ?_ | refine d_p ?_ | refine d_e ?_ | refine d_nil ?_ | refine r_c ?_ | refine r_nil ?_); conv => whnf) | fail)
 exact ⟨d1, d2, d3, e1, e2, e3, rfl, rfl⟩
theorem impl_cloneX (x : StewBook) (hs : x.small) : XC Try.prog 66 [x.D] [] (KB x 5 9 13) := by
 have l1 := hs.fServices.1
 have l2 := hs.fCopies.1
 have l3 := hs.fBerths.1
 refine XC.intro' hm [5, 9, 13] rfl c66 (Nat.le_of_ble_eq_true rfl) ?_
 conv => whnf
 repeat' (first | (refine g_op ?_; conv => whnf) | (refine And.intro ?_ ?_; (focus exact au0); conv => whnf) | (refine g_seq ?_) | (refine XS.go ?_) | (refine g_ops ?_) | ((first | refine g_nil ?_ | refine fun _ => ?_); conv => whnf) | fail)
 refine ⟨by show 0 + _ ≤ _; rw [List.length_map]; omega, Nat.le_of_ble_eq_true rfl, by decide, fun n1 d1 e1 hn1 hc1 => ?_⟩
 have hm1 : n1 = x.fServices.length := by rw [hn1]; show 0 + _ = _; simp
 clear hn1
 subst hm1
 conv => whnf
 repeat' (first | (refine g_op ?_; conv => whnf) | (refine And.intro ?_ ?_; (focus exact au0); conv => whnf) | (refine g_seq ?_) | (refine XS.go ?_) | (refine g_ops ?_) | (refine g_nil ?_; conv => whnf) | fail)
 refine ⟨by show 0 + _ ≤ _; rw [List.length_map]; omega, Nat.le_of_ble_eq_true rfl, by decide, fun n2 d2 e2 hn2 hc2 => ?_⟩
 have hm2 : n2 = x.fCopies.length := by rw [hn2]; show 0 + _ = _; simp
 clear hn2
 subst hm2
 conv => whnf
 repeat' (first | (refine g_op ?_; conv => whnf) | (refine And.intro ?_ ?_; (focus exact au0); conv => whnf) | (refine g_seq ?_) | (refine XS.go ?_) | (refine g_ops ?_) | (refine g_nil ?_; conv => whnf) | fail)
 refine ⟨by show 0 + _ ≤ _; rw [List.length_map]; omega, Nat.le_of_ble_eq_true rfl, by decide, fun n3 d3 e3 hn3 hc3 => ?_⟩
 have hm3 : n3 = x.fBerths.length := by rw [hn3]; show 0 + _ = _; simp
 clear hn3
 subst hm3
 conv => whnf
 repeat' (first | (refine g_op ?_; conv => whnf) | (refine And.intro ?_ ?_; (focus exact au0); conv => whnf) | (refine g_seq ?_) | (refine XS.go ?_) | (refine g_ops ?_) | ((first | refine g_nil ?_ | refine g_ret ?_ | refine r_c ?_ | refine r_nil ?_); conv => whnf) | fail)
 exact ⟨d1, d2, d3, e1, e2, e3, rfl, rfl⟩
end Go.Ab
set_option linter.unusedSimpArgs false
set_option linter.unusedVariables false
namespace Go.Ab
open Go Go.RowKit Go.Proofs
attribute [local irreducible] XC Rdr IntKind.wrap xw xos xqs xr xd
set_option maxRecDepth 100000
set_option maxHeartbeats 16000000
def cf181 : CF := ⟨61,[.t 2],(.seq (.ops [Oo 1 (.bx (.t 0)),Ok 2 (.str ⟨#[]⟩)]) (.seq (.ops [Ok 3 (.str ⟨#[]⟩)]) (.seq (.ops [Ok 4 (.int .i64 0)]) (.seq (.seq (.ops [Ok 5 (.int .i64 0)]) (.block 0 (.loop (.seq (.seq (.ops [Om 8 5,Of 9 3 1,Ol 10 9,Og 11 10,Ob 12 .lss 8 11]) (.cond (.t 12) .skip (.exit 0))) (.seq (.block 1 (.seq (.ops [Ok 6 (.int .i64 0)]) (.seq (.seq (.ops [Ok 7 (.int .i64 0)]) (.block 2 (.loop (.seq (.seq (.ops [Om 15 7,Of 16 2 1,Ol 17 16,Og 18 17,Ob 19 .lss 15 18]) (.cond (.t 19) .skip (.exit 2))) (.seq (.block 3 (.seq (.quiet [Of 22 2 1,Ol 23 22,Om 24 7,Ox 25 7 23 24,Of 26 6 25,Ol 27 26,Of 28 3 1,Ol 29 28,Om 30 5,Ox 31 2 29 30,Of 32 0 31,Ol 33 32,Ob 34 .eql 27 33]) (.cond (.t 34) (.ops [Om 35 6,Oi 36 35,Om 6 36]) .skip))) (.ops [Om 20 7,Oi 21 20,Om 7 21])))))) (.seq (.ops [Of 37 3 1,Ol 38 37,Om 39 5,Ox 40 2 38 39,Of 41 1 40,Ol 42 41,Oo 43 (.not (.t 42)),Om 44 43,⟨some 45,.mv (.t 3),some (44,true)⟩,⟨some 46,.bin .eql (.t 45) (.k (.str ⟨#[]⟩)),some (44,true)⟩,⟨some 47,.mv (.t 46),some (44,true)⟩,⟨some 48,.mv (.t 6),some (47,false)⟩,⟨some 49,.mv (.t 4),some (47,false)⟩,⟨some 50,.bin .lss (.t 48) (.t 49),some (47,false)⟩,⟨some 51,.pick (.t 47) (.k (.bool true)) (.t 50),some (44,true)⟩,Oo 52 (.pick (.t 44) (.t 51) (.k (.bool false)))]) (.cond (.t 52) (.seq (.ops [Of 53 3 1,Ol 54 53,Om 55 5,Ox 56 2 54 55,Of 57 0 56,Ol 58 57,Om 3 58]) (.ops [Om 59 6,Om 4 59])) .skip))))) (.ops [Om 13 5,Oi 14 13,Om 5 14])))))) (.seq (.ops [Om 60 3,Om 2 60]) .ret)))))⟩
theorem c181 : compileF Try.prog [] 181 = some cf181 := by kernel_rfl
def standP (nm : ByteArray) (c : StewCopy) : Bool := c.fBerth.toList == nm.toList
def standU (xs : List StewCopy) (nm : ByteArray) : Nat → Int
 | 0 => 0
 | i + 1 => if standP nm (xs.getD i default) = true then standU xs nm i + 1 else standU xs nm i
theorem standU_bd (xs : List StewCopy) (nm : ByteArray) : ∀ i, 0 ≤ standU xs nm i ∧ standU xs nm i ≤ i
 | 0 => ⟨Int.le_refl _, Int.le_refl _⟩
 | i + 1 => by
  have := standU_bd xs nm i
  rw [standU]
  split <;> omega
def leastC (r : ByteArray × Int) (x : StewBerth) (n : Int) : Bool := !x.fDrain && (r.1.toList == (ByteArray.mk #[]).toList || decide (n < r.2))
def leastU (bs : List StewBerth) (xs : List StewCopy) : Nat → ByteArray × Int
 | 0 => (⟨#[]⟩, 0)
 | i + 1 => if leastC (leastU bs xs i) (bs.getD i default) (standU xs (bs.getD i default).fName xs.length) = true then ((bs.getD i default).fName, standU xs (bs.getD i default).fName xs.length) else leastU bs xs i
def leastB (bs : List StewBerth) (xs : List StewCopy) : ByteArray := (leastU bs xs bs.length).1
theorem spec_Least (b : StewBook) (h2 : b.fBerths.length ≤ 1048576) (h3 : b.fCopies.length ≤ 1048576) : Rdr Try.prog 181 [b.D] (.str (leastB b.fBerths b.fCopies)) := by
 refine Rdr.intro' hm c181 (Nat.le_of_ble_eq_true rfl) ?_
 conv => whnf
 repeat' (first | (refine g_op ?_; conv => whnf) | (refine And.intro ?_ ?_; (focus exact au0); conv => whnf) | (refine g_seq ?_) | (refine g_ops ?_) | ((first | refine g_nil ?_ | refine fun _ => ?_); conv => whnf) | fail)
 refine XS.freezeB 1 rfl ?_
 repeat' (first | (refine g_op ?_; conv => whnf) | (refine And.intro ?_ ?_; (focus exact au0); conv => whnf) | (refine g_seq ?_) | (refine XS.go ?_) | (refine g_ops ?_) | (refine g_loop ?_) | (refine g_nil ?_; conv => whnf) | (refine g_block ?_) | fail)
 refine XLc.mkA (α := Nat) (fun i => i ≤ b.fBerths.length) (fun i => b.fBerths.length - i) (fun i gs => [.any, .cref b.D, .any, .str (leastU b.fBerths b.fCopies i).1, .int .i64 (leastU b.fBerths b.fCopies i).2, .int .i64 (i : Int)]) (fun i gs => []) 0 (Nat.zero_le _) ⟨?_, True.intro⟩ ?_
 ·repeat' (first | exact True.intro | refine And.intro rfl ?_)
 intro i gs hi
 repeat' (first | (refine z_ld1 ?_; first | (refine z_ld rfl rfl rfl rfl au1 au2 ?_; conv => whnf) | (refine z_ld0 rfl ?_; conv => whnf)) | (refine z_op ?_ ?_; (focus exact rfl); conv => whnf) | (refine zs_ops ?_ ?_; (focus exact rfl)) | (refine z_nil fun vals => ?_; conv => whnf) | (refine And.intro ?_ ?_; (focus exact au0); conv => whnf) | (refine g_seq ?_) | (refine XS.go ?_) | (refine g_cond ?_; conv => whnf) | fail)
 refine Br.mk (fun hb => ?_) (fun hb => ?_)
 ·have hlt : i < b.fBerths.length := by simpa using hb
  clear hb
  have hw : IntKind.wrap .i64 ((i : Int) + 1) = ((i + 1 : Nat) : Int) := by rw [wrap_ok (by omega) (by omega)]; rfl
  have hE : leastU b.fBerths b.fCopies (i + 1) = if leastC (leastU b.fBerths b.fCopies i) (b.fBerths.getD i default) (standU b.fCopies (b.fBerths.getD i default).fName b.fCopies.length) = true then ((b.fBerths.getD i default).fName, standU b.fCopies (b.fBerths.getD i default).fName b.fCopies.length) else leastU b.fBerths b.fCopies i := rfl
  generalize leastU b.fBerths b.fCopies i = R at *
  conv => whnf
  repeat' (first | (refine g_op ?_; conv => whnf) | (refine And.intro ?_ ?_; (focus exact au0); conv => whnf) | (refine g_seq ?_) | (refine XS.go ?_) | (refine g_ops ?_) | (refine g_loop ?_) | ((first | refine g_nil ?_ | refine g_skip ?_); conv => whnf) | (refine g_block ?_) | fail)
  refine XLc.mkA (α := Nat) (fun k => k ≤ b.fCopies.length) (fun k => b.fCopies.length - k) (fun k gs => [.any, .cref b.D, .any, .str R.1, .int .i64 R.2, .int .i64 (i : Int), .int .i64 (standU b.fCopies (b.fBerths.getD i default).fName k), .int .i64 (k : Int)]) (fun k gs => []) 0 (Nat.zero_le _) ⟨?_, True.intro⟩ ?_
  ·repeat' (first | exact True.intro | refine And.intro rfl ?_)
  intro k gs2 hk
  repeat' (first | (refine z_ld1 ?_; first | (refine z_ld rfl rfl rfl rfl au1 au2 ?_; conv => whnf) | (refine z_ld0 rfl ?_; conv => whnf)) | (refine z_op ?_ ?_; (focus exact rfl); conv => whnf) | (refine zs_ops ?_ ?_; (focus exact rfl)) | (refine z_nil fun vals => ?_; conv => whnf) | (refine And.intro ?_ ?_; (focus exact au0); conv => whnf) | (refine g_seq ?_) | (refine XS.go ?_) | (refine g_cond ?_; conv => whnf) | fail)
  refine Br.mk (fun hb => ?_) (fun hb => ?_)
  ·have hltk : k < b.fCopies.length := by simpa using hb
   clear hb
   have hwk : IntKind.wrap .i64 ((k : Int) + 1) = ((k + 1 : Nat) : Int) := by rw [wrap_ok (by omega) (by omega)]; rfl
   have hS : standU b.fCopies (b.fBerths.getD i default).fName (k + 1) = if standP (b.fBerths.getD i default).fName (b.fCopies.getD k default) = true then standU b.fCopies (b.fBerths.getD i default).fName k + 1 else standU b.fCopies (b.fBerths.getD i default).fName k := rfl
   have hsb := standU_bd b.fCopies (b.fBerths.getD i default).fName k
   have hws : IntKind.wrap .i64 (standU b.fCopies (b.fBerths.getD i default).fName k + 1) = standU b.fCopies (b.fBerths.getD i default).fName k + 1 := wrap_ok (by omega) (by omega)
   conv => whnf
   repeat' (first | (refine z_ld1 ?_; first | (refine z_ld rfl rfl rfl rfl au1 au2 ?_; conv => whnf) | (refine z_ld0 rfl ?_; conv => whnf)) | (refine z_ix1 ?_; first | (refine z_ix rfl rfl rfl rfl rfl ⟨by first | omega | (simp only [decide_eq_true_eq, Bool.not_eq_true', Bool.or_eq_false_iff, decide_eq_false_iff_not, Bool.and_eq_true, Bool.not_eq_false'] at *; omega), by first | omega | (simp only [decide_eq_true_eq, Bool.not_eq_true', Bool.or_eq_false_iff, decide_eq_false_iff_not, Bool.and_eq_true, Bool.not_eq_false'] at *; omega)⟩ ?_; conv => whnf) | (refine z_ix0 rfl rfl ?_; conv => whnf)) | (refine z_op ?_ ?_; (focus exact rfl); conv => whnf) | (refine zs_quiet ?_ ?_; (focus exact rfl)) | (refine z_nil fun vals => ?_; conv => whnf) | (refine And.intro ?_ ?_; (focus exact au0); conv => whnf) | (refine g_seq ?_) | (refine XS.go ?_) | ((first | refine g_cond ?_ | refine g_skip ?_); conv => whnf) | (refine g_block ?_) | fail)
   refine Br.mk (fun hb => ?_) (fun hb => ?_)
   ·rw [if_pos (show standP (b.fBerths.getD i default).fName (b.fCopies.getD k default) = true from hb)] at hS
    clear hb
    conv => whnf
    repeat' (first | (refine g_op ?_; conv => whnf) | (refine And.intro ?_ ?_; (focus exact au0); conv => whnf) | (refine XS.go ?_) | (refine g_ops ?_) | (refine g_nil ?_; conv => whnf) | fail)
    refine ⟨k + 1, by omega, by omega, ?_, True.intro⟩
    repeat' (first | exact True.intro | refine And.intro rfl ?_ | refine And.intro (congrArg (D.int .i64) hwk) ?_ | refine And.intro (congrArg (D.int .i64) (hws.trans hS.symm)) ?_)
   ·rw [if_neg (by rw [show standP (b.fBerths.getD i default).fName (b.fCopies.getD k default) = false from hb]; exact Bool.false_ne_true)] at hS
    clear hb
    conv => whnf
    repeat' (first | (refine g_op ?_; conv => whnf) | (refine And.intro ?_ ?_; (focus exact au0); conv => whnf) | (refine XS.go ?_) | (refine g_ops ?_) | ((first | refine g_nil ?_ | refine g_skip ?_); conv => whnf) | fail)
    refine ⟨k + 1, by omega, by omega, ?_, True.intro⟩
    repeat' (first | exact True.intro | refine And.intro rfl ?_ | refine And.intro (congrArg (D.int .i64) hwk) ?_ | refine And.intro (congrArg (D.int .i64) hS.symm) ?_)
  have hk2 : k = b.fCopies.length := by
   have : ¬ k < b.fCopies.length := by simpa using hb
   omega
  subst hk2
  clear hb hk
  generalize standU b.fCopies (b.fBerths.getD i default).fName b.fCopies.length = N at *
  conv => whnf
  repeat' (first | (refine z_ld1 ?_; first | (refine z_ld rfl rfl rfl rfl au1 au2 ?_; conv => whnf) | (refine z_ld0 rfl ?_; conv => whnf)) | (refine z_ix1 ?_; first | (refine z_ix rfl rfl rfl rfl rfl ⟨by first | omega | (simp only [decide_eq_true_eq, Bool.not_eq_true', Bool.or_eq_false_iff, decide_eq_false_iff_not, Bool.and_eq_true, Bool.not_eq_false'] at *; omega), by first | omega | (simp only [decide_eq_true_eq, Bool.not_eq_true', Bool.or_eq_false_iff, decide_eq_false_iff_not, Bool.and_eq_true, Bool.not_eq_false'] at *; omega)⟩ ?_; conv => whnf) | (refine z_ix0 rfl rfl ?_; conv => whnf)) | (refine z_op ?_ ?_; (focus exact rfl); conv => whnf) | (refine z_opg0 ?_; (conv => whnf); refine And.intro ?_ ?_; (focus exact rfl); conv => whnf) | (refine z_pick ?_ ?_; (focus exact rfl); conv => whnf) | (refine z_pickg ?_; (conv => whnf); refine And.intro ?_ ?_; (focus exact rfl); conv => whnf) | (refine zs_ops ?_ ?_; (focus exact rfl)) | (refine z_nil fun vals => ?_; conv => whnf) | (refine And.intro ?_ ?_; (focus exact au0); conv => whnf) | (refine g_seq ?_) | (refine XS.go ?_) | ((first | refine g_cond ?_ | refine g_exit ?_); conv => whnf) | fail)
  refine Br.mk (fun hb => ?_) (fun hb => ?_)
  ·rw [if_pos (show leastC R (b.fBerths.getD i default) N = true from hb)] at hE
   clear hb
   conv => whnf
   repeat' (first | (refine z_ld1 ?_; first | (refine z_ld rfl rfl rfl rfl au1 au2 ?_; conv => whnf) | (refine z_ld0 rfl ?_; conv => whnf)) | (refine z_ix1 ?_; first | (refine z_ix rfl rfl rfl rfl rfl ⟨by first | omega | (simp only [decide_eq_true_eq, Bool.not_eq_true', Bool.or_eq_false_iff, decide_eq_false_iff_not, Bool.and_eq_true, Bool.not_eq_false'] at *; omega), by first | omega | (simp only [decide_eq_true_eq, Bool.not_eq_true', Bool.or_eq_false_iff, decide_eq_false_iff_not, Bool.and_eq_true, Bool.not_eq_false'] at *; omega)⟩ ?_; conv => whnf) | (refine z_ix0 rfl rfl ?_; conv => whnf)) | (refine z_op ?_ ?_; (focus exact rfl); conv => whnf) | (refine zs_ops ?_ ?_; (focus exact rfl)) | ((first | refine z_nil fun vals => ?_ | refine g_op ?_); conv => whnf) | (refine And.intro ?_ ?_; (focus exact au0); conv => whnf) | (refine g_seq ?_) | (refine XS.go ?_) | (refine g_ops ?_) | (refine g_nil ?_; conv => whnf) | fail)
   refine ⟨i + 1, by omega, by omega, ?_, True.intro⟩
   rw [hE]
   repeat' (first | exact True.intro | refine And.intro (congrArg (D.int .i64) hw) ?_ | refine And.intro rfl ?_)
  ·rw [if_neg (by rw [show leastC R (b.fBerths.getD i default) N = false from hb]; exact Bool.false_ne_true)] at hE
   clear hb
   conv => whnf
   repeat' (first | (refine g_op ?_; conv => whnf) | (refine And.intro ?_ ?_; (focus exact au0); conv => whnf) | (refine XS.go ?_) | (refine g_ops ?_) | ((first | refine g_nil ?_ | refine g_skip ?_); conv => whnf) | fail)
   refine ⟨i + 1, by omega, by omega, ?_, True.intro⟩
   rw [hE]
   repeat' (first | exact True.intro | refine And.intro (congrArg (D.int .i64) hw) ?_ | refine And.intro rfl ?_)
 have hi2 : i = b.fBerths.length := by
  have : ¬ i < b.fBerths.length := by simpa using hb
  omega
 subst hi2
 clear hb
 conv => whnf
 repeat' (first | (refine g_op ?_; conv => whnf) | (refine And.intro ?_ ?_; (focus exact au0); conv => whnf) | (refine g_seq ?_) | (refine XS.go ?_) | (refine g_ops ?_) | ((first | refine g_nil ?_ | refine g_ret ?_ | refine g_exit ?_ | refine r_t ?_ | refine r_nil ?_); conv => whnf) | fail)
 rfl
end Go.Ab
set_option linter.unusedSimpArgs false
set_option linter.unusedVariables false
namespace Go.Ab
open Go Go.RowKit Go.Proofs
attribute [local irreducible] XC Rdr IntKind.wrap xw xos xqs xr xd
set_option maxRecDepth 100000
set_option maxHeartbeats 16000000
def cf146 : CF := ⟨75,[.c 4 4 true],(.seq (.ops [Oo 2 (.bx (.t 0)),Oo 4 (.al (.agg [.int .i64 0,.nil,.nil,.nil]))]) (.seq (.ops [Oo 10 (.bsl (.agg [.str ⟨#[]⟩,.int .i64 0,.int .i64 0,.int .i64 0,.int .i64 0,.bool false,.str ⟨#[]⟩]) 0 []),Om 5 10]) (.seq (.seq (.ops [Ok 6 (.int .i64 0)]) (.block 0 (.loop (.seq (.seq (.ops [Om 11 6,Of 12 2 2,Ol 13 12,Og 14 13,Ob 15 .lss 11 14]) (.cond (.t 15) .skip (.exit 0))) (.seq (.block 1 (.seq (.ops [Of 18 2 2,Ol 19 18,Om 20 6,Ox 21 7 19 20,Od 22 7 21,Oo 7 (.al (.agg [.str ⟨#[]⟩,.int .i64 0,.int .i64 0,.int .i64 0,.int .i64 0,.bool false,.str ⟨#[]⟩])),Os 7 7 22]) (.seq (.seq (.ops [Of 23 5 7,Ol 24 23]) (.cond (.t 24) (.exit 1) .skip)) (.seq (.seq (.ops [Of 25 4 7,Ol 26 25,Oo 27 (.bin .eql (.t 26) (.k (.int .i64 2)))]) (.cond (.t 27) (.seq (.ops [Of 28 4 7,⟨none,.st 1 (.t 28) (.k (.int .i64 3)),none⟩]) (.ops [Om 29 1,Of 30 2 7,Os 1 30 29])) .skip)) (.ops [Om 31 5,Od 32 7 7,Oo 33 (.bsl (.agg [.str ⟨#[]⟩,.int .i64 0,.int .i64 0,.int .i64 0,.int .i64 0,.bool false,.str ⟨#[]⟩]) 1 [(0,(.t 32))]),Oo 34 (.app 7 72 (.t 31) (.t 33)),Om 5 34]))))) (.ops [Om 16 6,Oi 17 16,Om 6 17])))))) (.seq (.ops [Om 35 5,Of 36 2 2,Os 1 36 35]) (.seq (.seq (.ops [Ok 8 (.int .i64 0)]) (.block 2 (.loop (.seq (.seq (.ops [Om 37 8,Of 38 2 2,Ol 39 38,Og 40 39,Ob 41 .lss 37 40]) (.cond (.t 41) .skip (.exit 2))) (.seq (.block 3 (.seq (.ops [Od 44 4 2,Oc 45 181 [.t 44],Om 9 45]) (.seq (.ops [Of 46 2 2,Ol 47 46,Om 48 8,Ox 49 7 47 48,Of 50 4 49,Ol 51 50,Oo 52 (.bin .eql (.t 51) (.k (.int .i64 1))),Om 53 52,⟨some 54,.mv (.t 9),some (53,true)⟩,⟨some 55,.bin .neq (.t 54) (.k (.str ⟨#[]⟩)),some (53,true)⟩,Oo 56 (.pick (.t 53) (.t 55) (.k (.bool false)))]) (.cond (.t 56) (.seq (.ops [Of 57 2 2,Ol 58 57,Om 59 8,Ox 60 7 58 59,Of 61 4 60,⟨none,.st 1 (.t 61) (.k (.int .i64 2)),none⟩]) (.seq (.ops [Of 62 2 2,Ol 63 62,Om 64 8,Om 65 9,Ox 66 7 63 64,Of 67 6 66,Os 1 67 65]) (.ops [Of 68 2 2,Ol 69 68,Om 70 8,Om 71 1,Ox 72 7 69 70,Of 73 2 72,Os 1 73 71]))) .skip)))) (.ops [Om 42 8,Oi 43 42,Om 8 43])))))) (.seq (.ops [Od 74 4 2,Os 4 4 74]) .ret))))))⟩
theorem c146 : compileF Try.prog [] 146 = some cf146 := by kernel_rfl
def tickC (v : Int) (c : StewCopy) : StewCopy := if (c.fState == 2) = true then { c with fState := 3, fVersion := v } else c
def tickF (v : Int) (xs : List StewCopy) (i : Nat) : List StewCopy := ((xs.take i).filter fun c => !c.fEnding).map (tickC v)
def place1 (bs : List StewBerth) (v : Int) (xs : List StewCopy) (i : Nat) : List StewCopy := if ((xs.getD i default).fState == 1 && !((leastB bs xs).toList == (ByteArray.mk #[]).toList)) = true then xs.set i { (xs.getD i default) with fState := 2, fBerth := leastB bs xs, fVersion := v } else xs
def placeU (bs : List StewBerth) (v : Int) (xs : List StewCopy) : Nat → List StewCopy
 | 0 => xs
 | i + 1 => place1 bs v (placeU bs v xs i) i
theorem placeU_len (bs : List StewBerth) (v : Int) (xs : List StewCopy) : ∀ i, (placeU bs v xs i).length = xs.length
 | 0 => rfl
 | i + 1 => by
  rw [placeU, place1]
  split
  ·rw [List.length_set, placeU_len bs v xs i]
  ·exact placeU_len bs v xs i
def tickL (v : Int) (b : StewBook) : List StewCopy := placeU b.fBerths v (tickF v b.fCopies b.fCopies.length) (tickF v b.fCopies b.fCopies.length).length
theorem tickF_le (v : Int) (xs : List StewCopy) (i : Nat) : (tickF v xs i).length ≤ xs.length := by
 unfold tickF
 rw [List.length_map]
 exact Nat.le_trans (List.length_filter_le _ _) (by rw [List.length_take]; omega)
theorem tickF_snoc (v : Int) {xs : List StewCopy} {i : Nat} (h : i < xs.length) : tickF v xs (i + 1) = tickF v xs i ++ (if (xs.getD i default).fEnding = true then [] else [tickC v (xs.getD i default)]) := by
 have e : xs.take (i + 1) = xs.take i ++ [xs.getD i default] := by
  rw [List.take_add_one]
  simp [h]
 unfold tickF
 rw [e, List.filter_append, List.map_append]
 congr 1
 generalize xs.getD i default = x
 cases hx : x.fEnding <;> simp [hx]
theorem tickL_len (v : Int) (b : StewBook) : (tickL v b).length ≤ b.fCopies.length := by
 unfold tickL
 rw [placeU_len]
 exact tickF_le _ _ _
theorem spec_TickX (b : StewBook) (v : Int) (hs : b.small) (b1 b2 b3 c1 c2 c3 : Nat) : XC Try.prog 146 [b.O 301 302 303 b1 b2 b3 c1 c2 c3, .int .i64 v] (b.L 301 302 303 b1 b2 b3 c1 c2 c3) (KB { b with fCopies := tickL v b } 301 34 303) := by
 have l1 := hs.fServices.1
 have l2 := hs.fCopies.1
 have l3 := hs.fBerths.1
 refine XC.intro' hm [301, 34, 303] rfl c146 (Nat.le_of_ble_eq_true rfl) ?_
 conv => whnf
 repeat' (first | (refine g_op ?_; conv => whnf) | (refine And.intro ?_ ?_; (focus exact au0); conv => whnf) | (refine g_seq ?_) | (refine g_ops ?_) | ((first | refine g_nil ?_ | refine fun _ => ?_); conv => whnf) | fail)
 refine XS.freezeRB 302 [] 2 [2] rfl rfl (D.frozs_map (fun _ => rfl) _) True.intro rfl rfl rfl ⟨rfl, (List.length_map ..).symm⟩ rfl rfl ?_
 refine XS.go ?_
 conv => whnf
 repeat' (first | (refine g_op ?_; conv => whnf) | (refine And.intro ?_ ?_; (focus exact au0); conv => whnf) | (refine g_seq ?_) | (refine g_ops ?_) | (refine g_nil ?_; conv => whnf) | fail)
 refine XS.own 5 34 7 rfl fun bn => ?_
 refine XS.go ?_
 conv => whnf
 repeat' (first | (refine g_op ?_; conv => whnf) | (refine And.intro ?_ ?_; (focus exact au0); conv => whnf) | (refine g_seq ?_) | (refine XS.go ?_) | (refine g_ops ?_) | (refine g_loop ?_) | (refine g_nil ?_; conv => whnf) | (refine g_block ?_) | fail)
 refine XLc.mkA (α := Nat × Nat) (fun y => y.1 ≤ b.fCopies.length) (fun y => b.fCopies.length - y.1) (fun y gs => [.any, .int .i64 v, .lref 2 (gs 2) [] 0, .any, .lref 4 (gs 4) [] 0, .lsl 34 (gs 34) (tickF v b.fCopies y.1).length y.2, .int .i64 (y.1 : Int)]) (fun y gs => [(2, .agg [.int .i64 b.fNow, .lsl 301 (gs 301) b.fServices.length c1, .ro 7 (b.fCopies.map StewCopy.D), .lsl 303 (gs 303) b.fBerths.length c3]), (4, .agg [.int .i64 0, .nil, .nil, .nil]), (34, .arr 7 ((tickF v b.fCopies y.1).map StewCopy.D) y.2), (301, .arr 13 (b.fServices.map StewService.D) c1), (303, .arr 2 (b.fBerths.map StewBerth.D) c3)]) (0, 0) (Nat.zero_le _) ⟨?_, ?_⟩ ?_
 ·repeat' (first | exact True.intro | refine And.intro rfl ?_)
 ·exact ⟨rfl, rfl, rfl, rfl, rfl, True.intro⟩
 intro y gs hi
 obtain ⟨i, cp⟩ := y
 dsimp only at hi ⊢
 repeat' (first | (refine g_op ?_; conv => whnf) | (refine And.intro ?_ ?_; (focus exact au0); conv => whnf) | (refine g_seq ?_) | (refine XS.go ?_) | (refine g_ops ?_) | ((first | refine g_nil ?_ | refine g_cond ?_); conv => whnf) | fail)
 refine Br.mk (fun hb => ?_) (fun hb => ?_)
 ·have hlt : i < b.fCopies.length := by simpa using hb
  clear hb
  have hw : IntKind.wrap .i64 ((i : Int) + 1) = ((i + 1 : Nat) : Int) := by rw [wrap_ok (by omega) (by omega)]; rfl
  have hwr : (i : Int) < ((b.fCopies.map StewCopy.D).length : Int) := by rw [List.length_map]; omega
  have he2 : ((b.fCopies.map StewCopy.D).getD (i : Int).toNat .any) = (b.fCopies.getD i default).D := elt_map hlt
  have hsn := tickF_snoc v hlt
  have hll := tickF_le v b.fCopies i
  generalize tickF v b.fCopies i = W1 at *
  generalize b.fCopies.getD i default = x at *
  have hlX : W1.length = (W1.map StewCopy.D).length := (List.length_map ..).symm
  have hbd : ∀ d : Go.Ab.D, (W1.map StewCopy.D).length + [d].length ≤ 1073741824 := fun d => by rw [← hlX]; simp only [List.length_cons, List.length_nil]; omega
  conv => whnf
  repeat' (first | ((refine And.intro hwr ?_; conv => whnf)) | ((rw [he2]; conv => whnf)) | (refine g_op ?_; conv => whnf) | (refine And.intro ?_ ?_; (focus exact au0); conv => whnf) | (refine g_seq ?_) | (refine XS.go ?_) | (refine g_ops ?_) | ((first | refine g_nil ?_ | refine g_cond ?_ | refine g_skip ?_); conv => whnf) | (refine g_block ?_) | (refine fun _ => ?_; conv => whnf) | fail)
  refine Br.mk (fun hb => ?_) (fun hb => ?_)
  ·rw [if_pos hb, List.append_nil] at hsn
   clear hb
   conv => whnf
   repeat' (first | (refine g_op ?_; conv => whnf) | (refine And.intro ?_ ?_; (focus exact au0); conv => whnf) | (refine XS.go ?_) | (refine g_ops ?_) | ((first | refine g_nil ?_ | refine g_exit ?_); conv => whnf) | fail)
   refine ⟨(i + 1, cp), hlt, by simp only; omega, ?_, ?_⟩
   ·dsimp only
    rw [hsn]
    repeat' (first | exact True.intro | refine And.intro (congrArg (D.int .i64) hw) ?_ | refine And.intro rfl ?_)
   ·dsimp only
    rw [hsn]
    exact ⟨rfl, rfl, rfl, rfl, rfl, True.intro⟩
  ·rw [if_neg (by rw [hb]; exact Bool.false_ne_true)] at hsn
   clear hb
   conv => whnf
   repeat' (first | (refine g_op ?_; conv => whnf) | (refine And.intro ?_ ?_; (focus exact au0); conv => whnf) | (refine g_seq ?_) | (refine XS.go ?_) | (refine g_ops ?_) | ((first | refine g_nil ?_ | refine g_cond ?_ | refine g_skip ?_); conv => whnf) | fail)
   refine Br.mk (fun hb => ?_) (fun hb => ?_)
   ·have ht : tickC v x = { x with fState := 3, fVersion := v } := if_pos hb
    rw [ht] at hsn
    clear hb ht
    conv => whnf
    repeat' (first | ((refine And.intro hlX ?_; conv => whnf)) | ((refine And.intro (hbd _) ?_; conv => whnf)) | ((refine fun n1 bx cx hn1 hc1 => ?_; conv => whnf)) | (refine g_op ?_; conv => whnf) | (refine And.intro ?_ ?_; (focus exact au0); conv => whnf) | (refine g_seq ?_) | (refine XS.go ?_) | (refine g_ops ?_) | ((first | refine g_nil ?_ | refine fun _ => ?_); conv => whnf) | fail)
    have hn2 : n1 = (W1 ++ [({ x with fState := 3, fVersion := v } : StewCopy)]).length := by rw [hn1]; simp
    clear hn1
    subst hn2
    refine ⟨(i + 1, cx), hlt, by simp only; omega, ?_, ?_⟩
    ·dsimp only
     rw [hsn]
     repeat' (first | exact True.intro | refine And.intro (congrArg (D.int .i64) hw) ?_ | refine And.intro rfl ?_)
    ·dsimp only
     rw [hsn]
     exact ⟨rfl, rfl, congrArg (fun l => some (D.arr 7 l cx)) (by rw [List.map_append]; rfl), rfl, rfl, True.intro⟩
   ·have ht : tickC v x = x := if_neg (by rw [hb]; exact Bool.false_ne_true)
    rw [ht] at hsn
    clear hb ht
    conv => whnf
    repeat' (first | ((refine And.intro hlX ?_; conv => whnf)) | ((refine And.intro (hbd _) ?_; conv => whnf)) | ((refine fun n1 bx cx hn1 hc1 => ?_; conv => whnf)) | (refine g_op ?_; conv => whnf) | (refine And.intro ?_ ?_; (focus exact au0); conv => whnf) | (refine XS.go ?_) | (refine g_ops ?_) | ((first | refine g_nil ?_ | refine g_skip ?_ | refine fun _ => ?_); conv => whnf) | fail)
    have hn2 : n1 = (W1 ++ [x]).length := by rw [hn1]; simp
    clear hn1
    subst hn2
    refine ⟨(i + 1, cx), hlt, by simp only; omega, ?_, ?_⟩
    ·dsimp only
     rw [hsn]
     repeat' (first | exact True.intro | refine And.intro (congrArg (D.int .i64) hw) ?_ | refine And.intro rfl ?_)
    ·dsimp only
     rw [hsn]
     exact ⟨rfl, rfl, congrArg (fun l => some (D.arr 7 l cx)) (by rw [List.map_append]; rfl), rfl, rfl, True.intro⟩
 have hi2 : i = b.fCopies.length := by
  have : ¬ i < b.fCopies.length := by simpa using hb
  omega
 subst hi2
 clear hb
 have hT := tickF_le v b.fCopies b.fCopies.length
 have hTe : tickL v b = placeU b.fBerths v (tickF v b.fCopies b.fCopies.length) (tickF v b.fCopies b.fCopies.length).length := rfl
 rw [hTe]
 clear hTe
 generalize tickF v b.fCopies b.fCopies.length = T0 at *
 conv => whnf
 repeat' (first | (refine g_op ?_; conv => whnf) | (refine And.intro ?_ ?_; (focus exact au0); conv => whnf) | (refine g_seq ?_) | (refine XS.go ?_) | (refine g_ops ?_) | (refine g_loop ?_) | ((first | refine g_nil ?_ | refine g_exit ?_); conv => whnf) | (refine g_block ?_) | fail)
 refine XLc.mkA (α := Nat) (fun i => i ≤ T0.length) (fun i => T0.length - i) (fun i gs => [.any, .int .i64 v, .lref 2 (gs 2) [] 0, .any, .lref 4 (gs 4) [] 0, .any, .any, .any, .int .i64 (i : Int)]) (fun i gs => [(2, .agg [.int .i64 b.fNow, .lsl 301 (gs 301) b.fServices.length c1, .lsl 34 (gs 34) (placeU b.fBerths v T0 i).length cp, .lsl 303 (gs 303) b.fBerths.length c3]), (4, .agg [.int .i64 0, .nil, .nil, .nil]), (34, .arr 7 ((placeU b.fBerths v T0 i).map StewCopy.D) cp), (301, .arr 13 (b.fServices.map StewService.D) c1), (303, .arr 2 (b.fBerths.map StewBerth.D) c3)]) 0 (Nat.zero_le _) ⟨?_, ?_⟩ ?_
 ·repeat' (first | exact True.intro | refine And.intro rfl ?_)
 ·exact ⟨rfl, rfl, rfl, rfl, rfl, True.intro⟩
 intro i gs hi
 have hPl := placeU_len b.fBerths v T0 i
 have hp1 : placeU b.fBerths v T0 (i + 1) = place1 b.fBerths v (placeU b.fBerths v T0 i) i := rfl
 generalize hP : placeU b.fBerths v T0 i = P at *
 repeat' (first | (refine g_op ?_; conv => whnf) | (refine And.intro ?_ ?_; (focus exact au0); conv => whnf) | (refine g_seq ?_) | (refine XS.go ?_) | (refine g_ops ?_) | ((first | refine g_nil ?_ | refine g_cond ?_); conv => whnf) | fail)
 refine Br.mk (fun hb => ?_) (fun hb => ?_)
 ·have hlt : i < T0.length := by rw [← hPl]; simpa using hb
  clear hb
  have hw : IntKind.wrap .i64 ((i : Int) + 1) = ((i + 1 : Nat) : Int) := by rw [wrap_ok (by omega) (by omega)]; rfl
  have hle := spec_Least { b with fCopies := P } l3 (by show P.length ≤ _; omega)
  have hj0 : i < (P.map StewCopy.D).length := by rw [List.length_map]; omega
  have he0 : (P.map StewCopy.D).getD i .any = (P.getD i default).D := elt_map (by omega)
  dsimp only at hle
  unfold place1 at hp1
  generalize leastB b.fBerths P = L at *
  generalize P.getD i default = x at *
  conv => whnf
  repeat' (first | ((refine RC.ofB hle (.cons (Bor.bookO (x := { b with fCopies := P }) rfl rfl rfl rfl rfl rfl) .nil) rfl ?_; conv => whnf)) | (refine z_ld1 ?_; first | (refine z_ld rfl rfl rfl rfl au1 au2 ?_; conv => whnf) | (refine z_ld0 rfl ?_; conv => whnf)) | (refine z_ix1 ?_; first | (refine z_ix rfl rfl rfl rfl rfl ⟨by first | omega | (simp only [decide_eq_true_eq, Bool.not_eq_true', Bool.or_eq_false_iff, decide_eq_false_iff_not, Bool.and_eq_true, Bool.not_eq_false'] at *; omega), by first | omega | (simp only [decide_eq_true_eq, Bool.not_eq_true', Bool.or_eq_false_iff, decide_eq_false_iff_not, Bool.and_eq_true, Bool.not_eq_false'] at *; omega)⟩ ?_; conv => whnf) | (refine z_ix0 rfl rfl ?_; conv => whnf)) | (refine z_op ?_ ?_; (focus exact rfl); conv => whnf) | (refine z_opg0 ?_; (conv => whnf); refine And.intro ?_ ?_; (focus exact rfl); conv => whnf) | (refine z_pick ?_ ?_; (focus exact rfl); conv => whnf) | (refine zs_ops ?_ ?_; (focus exact rfl)) | (refine z_nil fun vals => ?_; conv => whnf) | (refine z_call ?_ ?_; (focus exact rfl)) | (refine And.intro ?_ ?_; (focus exact au0); conv => whnf) | (refine g_seq ?_) | (refine XS.go ?_) | ((first | refine g_cond ?_ | refine g_skip ?_); conv => whnf) | (refine g_block ?_) | fail)
  refine Br.mk (fun hb => ?_) (fun hb => ?_)
  ·rw [if_pos hb] at hp1
   clear hb
   conv => whnf
   repeat' (first | (refine z_ld1 ?_; first | (refine z_ld rfl rfl rfl rfl au1 au2 ?_; conv => whnf) | (refine z_ld0 rfl ?_; conv => whnf)) | (refine z_st1 ?_; first | (refine z_st rfl rfl rfl au1 au2 rfl rfl ?_; conv => whnf) | (refine z_st0 ?_; conv => whnf)) | (refine z_ix1 ?_; first | (refine z_ix rfl rfl rfl rfl rfl ⟨by first | omega | (simp only [decide_eq_true_eq, Bool.not_eq_true', Bool.or_eq_false_iff, decide_eq_false_iff_not, Bool.and_eq_true, Bool.not_eq_false'] at *; omega), by first | omega | (simp only [decide_eq_true_eq, Bool.not_eq_true', Bool.or_eq_false_iff, decide_eq_false_iff_not, Bool.and_eq_true, Bool.not_eq_false'] at *; omega)⟩ ?_; conv => whnf) | (refine z_ix0 rfl rfl ?_; conv => whnf)) | (refine z_op ?_ ?_; (focus exact rfl); conv => whnf) | (refine zs_ops ?_ ?_; (focus exact rfl)) | ((first | refine z_nil fun vals => ?_ | refine g_op ?_); conv => whnf) | (refine And.intro ?_ ?_; (focus exact au0); conv => whnf) | (refine g_seq ?_) | (refine XS.go ?_) | (refine g_ops ?_) | (refine g_nil ?_; conv => whnf) | fail)
   refine ⟨i + 1, hlt, by omega, ?_, ?_⟩
   ·repeat' (first | exact True.intro | refine And.intro (congrArg (D.int .i64) hw) ?_ | refine And.intro rfl ?_)
   ·rw [hp1]
    exact ⟨congrArg (fun n => some (D.agg [.int .i64 b.fNow, .lsl 301 (gs 301) b.fServices.length c1, .lsl 34 (gs 34) n cp, .lsl 303 (gs 303) b.fBerths.length c3])) (List.length_set ..).symm, rfl, congrArg (fun l => some (D.arr 7 l cp)) (by simp only [List.set_set]; rw [List.map_set]; rfl), rfl, rfl, True.intro⟩
  ·rw [if_neg (by rw [hb]; exact Bool.false_ne_true)] at hp1
   clear hb
   conv => whnf
   repeat' (first | (refine g_op ?_; conv => whnf) | (refine And.intro ?_ ?_; (focus exact au0); conv => whnf) | (refine XS.go ?_) | (refine g_ops ?_) | ((first | refine g_nil ?_ | refine g_skip ?_); conv => whnf) | fail)
   refine ⟨i + 1, hlt, by omega, ?_, ?_⟩
   ·repeat' (first | exact True.intro | refine And.intro (congrArg (D.int .i64) hw) ?_ | refine And.intro rfl ?_)
   ·rw [hp1]
    exact ⟨rfl, rfl, rfl, rfl, rfl, True.intro⟩
 have hi2 : i = T0.length := by
  have : ¬ i < T0.length := by rw [← hPl]; simpa using hb
  omega
 subst hi2
 clear hb hp1
 conv => whnf
 repeat' (first | (refine g_op ?_; conv => whnf) | (refine And.intro ?_ ?_; (focus exact au0); conv => whnf) | (refine g_seq ?_) | (refine XS.go ?_) | (refine g_ops ?_) | ((first | refine g_nil ?_ | refine g_ret ?_ | refine g_exit ?_ | refine r_c ?_ | refine r_nil ?_); conv => whnf) | fail)
 rw [hP]
 exact ⟨_, _, _, c1, cp, c3, rfl, rfl⟩
end Go.Ab
set_option linter.unusedSimpArgs false
set_option linter.unusedVariables false
namespace Go.Ab
open Go Go.RowKit Go.Proofs
attribute [local irreducible] XC Rdr IntKind.wrap xw xos xqs xr xd
set_option maxRecDepth 100000
set_option maxHeartbeats 16000000
def cf148 : CF := ⟨58,[.c 6 4 true],(.seq (.ops [Oo 3 (.bx (.t 0)),Oo 6 (.al (.agg [.int .i64 0,.nil,.nil,.nil]))]) (.seq (.ops [Ok 7 (.int .i64 0)]) (.seq (.block 0 (.loop (.seq (.seq (.ops [Om 9 7,Of 10 3 3,Ol 11 10,Og 12 11,Ob 13 .lss 9 12,Om 14 13,⟨some 15,.fa 3 1 3 (.t 3),some (14,true)⟩,⟨some 16,.ld 1 false (.t 15),some (14,true)⟩,⟨some 17,.mv (.t 7),some (14,true)⟩,⟨some 18,.ix 2 (.t 16) (.t 17),some (14,true)⟩,⟨some 19,.fa 0 1 0 (.t 18),some (14,true)⟩,⟨some 20,.ld 1 false (.t 19),some (14,true)⟩,⟨some 21,.mv (.t 1),some (14,true)⟩,⟨some 22,.bin .lss (.t 20) (.t 21),some (14,true)⟩,Oo 23 (.pick (.t 14) (.t 22) (.k (.bool false)))]) (.cond (.t 23) .skip (.exit 0))) (.block 1 (.ops [Om 24 7,Oi 25 24,Om 7 25]))))) (.seq (.ops [Of 26 3 3,Ol 27 26,Om 28 7,Oo 29 (.slc 2 false (.t 27) (some (.t 28)) none),Om 8 29]) (.seq (.seq (.ops [Om 30 8,Og 31 30,Oo 32 (.bin .gtr (.t 31) (.k (.int .i64 0))),Om 33 32,⟨some 34,.mv (.t 8),some (33,true)⟩,⟨some 35,.ix 2 (.t 34) (.k (.int .i64 0)),some (33,true)⟩,⟨some 36,.fa 0 1 0 (.t 35),some (33,true)⟩,⟨some 37,.ld 1 false (.t 36),some (33,true)⟩,⟨some 38,.mv (.t 1),some (33,true)⟩,⟨some 39,.bin .eql (.t 37) (.t 38),some (33,true)⟩,Oo 40 (.pick (.t 33) (.t 39) (.k (.bool false)))]) (.cond (.t 40) (.ops [Om 41 8,Oo 42 (.slc 2 false (.t 41) (some (.k (.int .i64 1))) none),Om 8 42]) .skip)) (.seq (.ops [Oo 43 (.bsl (.agg [.str ⟨#[]⟩,.bool false]) 0 []),Of 44 3 3,Ol 45 44,Om 46 7,Oo 47 (.slc 2 false (.t 45) none (some (.t 46))),Oo 48 (.app 2 24 (.t 43) (.t 47)),Om 49 1,Om 50 2,Oo 51 (.bld (.agg [.str ⟨#[]⟩,.bool false]) [(0,0,1,(.t 49)),(1,1,1,(.t 50))]),Oo 52 (.bsl (.agg [.str ⟨#[]⟩,.bool false]) 1 [(0,(.t 51))]),Oo 53 (.app 2 24 (.t 48) (.t 52)),Om 54 8,Oo 55 (.app 2 24 (.t 53) (.t 54)),Of 56 3 3,Os 1 56 55]) (.seq (.ops [Od 57 4 3,Os 4 6 57]) .ret)))))))⟩
theorem c148 : compileF Try.prog [] 148 = some cf148 := by kernel_rfl
def cf147 : CF := ⟨67,[.c 6 4 true],(.seq (.ops [Oo 3 (.bx (.t 0)),Oo 4 (.bx (.t 1)),Oo 6 (.al (.agg [.int .i64 0,.nil,.nil,.nil]))]) (.seq (.ops [Ok 7 (.int .i64 0)]) (.seq (.block 0 (.loop (.seq (.seq (.quiet [Om 9 7,Of 10 1 3,Ol 11 10,Og 12 11,Ob 13 .lss 9 12,Om 14 13,⟨some 15,.fa 1 1 1 (.t 3),some (14,true)⟩,⟨some 16,.ld 1 false (.t 15),some (14,true)⟩,⟨some 17,.mv (.t 7),some (14,true)⟩,⟨some 18,.ix 13 (.t 16) (.t 17),some (14,true)⟩,⟨some 19,.fa 0 1 0 (.t 18),some (14,true)⟩,⟨some 20,.ld 1 false (.t 19),some (14,true)⟩,⟨some 21,.fa 0 1 0 (.t 4),some (14,true)⟩,⟨some 22,.ld 1 false (.t 21),some (14,true)⟩,⟨some 23,.bin .lss (.t 20) (.t 22),some (14,true)⟩,Oo 24 (.pick (.t 14) (.t 23) (.k (.bool false)))]) (.cond (.t 24) .skip (.exit 0))) (.block 1 (.ops [Om 25 7,Oi 26 25,Om 7 26]))))) (.seq (.ops [Om 27 2,Of 28 1 4,Os 1 28 27]) (.seq (.ops [Of 29 12 4,⟨none,.st 1 (.t 29) (.k (.int .i64 0)),none⟩]) (.seq (.ops [Of 30 1 3,Ol 31 30,Om 32 7,Oo 33 (.slc 13 false (.t 31) (some (.t 32)) none),Om 8 33]) (.seq (.ops [Of 34 7 4,⟨none,.st 1 (.t 34) (.k (.int .i64 1)),none⟩]) (.seq (.seq (.quiet [Om 35 8,Og 36 35,Oo 37 (.bin .gtr (.t 36) (.k (.int .i64 0))),Om 38 37,⟨some 39,.mv (.t 8),some (38,true)⟩,⟨some 40,.ix 13 (.t 39) (.k (.int .i64 0)),some (38,true)⟩,⟨some 41,.fa 0 1 0 (.t 40),some (38,true)⟩,⟨some 42,.ld 1 false (.t 41),some (38,true)⟩,⟨some 43,.fa 0 1 0 (.t 4),some (38,true)⟩,⟨some 44,.ld 1 false (.t 43),some (38,true)⟩,⟨some 45,.bin .eql (.t 42) (.t 44),some (38,true)⟩,Oo 46 (.pick (.t 38) (.t 45) (.k (.bool false)))]) (.cond (.t 46) (.seq (.ops [Om 47 8,Oo 48 (.ix 13 (.t 47) (.k (.int .i64 0))),Of 49 7 48,Ol 50 49,Of 51 7 4,Os 1 51 50]) (.ops [Om 52 8,Oo 53 (.slc 13 false (.t 52) (some (.k (.int .i64 1))) none),Om 8 53])) .skip)) (.seq (.drawn [Qo 54 (.bsl (.agg [.str ⟨#[]⟩,.int .i64 0,.bool false,.int .i64 0,.int .i64 0,.int .i64 0,.int .i64 0,.int .i64 0,.int .i64 0,.int .i64 0,.int .i64 0,.int .i64 0,.int .i64 0]) 0 []),Qf 55 1 3,Ql 56 55,Qm 57 7,Qo 58 (.slc 13 false (.t 56) none (some (.t 57))),Qd 60 13 4,Qo 61 (.bsl (.agg [.str ⟨#[]⟩,.int .i64 0,.bool false,.int .i64 0,.int .i64 0,.int .i64 0,.int .i64 0,.int .i64 0,.int .i64 0,.int .i64 0,.int .i64 0,.int .i64 0,.int .i64 0]) 1 [(0,(.t 60))]),Qm 63 8,(Oo 59 (.app 13 112 (.t 54) (.t 58)),true,[(.t 4)]),(Oo 62 (.app 13 112 (.t 59) (.t 61)),true,[]),(Oo 64 (.app 13 112 (.t 62) (.t 63)),true,[]),Qf 65 1 3,Qs 1 65 64]) (.seq (.ops [Od 66 4 3,Os 4 6 66]) .ret))))))))))⟩
theorem c147 : compileF Try.prog [] 147 = some cf147 := by kernel_rfl
def pI (f : Nat → Bool) (n : Nat) : Nat := if idxN f n 0 < 0 then n else (idxN f n 0).toNat
theorem pI_hit {f : Nat → Bool} {n i : Nat} (h : idxN f n 0 = (i : Int)) : pI f n = i := by
 unfold pI
 rw [h, if_neg (by omega)]
 omega
theorem pI_end {f : Nat → Bool} {n : Nat} (h : idxN f n 0 = -1) : pI f n = n := by
 unfold pI
 rw [h, if_pos (by omega)]
theorem pI_le (f : Nat → Bool) (n : Nat) : pI f n ≤ n := by
 unfold pI
 rcases idxN_cases (f := f) (k := n) (i := 0) with ⟨h1, _⟩ | ⟨j, h1, _, h3, _⟩
 ·rw [h1, if_pos (by omega)]
  exact Nat.le_refl _
 ·rw [h1, if_neg (by omega)]
  omega
def berP (bs : List StewBerth) (nm : ByteArray) (i : Nat) : Bool := !Op.bytesLess (bs.getD i default).fName.toList nm.toList
def berK (bs : List StewBerth) (nm : ByteArray) : Nat := pI (berP bs nm) bs.length
def berS (bs : List StewBerth) (nm : ByteArray) : Bool := decide (berK bs nm < bs.length) && (bs.getD (berK bs nm) default).fName.toList == nm.toList
def berT (bs : List StewBerth) (nm : ByteArray) : List StewBerth := if berS bs nm = true then bs.drop (berK bs nm + 1) else bs.drop (berK bs nm)
def raiseL (bs : List StewBerth) (nm : ByteArray) (dr : Bool) : List StewBerth := bs.take (berK bs nm) ++ ⟨nm, dr⟩ :: berT bs nm
def svcP (ss : List StewService) (nm : ByteArray) (i : Nat) : Bool := !Op.bytesLess (ss.getD i default).fName.toList nm.toList
def svcK (ss : List StewService) (nm : ByteArray) : Nat := pI (svcP ss nm) ss.length
def svcS (ss : List StewService) (nm : ByteArray) : Bool := decide (svcK ss nm < ss.length) && (ss.getD (svcK ss nm) default).fName.toList == nm.toList
def svcT (ss : List StewService) (nm : ByteArray) : List StewService := if svcS ss nm = true then ss.drop (svcK ss nm + 1) else ss.drop (svcK ss nm)
def wishS (ss : List StewService) (w : StewService) (v : Int) : StewService := { w with fVersion := v, fCool := 0, fNext := if svcS ss w.fName = true then (ss.getD (svcK ss w.fName) default).fNext else 1 }
def wishL (ss : List StewService) (w : StewService) (v : Int) : List StewService := ss.take (svcK ss w.fName) ++ wishS ss w v :: svcT ss w.fName
theorem spec_RaiseX (b : StewBook) (nm : ByteArray) (dr : Bool) (hs : b.small) (b1 b2 b3 c1 c2 c3 : Nat) : XC Try.prog 148 [b.O 301 302 303 b1 b2 b3 c1 c2 c3, .str nm, .bool dr] (b.L 301 302 303 b1 b2 b3 c1 c2 c3) (KB { b with fBerths := raiseL b.fBerths nm dr } 301 302 55) := by
 have l1 := hs.fServices.1
 have l2 := hs.fCopies.1
 have l3 := hs.fBerths.1
 refine XC.intro' hm [301, 302, 55] rfl c148 (Nat.le_of_ble_eq_true rfl) ?_
 conv => whnf
 repeat' (first | (refine g_op ?_; conv => whnf) | (refine And.intro ?_ ?_; (focus exact au0); conv => whnf) | (refine g_seq ?_) | (refine g_ops ?_) | ((first | refine g_nil ?_ | refine fun _ => ?_); conv => whnf) | fail)
 refine XS.freezeRB 303 [] 3 [3] rfl rfl (D.frozs_map (fun _ => rfl) _) True.intro rfl rfl rfl ⟨rfl, (List.length_map ..).symm⟩ rfl rfl ?_
 refine XS.go ?_
 conv => whnf
 repeat' (first | (refine g_op ?_; conv => whnf) | (refine And.intro ?_ ?_; (focus exact au0); conv => whnf) | (refine g_seq ?_) | (refine XS.go ?_) | (refine g_ops ?_) | (refine g_loop ?_) | (refine g_nil ?_; conv => whnf) | (refine g_block ?_) | fail)
 refine XLc.mkA (α := Nat) (fun i => i ≤ b.fBerths.length ∧ idxN (berP b.fBerths nm) b.fBerths.length 0 = idxN (berP b.fBerths nm) (b.fBerths.length - i) i) (fun i => b.fBerths.length - i) (fun i gs => [.any, .str nm, .bool dr, .lref 3 (gs 3) [] 0, .any, .any, .lref 6 (gs 6) [] 0, .int .i64 (i : Int)]) (fun i gs => [(3, .agg [.int .i64 b.fNow, .lsl 301 (gs 301) b.fServices.length c1, .lsl 302 (gs 302) b.fCopies.length c2, .ro 2 (b.fBerths.map StewBerth.D)]), (6, .agg [.int .i64 0, .nil, .nil, .nil]), (301, .arr 13 (b.fServices.map StewService.D) c1), (302, .arr 7 (b.fCopies.map StewCopy.D) c2)]) 0 ⟨Nat.zero_le _, rfl⟩ ⟨?_, ?_⟩ ?_
 ·repeat' (first | exact True.intro | refine And.intro rfl ?_)
 ·exact ⟨rfl, rfl, rfl, rfl, True.intro⟩
 intro i gs hI
 obtain ⟨hi, hN⟩ := hI
 have hlm : (b.fBerths.map StewBerth.D).length = b.fBerths.length := List.length_map ..
 repeat' (first | (refine z_ld1 ?_; first | (refine z_ld rfl rfl rfl rfl au1 au2 ?_; conv => whnf) | (refine z_ld0 rfl ?_; conv => whnf)) | (refine z_ld1g ?_; first | (refine z_ldg rfl rfl rfl rfl rfl rfl rfl (by (repeat intro _); exact ⟨au1, au2⟩) rfl rfl rfl rfl ?_; conv => whnf) | (refine z_ld0g ?_; (conv => whnf); refine And.intro ?_ ?_; (focus exact rfl); conv => whnf)) | (refine z_ix1g ?_; refine z_ixg rfl rfl rfl rfl rfl rfl rfl (by (repeat intro _); refine ⟨?_, ?_⟩ <;> first | omega | (simp only [decide_eq_true_eq, Bool.not_eq_true', Bool.or_eq_false_iff, decide_eq_false_iff_not, Bool.and_eq_true, Bool.not_eq_false'] at *; omega)) ?_) | (refine z_op ?_ ?_; (focus exact rfl); conv => whnf) | (refine z_opg0 ?_; (conv => whnf); refine And.intro ?_ ?_; (focus exact rfl); conv => whnf) | (refine z_pick ?_ ?_; (focus exact rfl); conv => whnf) | (refine zs_ops ?_ ?_; (focus exact rfl)) | (refine z_nil fun vals => ?_; conv => whnf) | (refine And.intro ?_ ?_; (focus exact au0); conv => whnf) | (refine g_seq ?_) | (refine XS.go ?_) | (refine g_cond ?_; conv => whnf) | fail)
 refine Br.mk (fun hb => ?_) (fun hb => ?_)
 ·have hlt : i < b.fBerths.length := by simp at hb; omega
  have hf : berP b.fBerths nm i = false := by
   simp only [Bool.and_eq_true] at hb
   unfold berP
   rw [show Op.bytesLess (b.fBerths.getD i default).fName.toList (nm).toList = true from hb.2]
   rfl
  have miss := idxN_miss (f := berP b.fBerths nm) hlt hN hf
  clear hb
  have hw : IntKind.wrap .i64 ((i : Int) + 1) = ((i + 1 : Nat) : Int) := by rw [wrap_ok (by omega) (by omega)]; rfl
  conv => whnf
  repeat' (first | (refine g_op ?_; conv => whnf) | (refine And.intro ?_ ?_; (focus exact au0); conv => whnf) | (refine XS.go ?_) | (refine g_ops ?_) | ((first | refine g_nil ?_ | refine g_skip ?_); conv => whnf) | (refine g_block ?_) | fail)
  refine ⟨i + 1, ⟨by omega, miss⟩, by omega, ?_, ?_⟩
  ·repeat' (first | exact True.intro | refine And.intro (congrArg (D.int .i64) hw) ?_ | refine And.intro rfl ?_)
  ·exact ⟨rfl, rfl, rfl, rfl, True.intro⟩
 have hk : berK b.fBerths nm = i := by
  unfold berK
  by_cases hlt : i < b.fBerths.length
  ·refine pI_hit (idxN_hit (f := berP b.fBerths nm) hlt hN ?_)
   unfold berP
   have q : Op.bytesLess (b.fBerths.getD i default).fName.toList (nm).toList = false := by
    have q := hb
    simp only [Bool.and_eq_false_iff, decide_eq_false_iff_not] at q
    rcases q with q | q
    ·exact absurd (by rw [hlm]; exact_mod_cast hlt) q
    ·exact q
   rw [q]
   rfl
  ·have e : i = b.fBerths.length := by omega
   rw [pI_end (by rw [hN]; exact idxN_end hlt), e]
 clear hb hN
 have hK1 : ∃ k, k = berK b.fBerths nm := ⟨_, rfl⟩
 have h1 : ((i : Nat) : Int) ≤ ((b.fBerths.map StewBerth.D).length : Int) := by omega
 have h1b : ((b.fBerths.map StewBerth.D).length : Int) ≤ ((b.fBerths.map StewBerth.D).length : Int) := Int.le_refl _
 have hsl : ((b.fBerths.map StewBerth.D).drop ((i : Nat) : Int).toNat).take (((b.fBerths.map StewBerth.D).length : Int) - ((i : Nat) : Int)).toNat = (b.fBerths.drop i).map StewBerth.D := by
  have e : ((i : Nat) : Int).toNat = i := by omega
  rw [e, List.take_of_length_le (by rw [List.length_drop]; omega), List.map_drop]
 have hpre : ((b.fBerths.map StewBerth.D).drop (0 : Int).toNat).take (((i : Nat) : Int) - 0).toNat = (b.fBerths.take i).map StewBerth.D := by
  have e : (((i : Nat) : Int) - 0).toNat = i := by omega
  rw [e, List.map_take]
  rfl
 have e1 : decide (0 < (b.fBerths.drop i).length) = decide (i < b.fBerths.length) := by rw [List.length_drop]; exact decide_eq_decide.2 (by omega)
 have e2 : (b.fBerths.drop i).getD 0 default = b.fBerths.getD i default := by simp [List.getD_eq_getElem?_getD, List.getElem?_drop]
 have hS : berS b.fBerths nm = (decide (0 < (b.fBerths.drop i).length) && ((b.fBerths.drop i).getD 0 default).fName.toList == (nm).toList) := by
  unfold berS
  rw [hk, e1, e2]
 have hp0 : berT b.fBerths nm = if berS b.fBerths nm = true then (b.fBerths.drop i).drop 1 else b.fBerths.drop i := by
  unfold berT
  rw [hk, List.drop_drop]
 have hN0 : b.fBerths.getD (berK b.fBerths nm) default = (b.fBerths.drop i).getD 0 default := by rw [hk, e2]
 have hRl : (b.fBerths.drop i).length ≤ 1048576 := by rw [List.length_drop]; omega
 clear e1 e2 hK1
 conv => whnf
 repeat' (first | (refine g_exit ?_; conv => whnf) | fail)
 refine XS.go ?_
 conv => whnf
 repeat' (first | ((refine And.intro h1 ?_; conv => whnf)) | ((refine And.intro h1b ?_; conv => whnf)) | (refine z_ld1 ?_; first | (refine z_ld rfl rfl rfl rfl au1 au2 ?_; conv => whnf) | (refine z_ld0 rfl ?_; conv => whnf)) | (refine z_op ?_ ?_; (focus exact rfl); conv => whnf) | (refine zs_ops ?_ ?_; (focus exact rfl)) | (refine z_nil fun vals => ?_; conv => whnf) | (refine And.intro ?_ ?_; (focus exact au0); conv => whnf) | (refine g_seq ?_) | fail)
 refine XS.weakenA (fs := [.any, .str nm, .bool dr, .lref 3 (gs 3) [] 0, .any, .any, .lref 6 (gs 6) [] 0, .int .i64 (i : Int), .ro 2 ((b.fBerths.drop i).map StewBerth.D)]) (ls := [(3, .agg [.int .i64 b.fNow, .lsl 301 (gs 301) b.fServices.length c1, .lsl 302 (gs 302) b.fCopies.length c2, .ro 2 (b.fBerths.map StewBerth.D)]), (6, .agg [.int .i64 0, .nil, .nil, .nil]), (301, .arr 13 (b.fServices.map StewService.D) c1), (302, .arr 7 (b.fCopies.map StewCopy.D) c2)]) ⟨?_, ?_⟩ ?_
 ·repeat' (first | exact True.intro | refine And.intro rfl ?_ | refine And.intro (congrArg (D.ro 2) hsl) ?_)
 ·exact ⟨rfl, rfl, rfl, rfl, True.intro⟩
 generalize hR : b.fBerths.drop i = R at *
 have hlR : (R.map StewBerth.D).length = R.length := List.length_map ..
 refine XS.go ?_
 conv => whnf
 repeat' (first | (refine z_ld1g ?_; first | (refine z_ldg rfl rfl rfl rfl rfl rfl rfl (by (repeat intro _); exact ⟨au1, au2⟩) rfl rfl rfl rfl ?_; conv => whnf) | (refine z_ld0g ?_; (conv => whnf); refine And.intro ?_ ?_; (focus exact rfl); conv => whnf)) | (refine z_ix1g ?_; refine z_ixg rfl rfl rfl rfl rfl rfl rfl (by (repeat intro _); refine ⟨?_, ?_⟩ <;> first | omega | (simp only [decide_eq_true_eq, Bool.not_eq_true', Bool.or_eq_false_iff, decide_eq_false_iff_not, Bool.and_eq_true, Bool.not_eq_false'] at *; omega)) ?_) | (refine z_op ?_ ?_; (focus exact rfl); conv => whnf) | (refine z_opg0 ?_; (conv => whnf); refine And.intro ?_ ?_; (focus exact rfl); conv => whnf) | (refine z_pick ?_ ?_; (focus exact rfl); conv => whnf) | (refine zs_ops ?_ ?_; (focus exact rfl)) | (refine z_nil fun vals => ?_; conv => whnf) | (refine And.intro ?_ ?_; (focus exact au0); conv => whnf) | (refine g_seq ?_) | (refine XS.go ?_) | (refine g_cond ?_; conv => whnf) | fail)
 refine Br.mk (fun hb => ?_) (fun hb => ?_)
 ·have hR0 : 0 < R.length := by
   have q := hb
   simp at q
   exact q.1
  have hq : (R.getD 0 default).fName.toList = (nm).toList := by
   have q := hb
   simp only [Bool.and_eq_true] at q
   exact beq_iff_eq.1 q.2
  clear hb
  have hSt : berS b.fBerths nm = true := by rw [hS]; simp only [Bool.and_eq_true, decide_eq_true_eq, beq_iff_eq]; exact ⟨hR0, hq⟩
  rw [if_pos hSt] at hp0
  have k1 : (1 : Int) ≤ ((R.map StewBerth.D).length : Int) := by omega
  have k2 : ((R.map StewBerth.D).length : Int) ≤ ((R.map StewBerth.D).length : Int) := Int.le_refl _
  have hTl : (berT b.fBerths nm).length ≤ 1048576 := by rw [hp0, List.length_drop]; omega
  have hT : ((R.map StewBerth.D).drop (1 : Int).toNat).take (((R.map StewBerth.D).length : Int) - 1).toNat = (berT b.fBerths nm).map StewBerth.D := by
   rw [hp0, List.map_drop]
   exact List.take_of_length_le (by rw [List.length_drop]; omega)
  conv => whnf
  repeat' (first | ((refine And.intro k1 ?_; conv => whnf)) | ((refine And.intro k2 ?_; conv => whnf)) | (refine g_op ?_; conv => whnf) | (refine And.intro ?_ ?_; (focus exact au0); conv => whnf) | (refine g_ops ?_) | (refine g_nil ?_; conv => whnf) | fail)
  refine XS.weakenA (fs := [.any, .str nm, .bool dr, .lref 3 (gs 3) [] 0, .any, .any, .lref 6 (gs 6) [] 0, .int .i64 (i : Int), .ro 2 ((berT b.fBerths nm).map StewBerth.D)]) (ls := [(3, .agg [.int .i64 b.fNow, .lsl 301 (gs 301) b.fServices.length c1, .lsl 302 (gs 302) b.fCopies.length c2, .ro 2 (b.fBerths.map StewBerth.D)]), (6, .agg [.int .i64 0, .nil, .nil, .nil]), (301, .arr 13 (b.fServices.map StewService.D) c1), (302, .arr 7 (b.fCopies.map StewCopy.D) c2)]) ⟨?_, ?_⟩ ?_
  ·repeat' (first | exact True.intro | refine And.intro rfl ?_ | refine And.intro (congrArg (D.ro 2) hT) ?_)
  ·exact ⟨rfl, rfl, rfl, rfl, True.intro⟩
  clear hT hp0 hR k1 k2 hlR hS
  have t1 : ([] : List Go.Ab.D).length + (((b.fBerths.map StewBerth.D).drop (0 : Int).toNat).take (((i : Nat) : Int) - 0).toNat).length ≤ 1073741824 := by rw [hpre, List.length_map, List.length_take]; simp only [List.length_nil]; omega
  have t2 : ∀ d : Go.Ab.D, ([] ++ ((b.fBerths.map StewBerth.D).drop (0 : Int).toNat).take (((i : Nat) : Int) - 0).toNat).length + [d].length ≤ 1073741824 := fun d => by rw [List.nil_append, hpre, List.length_map, List.length_take]; simp only [List.length_cons, List.length_nil]; omega
  have t3 : ∀ d : Go.Ab.D, (([] ++ ((b.fBerths.map StewBerth.D).drop (0 : Int).toNat).take (((i : Nat) : Int) - 0).toNat) ++ [d]).length + ((berT b.fBerths nm).map StewBerth.D).length ≤ 1073741824 := fun d => by rw [List.nil_append, hpre, List.length_append, List.length_map, List.length_map, List.length_take]; simp only [List.length_cons, List.length_nil]; omega
  refine XS.go ?_
  conv => whnf
  repeat' (first | ((refine And.intro h1 ?_; conv => whnf)) | ((refine And.intro t1 ?_; conv => whnf)) | ((refine And.intro (t2 _) ?_; conv => whnf)) | ((refine And.intro (t3 _) ?_; conv => whnf)) | ((refine fun n1 bx cx hn1 hc1 => ?_; subst hn1; conv => whnf)) | ((refine And.intro (List.length_append ..).symm ?_; conv => whnf)) | (refine g_op ?_; conv => whnf) | (refine And.intro ?_ ?_; (focus exact au0); conv => whnf) | (refine g_seq ?_) | (refine g_ops ?_) | ((first | refine g_nil ?_ | refine fun _ => ?_); conv => whnf) | fail)
  rename_i bx cx _
  have hLst : ([] ++ ((b.fBerths.map StewBerth.D).drop (0 : Int).toNat).take (((i : Nat) : Int) - 0).toNat) ++ [(⟨nm, dr⟩ : StewBerth).D] ++ (berT b.fBerths nm).map StewBerth.D = (raiseL b.fBerths nm dr).map StewBerth.D := by
   rw [List.nil_append, hpre]
   unfold raiseL
   rw [hk]
   simp only [List.map_append, List.map_cons, List.append_assoc, List.cons_append, List.nil_append]
  refine XS.weakenA (fs := [.any, .str nm, .bool dr, .lref 3 (gs 3) [] 0, .any, .any, .lref 6 (gs 6) [] 0, .any, .any]) (ls := [(3, .agg [.int .i64 b.fNow, .lsl 301 (gs 301) b.fServices.length c1, .lsl 302 (gs 302) b.fCopies.length c2, .lsl 55 bx (raiseL b.fBerths nm dr).length cx]), (55, .arr 2 ((raiseL b.fBerths nm dr).map StewBerth.D) cx), (6, .agg [.int .i64 0, .nil, .nil, .nil]), (301, .arr 13 (b.fServices.map StewService.D) c1), (302, .arr 7 (b.fCopies.map StewCopy.D) c2)]) ⟨?_, ?_⟩ ?_
  ·repeat' (first | exact True.intro | refine And.intro rfl ?_)
  ·have hLn : ([] ++ ((b.fBerths.map StewBerth.D).drop (0 : Int).toNat).take (((i : Nat) : Int) - 0).toNat ++ [(⟨nm, dr⟩ : StewBerth).D]).length + ((berT b.fBerths nm).map StewBerth.D).length = (raiseL b.fBerths nm dr).length := by rw [← List.length_append, hLst, List.length_map]
   exact ⟨congrArg (fun n => some (D.agg [.int .i64 b.fNow, .lsl 301 (gs 301) b.fServices.length c1, .lsl 302 (gs 302) b.fCopies.length c2, .lsl 55 bx n cx])) hLn, congrArg (fun l => some (D.arr 2 l cx)) hLst, rfl, rfl, rfl, True.intro⟩
  refine XS.go ?_
  conv => whnf
  repeat' (first | (refine g_op ?_; conv => whnf) | (refine And.intro ?_ ?_; (focus exact au0); conv => whnf) | (refine g_seq ?_) | (refine XS.go ?_) | (refine g_ops ?_) | ((first | refine g_nil ?_ | refine g_ret ?_ | refine r_c ?_ | refine r_nil ?_); conv => whnf) | fail)
  exact ⟨_, _, _, c1, c2, cx, rfl, rfl⟩
 ·have hSt : berS b.fBerths nm = false := by
   rw [hS]
   refine Bool.eq_false_iff.mpr fun q => ?_
   simp only [Bool.and_eq_true, decide_eq_true_eq, beq_iff_eq] at q
   have q2 := hb
   simp only [Bool.and_eq_false_iff, decide_eq_false_iff_not] at q2
   rcases q2 with q2 | q2
   ·exact q2 (by rw [hlR]; exact_mod_cast q.1)
   ·have q3 : ((R.getD 0 default).fName.toList == (nm).toList) = false := q2
    rw [show ((R.getD 0 default).fName.toList == (nm).toList) = true from beq_iff_eq.2 q.2] at q3
    cases q3
  clear hb
  rw [if_neg (by rw [hSt]; exact Bool.false_ne_true)] at hp0
  have hTl : (berT b.fBerths nm).length ≤ 1048576 := by rw [hp0]; omega
  have hT : R.map StewBerth.D = (berT b.fBerths nm).map StewBerth.D := by rw [hp0]
  conv => whnf
  repeat' (first | (refine g_skip ?_; conv => whnf) | fail)
  refine XS.weakenA (fs := [.any, .str nm, .bool dr, .lref 3 (gs 3) [] 0, .any, .any, .lref 6 (gs 6) [] 0, .int .i64 (i : Int), .ro 2 ((berT b.fBerths nm).map StewBerth.D)]) (ls := [(3, .agg [.int .i64 b.fNow, .lsl 301 (gs 301) b.fServices.length c1, .lsl 302 (gs 302) b.fCopies.length c2, .ro 2 (b.fBerths.map StewBerth.D)]), (6, .agg [.int .i64 0, .nil, .nil, .nil]), (301, .arr 13 (b.fServices.map StewService.D) c1), (302, .arr 7 (b.fCopies.map StewCopy.D) c2)]) ⟨?_, ?_⟩ ?_
  ·repeat' (first | exact True.intro | refine And.intro rfl ?_ | refine And.intro (congrArg (D.ro 2) hT) ?_)
  ·exact ⟨rfl, rfl, rfl, rfl, True.intro⟩
  clear hT hp0 hR hlR hS
  have t1 : ([] : List Go.Ab.D).length + (((b.fBerths.map StewBerth.D).drop (0 : Int).toNat).take (((i : Nat) : Int) - 0).toNat).length ≤ 1073741824 := by rw [hpre, List.length_map, List.length_take]; simp only [List.length_nil]; omega
  have t2 : ∀ d : Go.Ab.D, ([] ++ ((b.fBerths.map StewBerth.D).drop (0 : Int).toNat).take (((i : Nat) : Int) - 0).toNat).length + [d].length ≤ 1073741824 := fun d => by rw [List.nil_append, hpre, List.length_map, List.length_take]; simp only [List.length_cons, List.length_nil]; omega
  have t3 : ∀ d : Go.Ab.D, (([] ++ ((b.fBerths.map StewBerth.D).drop (0 : Int).toNat).take (((i : Nat) : Int) - 0).toNat) ++ [d]).length + ((berT b.fBerths nm).map StewBerth.D).length ≤ 1073741824 := fun d => by rw [List.nil_append, hpre, List.length_append, List.length_map, List.length_map, List.length_take]; simp only [List.length_cons, List.length_nil]; omega
  refine XS.go ?_
  conv => whnf
  repeat' (first | ((refine And.intro h1 ?_; conv => whnf)) | ((refine And.intro t1 ?_; conv => whnf)) | ((refine And.intro (t2 _) ?_; conv => whnf)) | ((refine And.intro (t3 _) ?_; conv => whnf)) | ((refine fun n1 bx cx hn1 hc1 => ?_; subst hn1; conv => whnf)) | ((refine And.intro (List.length_append ..).symm ?_; conv => whnf)) | (refine g_op ?_; conv => whnf) | (refine And.intro ?_ ?_; (focus exact au0); conv => whnf) | (refine g_seq ?_) | (refine g_ops ?_) | ((first | refine g_nil ?_ | refine fun _ => ?_); conv => whnf) | fail)
  rename_i bx cx _
  have hLst : ([] ++ ((b.fBerths.map StewBerth.D).drop (0 : Int).toNat).take (((i : Nat) : Int) - 0).toNat) ++ [(⟨nm, dr⟩ : StewBerth).D] ++ (berT b.fBerths nm).map StewBerth.D = (raiseL b.fBerths nm dr).map StewBerth.D := by
   rw [List.nil_append, hpre]
   unfold raiseL
   rw [hk]
   simp only [List.map_append, List.map_cons, List.append_assoc, List.cons_append, List.nil_append]
  refine XS.weakenA (fs := [.any, .str nm, .bool dr, .lref 3 (gs 3) [] 0, .any, .any, .lref 6 (gs 6) [] 0, .any, .any]) (ls := [(3, .agg [.int .i64 b.fNow, .lsl 301 (gs 301) b.fServices.length c1, .lsl 302 (gs 302) b.fCopies.length c2, .lsl 55 bx (raiseL b.fBerths nm dr).length cx]), (55, .arr 2 ((raiseL b.fBerths nm dr).map StewBerth.D) cx), (6, .agg [.int .i64 0, .nil, .nil, .nil]), (301, .arr 13 (b.fServices.map StewService.D) c1), (302, .arr 7 (b.fCopies.map StewCopy.D) c2)]) ⟨?_, ?_⟩ ?_
  ·repeat' (first | exact True.intro | refine And.intro rfl ?_)
  ·have hLn : ([] ++ ((b.fBerths.map StewBerth.D).drop (0 : Int).toNat).take (((i : Nat) : Int) - 0).toNat ++ [(⟨nm, dr⟩ : StewBerth).D]).length + ((berT b.fBerths nm).map StewBerth.D).length = (raiseL b.fBerths nm dr).length := by rw [← List.length_append, hLst, List.length_map]
   exact ⟨congrArg (fun n => some (D.agg [.int .i64 b.fNow, .lsl 301 (gs 301) b.fServices.length c1, .lsl 302 (gs 302) b.fCopies.length c2, .lsl 55 bx n cx])) hLn, congrArg (fun l => some (D.arr 2 l cx)) hLst, rfl, rfl, rfl, True.intro⟩
  refine XS.go ?_
  conv => whnf
  repeat' (first | (refine g_op ?_; conv => whnf) | (refine And.intro ?_ ?_; (focus exact au0); conv => whnf) | (refine g_seq ?_) | (refine XS.go ?_) | (refine g_ops ?_) | ((first | refine g_nil ?_ | refine g_ret ?_ | refine r_c ?_ | refine r_nil ?_); conv => whnf) | fail)
  exact ⟨_, _, _, c1, c2, cx, rfl, rfl⟩
theorem spec_WishX (b : StewBook) (w : StewService) (v : Int) (hs : b.small) (b1 b2 b3 c1 c2 c3 : Nat) : XC Try.prog 147 [b.O 301 302 303 b1 b2 b3 c1 c2 c3, w.D, .int .i64 v] (b.L 301 302 303 b1 b2 b3 c1 c2 c3) (KB { b with fServices := wishL b.fServices w v } 64 302 303) := by
 have l1 := hs.fServices.1
 have l2 := hs.fCopies.1
 have l3 := hs.fBerths.1
 refine XC.intro' hm [64, 302, 303] rfl c147 (Nat.le_of_ble_eq_true rfl) ?_
 conv => whnf
 repeat' (first | (refine g_op ?_; conv => whnf) | (refine And.intro ?_ ?_; (focus exact au0); conv => whnf) | (refine g_seq ?_) | (refine g_ops ?_) | ((first | refine g_nil ?_ | refine fun _ => ?_); conv => whnf) | fail)
 refine XS.freezeRB 301 [] 3 [1] rfl rfl (D.frozs_map (fun _ => rfl) _) True.intro rfl rfl rfl ⟨rfl, (List.length_map ..).symm⟩ rfl rfl ?_
 refine XS.go ?_
 conv => whnf
 repeat' (first | (refine g_op ?_; conv => whnf) | (refine And.intro ?_ ?_; (focus exact au0); conv => whnf) | (refine g_seq ?_) | (refine XS.go ?_) | (refine g_ops ?_) | (refine g_loop ?_) | (refine g_nil ?_; conv => whnf) | (refine g_block ?_) | fail)
 refine XLc.mkA (α := Nat) (fun i => i ≤ b.fServices.length ∧ idxN (svcP b.fServices w.fName) b.fServices.length 0 = idxN (svcP b.fServices w.fName) (b.fServices.length - i) i) (fun i => b.fServices.length - i) (fun i gs => [.any, .any, .int .i64 v, .lref 3 (gs 3) [] 0, .lref 4 (gs 4) [] 0, .any, .lref 6 (gs 6) [] 0, .int .i64 (i : Int)]) (fun i gs => [(3, .agg [.int .i64 b.fNow, .ro 13 (b.fServices.map StewService.D), .lsl 302 (gs 302) b.fCopies.length c2, .lsl 303 (gs 303) b.fBerths.length c3]), (4, w.D), (6, .agg [.int .i64 0, .nil, .nil, .nil]), (302, .arr 7 (b.fCopies.map StewCopy.D) c2), (303, .arr 2 (b.fBerths.map StewBerth.D) c3)]) 0 ⟨Nat.zero_le _, rfl⟩ ⟨?_, ?_⟩ ?_
 ·repeat' (first | exact True.intro | refine And.intro rfl ?_)
 ·exact ⟨rfl, rfl, rfl, rfl, rfl, True.intro⟩
 intro i gs hI
 obtain ⟨hi, hN⟩ := hI
 have hlm : (b.fServices.map StewService.D).length = b.fServices.length := List.length_map ..
 repeat' (first | (refine z_ld1 ?_; first | (refine z_ld rfl rfl rfl rfl au1 au2 ?_; conv => whnf) | (refine z_ld0 rfl ?_; conv => whnf)) | (refine z_ld1g ?_; first | (refine z_ldg rfl rfl rfl rfl rfl rfl rfl (by (repeat intro _); exact ⟨au1, au2⟩) rfl rfl rfl rfl ?_; conv => whnf) | (refine z_ld0g ?_; (conv => whnf); refine And.intro ?_ ?_; (focus exact rfl); conv => whnf)) | (refine z_ix1g ?_; refine z_ixg rfl rfl rfl rfl rfl rfl rfl (by (repeat intro _); refine ⟨?_, ?_⟩ <;> first | omega | (simp only [decide_eq_true_eq, Bool.not_eq_true', Bool.or_eq_false_iff, decide_eq_false_iff_not, Bool.and_eq_true, Bool.not_eq_false'] at *; omega)) ?_) | (refine z_op ?_ ?_; (focus exact rfl); conv => whnf) | (refine z_opg0 ?_; (conv => whnf); refine And.intro ?_ ?_; (focus exact rfl); conv => whnf) | (refine z_pick ?_ ?_; (focus exact rfl); conv => whnf) | (refine zs_quiet ?_ ?_; (focus exact rfl)) | (refine z_nil fun vals => ?_; conv => whnf) | (refine And.intro ?_ ?_; (focus exact au0); conv => whnf) | (refine g_seq ?_) | (refine XS.go ?_) | (refine g_cond ?_; conv => whnf) | fail)
 refine Br.mk (fun hb => ?_) (fun hb => ?_)
 ·have hlt : i < b.fServices.length := by simp at hb; omega
  have hf : svcP b.fServices w.fName i = false := by
   simp only [Bool.and_eq_true] at hb
   unfold svcP
   rw [show Op.bytesLess (b.fServices.getD i default).fName.toList (w.fName).toList = true from hb.2]
   rfl
  have miss := idxN_miss (f := svcP b.fServices w.fName) hlt hN hf
  clear hb
  have hw : IntKind.wrap .i64 ((i : Int) + 1) = ((i + 1 : Nat) : Int) := by rw [wrap_ok (by omega) (by omega)]; rfl
  conv => whnf
  repeat' (first | (refine g_op ?_; conv => whnf) | (refine And.intro ?_ ?_; (focus exact au0); conv => whnf) | (refine XS.go ?_) | (refine g_ops ?_) | ((first | refine g_nil ?_ | refine g_skip ?_); conv => whnf) | (refine g_block ?_) | fail)
  refine ⟨i + 1, ⟨by omega, miss⟩, by omega, ?_, ?_⟩
  ·repeat' (first | exact True.intro | refine And.intro (congrArg (D.int .i64) hw) ?_ | refine And.intro rfl ?_)
  ·exact ⟨rfl, rfl, rfl, rfl, rfl, True.intro⟩
 have hk : svcK b.fServices w.fName = i := by
  unfold svcK
  by_cases hlt : i < b.fServices.length
  ·refine pI_hit (idxN_hit (f := svcP b.fServices w.fName) hlt hN ?_)
   unfold svcP
   have q : Op.bytesLess (b.fServices.getD i default).fName.toList (w.fName).toList = false := by
    have q := hb
    simp only [Bool.and_eq_false_iff, decide_eq_false_iff_not] at q
    rcases q with q | q
    ·exact absurd (by rw [hlm]; exact_mod_cast hlt) q
    ·exact q
   rw [q]
   rfl
  ·have e : i = b.fServices.length := by omega
   rw [pI_end (by rw [hN]; exact idxN_end hlt), e]
 clear hb hN
 have hK1 : ∃ k, k = svcK b.fServices w.fName := ⟨_, rfl⟩
 have h1 : ((i : Nat) : Int) ≤ ((b.fServices.map StewService.D).length : Int) := by omega
 have h1b : ((b.fServices.map StewService.D).length : Int) ≤ ((b.fServices.map StewService.D).length : Int) := Int.le_refl _
 have hsl : ((b.fServices.map StewService.D).drop ((i : Nat) : Int).toNat).take (((b.fServices.map StewService.D).length : Int) - ((i : Nat) : Int)).toNat = (b.fServices.drop i).map StewService.D := by
  have e : ((i : Nat) : Int).toNat = i := by omega
  rw [e, List.take_of_length_le (by rw [List.length_drop]; omega), List.map_drop]
 have hpre : ((b.fServices.map StewService.D).drop (0 : Int).toNat).take (((i : Nat) : Int) - 0).toNat = (b.fServices.take i).map StewService.D := by
  have e : (((i : Nat) : Int) - 0).toNat = i := by omega
  rw [e, List.map_take]
  rfl
 have e1 : decide (0 < (b.fServices.drop i).length) = decide (i < b.fServices.length) := by rw [List.length_drop]; exact decide_eq_decide.2 (by omega)
 have e2 : (b.fServices.drop i).getD 0 default = b.fServices.getD i default := by simp [List.getD_eq_getElem?_getD, List.getElem?_drop]
 have hS : svcS b.fServices w.fName = (decide (0 < (b.fServices.drop i).length) && ((b.fServices.drop i).getD 0 default).fName.toList == (w.fName).toList) := by
  unfold svcS
  rw [hk, e1, e2]
 have hp0 : svcT b.fServices w.fName = if svcS b.fServices w.fName = true then (b.fServices.drop i).drop 1 else b.fServices.drop i := by
  unfold svcT
  rw [hk, List.drop_drop]
 have hN0 : b.fServices.getD (svcK b.fServices w.fName) default = (b.fServices.drop i).getD 0 default := by rw [hk, e2]
 have hRl : (b.fServices.drop i).length ≤ 1048576 := by rw [List.length_drop]; omega
 clear e1 e2 hK1
 conv => whnf
 repeat' (first | (refine g_exit ?_; conv => whnf) | fail)
 refine XS.go ?_
 conv => whnf
 repeat' (first | (refine z_st1 ?_; first | (refine z_st rfl rfl rfl au1 au2 rfl rfl ?_; conv => whnf) | (refine z_st0 ?_; conv => whnf)) | (refine z_op ?_ ?_; (focus exact rfl); conv => whnf) | (refine zs_ops ?_ ?_; (focus exact rfl)) | (refine z_nil fun vals => ?_; conv => whnf) | (refine And.intro ?_ ?_; (focus exact au0); conv => whnf) | (refine g_seq ?_) | fail)
 refine XS.go ?_
 conv => whnf
 repeat' (first | (refine z_st1 ?_; first | (refine z_st rfl rfl rfl au1 au2 rfl rfl ?_; conv => whnf) | (refine z_st0 ?_; conv => whnf)) | (refine z_op ?_ ?_; (focus exact rfl); conv => whnf) | (refine zs_ops ?_ ?_; (focus exact rfl)) | (refine z_nil fun vals => ?_; conv => whnf) | (refine And.intro ?_ ?_; (focus exact au0); conv => whnf) | (refine g_seq ?_) | fail)
 refine XS.go ?_
 conv => whnf
 repeat' (first | ((refine And.intro h1 ?_; conv => whnf)) | ((refine And.intro h1b ?_; conv => whnf)) | (refine z_ld1 ?_; first | (refine z_ld rfl rfl rfl rfl au1 au2 ?_; conv => whnf) | (refine z_ld0 rfl ?_; conv => whnf)) | (refine z_op ?_ ?_; (focus exact rfl); conv => whnf) | (refine zs_ops ?_ ?_; (focus exact rfl)) | (refine z_nil fun vals => ?_; conv => whnf) | (refine And.intro ?_ ?_; (focus exact au0); conv => whnf) | (refine g_seq ?_) | fail)
 refine XS.go ?_
 conv => whnf
 repeat' (first | (refine z_st1 ?_; first | (refine z_st rfl rfl rfl au1 au2 rfl rfl ?_; conv => whnf) | (refine z_st0 ?_; conv => whnf)) | (refine z_op ?_ ?_; (focus exact rfl); conv => whnf) | (refine zs_ops ?_ ?_; (focus exact rfl)) | (refine z_nil fun vals => ?_; conv => whnf) | (refine And.intro ?_ ?_; (focus exact au0); conv => whnf) | (refine g_seq ?_) | fail)
 refine XS.weakenA (fs := [.any, .any, .int .i64 v, .lref 3 (gs 3) [] 0, .lref 4 (gs 4) [] 0, .any, .lref 6 (gs 6) [] 0, .int .i64 (i : Int), .ro 13 ((b.fServices.drop i).map StewService.D)]) (ls := [(3, .agg [.int .i64 b.fNow, .ro 13 (b.fServices.map StewService.D), .lsl 302 (gs 302) b.fCopies.length c2, .lsl 303 (gs 303) b.fBerths.length c3]), (4, .agg [.str w.fName, .int .i64 v, .bool w.fGone, .int .i64 w.fImage, .int .i64 w.fWant, .int .i64 w.fDown, .int .i64 w.fOver, .int .i64 1, .int .i64 w.fPer, .int .i64 w.fLeast, .int .i64 w.fMost, .int .i64 w.fLoad, .int .i64 0]), (6, .agg [.int .i64 0, .nil, .nil, .nil]), (302, .arr 7 (b.fCopies.map StewCopy.D) c2), (303, .arr 2 (b.fBerths.map StewBerth.D) c3)]) ⟨?_, ?_⟩ ?_
 ·repeat' (first | exact True.intro | refine And.intro rfl ?_ | refine And.intro (congrArg (D.ro 13) hsl) ?_)
 ·exact ⟨rfl, rfl, rfl, rfl, rfl, True.intro⟩
 generalize hR : b.fServices.drop i = R at *
 have hlR : (R.map StewService.D).length = R.length := List.length_map ..
 refine XS.go ?_
 conv => whnf
 repeat' (first | (refine z_ld1g ?_; first | (refine z_ldg rfl rfl rfl rfl rfl rfl rfl (by (repeat intro _); exact ⟨au1, au2⟩) rfl rfl rfl rfl ?_; conv => whnf) | (refine z_ld0g ?_; (conv => whnf); refine And.intro ?_ ?_; (focus exact rfl); conv => whnf)) | (refine z_ix1g ?_; refine z_ixg rfl rfl rfl rfl rfl rfl rfl (by (repeat intro _); refine ⟨?_, ?_⟩ <;> first | omega | (simp only [decide_eq_true_eq, Bool.not_eq_true', Bool.or_eq_false_iff, decide_eq_false_iff_not, Bool.and_eq_true, Bool.not_eq_false'] at *; omega)) ?_) | (refine z_op ?_ ?_; (focus exact rfl); conv => whnf) | (refine z_opg0 ?_; (conv => whnf); refine And.intro ?_ ?_; (focus exact rfl); conv => whnf) | (refine z_pick ?_ ?_; (focus exact rfl); conv => whnf) | (refine zs_quiet ?_ ?_; (focus exact rfl)) | (refine z_nil fun vals => ?_; conv => whnf) | (refine And.intro ?_ ?_; (focus exact au0); conv => whnf) | (refine g_seq ?_) | (refine XS.go ?_) | (refine g_cond ?_; conv => whnf) | fail)
 refine Br.mk (fun hb => ?_) (fun hb => ?_)
 ·have hR0 : 0 < R.length := by
   have q := hb
   simp at q
   exact q.1
  have hq : (R.getD 0 default).fName.toList = (w.fName).toList := by
   have q := hb
   simp only [Bool.and_eq_true] at q
   exact beq_iff_eq.1 q.2
  clear hb
  have hSt : svcS b.fServices w.fName = true := by rw [hS]; simp only [Bool.and_eq_true, decide_eq_true_eq, beq_iff_eq]; exact ⟨hR0, hq⟩
  rw [if_pos hSt] at hp0
  have k1 : (1 : Int) ≤ ((R.map StewService.D).length : Int) := by omega
  have k2 : ((R.map StewService.D).length : Int) ≤ ((R.map StewService.D).length : Int) := Int.le_refl _
  have hTl : (svcT b.fServices w.fName).length ≤ 1048576 := by rw [hp0, List.length_drop]; omega
  have hT : ((R.map StewService.D).drop (1 : Int).toNat).take (((R.map StewService.D).length : Int) - 1).toNat = (svcT b.fServices w.fName).map StewService.D := by
   rw [hp0, List.map_drop]
   exact List.take_of_length_le (by rw [List.length_drop]; omega)
  have hW : wishS b.fServices w v = { w with fVersion := v, fCool := 0, fNext := (R.getD 0 default).fNext } := by unfold wishS; rw [if_pos hSt, hN0]
  have k0 : (0 : Int) < ((R.map StewService.D).length : Int) := by omega
  have kE : (R.map StewService.D).getD (0 : Int).toNat .any = (R.getD 0 default).D := elt_map hR0
  generalize hR0e : R.getD 0 default = r0 at *
  conv => whnf
  repeat' (first | ((refine And.intro k0 ?_; conv => whnf)) | ((rw [kE]; conv => whnf)) | (refine g_op ?_; conv => whnf) | (refine And.intro ?_ ?_; (focus exact au0); conv => whnf) | (refine g_seq ?_) | (refine g_ops ?_) | (refine g_nil ?_; conv => whnf) | fail)
  refine XS.go ?_
  conv => whnf
  repeat' (first | ((refine And.intro k1 ?_; conv => whnf)) | ((refine And.intro k2 ?_; conv => whnf)) | (refine g_op ?_; conv => whnf) | (refine And.intro ?_ ?_; (focus exact au0); conv => whnf) | (refine g_ops ?_) | (refine g_nil ?_; conv => whnf) | fail)
  refine XS.weakenA (fs := [.any, .any, .int .i64 v, .lref 3 (gs 3) [] 0, .lref 4 (gs 4) [] 0, .any, .lref 6 (gs 6) [] 0, .int .i64 (i : Int), .ro 13 ((svcT b.fServices w.fName).map StewService.D)]) (ls := [(3, .agg [.int .i64 b.fNow, .ro 13 (b.fServices.map StewService.D), .lsl 302 (gs 302) b.fCopies.length c2, .lsl 303 (gs 303) b.fBerths.length c3]), (4, .agg [.str w.fName, .int .i64 v, .bool w.fGone, .int .i64 w.fImage, .int .i64 w.fWant, .int .i64 w.fDown, .int .i64 w.fOver, .int .i64 r0.fNext, .int .i64 w.fPer, .int .i64 w.fLeast, .int .i64 w.fMost, .int .i64 w.fLoad, .int .i64 0]), (6, .agg [.int .i64 0, .nil, .nil, .nil]), (302, .arr 7 (b.fCopies.map StewCopy.D) c2), (303, .arr 2 (b.fBerths.map StewBerth.D) c3)]) ⟨?_, ?_⟩ ?_
  ·repeat' (first | exact True.intro | refine And.intro rfl ?_ | refine And.intro (congrArg (D.ro 13) hT) ?_)
  ·exact ⟨rfl, rfl, rfl, rfl, rfl, True.intro⟩
  clear hT hp0 hR k1 k2 hlR hS
  have t1 : ([] : List Go.Ab.D).length + (((b.fServices.map StewService.D).drop (0 : Int).toNat).take (((i : Nat) : Int) - 0).toNat).length ≤ 1073741824 := by rw [hpre, List.length_map, List.length_take]; simp only [List.length_nil]; omega
  have t2 : ∀ d : Go.Ab.D, ([] ++ ((b.fServices.map StewService.D).drop (0 : Int).toNat).take (((i : Nat) : Int) - 0).toNat).length + [d].length ≤ 1073741824 := fun d => by rw [List.nil_append, hpre, List.length_map, List.length_take]; simp only [List.length_cons, List.length_nil]; omega
  have t3 : ∀ d : Go.Ab.D, (([] ++ ((b.fServices.map StewService.D).drop (0 : Int).toNat).take (((i : Nat) : Int) - 0).toNat) ++ [d]).length + ((svcT b.fServices w.fName).map StewService.D).length ≤ 1073741824 := fun d => by rw [List.nil_append, hpre, List.length_append, List.length_map, List.length_map, List.length_take]; simp only [List.length_cons, List.length_nil]; omega
  refine XS.go ?_
  conv => whnf
  repeat' (first | ((refine And.intro h1 ?_; conv => whnf)) | ((refine And.intro t1 ?_; conv => whnf)) | ((refine And.intro (t2 _) ?_; conv => whnf)) | ((refine And.intro (t3 _) ?_; conv => whnf)) | ((refine And.intro True.intro ?_; conv => whnf)) | ((refine And.intro ⟨⟨rfl, rfl⟩, True.intro⟩ ?_; conv => whnf)) | ((refine fun n1 bx cx hn1 hc1 => ?_; subst hn1; conv => whnf)) | ((refine And.intro (List.length_append ..).symm ?_; conv => whnf)) | (refine And.intro ?_ ?_; (focus exact au0); conv => whnf) | (refine g_seq ?_) | (refine g_drawn ?_) | ((first | refine d_p ?_ | refine d_e ?_ | refine d_nil ?_); conv => whnf) | fail)
  rename_i bx cx _
  have hLst : ([] ++ ((b.fServices.map StewService.D).drop (0 : Int).toNat).take (((i : Nat) : Int) - 0).toNat) ++ [({ w with fVersion := v, fCool := 0, fNext := r0.fNext } : StewService).D] ++ (svcT b.fServices w.fName).map StewService.D = (wishL b.fServices w v).map StewService.D := by
   rw [List.nil_append, hpre]
   unfold wishL
   rw [hW, hk]
   simp only [List.map_append, List.map_cons, List.append_assoc, List.cons_append, List.nil_append]
  refine XS.weakenA (fs := [.any, .any, .int .i64 v, .lref 3 (gs 3) [] 0, .lref 4 (gs 4) [] 0, .any, .lref 6 (gs 6) [] 0, .any, .any]) (ls := [(3, .agg [.int .i64 b.fNow, .lsl 64 bx (wishL b.fServices w v).length cx, .lsl 302 (gs 302) b.fCopies.length c2, .lsl 303 (gs 303) b.fBerths.length c3]), (64, .arr 13 ((wishL b.fServices w v).map StewService.D) cx), (6, .agg [.int .i64 0, .nil, .nil, .nil]), (302, .arr 7 (b.fCopies.map StewCopy.D) c2), (303, .arr 2 (b.fBerths.map StewBerth.D) c3)]) ⟨?_, ?_⟩ ?_
  ·repeat' (first | exact True.intro | refine And.intro rfl ?_)
  ·have hLn : ([] ++ ((b.fServices.map StewService.D).drop (0 : Int).toNat).take (((i : Nat) : Int) - 0).toNat ++ [({ w with fVersion := v, fCool := 0, fNext := r0.fNext } : StewService).D]).length + ((svcT b.fServices w.fName).map StewService.D).length = (wishL b.fServices w v).length := by rw [← List.length_append, hLst, List.length_map]
   exact ⟨congrArg (fun n => some (D.agg [.int .i64 b.fNow, .lsl 64 bx n cx, .lsl 302 (gs 302) b.fCopies.length c2, .lsl 303 (gs 303) b.fBerths.length c3])) hLn, congrArg (fun l => some (D.arr 13 l cx)) hLst, rfl, rfl, rfl, True.intro⟩
  refine XS.go ?_
  conv => whnf
  repeat' (first | (refine g_op ?_; conv => whnf) | (refine And.intro ?_ ?_; (focus exact au0); conv => whnf) | (refine g_seq ?_) | (refine XS.go ?_) | (refine g_ops ?_) | ((first | refine g_nil ?_ | refine g_ret ?_ | refine r_c ?_ | refine r_nil ?_); conv => whnf) | fail)
  exact ⟨_, _, _, cx, c2, c3, rfl, rfl⟩
 ·have hSt : svcS b.fServices w.fName = false := by
   rw [hS]
   refine Bool.eq_false_iff.mpr fun q => ?_
   simp only [Bool.and_eq_true, decide_eq_true_eq, beq_iff_eq] at q
   have q2 := hb
   simp only [Bool.and_eq_false_iff, decide_eq_false_iff_not] at q2
   rcases q2 with q2 | q2
   ·exact q2 (by rw [hlR]; exact_mod_cast q.1)
   ·have q3 : ((R.getD 0 default).fName.toList == (w.fName).toList) = false := q2
    rw [show ((R.getD 0 default).fName.toList == (w.fName).toList) = true from beq_iff_eq.2 q.2] at q3
    cases q3
  clear hb
  rw [if_neg (by rw [hSt]; exact Bool.false_ne_true)] at hp0
  have hTl : (svcT b.fServices w.fName).length ≤ 1048576 := by rw [hp0]; omega
  have hT : R.map StewService.D = (svcT b.fServices w.fName).map StewService.D := by rw [hp0]
  have hW : wishS b.fServices w v = { w with fVersion := v, fCool := 0, fNext := 1 } := by unfold wishS; rw [if_neg (by rw [hSt]; exact Bool.false_ne_true)]
  conv => whnf
  repeat' (first | (refine g_skip ?_; conv => whnf) | fail)
  refine XS.weakenA (fs := [.any, .any, .int .i64 v, .lref 3 (gs 3) [] 0, .lref 4 (gs 4) [] 0, .any, .lref 6 (gs 6) [] 0, .int .i64 (i : Int), .ro 13 ((svcT b.fServices w.fName).map StewService.D)]) (ls := [(3, .agg [.int .i64 b.fNow, .ro 13 (b.fServices.map StewService.D), .lsl 302 (gs 302) b.fCopies.length c2, .lsl 303 (gs 303) b.fBerths.length c3]), (4, .agg [.str w.fName, .int .i64 v, .bool w.fGone, .int .i64 w.fImage, .int .i64 w.fWant, .int .i64 w.fDown, .int .i64 w.fOver, .int .i64 1, .int .i64 w.fPer, .int .i64 w.fLeast, .int .i64 w.fMost, .int .i64 w.fLoad, .int .i64 0]), (6, .agg [.int .i64 0, .nil, .nil, .nil]), (302, .arr 7 (b.fCopies.map StewCopy.D) c2), (303, .arr 2 (b.fBerths.map StewBerth.D) c3)]) ⟨?_, ?_⟩ ?_
  ·repeat' (first | exact True.intro | refine And.intro rfl ?_ | refine And.intro (congrArg (D.ro 13) hT) ?_)
  ·exact ⟨rfl, rfl, rfl, rfl, rfl, True.intro⟩
  clear hT hp0 hR hlR hS
  have t1 : ([] : List Go.Ab.D).length + (((b.fServices.map StewService.D).drop (0 : Int).toNat).take (((i : Nat) : Int) - 0).toNat).length ≤ 1073741824 := by rw [hpre, List.length_map, List.length_take]; simp only [List.length_nil]; omega
  have t2 : ∀ d : Go.Ab.D, ([] ++ ((b.fServices.map StewService.D).drop (0 : Int).toNat).take (((i : Nat) : Int) - 0).toNat).length + [d].length ≤ 1073741824 := fun d => by rw [List.nil_append, hpre, List.length_map, List.length_take]; simp only [List.length_cons, List.length_nil]; omega
  have t3 : ∀ d : Go.Ab.D, (([] ++ ((b.fServices.map StewService.D).drop (0 : Int).toNat).take (((i : Nat) : Int) - 0).toNat) ++ [d]).length + ((svcT b.fServices w.fName).map StewService.D).length ≤ 1073741824 := fun d => by rw [List.nil_append, hpre, List.length_append, List.length_map, List.length_map, List.length_take]; simp only [List.length_cons, List.length_nil]; omega
  refine XS.go ?_
  conv => whnf
  repeat' (first | ((refine And.intro h1 ?_; conv => whnf)) | ((refine And.intro t1 ?_; conv => whnf)) | ((refine And.intro (t2 _) ?_; conv => whnf)) | ((refine And.intro (t3 _) ?_; conv => whnf)) | ((refine And.intro True.intro ?_; conv => whnf)) | ((refine And.intro ⟨⟨rfl, rfl⟩, True.intro⟩ ?_; conv => whnf)) | ((refine fun n1 bx cx hn1 hc1 => ?_; subst hn1; conv => whnf)) | ((refine And.intro (List.length_append ..).symm ?_; conv => whnf)) | (refine And.intro ?_ ?_; (focus exact au0); conv => whnf) | (refine g_seq ?_) | (refine g_drawn ?_) | ((first | refine d_p ?_ | refine d_e ?_ | refine d_nil ?_); conv => whnf) | fail)
  rename_i bx cx _
  have hLst : ([] ++ ((b.fServices.map StewService.D).drop (0 : Int).toNat).take (((i : Nat) : Int) - 0).toNat) ++ [({ w with fVersion := v, fCool := 0, fNext := 1 } : StewService).D] ++ (svcT b.fServices w.fName).map StewService.D = (wishL b.fServices w v).map StewService.D := by
   rw [List.nil_append, hpre]
   unfold wishL
   rw [hW, hk]
   simp only [List.map_append, List.map_cons, List.append_assoc, List.cons_append, List.nil_append]
  refine XS.weakenA (fs := [.any, .any, .int .i64 v, .lref 3 (gs 3) [] 0, .lref 4 (gs 4) [] 0, .any, .lref 6 (gs 6) [] 0, .any, .any]) (ls := [(3, .agg [.int .i64 b.fNow, .lsl 64 bx (wishL b.fServices w v).length cx, .lsl 302 (gs 302) b.fCopies.length c2, .lsl 303 (gs 303) b.fBerths.length c3]), (64, .arr 13 ((wishL b.fServices w v).map StewService.D) cx), (6, .agg [.int .i64 0, .nil, .nil, .nil]), (302, .arr 7 (b.fCopies.map StewCopy.D) c2), (303, .arr 2 (b.fBerths.map StewBerth.D) c3)]) ⟨?_, ?_⟩ ?_
  ·repeat' (first | exact True.intro | refine And.intro rfl ?_)
  ·have hLn : ([] ++ ((b.fServices.map StewService.D).drop (0 : Int).toNat).take (((i : Nat) : Int) - 0).toNat ++ [({ w with fVersion := v, fCool := 0, fNext := 1 } : StewService).D]).length + ((svcT b.fServices w.fName).map StewService.D).length = (wishL b.fServices w v).length := by rw [← List.length_append, hLst, List.length_map]
   exact ⟨congrArg (fun n => some (D.agg [.int .i64 b.fNow, .lsl 64 bx n cx, .lsl 302 (gs 302) b.fCopies.length c2, .lsl 303 (gs 303) b.fBerths.length c3])) hLn, congrArg (fun l => some (D.arr 13 l cx)) hLst, rfl, rfl, rfl, True.intro⟩
  refine XS.go ?_
  conv => whnf
  repeat' (first | (refine g_op ?_; conv => whnf) | (refine And.intro ?_ ?_; (focus exact au0); conv => whnf) | (refine g_seq ?_) | (refine XS.go ?_) | (refine g_ops ?_) | ((first | refine g_nil ?_ | refine g_ret ?_ | refine r_c ?_ | refine r_nil ?_); conv => whnf) | fail)
  exact ⟨_, _, _, cx, c2, c3, rfl, rfl⟩
end Go.Ab
set_option linter.unusedSimpArgs false
set_option linter.unusedVariables false
namespace Go.Ab
open Go Go.RowKit Go.Proofs
attribute [local irreducible] XC Rdr IntKind.wrap xw xos xqs xr xd
set_option maxRecDepth 100000
set_option maxHeartbeats 16000000
def cf77 : CF := ⟨41,[.t 2],(.seq (.ops [Ok 2 (.bool false)]) (.seq (.seq (.ops [Om 5 0,Oo 6 (.lens (.t 5)),Oo 7 (.bin .lss (.t 6) (.k (.int .i64 1))),Om 8 7,⟨some 9,.mv (.t 0),some (8,false)⟩,⟨some 10,.lens (.t 9),some (8,false)⟩,⟨some 11,.bin .gtr (.t 10) (.k (.int .i64 20)),some (8,false)⟩,Oo 12 (.pick (.t 8) (.k (.bool true)) (.t 11))]) (.cond (.t 12) (.seq (.ops [Ok 2 (.bool false)]) .ret) .skip)) (.seq (.seq (.ops [Om 13 0,Oo 14 (.lens (.t 13)),Ok 15 (.int .i64 0)]) (.block 0 (.loop (.seq (.ops [Ob 16 .lss 15 14]) (.seq (.cond (.t 16) .skip (.exit 0)) (.seq (.block 1 (.seq (.ops [Om 17 15,Om 3 17]) (.seq (.ops [Om 18 0,Om 19 3,Oo 20 (.sx (.t 18) (.t 19)),Om 4 20]) (.seq (.ops [Om 21 4,Oo 22 (.bin .geq (.t 21) (.k (.int .u8 97))),Om 23 22,⟨some 24,.mv (.t 4),some (23,true)⟩,⟨some 25,.bin .leq (.t 24) (.k (.int .u8 122)),some (23,true)⟩,Oo 26 (.pick (.t 23) (.t 25) (.k (.bool false))),Om 27 26,⟨some 28,.mv (.t 4),some (27,false)⟩,⟨some 29,.bin .geq (.t 28) (.k (.int .u8 48)),some (27,false)⟩,⟨some 30,.mv (.t 29),some (27,false)⟩,⟨some 31,.mv (.t 4),some (30,true)⟩,⟨some 32,.bin .leq (.t 31) (.k (.int .u8 57)),some (30,true)⟩,⟨some 33,.pick (.t 30) (.t 32) (.k (.bool false)),some (27,false)⟩,Oo 34 (.pick (.t 27) (.k (.bool true)) (.t 33)),Om 35 34,⟨some 36,.mv (.t 4),some (35,false)⟩,⟨some 37,.bin .eql (.t 36) (.k (.int .u8 45)),some (35,false)⟩,Oo 38 (.pick (.t 35) (.k (.bool true)) (.t 37)),Oo 39 (.not (.t 38))]) (.cond (.t 39) (.seq (.ops [Ok 2 (.bool false)]) .ret) .skip))))) (.ops [Oi 40 15,Om 15 40]))))))) (.seq (.ops [Ok 2 (.bool true)]) .ret))))⟩
theorem c77 : compileF Try.prog [] 77 = some cf77 := by kernel_rfl
def cf72 : CF := ⟨37,[.t 2],(.seq (.ops [Ok 2 (.bool false)]) (.seq (.seq (.ops [Om 5 0,Oo 6 (.lens (.t 5)),Oc 7 70 [.t 6,(.k (.int .i64 1)),(.k (.int .i64 20))],Oo 8 (.not (.t 7))]) (.cond (.t 8) (.seq (.ops [Ok 2 (.bool false)]) .ret) .skip)) (.seq (.seq (.ops [Ok 3 (.int .i64 0)]) (.block 0 (.loop (.seq (.seq (.ops [Om 9 3,Om 10 0,Oo 11 (.lens (.t 10)),Ob 12 .lss 9 11]) (.cond (.t 12) .skip (.exit 0))) (.seq (.block 1 (.seq (.ops [Om 15 0,Om 16 3,Oo 17 (.sx (.t 15) (.t 16)),Om 4 17]) (.seq (.ops [Om 18 4,Oo 19 (.bin .geq (.t 18) (.k (.int .u8 97))),Om 20 19,⟨some 21,.mv (.t 4),some (20,true)⟩,⟨some 22,.bin .leq (.t 21) (.k (.int .u8 122)),some (20,true)⟩,Oo 23 (.pick (.t 20) (.t 22) (.k (.bool false))),Om 24 23,⟨some 25,.mv (.t 4),some (24,false)⟩,⟨some 26,.bin .geq (.t 25) (.k (.int .u8 48)),some (24,false)⟩,⟨some 27,.mv (.t 26),some (24,false)⟩,⟨some 28,.mv (.t 4),some (27,true)⟩,⟨some 29,.bin .leq (.t 28) (.k (.int .u8 57)),some (27,true)⟩,⟨some 30,.pick (.t 27) (.t 29) (.k (.bool false)),some (24,false)⟩,Oo 31 (.pick (.t 24) (.k (.bool true)) (.t 30)),Om 32 31,⟨some 33,.mv (.t 4),some (32,false)⟩,⟨some 34,.bin .eql (.t 33) (.k (.int .u8 45)),some (32,false)⟩,Oo 35 (.pick (.t 32) (.k (.bool true)) (.t 34)),Oo 36 (.not (.t 35))]) (.cond (.t 36) (.seq (.ops [Ok 2 (.bool false)]) .ret) .skip)))) (.ops [Om 13 3,Oi 14 13,Om 3 14])))))) (.seq (.ops [Ok 2 (.bool true)]) .ret))))⟩
theorem c72 : compileF Try.prog [] 72 = some cf72 := by kernel_rfl
def cf75 : CF := ⟨15,[.t 6],(.seq (.ops [Ok 6 (.bool false)]) (.seq (.ops [Om 7 0,Om 8 1,Ob 9 .geq 7 8,Om 10 9,⟨some 11,.mv (.t 0),some (10,true)⟩,⟨some 12,.mv (.t 2),some (10,true)⟩,⟨some 13,.bin .leq (.t 11) (.t 12),some (10,true)⟩,Oo 14 (.pick (.t 10) (.t 13) (.k (.bool false))),Om 6 14]) .ret))⟩
theorem c75 : compileF Try.prog [] 75 = some cf75 := by kernel_rfl
def cf70 : CF := ⟨15,[.t 6],(.seq (.ops [Ok 6 (.bool false)]) (.seq (.ops [Om 7 0,Om 8 1,Ob 9 .geq 7 8,Om 10 9,⟨some 11,.mv (.t 0),some (10,true)⟩,⟨some 12,.mv (.t 2),some (10,true)⟩,⟨some 13,.bin .leq (.t 11) (.t 12),some (10,true)⟩,Oo 14 (.pick (.t 10) (.t 13) (.k (.bool false))),Om 6 14]) .ret))⟩
theorem c70 : compileF Try.prog [] 70 = some cf70 := by kernel_rfl
def okc (b : Int) : Bool := (decide (b ≥ 97) && decide (b ≤ 122)) || (decide (b ≥ 48) && decide (b ≤ 57)) || b == 45
def nameOk (s : ByteArray) : Bool := inR s.size 1 20 && allN (fun i => okc (byteAt s i)) s.size 0
theorem impl_within (n lo hi : Int) : Rdr Try.prog 75 [.int .i64 n, .int .i64 lo, .int .i64 hi] (.bool (inR n lo hi)) := by
 refine Rdr.intro' hm c75 (Nat.le_of_ble_eq_true rfl) ?_
 conv => whnf
 repeat' (first | (refine g_op ?_; conv => whnf) | (refine And.intro ?_ ?_; (focus exact au0); conv => whnf) | (refine g_seq ?_) | (refine XS.go ?_) | (refine g_ops ?_) | ((first | refine g_nil ?_ | refine g_opg ?_); conv => whnf) | (refine Br.t ?_ ?_; (focus (first | assumption | exact rfl)); conv => whnf) | (refine Br.f ?_ ?_; (focus (first | assumption | exact rfl)); conv => whnf) | ((first | refine g_ret ?_ | refine r_t ?_ | refine r_nil ?_); conv => whnf) | (refine Br.mk (fun hb => ?_) (fun hb => ?_) <;> conv => whnf) | fail)
 all_goals (conv => lhs; whnf)
 all_goals refine congrArg D.bool ?_
 all_goals first | (refine (Bool.eq_false_iff.mpr fun h => ?_).symm; simp_all [inR]; done) | (refine Bool.eq_false_iff.mpr fun h => ?_; simp_all [inR]; done) | (simp_all [inR]; done) | (simp_all [inR]; omega) | (refine (Bool.eq_false_iff.mpr fun h => ?_).symm; simp_all [inR]; omega) | (refine Bool.eq_false_iff.mpr fun h => ?_; simp_all [inR]; omega) | (rw [Bool.eq_iff_iff]; constructor <;> intro h <;> simp_all [inR] <;> omega) | fail
theorem spec_In (n lo hi : Int) : Rdr Try.prog 70 [.int .i64 n, .int .i64 lo, .int .i64 hi] (.bool (inR n lo hi)) := by
 refine Rdr.intro' hm c70 (Nat.le_of_ble_eq_true rfl) ?_
 conv => whnf
 repeat' (first | (refine g_op ?_; conv => whnf) | (refine And.intro ?_ ?_; (focus exact au0); conv => whnf) | (refine g_seq ?_) | (refine XS.go ?_) | (refine g_ops ?_) | ((first | refine g_nil ?_ | refine g_opg ?_); conv => whnf) | (refine Br.t ?_ ?_; (focus (first | assumption | exact rfl)); conv => whnf) | (refine Br.f ?_ ?_; (focus (first | assumption | exact rfl)); conv => whnf) | ((first | refine g_ret ?_ | refine r_t ?_ | refine r_nil ?_); conv => whnf) | (refine Br.mk (fun hb => ?_) (fun hb => ?_) <;> conv => whnf) | fail)
 all_goals (conv => lhs; whnf)
 all_goals refine congrArg D.bool ?_
 all_goals first | (refine (Bool.eq_false_iff.mpr fun h => ?_).symm; simp_all [inR]; done) | (refine Bool.eq_false_iff.mpr fun h => ?_; simp_all [inR]; done) | (simp_all [inR]; done) | (simp_all [inR]; omega) | (refine (Bool.eq_false_iff.mpr fun h => ?_).symm; simp_all [inR]; omega) | (refine Bool.eq_false_iff.mpr fun h => ?_; simp_all [inR]; omega) | (rw [Bool.eq_iff_iff]; constructor <;> intro h <;> simp_all [inR] <;> omega) | fail
theorem impl_isName (s : ByteArray) : Rdr Try.prog 77 [.str s] (.bool (nameOk s)) := by
 refine Rdr.intro' hm c77 (Nat.le_of_ble_eq_true rfl) ?_
 conv => whnf
 repeat' (first | (refine g_op ?_; conv => whnf) | (refine And.intro ?_ ?_; (focus exact au0); conv => whnf) | (refine g_seq ?_) | (refine XS.go ?_) | (refine g_ops ?_) | ((first | refine g_nil ?_ | refine g_opg ?_); conv => whnf) | fail)
 refine Br.mk (fun hb => ?_) (fun hb => ?_)
 ·have hn : inR s.size 1 20 = false := by simp at hb; simp [inR]; omega
  conv => whnf
  repeat' (first | (refine g_op ?_; conv => whnf) | (refine And.intro ?_ ?_; (focus exact au0); conv => whnf) | (refine g_seq ?_) | (refine XS.go ?_) | (refine g_ops ?_) | ((first | refine g_nil ?_ | refine g_opg ?_); conv => whnf) | (refine Br.t ?_ ?_; (focus (first | assumption | exact rfl)); conv => whnf) | ((first | refine g_cond ?_ | refine g_ret ?_ | refine r_t ?_ | refine r_nil ?_); conv => whnf) | fail)
  conv => lhs; whnf
  simp only [nameOk, hn, Bool.false_and]
 conv => whnf
 repeat' (first | (refine g_op ?_; conv => whnf) | (refine And.intro ?_ ?_; (focus exact au0); conv => whnf) | (refine XS.go ?_) | ((first | refine g_nil ?_ | refine g_opg ?_); conv => whnf) | (refine Br.f ?_ ?_; (focus (first | assumption | exact rfl)); conv => whnf) | (refine g_cond ?_; conv => whnf) | fail)
 refine Br.mk (fun hc => ?_) (fun hc => ?_)
 ·have hn : inR s.size 1 20 = false := by simp at hc; simp [inR]; omega
  conv => whnf
  repeat' (first | (refine g_op ?_; conv => whnf) | (refine And.intro ?_ ?_; (focus exact au0); conv => whnf) | (refine g_seq ?_) | (refine XS.go ?_) | (refine g_ops ?_) | ((first | refine g_nil ?_ | refine g_ret ?_ | refine r_t ?_ | refine r_nil ?_); conv => whnf) | fail)
  conv => lhs; whnf
  simp only [nameOk, hn, Bool.false_and]
 have hn : inR s.size 1 20 = true := by simp at hb hc; simp [inR]; omega
 have hsz : s.size ≤ 20 := by simp [inR] at hn; omega
 conv => whnf
 repeat' (first | (refine g_op ?_; conv => whnf) | (refine And.intro ?_ ?_; (focus exact au0); conv => whnf) | (refine g_seq ?_) | (refine XS.go ?_) | (refine g_ops ?_) | (refine g_loop ?_) | ((first | refine g_nil ?_ | refine g_skip ?_); conv => whnf) | (refine g_block ?_) | fail)
 refine XLc.mkL (α := Nat) (fun i => i ≤ s.size ∧ nameOk s = (allN (fun i => okc (byteAt s i)) (s.size - i) i && true)) (fun i => s.size - i) (fun i gs => [.str s, .any, .any, .any, .any, .any, .any, .any, .any, .any, .any, .any, .any, .any, .int .i64 (s.size : Int), .int .i64 (i : Int)]) (fun i gs => []) 0 ⟨Nat.zero_le _, by simp [nameOk, hn]⟩ ?_ ?_
 ·refine ⟨?_, ?_⟩
  ·repeat' (first | exact True.intro | refine And.intro rfl ?_)
  ·repeat' (first | exact True.intro | refine And.intro rfl ?_)
 intro i gs hI
 obtain ⟨hi, hN⟩ := hI
 repeat' (first | (refine g_op ?_; conv => whnf) | (refine And.intro ?_ ?_; (focus exact au0); conv => whnf) | (refine g_seq ?_) | (refine XS.go ?_) | (refine g_ops ?_) | ((first | refine g_nil ?_ | refine g_cond ?_); conv => whnf) | fail)
 refine Br.mk (fun hb => ?_) (fun hb => ?_)
 ·have hlt : i < s.size := by simpa using hb
  have hw : IntKind.wrap .i64 ((i : Int) + 1) = ((i + 1 : Nat) : Int) := by rw [wrap_ok (by omega) (by omega)]; rfl
  have hw1 : IntKind.wrap .i64 ((i : Int) - 1) = (i : Int) - 1 := wrap_ok (by omega) (by omega)
  have hbad := fun h => allN_bad (f := fun i => okc (byteAt s i)) hlt hN h
  have hgood := fun h => allN_good (f := fun i => okc (byteAt s i)) hlt hN h
  clear hN hb
  all_goals conv => whnf
  repeat' (first | (refine z_op ?_ ?_; (focus exact rfl); conv => whnf) | (refine z_opg0 ?_; (conv => whnf); refine And.intro ?_ ?_; (focus exact rfl); conv => whnf) | (refine z_pick ?_ ?_; (focus exact rfl); conv => whnf) | (refine z_pickg ?_; (conv => whnf); refine And.intro ?_ ?_; (focus exact rfl); conv => whnf) | (refine zs_ops ?_ ?_; (focus exact rfl)) | ((first | refine z_nil fun vals => ?_ | refine g_op ?_); conv => whnf) | (refine And.intro ?_ ?_; (focus exact au0); conv => whnf) | (refine g_seq ?_) | (refine XS.go ?_) | (refine g_ops ?_) | ((first | refine g_nil ?_ | refine g_cond ?_ | refine g_skip ?_ | refine g_ret ?_); conv => whnf) | (refine g_block ?_) | ((first | refine r_t ?_ | refine r_nil ?_); conv => whnf) | (refine Br.mk (fun hb => ?_) (fun hb => ?_) <;> conv => whnf) | fail)
  all_goals
   first
   |(refine ⟨(), hbad ?_, ⟨?_, True.intro⟩⟩
     ·clear hbad hgood hw
      first | (first | (refine (Bool.eq_false_iff.mpr fun h => ?_).symm; simp_all [okc]; done) | (refine Bool.eq_false_iff.mpr fun h => ?_; simp_all [okc]; done) | (simp_all [okc]; done) | (simp_all [okc]; omega) | (refine (Bool.eq_false_iff.mpr fun h => ?_).symm; simp_all [okc]; omega) | (refine Bool.eq_false_iff.mpr fun h => ?_; simp_all [okc]; omega) | (rw [Bool.eq_iff_iff]; constructor <;> intro h <;> simp_all [okc] <;> omega) | fail) | (rcases Nat.eq_zero_or_pos i with h0 | h0 <;> simp_all [okc] <;> omega) | (fail) | fail
     ·repeat' (first | exact True.intro | refine And.intro rfl ?_))
   |(conv => lhs; whnf
     refine congrArg D.bool (hbad ?_)
     clear hbad hgood hw
     first | (first | (refine (Bool.eq_false_iff.mpr fun h => ?_).symm; simp_all [okc]; done) | (refine Bool.eq_false_iff.mpr fun h => ?_; simp_all [okc]; done) | (simp_all [okc]; done) | (simp_all [okc]; omega) | (refine (Bool.eq_false_iff.mpr fun h => ?_).symm; simp_all [okc]; omega) | (refine Bool.eq_false_iff.mpr fun h => ?_; simp_all [okc]; omega) | (rw [Bool.eq_iff_iff]; constructor <;> intro h <;> simp_all [okc] <;> omega) | fail) | (rcases Nat.eq_zero_or_pos i with h0 | h0 <;> simp_all [okc] <;> omega) | (fail) | fail)
   |(refine ⟨i + 1, ⟨by omega, ?_⟩, by omega, ?_, ?_⟩
     ·refine hgood ?_
      clear hbad hgood hw
      first | (first | (refine (Bool.eq_false_iff.mpr fun h => ?_).symm; simp_all [okc]; done) | (refine Bool.eq_false_iff.mpr fun h => ?_; simp_all [okc]; done) | (simp_all [okc]; done) | (simp_all [okc]; omega) | (refine (Bool.eq_false_iff.mpr fun h => ?_).symm; simp_all [okc]; omega) | (refine Bool.eq_false_iff.mpr fun h => ?_; simp_all [okc]; omega) | (rw [Bool.eq_iff_iff]; constructor <;> intro h <;> simp_all [okc] <;> omega) | fail) | (rcases Nat.eq_zero_or_pos i with h0 | h0 <;> simp_all [okc] <;> omega) | (fail) | fail
     ·repeat' (first | exact True.intro | refine And.intro (congrArg (D.int .i64) hw) ?_ | refine And.intro rfl ?_)
     ·repeat' (first | exact True.intro | refine And.intro rfl ?_))
 have hge : ¬ i < s.size := by simpa using hb
 have hend : nameOk s = true := by rw [hN, allN_end hge, Bool.true_and]
 clear hN
 conv => whnf
 repeat' (first | (refine g_op ?_; conv => whnf) | (refine And.intro ?_ ?_; (focus exact au0); conv => whnf) | (refine g_seq ?_) | (refine XS.go ?_) | (refine g_ops ?_) | ((first | refine g_nil ?_ | refine g_ret ?_ | refine g_exit ?_ | refine r_t ?_ | refine r_nil ?_); conv => whnf) | fail)
 conv => lhs; whnf
 rw [hend]
theorem spec_NameOk (s : ByteArray) : Rdr Try.prog 72 [.str s] (.bool (nameOk s)) := by
 refine Rdr.intro' hm c72 (Nat.le_of_ble_eq_true rfl) ?_
 conv => whnf
 repeat' (first | (refine g_op ?_; conv => whnf) | (refine And.intro ?_ ?_; (focus exact au0); conv => whnf) | (refine g_seq ?_) | (refine XS.go ?_) | (refine g_ops ?_) | ((first | refine g_nil ?_ | refine g_cond ?_ | refine XCL.of_rdr (spec_In _ _ _) ?_); conv => whnf) | fail)
 refine Br.mk (fun hb => ?_) (fun hb => ?_)
 ·have hn : inR s.size 1 20 = false := by simpa using hb
  conv => whnf
  repeat' (first | (refine g_op ?_; conv => whnf) | (refine And.intro ?_ ?_; (focus exact au0); conv => whnf) | (refine g_seq ?_) | (refine XS.go ?_) | (refine g_ops ?_) | ((first | refine g_nil ?_ | refine g_ret ?_ | refine r_t ?_ | refine r_nil ?_); conv => whnf) | fail)
  conv => lhs; whnf
  simp only [nameOk, hn, Bool.false_and]
 have hn : inR s.size 1 20 = true := by simpa using hb
 have hsz : s.size ≤ 20 := by simp [inR] at hn; omega
 conv => whnf
 repeat' (first | (refine g_op ?_; conv => whnf) | (refine And.intro ?_ ?_; (focus exact au0); conv => whnf) | (refine g_seq ?_) | (refine XS.go ?_) | (refine g_ops ?_) | (refine g_loop ?_) | ((first | refine g_nil ?_ | refine g_skip ?_); conv => whnf) | (refine g_block ?_) | fail)
 refine XLc.mkL (α := Nat) (fun i => i ≤ s.size ∧ nameOk s = (allN (fun i => okc (byteAt s i)) (s.size - i) i && true)) (fun i => s.size - i) (fun i gs => [.str s, .any, .any, .int .i64 (i : Int)]) (fun i gs => []) 0 ⟨Nat.zero_le _, by simp [nameOk, hn]⟩ ?_ ?_
 ·refine ⟨?_, ?_⟩
  ·repeat' (first | exact True.intro | refine And.intro rfl ?_)
  ·repeat' (first | exact True.intro | refine And.intro rfl ?_)
 intro i gs hI
 obtain ⟨hi, hN⟩ := hI
 repeat' (first | (refine g_op ?_; conv => whnf) | (refine And.intro ?_ ?_; (focus exact au0); conv => whnf) | (refine g_seq ?_) | (refine XS.go ?_) | (refine g_ops ?_) | ((first | refine g_nil ?_ | refine g_cond ?_); conv => whnf) | fail)
 refine Br.mk (fun hb => ?_) (fun hb => ?_)
 ·have hlt : i < s.size := by simpa using hb
  have hw : IntKind.wrap .i64 ((i : Int) + 1) = ((i + 1 : Nat) : Int) := by rw [wrap_ok (by omega) (by omega)]; rfl
  have hw1 : IntKind.wrap .i64 ((i : Int) - 1) = (i : Int) - 1 := wrap_ok (by omega) (by omega)
  have hbad := fun h => allN_bad (f := fun i => okc (byteAt s i)) hlt hN h
  have hgood := fun h => allN_good (f := fun i => okc (byteAt s i)) hlt hN h
  clear hN hb
  all_goals conv => whnf
  repeat' (first | (refine z_op ?_ ?_; (focus exact rfl); conv => whnf) | (refine z_opg0 ?_; (conv => whnf); refine And.intro ?_ ?_; (focus exact rfl); conv => whnf) | (refine z_pick ?_ ?_; (focus exact rfl); conv => whnf) | (refine z_pickg ?_; (conv => whnf); refine And.intro ?_ ?_; (focus exact rfl); conv => whnf) | (refine zs_ops ?_ ?_; (focus exact rfl)) | ((first | refine z_nil fun vals => ?_ | refine g_op ?_); conv => whnf) | (refine And.intro ?_ ?_; (focus exact au0); conv => whnf) | (refine g_seq ?_) | (refine XS.go ?_) | (refine g_ops ?_) | ((first | refine g_nil ?_ | refine g_cond ?_ | refine g_skip ?_ | refine g_ret ?_); conv => whnf) | (refine g_block ?_) | ((first | refine r_t ?_ | refine r_nil ?_); conv => whnf) | (refine Br.mk (fun hb => ?_) (fun hb => ?_) <;> conv => whnf) | fail)
  all_goals
   first
   |(refine ⟨(), hbad ?_, ⟨?_, True.intro⟩⟩
     ·clear hbad hgood hw
      first | (first | (refine (Bool.eq_false_iff.mpr fun h => ?_).symm; simp_all [okc]; done) | (refine Bool.eq_false_iff.mpr fun h => ?_; simp_all [okc]; done) | (simp_all [okc]; done) | (simp_all [okc]; omega) | (refine (Bool.eq_false_iff.mpr fun h => ?_).symm; simp_all [okc]; omega) | (refine Bool.eq_false_iff.mpr fun h => ?_; simp_all [okc]; omega) | (rw [Bool.eq_iff_iff]; constructor <;> intro h <;> simp_all [okc] <;> omega) | fail) | (rcases Nat.eq_zero_or_pos i with h0 | h0 <;> simp_all [okc] <;> omega) | (fail) | fail
     ·repeat' (first | exact True.intro | refine And.intro rfl ?_))
   |(conv => lhs; whnf
     refine congrArg D.bool (hbad ?_)
     clear hbad hgood hw
     first | (first | (refine (Bool.eq_false_iff.mpr fun h => ?_).symm; simp_all [okc]; done) | (refine Bool.eq_false_iff.mpr fun h => ?_; simp_all [okc]; done) | (simp_all [okc]; done) | (simp_all [okc]; omega) | (refine (Bool.eq_false_iff.mpr fun h => ?_).symm; simp_all [okc]; omega) | (refine Bool.eq_false_iff.mpr fun h => ?_; simp_all [okc]; omega) | (rw [Bool.eq_iff_iff]; constructor <;> intro h <;> simp_all [okc] <;> omega) | fail) | (rcases Nat.eq_zero_or_pos i with h0 | h0 <;> simp_all [okc] <;> omega) | (fail) | fail)
   |(refine ⟨i + 1, ⟨by omega, ?_⟩, by omega, ?_, ?_⟩
     ·refine hgood ?_
      clear hbad hgood hw
      first | (first | (refine (Bool.eq_false_iff.mpr fun h => ?_).symm; simp_all [okc]; done) | (refine Bool.eq_false_iff.mpr fun h => ?_; simp_all [okc]; done) | (simp_all [okc]; done) | (simp_all [okc]; omega) | (refine (Bool.eq_false_iff.mpr fun h => ?_).symm; simp_all [okc]; omega) | (refine Bool.eq_false_iff.mpr fun h => ?_; simp_all [okc]; omega) | (rw [Bool.eq_iff_iff]; constructor <;> intro h <;> simp_all [okc] <;> omega) | fail) | (rcases Nat.eq_zero_or_pos i with h0 | h0 <;> simp_all [okc] <;> omega) | (fail) | fail
     ·repeat' (first | exact True.intro | refine And.intro (congrArg (D.int .i64) hw) ?_ | refine And.intro rfl ?_)
     ·repeat' (first | exact True.intro | refine And.intro rfl ?_))
 have hge : ¬ i < s.size := by simpa using hb
 have hend : nameOk s = true := by rw [hN, allN_end hge, Bool.true_and]
 clear hN
 conv => whnf
 repeat' (first | (refine g_op ?_; conv => whnf) | (refine And.intro ?_ ?_; (focus exact au0); conv => whnf) | (refine g_seq ?_) | (refine XS.go ?_) | (refine g_ops ?_) | ((first | refine g_nil ?_ | refine g_ret ?_ | refine g_exit ?_ | refine r_t ?_ | refine r_nil ?_); conv => whnf) | fail)
 conv => lhs; whnf
 rw [hend]
end Go.Ab
set_option linter.unusedSimpArgs false
set_option linter.unusedVariables false
namespace Go.Ab
open Go Go.RowKit Go.Proofs
attribute [local irreducible] XC Rdr IntKind.wrap xw xos xqs xr xd
set_option maxRecDepth 100000
set_option maxHeartbeats 16000000
def cf76 : CF := ⟨112,[.t 4],(.seq (.ops [Oo 2 (.bx (.t 0)),Ok 4 (.bool false)]) (.seq (.seq (.ops [Of 5 0 2,Ol 6 5,Oc 7 77 [.t 6],Oo 8 (.not (.t 7)),Om 9 8,⟨some 10,.fa 1 1 1 (.t 2),some (9,false)⟩,⟨some 11,.ld 1 false (.t 10),some (9,false)⟩,⟨some 12,.mv (.t 1),some (9,false)⟩,⟨some 13,.call 75 [.t 11,(.k (.int .i64 1)),.t 12],some (9,false)⟩,⟨some 14,.not (.t 13),some (9,false)⟩,Oo 15 (.pick (.t 9) (.k (.bool true)) (.t 14)),Om 16 15,⟨some 17,.fa 3 1 3 (.t 2),some (16,false)⟩,⟨some 18,.ld 1 false (.t 17),some (16,false)⟩,⟨some 19,.call 75 [.t 18,(.k (.int .i64 1)),(.k (.int .i64 1000000))],some (16,false)⟩,⟨some 20,.not (.t 19),some (16,false)⟩,Oo 21 (.pick (.t 16) (.k (.bool true)) (.t 20)),Om 22 21,⟨some 23,.fa 7 1 7 (.t 2),some (22,false)⟩,⟨some 24,.ld 1 false (.t 23),some (22,false)⟩,⟨some 25,.call 75 [.t 24,(.k (.int .i64 1)),(.k (.int .i64 1000000))],some (22,false)⟩,⟨some 26,.not (.t 25),some (22,false)⟩,Oo 27 (.pick (.t 22) (.k (.bool true)) (.t 26)),Om 28 27,⟨some 29,.fa 4 1 4 (.t 2),some (28,false)⟩,⟨some 30,.ld 1 false (.t 29),some (28,false)⟩,⟨some 31,.call 75 [.t 30,(.k (.int .i64 0)),(.k (.int .i64 10))],some (28,false)⟩,⟨some 32,.not (.t 31),some (28,false)⟩,Oo 33 (.pick (.t 28) (.k (.bool true)) (.t 32)),Om 34 33,⟨some 35,.fa 5 1 5 (.t 2),some (34,false)⟩,⟨some 36,.ld 1 false (.t 35),some (34,false)⟩,⟨some 37,.call 75 [.t 36,(.k (.int .i64 0)),(.k (.int .i64 10))],some (34,false)⟩,⟨some 38,.not (.t 37),some (34,false)⟩,Oo 39 (.pick (.t 34) (.k (.bool true)) (.t 38)),Om 40 39,⟨some 41,.fa 6 1 6 (.t 2),some (40,false)⟩,⟨some 42,.ld 1 false (.t 41),some (40,false)⟩,⟨some 43,.call 75 [.t 42,(.k (.int .i64 0)),(.k (.int .i64 10))],some (40,false)⟩,⟨some 44,.not (.t 43),some (40,false)⟩,Oo 45 (.pick (.t 40) (.k (.bool true)) (.t 44)),Om 46 45,⟨some 47,.fa 5 1 5 (.t 2),some (46,false)⟩,⟨some 48,.ld 1 false (.t 47),some (46,false)⟩,⟨some 49,.fa 6 1 6 (.t 2),some (46,false)⟩,⟨some 50,.ld 1 false (.t 49),some (46,false)⟩,⟨some 51,.bin .add (.t 48) (.t 50),some (46,false)⟩,⟨some 52,.bin .eql (.t 51) (.k (.int .i64 0)),some (46,false)⟩,Oo 53 (.pick (.t 46) (.k (.bool true)) (.t 52))]) (.cond (.t 53) (.seq (.ops [Ok 4 (.bool false)]) .ret) .skip)) (.seq (.seq (.ops [Of 54 8 2,Ol 55 54,Oc 56 75 [.t 55,(.k (.int .i64 0)),(.k (.int .i64 1000000))],Oo 57 (.not (.t 56)),Om 58 57,⟨some 59,.fa 11 1 11 (.t 2),some (58,false)⟩,⟨some 60,.ld 1 false (.t 59),some (58,false)⟩,⟨some 61,.call 75 [.t 60,(.k (.int .i64 0)),(.k (.int .i64 1000000))],some (58,false)⟩,⟨some 62,.not (.t 61),some (58,false)⟩,Oo 63 (.pick (.t 58) (.k (.bool true)) (.t 62)),Om 64 63,⟨some 65,.fa 9 1 9 (.t 2),some (64,false)⟩,⟨some 66,.ld 1 false (.t 65),some (64,false)⟩,⟨some 67,.call 75 [.t 66,(.k (.int .i64 0)),(.k (.int .i64 10))],some (64,false)⟩,⟨some 68,.not (.t 67),some (64,false)⟩,Oo 69 (.pick (.t 64) (.k (.bool true)) (.t 68)),Om 70 69,⟨some 71,.fa 10 1 10 (.t 2),some (70,false)⟩,⟨some 72,.ld 1 false (.t 71),some (70,false)⟩,⟨some 73,.call 75 [.t 72,(.k (.int .i64 0)),(.k (.int .i64 10))],some (70,false)⟩,⟨some 74,.not (.t 73),some (70,false)⟩,Oo 75 (.pick (.t 70) (.k (.bool true)) (.t 74)),Om 76 75,⟨some 77,.fa 9 1 9 (.t 2),some (76,false)⟩,⟨some 78,.ld 1 false (.t 77),some (76,false)⟩,⟨some 79,.fa 10 1 10 (.t 2),some (76,false)⟩,⟨some 80,.ld 1 false (.t 79),some (76,false)⟩,⟨some 81,.bin .gtr (.t 78) (.t 80),some (76,false)⟩,Oo 82 (.pick (.t 76) (.k (.bool true)) (.t 81)),Om 83 82,⟨some 84,.fa 12 1 12 (.t 2),some (83,false)⟩,⟨some 85,.ld 1 false (.t 84),some (83,false)⟩,⟨some 86,.call 75 [.t 85,(.k (.int .i64 0)),(.k (.int .i64 3))],some (83,false)⟩,⟨some 87,.not (.t 86),some (83,false)⟩,Oo 88 (.pick (.t 83) (.k (.bool true)) (.t 87))]) (.cond (.t 88) (.seq (.ops [Ok 4 (.bool false)]) .ret) .skip)) (.seq (.ops [Of 89 8 2,Ol 90 89,Oo 91 (.bin .gtr (.t 90) (.k (.int .i64 0))),Om 92 91,⟨some 93,.fa 9 1 9 (.t 2),some (92,false)⟩,⟨some 94,.ld 1 false (.t 93),some (92,false)⟩,⟨some 95,.bin .eql (.t 94) (.k (.int .i64 0)),some (92,false)⟩,⟨some 96,.mv (.t 95),some (92,false)⟩,⟨some 97,.fa 10 1 10 (.t 2),some (96,true)⟩,⟨some 98,.ld 1 false (.t 97),some (96,true)⟩,⟨some 99,.bin .eql (.t 98) (.k (.int .i64 0)),some (96,true)⟩,⟨some 100,.pick (.t 96) (.t 99) (.k (.bool false)),some (92,false)⟩,⟨some 101,.mv (.t 100),some (92,false)⟩,⟨some 102,.fa 11 1 11 (.t 2),some (101,true)⟩,⟨some 103,.ld 1 false (.t 102),some (101,true)⟩,⟨some 104,.bin .eql (.t 103) (.k (.int .i64 0)),some (101,true)⟩,⟨some 105,.pick (.t 101) (.t 104) (.k (.bool false)),some (92,false)⟩,⟨some 106,.mv (.t 105),some (92,false)⟩,⟨some 107,.fa 12 1 12 (.t 2),some (106,true)⟩,⟨some 108,.ld 1 false (.t 107),some (106,true)⟩,⟨some 109,.bin .eql (.t 108) (.k (.int .i64 0)),some (106,true)⟩,⟨some 110,.pick (.t 106) (.t 109) (.k (.bool false)),some (92,false)⟩,Oo 111 (.pick (.t 92) (.k (.bool true)) (.t 110)),Om 4 111]) .ret))))⟩
theorem c76 : compileF Try.prog [] 76 = some cf76 := by kernel_rfl
def cf71 : CF := ⟨100,[.t 4],(.seq (.ops [Oo 2 (.bx (.t 0)),Ok 4 (.bool false)]) (.seq (.seq (.ops [Of 5 0 2,Ol 6 5,Oc 7 72 [.t 6],Oo 8 (.not (.t 7)),Om 9 8,⟨some 10,.fa 1 1 1 (.t 2),some (9,false)⟩,⟨some 11,.ld 1 false (.t 10),some (9,false)⟩,⟨some 12,.mv (.t 1),some (9,false)⟩,⟨some 13,.call 70 [.t 11,(.k (.int .i64 1)),.t 12],some (9,false)⟩,⟨some 14,.not (.t 13),some (9,false)⟩,Oo 15 (.pick (.t 9) (.k (.bool true)) (.t 14)),Om 16 15,⟨some 17,.fa 3 1 3 (.t 2),some (16,false)⟩,⟨some 18,.ld 1 false (.t 17),some (16,false)⟩,⟨some 19,.call 70 [.t 18,(.k (.int .i64 1)),(.k (.int .i64 1000000))],some (16,false)⟩,⟨some 20,.not (.t 19),some (16,false)⟩,Oo 21 (.pick (.t 16) (.k (.bool true)) (.t 20)),Om 22 21,⟨some 23,.fa 7 1 7 (.t 2),some (22,false)⟩,⟨some 24,.ld 1 false (.t 23),some (22,false)⟩,⟨some 25,.call 70 [.t 24,(.k (.int .i64 1)),(.k (.int .i64 1000000))],some (22,false)⟩,⟨some 26,.not (.t 25),some (22,false)⟩,Oo 27 (.pick (.t 22) (.k (.bool true)) (.t 26)),Om 28 27,⟨some 29,.fa 4 1 4 (.t 2),some (28,false)⟩,⟨some 30,.ld 1 false (.t 29),some (28,false)⟩,⟨some 31,.call 70 [.t 30,(.k (.int .i64 0)),(.k (.int .i64 10))],some (28,false)⟩,⟨some 32,.not (.t 31),some (28,false)⟩,Oo 33 (.pick (.t 28) (.k (.bool true)) (.t 32)),Om 34 33,⟨some 35,.fa 5 1 5 (.t 2),some (34,false)⟩,⟨some 36,.ld 1 false (.t 35),some (34,false)⟩,⟨some 37,.call 70 [.t 36,(.k (.int .i64 0)),(.k (.int .i64 10))],some (34,false)⟩,⟨some 38,.not (.t 37),some (34,false)⟩,Oo 39 (.pick (.t 34) (.k (.bool true)) (.t 38)),Om 40 39,⟨some 41,.fa 6 1 6 (.t 2),some (40,false)⟩,⟨some 42,.ld 1 false (.t 41),some (40,false)⟩,⟨some 43,.call 70 [.t 42,(.k (.int .i64 0)),(.k (.int .i64 10))],some (40,false)⟩,⟨some 44,.not (.t 43),some (40,false)⟩,Oo 45 (.pick (.t 40) (.k (.bool true)) (.t 44)),Om 46 45,⟨some 47,.fa 5 1 5 (.t 2),some (46,false)⟩,⟨some 48,.ld 1 false (.t 47),some (46,false)⟩,⟨some 49,.fa 6 1 6 (.t 2),some (46,false)⟩,⟨some 50,.ld 1 false (.t 49),some (46,false)⟩,⟨some 51,.bin .add (.t 48) (.t 50),some (46,false)⟩,⟨some 52,.bin .eql (.t 51) (.k (.int .i64 0)),some (46,false)⟩,Oo 53 (.pick (.t 46) (.k (.bool true)) (.t 52))]) (.cond (.t 53) (.seq (.ops [Ok 4 (.bool false)]) .ret) .skip)) (.seq (.seq (.ops [Of 54 8 2,Ol 55 54,Oo 56 (.bin .eql (.t 55) (.k (.int .i64 0)))]) (.cond (.t 56) (.seq (.ops [Of 57 9 2,Ol 58 57,Oo 59 (.bin .eql (.t 58) (.k (.int .i64 0))),Om 60 59,⟨some 61,.fa 10 1 10 (.t 2),some (60,true)⟩,⟨some 62,.ld 1 false (.t 61),some (60,true)⟩,⟨some 63,.bin .eql (.t 62) (.k (.int .i64 0)),some (60,true)⟩,Oo 64 (.pick (.t 60) (.t 63) (.k (.bool false))),Om 65 64,⟨some 66,.fa 11 1 11 (.t 2),some (65,true)⟩,⟨some 67,.ld 1 false (.t 66),some (65,true)⟩,⟨some 68,.bin .eql (.t 67) (.k (.int .i64 0)),some (65,true)⟩,Oo 69 (.pick (.t 65) (.t 68) (.k (.bool false))),Om 70 69,⟨some 71,.fa 12 1 12 (.t 2),some (70,true)⟩,⟨some 72,.ld 1 false (.t 71),some (70,true)⟩,⟨some 73,.bin .eql (.t 72) (.k (.int .i64 0)),some (70,true)⟩,Oo 74 (.pick (.t 70) (.t 73) (.k (.bool false))),Om 4 74]) .ret) .skip)) (.seq (.ops [Of 75 8 2,Ol 76 75,Oc 77 70 [.t 76,(.k (.int .i64 0)),(.k (.int .i64 1000000))],Om 78 77,⟨some 79,.fa 11 1 11 (.t 2),some (78,true)⟩,⟨some 80,.ld 1 false (.t 79),some (78,true)⟩,⟨some 81,.call 70 [.t 80,(.k (.int .i64 0)),(.k (.int .i64 1000000))],some (78,true)⟩,Oo 82 (.pick (.t 78) (.t 81) (.k (.bool false))),Om 83 82,⟨some 84,.fa 9 1 9 (.t 2),some (83,true)⟩,⟨some 85,.ld 1 false (.t 84),some (83,true)⟩,⟨some 86,.call 70 [.t 85,(.k (.int .i64 0)),(.k (.int .i64 10))],some (83,true)⟩,Oo 87 (.pick (.t 83) (.t 86) (.k (.bool false))),Om 88 87,⟨some 89,.fa 10 1 10 (.t 2),some (88,true)⟩,⟨some 90,.ld 1 false (.t 89),some (88,true)⟩,⟨some 91,.fa 9 1 9 (.t 2),some (88,true)⟩,⟨some 92,.ld 1 false (.t 91),some (88,true)⟩,⟨some 93,.call 70 [.t 90,.t 92,(.k (.int .i64 10))],some (88,true)⟩,Oo 94 (.pick (.t 88) (.t 93) (.k (.bool false))),Om 95 94,⟨some 96,.fa 12 1 12 (.t 2),some (95,true)⟩,⟨some 97,.ld 1 false (.t 96),some (95,true)⟩,⟨some 98,.call 70 [.t 97,(.k (.int .i64 0)),(.k (.int .i64 3))],some (95,true)⟩,Oo 99 (.pick (.t 95) (.t 98) (.k (.bool false))),Om 4 99]) .ret))))⟩
theorem c71 : compileF Try.prog [] 71 = some cf71 := by kernel_rfl
def pOk (s : StewService) : Bool := inR s.fPer 0 1000000 && inR s.fLoad 0 1000000 && inR s.fLeast 0 10 && inR s.fMost 0 10 && !decide (s.fLeast > s.fMost) && inR s.fCool 0 3
def svcOk (s : StewService) (now : Int) : Bool := nameOk s.fName && inR s.fVersion 1 now && inR s.fImage 1 1000000 && inR s.fNext 1 1000000 && inR s.fWant 0 10 && inR s.fDown 0 10 && inR s.fOver 0 10 && !(IntKind.wrap .i64 (s.fDown + s.fOver) == 0) && pOk s && (decide (s.fPer > 0) || (s.fLeast == 0 && s.fMost == 0 && s.fLoad == 0 && s.fCool == 0))
theorem impl_serviceOk (s : StewService) (now : Int) : Rdr Try.prog 76 [s.D, .int .i64 now] (.bool (svcOk s now)) := by
 refine Rdr.intro' hm c76 (Nat.le_of_ble_eq_true rfl) ?_
 conv => whnf
 repeat' (first | (refine z_ld1 ?_; first | (refine z_ld rfl rfl rfl rfl au1 au2 ?_; conv => whnf) | (refine z_ld0 rfl ?_; conv => whnf)) | (refine z_ld1g ?_; first | (refine z_ldg rfl rfl rfl rfl rfl rfl rfl (by (repeat intro _); exact ⟨au1, au2⟩) rfl rfl rfl rfl ?_; conv => whnf) | (refine z_ld0g ?_; (conv => whnf); refine And.intro ?_ ?_; (focus exact rfl); conv => whnf)) | (refine z_op ?_ ?_; (focus exact rfl); conv => whnf) | (refine z_opg0 ?_; (conv => whnf); refine And.intro ?_ ?_; (focus exact rfl); conv => whnf) | (refine z_pick ?_ ?_; (focus exact rfl); conv => whnf) | (refine z_pickg ?_; (conv => whnf); refine And.intro ?_ ?_; (focus exact rfl); conv => whnf) | (refine zs_ops ?_ ?_; (focus exact rfl)) | (refine z_nil fun vals => ?_; conv => whnf) | (refine z_call ?_ ?_; (focus exact rfl)) | (refine z_callg0 ?_; (conv => whnf); refine And.intro ?_ ?_; (focus exact rfl)) | (refine RC.of (impl_isName _) ?_ ?_; (focus exact rfl); conv => whnf) | (refine RC.of (impl_within _ _ _) ?_ ?_; (focus exact rfl); conv => whnf) | (refine g_op ?_; conv => whnf) | (refine And.intro ?_ ?_; (focus exact au0); conv => whnf) | (refine g_seq ?_) | (refine XS.go ?_) | (refine g_ops ?_) | ((first | refine g_nil ?_ | refine g_cond ?_ | refine g_skip ?_ | refine g_ret ?_ | refine r_t ?_ | refine r_nil ?_ | refine fun _ => ?_); conv => whnf) | (refine Br.mk (fun hb => ?_) (fun hb => ?_) <;> conv => whnf) | fail)
 all_goals (conv => lhs; whnf)
 all_goals refine congrArg D.bool ?_
 all_goals first | (refine (Bool.eq_false_iff.mpr fun h => ?_).symm; simp_all [svcOk, pOk]; done) | (refine Bool.eq_false_iff.mpr fun h => ?_; simp_all [svcOk, pOk]; done) | (simp_all [svcOk, pOk]; done) | (simp_all [svcOk, pOk]; omega) | (refine (Bool.eq_false_iff.mpr fun h => ?_).symm; simp_all [svcOk, pOk]; omega) | (refine Bool.eq_false_iff.mpr fun h => ?_; simp_all [svcOk, pOk]; omega) | (rw [Bool.eq_iff_iff]; constructor <;> intro h <;> simp_all [svcOk, pOk] <;> omega) | fail
theorem spec_ServiceOk (s : StewService) (now : Int) : Rdr Try.prog 71 [s.D, .int .i64 now] (.bool (svcOk s now)) := by
 refine Rdr.intro' hm c71 (Nat.le_of_ble_eq_true rfl) ?_
 conv => whnf
 repeat' (first | (refine z_ld1 ?_; first | (refine z_ld rfl rfl rfl rfl au1 au2 ?_; conv => whnf) | (refine z_ld0 rfl ?_; conv => whnf)) | (refine z_ld1g ?_; first | (refine z_ldg rfl rfl rfl rfl rfl rfl rfl (by (repeat intro _); exact ⟨au1, au2⟩) rfl rfl rfl rfl ?_; conv => whnf) | (refine z_ld0g ?_; (conv => whnf); refine And.intro ?_ ?_; (focus exact rfl); conv => whnf)) | (refine z_op ?_ ?_; (focus exact rfl); conv => whnf) | (refine z_opg0 ?_; (conv => whnf); refine And.intro ?_ ?_; (focus exact rfl); conv => whnf) | (refine z_pick ?_ ?_; (focus exact rfl); conv => whnf) | (refine zs_ops ?_ ?_; (focus exact rfl)) | (refine z_nil fun vals => ?_; conv => whnf) | (refine z_call ?_ ?_; (focus exact rfl)) | (refine z_callg0 ?_; (conv => whnf); refine And.intro ?_ ?_; (focus exact rfl)) | (refine RC.of (spec_NameOk _) ?_ ?_; (focus exact rfl); conv => whnf) | (refine RC.of (spec_In _ _ _) ?_ ?_; (focus exact rfl); conv => whnf) | (refine g_op ?_; conv => whnf) | (refine And.intro ?_ ?_; (focus exact au0); conv => whnf) | (refine g_seq ?_) | (refine XS.go ?_) | (refine g_ops ?_) | ((first | refine g_nil ?_ | refine g_cond ?_ | refine g_skip ?_ | refine g_ret ?_ | refine r_t ?_ | refine r_nil ?_ | refine fun _ => ?_); conv => whnf) | (refine Br.mk (fun hb => ?_) (fun hb => ?_) <;> conv => whnf) | fail)
 all_goals (conv => lhs; whnf)
 all_goals refine congrArg D.bool ?_
 all_goals first | (refine (Bool.eq_false_iff.mpr fun h => ?_).symm; simp_all [svcOk, pOk, inR]; done) | (refine Bool.eq_false_iff.mpr fun h => ?_; simp_all [svcOk, pOk, inR]; done) | (simp_all [svcOk, pOk, inR]; done) | (simp_all [svcOk, pOk, inR]; omega) | (refine (Bool.eq_false_iff.mpr fun h => ?_).symm; simp_all [svcOk, pOk, inR]; omega) | (refine Bool.eq_false_iff.mpr fun h => ?_; simp_all [svcOk, pOk, inR]; omega) | (rw [Bool.eq_iff_iff]; constructor <;> intro h <;> simp_all [svcOk, pOk, inR] <;> omega) | fail
end Go.Ab
