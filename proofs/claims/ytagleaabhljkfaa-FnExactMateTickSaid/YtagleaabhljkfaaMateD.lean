/- Steps towards the law: the machine, contracts of functions and facts of lists. -/
import Derived.Test.YtagleaabhljkfaaMateB
import Derived.Test.YtagleaabhljkfaaRows
set_option linter.unusedSimpArgs false
set_option linter.unusedVariables false
namespace Go.Ab
open Go Go.RowKit Go.Proofs
attribute [local irreducible] XC Rdr IntKind.wrap xw xos xqs xr xd
set_option maxRecDepth 100000
set_option maxHeartbeats 16000000
def cf14 : CF := ⟨12,[.t 4],(.seq (.ops [Oo 2 (.bx (.t 0)),Ok 4 (.int .i64 0)]) (.seq (.ops [Oo 5 (.fa 0 7 0 (.t 2)),Od 6 7 5,Om 7 1,Oc 8 60 [.t 6,.t 7],Om 1 8]) (.seq (.seq (.ops [Om 9 1,Oo 10 (.bin .lss (.t 9) (.k (.int .i64 0)))]) (.cond (.t 10) (.seq (.ops [Ok 4 (.int .i64 (-1))]) .ret) .skip)) (.seq (.ops [Om 11 1,Om 4 11]) .ret))))⟩
theorem c14 : compileF Try.prog [] 14 = some cf14 := by kernel_rfl
def cf16 : CF := ⟨21,[.c 2 11 true],(.seq (.ops [Oo 1 (.bx (.t 0)),Oo 2 (.al (.agg [.agg [.str ⟨#[]⟩,.int .i64 0,.str ⟨#[]⟩,.int .i64 0,.int .i64 0,.int .i64 0,.int .i64 0],.int .i64 0,.int .i64 0,.int .i64 0,.int .i64 0]))]) (.seq (.ops [Oo 3 (.al (.agg [.agg [.str ⟨#[]⟩,.int .i64 0,.str ⟨#[]⟩,.int .i64 0,.int .i64 0,.int .i64 0,.int .i64 0],.int .i64 0,.int .i64 0,.int .i64 0,.int .i64 0]))]) (.seq (.ops [Oo 4 (.fa 0 7 0 (.t 1)),Od 5 7 4,Oc 6 61 [.t 5],Oo 7 (.fa 0 7 0 (.t 3)),Os 7 7 6]) (.seq (.ops [Oo 8 (.fa 7 1 1 (.t 1)),Ol 9 8,Oo 10 (.fa 7 1 1 (.t 3)),Os 1 10 9]) (.seq (.ops [Oo 11 (.fa 8 1 2 (.t 1)),Ol 12 11,Oo 13 (.fa 8 1 2 (.t 3)),Os 1 13 12]) (.seq (.ops [Oo 14 (.fa 9 1 3 (.t 1)),Ol 15 14,Oo 16 (.fa 9 1 3 (.t 3)),Os 1 16 15]) (.seq (.ops [Oo 17 (.fa 10 1 4 (.t 1)),Ol 18 17,Oo 19 (.fa 10 1 4 (.t 3)),Os 1 19 18]) (.seq (.ops [Od 20 11 3,Os 11 2 20]) .ret))))))))⟩
theorem c16 : compileF Try.prog [] 16 = some cf16 := by kernel_rfl
def cf67 : CF := ⟨31,[.t 4],(.seq (.ops [Oo 2 (.bx (.t 0)),Oo 3 (.bx (.t 1)),Ok 4 (.bool false)]) (.seq (.seq (.ops [Oo 5 (.fa 0 7 0 (.t 2)),Od 6 7 5,Oo 7 (.fa 0 7 0 (.t 3)),Od 8 7 7,Oc 9 64 [.t 6,.t 8],Oo 10 (.not (.t 9))]) (.cond (.t 10) (.seq (.ops [Ok 4 (.bool false)]) .ret) .skip)) (.seq (.seq (.ops [Oo 11 (.fa 7 1 1 (.t 2)),Ol 12 11,Oo 13 (.fa 7 1 1 (.t 3)),Ol 14 13,Ob 15 .neq 12 14]) (.cond (.t 15) (.seq (.ops [Ok 4 (.bool false)]) .ret) .skip)) (.seq (.seq (.ops [Oo 16 (.fa 8 1 2 (.t 2)),Ol 17 16,Oo 18 (.fa 8 1 2 (.t 3)),Ol 19 18,Ob 20 .neq 17 19]) (.cond (.t 20) (.seq (.ops [Ok 4 (.bool false)]) .ret) .skip)) (.seq (.seq (.ops [Oo 21 (.fa 9 1 3 (.t 2)),Ol 22 21,Oo 23 (.fa 9 1 3 (.t 3)),Ol 24 23,Ob 25 .neq 22 24]) (.cond (.t 25) (.seq (.ops [Ok 4 (.bool false)]) .ret) .skip)) (.seq (.seq (.ops [Oo 26 (.fa 10 1 4 (.t 2)),Ol 27 26,Oo 28 (.fa 10 1 4 (.t 3)),Ol 29 28,Ob 30 .neq 27 29]) (.cond (.t 30) (.seq (.ops [Ok 4 (.bool false)]) .ret) .skip)) (.seq (.ops [Ok 4 (.bool true)]) .ret)))))))⟩
theorem c67 : compileF Try.prog [] 67 = some cf67 := by kernel_rfl
def cf23 : CF := ⟨27,[.t 4],(.seq (.ops [Ok 4 (.int .i64 0)]) (.seq (.ops [Om 6 1,Om 7 0,Og 8 7,Ob 9 .sub 6 8,Om 1 9]) (.seq (.seq (.ops [Om 10 1,Oo 11 (.bin .lss (.t 10) (.k (.int .i64 0)))]) (.cond (.t 11) (.seq (.ops [Ok 4 (.int .i64 (-1))]) .ret) .skip)) (.seq (.seq (.ops [Ok 5 (.int .i64 0)]) (.block 0 (.loop (.seq (.seq (.ops [Om 12 5,Om 13 0,Og 14 13,Ob 15 .lss 12 14]) (.cond (.t 15) .skip (.exit 0))) (.seq (.block 1 (.seq (.ops [Om 18 0,Om 19 5,Ox 20 11 18 19,Od 21 11 20,Om 22 1,Oc 23 14 [.t 21,.t 22],Om 1 23]) (.seq (.ops [Om 24 1,Oo 25 (.bin .lss (.t 24) (.k (.int .i64 0)))]) (.cond (.t 25) (.seq (.ops [Ok 4 (.int .i64 (-1))]) .ret) .skip)))) (.ops [Om 16 5,Oi 17 16,Om 5 17])))))) (.seq (.ops [Om 26 1,Om 4 26]) .ret)))))⟩
theorem c23 : compileF Try.prog [] 23 = some cf23 := by kernel_rfl
def cf25 : CF := ⟨23,[.t 2],(.seq (.ops [Ok 2 (.nil)]) (.seq (.ops [Om 5 0,Og 6 5,Oo 7 (.mk (.agg [.agg [.str ⟨#[]⟩,.int .i64 0,.str ⟨#[]⟩,.int .i64 0,.int .i64 0,.int .i64 0,.int .i64 0],.int .i64 0,.int .i64 0,.int .i64 0,.int .i64 0]) 104 (.t 6) (.t 6)),Om 3 7]) (.seq (.seq (.ops [Ok 4 (.int .i64 0)]) (.block 0 (.loop (.seq (.seq (.ops [Om 8 4,Om 9 0,Og 10 9,Ob 11 .lss 8 10]) (.cond (.t 11) .skip (.exit 0))) (.seq (.block 1 (.ops [Om 14 3,Om 15 4,Om 16 0,Om 17 4,Ox 18 11 16 17,Od 19 11 18,Oc 20 16 [.t 19],Ox 21 11 14 15,Os 11 21 20])) (.ops [Om 12 4,Oi 13 12,Om 4 13])))))) (.seq (.ops [Om 22 3,Om 2 22]) .ret))))⟩
theorem c25 : compileF Try.prog [] 25 = some cf25 := by kernel_rfl
def cf27 : CF := ⟨27,[.t 4],(.seq (.ops [Ok 4 (.bool false)]) (.seq (.seq (.ops [Om 6 0,Og 7 6,Om 8 1,Og 9 8,Ob 10 .neq 7 9]) (.cond (.t 10) (.seq (.ops [Ok 4 (.bool false)]) .ret) .skip)) (.seq (.seq (.ops [Ok 5 (.int .i64 0)]) (.block 0 (.loop (.seq (.seq (.ops [Om 11 5,Om 12 0,Og 13 12,Ob 14 .lss 11 13]) (.cond (.t 14) .skip (.exit 0))) (.seq (.block 1 (.seq (.quiet [Om 17 0,Om 18 5,Ox 19 11 17 18,Od 20 11 19,Om 21 1,Om 22 5,Ox 23 11 21 22,Od 24 11 23,Oc 25 67 [.t 20,.t 24],Oo 26 (.not (.t 25))]) (.cond (.t 26) (.seq (.ops [Ok 4 (.bool false)]) .ret) .skip))) (.ops [Om 15 5,Oi 16 15,Om 5 16])))))) (.seq (.ops [Ok 4 (.bool true)]) .ret))))⟩
theorem c27 : compileF Try.prog [] 27 = some cf27 := by kernel_rfl
def cf107 : CF := ⟨20,[.t 4],(.seq (.ops [Oo 2 (.bx (.t 0)),Ok 4 (.int .i64 0)]) (.seq (.ops [Om 5 1,Of 6 0 2,Ol 7 6,Oo 8 (.lens (.t 7)),Ob 9 .sub 5 8,Om 1 9]) (.seq (.seq (.ops [Om 10 1,Oo 11 (.bin .lss (.t 10) (.k (.int .i64 0)))]) (.cond (.t 11) (.seq (.ops [Ok 4 (.int .i64 (-1))]) .ret) .skip)) (.seq (.ops [Om 12 1,Of 13 1 2,Ol 14 13,Oo 15 (.lens (.t 14)),Ob 16 .sub 12 15,Om 1 16]) (.seq (.seq (.ops [Om 17 1,Oo 18 (.bin .lss (.t 17) (.k (.int .i64 0)))]) (.cond (.t 18) (.seq (.ops [Ok 4 (.int .i64 (-1))]) .ret) .skip)) (.seq (.ops [Om 19 1,Om 4 19]) .ret))))))⟩
theorem c107 : compileF Try.prog [] 107 = some cf107 := by kernel_rfl
def cf110 : CF := ⟨17,[.c 2 4 true],(.seq (.ops [Oo 1 (.bx (.t 0)),Oo 2 (.al (.agg [.str ⟨#[]⟩,.str ⟨#[]⟩,.int .i64 0,.int .i64 0]))]) (.seq (.ops [Oo 3 (.al (.agg [.str ⟨#[]⟩,.str ⟨#[]⟩,.int .i64 0,.int .i64 0]))]) (.seq (.ops [Of 4 0 1,Ol 5 4,Of 6 0 3,Os 1 6 5]) (.seq (.ops [Of 7 1 1,Ol 8 7,Of 9 1 3,Os 1 9 8]) (.seq (.ops [Of 10 2 1,Ol 11 10,Of 12 2 3,Os 1 12 11]) (.seq (.ops [Of 13 3 1,Ol 14 13,Of 15 3 3,Os 1 15 14]) (.seq (.ops [Od 16 4 3,Os 4 2 16]) .ret)))))))⟩
theorem c110 : compileF Try.prog [] 110 = some cf110 := by kernel_rfl
def cf114 : CF := ⟨25,[.t 4],(.seq (.ops [Oo 2 (.bx (.t 0)),Oo 3 (.bx (.t 1)),Ok 4 (.bool false)]) (.seq (.seq (.ops [Of 5 0 2,Ol 6 5,Of 7 0 3,Ol 8 7,Ob 9 .neq 6 8]) (.cond (.t 9) (.seq (.ops [Ok 4 (.bool false)]) .ret) .skip)) (.seq (.seq (.ops [Of 10 1 2,Ol 11 10,Of 12 1 3,Ol 13 12,Ob 14 .neq 11 13]) (.cond (.t 14) (.seq (.ops [Ok 4 (.bool false)]) .ret) .skip)) (.seq (.seq (.ops [Of 15 2 2,Ol 16 15,Of 17 2 3,Ol 18 17,Ob 19 .neq 16 18]) (.cond (.t 19) (.seq (.ops [Ok 4 (.bool false)]) .ret) .skip)) (.seq (.seq (.ops [Of 20 3 2,Ol 21 20,Of 22 3 3,Ol 23 22,Ob 24 .neq 21 23]) (.cond (.t 24) (.seq (.ops [Ok 4 (.bool false)]) .ret) .skip)) (.seq (.ops [Ok 4 (.bool true)]) .ret))))))⟩
theorem c114 : compileF Try.prog [] 114 = some cf114 := by kernel_rfl
def cf78 : CF := ⟨27,[.t 4],(.seq (.ops [Ok 4 (.int .i64 0)]) (.seq (.ops [Om 6 1,Om 7 0,Og 8 7,Ob 9 .sub 6 8,Om 1 9]) (.seq (.seq (.ops [Om 10 1,Oo 11 (.bin .lss (.t 10) (.k (.int .i64 0)))]) (.cond (.t 11) (.seq (.ops [Ok 4 (.int .i64 (-1))]) .ret) .skip)) (.seq (.seq (.ops [Ok 5 (.int .i64 0)]) (.block 0 (.loop (.seq (.seq (.ops [Om 12 5,Om 13 0,Og 14 13,Ob 15 .lss 12 14]) (.cond (.t 15) .skip (.exit 0))) (.seq (.block 1 (.seq (.ops [Om 18 0,Om 19 5,Ox 20 4 18 19,Od 21 4 20,Om 22 1,Oc 23 107 [.t 21,.t 22],Om 1 23]) (.seq (.ops [Om 24 1,Oo 25 (.bin .lss (.t 24) (.k (.int .i64 0)))]) (.cond (.t 25) (.seq (.ops [Ok 4 (.int .i64 (-1))]) .ret) .skip)))) (.ops [Om 16 5,Oi 17 16,Om 5 17])))))) (.seq (.ops [Om 26 1,Om 4 26]) .ret)))))⟩
theorem c78 : compileF Try.prog [] 78 = some cf78 := by kernel_rfl
def cf83 : CF := ⟨23,[.t 2],(.seq (.ops [Ok 2 (.nil)]) (.seq (.ops [Om 5 0,Og 6 5,Oo 7 (.mk (.agg [.str ⟨#[]⟩,.str ⟨#[]⟩,.int .i64 0,.int .i64 0]) 48 (.t 6) (.t 6)),Om 3 7]) (.seq (.seq (.ops [Ok 4 (.int .i64 0)]) (.block 0 (.loop (.seq (.seq (.ops [Om 8 4,Om 9 0,Og 10 9,Ob 11 .lss 8 10]) (.cond (.t 11) .skip (.exit 0))) (.seq (.block 1 (.ops [Om 14 3,Om 15 4,Om 16 0,Om 17 4,Ox 18 4 16 17,Od 19 4 18,Oc 20 110 [.t 19],Ox 21 4 14 15,Os 4 21 20])) (.ops [Om 12 4,Oi 13 12,Om 4 13])))))) (.seq (.ops [Om 22 3,Om 2 22]) .ret))))⟩
theorem c83 : compileF Try.prog [] 83 = some cf83 := by kernel_rfl
def cf86 : CF := ⟨27,[.t 4],(.seq (.ops [Ok 4 (.bool false)]) (.seq (.seq (.ops [Om 6 0,Og 7 6,Om 8 1,Og 9 8,Ob 10 .neq 7 9]) (.cond (.t 10) (.seq (.ops [Ok 4 (.bool false)]) .ret) .skip)) (.seq (.seq (.ops [Ok 5 (.int .i64 0)]) (.block 0 (.loop (.seq (.seq (.ops [Om 11 5,Om 12 0,Og 13 12,Ob 14 .lss 11 13]) (.cond (.t 14) .skip (.exit 0))) (.seq (.block 1 (.seq (.quiet [Om 17 0,Om 18 5,Ox 19 4 17 18,Od 20 4 19,Om 21 1,Om 22 5,Ox 23 4 21 22,Od 24 4 23,Oc 25 114 [.t 20,.t 24],Oo 26 (.not (.t 25))]) (.cond (.t 26) (.seq (.ops [Ok 4 (.bool false)]) .ret) .skip))) (.ops [Om 15 5,Oi 16 15,Om 5 16])))))) (.seq (.ops [Ok 4 (.bool true)]) .ret))))⟩
theorem c86 : compileF Try.prog [] 86 = some cf86 := by kernel_rfl
def cf35 : CF := ⟨37,[.t 4],(.seq (.ops [Oo 2 (.bx (.t 0)),Ok 4 (.int .i64 0)]) (.seq (.ops [Om 5 1,Of 6 0 2,Ol 7 6,Oo 8 (.lens (.t 7)),Ob 9 .sub 5 8,Om 1 9]) (.seq (.seq (.ops [Om 10 1,Oo 11 (.bin .lss (.t 10) (.k (.int .i64 0)))]) (.cond (.t 11) (.seq (.ops [Ok 4 (.int .i64 (-1))]) .ret) .skip)) (.seq (.ops [Of 12 5 2,Ol 13 12,Om 14 1,Oc 15 18 [.t 13,.t 14],Om 1 15]) (.seq (.seq (.ops [Om 16 1,Oo 17 (.bin .lss (.t 16) (.k (.int .i64 0)))]) (.cond (.t 17) (.seq (.ops [Ok 4 (.int .i64 (-1))]) .ret) .skip)) (.seq (.ops [Of 18 6 2,Ol 19 18,Om 20 1,Oc 21 23 [.t 19,.t 20],Om 1 21]) (.seq (.seq (.ops [Om 22 1,Oo 23 (.bin .lss (.t 22) (.k (.int .i64 0)))]) (.cond (.t 23) (.seq (.ops [Ok 4 (.int .i64 (-1))]) .ret) .skip)) (.seq (.ops [Of 24 7 2,Ol 25 24,Om 26 1,Oc 27 78 [.t 25,.t 26],Om 1 27]) (.seq (.seq (.ops [Om 28 1,Oo 29 (.bin .lss (.t 28) (.k (.int .i64 0)))]) (.cond (.t 29) (.seq (.ops [Ok 4 (.int .i64 (-1))]) .ret) .skip)) (.seq (.ops [Of 30 8 2,Ol 31 30,Om 32 1,Oc 33 78 [.t 31,.t 32],Om 1 33]) (.seq (.seq (.ops [Om 34 1,Oo 35 (.bin .lss (.t 34) (.k (.int .i64 0)))]) (.cond (.t 35) (.seq (.ops [Ok 4 (.int .i64 (-1))]) .ret) .skip)) (.seq (.ops [Om 36 1,Om 4 36]) .ret))))))))))))⟩
theorem c35 : compileF Try.prog [] 35 = some cf35 := by kernel_rfl
def cf37 : CF := ⟨36,[.c 2 9 true],(.seq (.ops [Oo 1 (.bx (.t 0)),Oo 2 (.al (.agg [.str ⟨#[]⟩,.bool false,.int .i64 0,.bool false,.int .i64 0,.nil,.nil,.nil,.nil]))]) (.seq (.ops [Oo 3 (.al (.agg [.str ⟨#[]⟩,.bool false,.int .i64 0,.bool false,.int .i64 0,.nil,.nil,.nil,.nil]))]) (.seq (.ops [Of 4 0 1,Ol 5 4,Of 6 0 3,Os 1 6 5]) (.seq (.ops [Of 7 1 1,Ol 8 7,Of 9 1 3,Os 1 9 8]) (.seq (.ops [Of 10 2 1,Ol 11 10,Of 12 2 3,Os 1 12 11]) (.seq (.ops [Of 13 3 1,Ol 14 13,Of 15 3 3,Os 1 15 14]) (.seq (.ops [Of 16 4 1,Ol 17 16,Of 18 4 3,Os 1 18 17]) (.seq (.ops [Of 19 5 1,Ol 20 19,Oc 21 20 [.t 20],Of 22 5 3,Os 1 22 21]) (.seq (.ops [Of 23 6 1,Ol 24 23,Oc 25 25 [.t 24],Of 26 6 3,Os 1 26 25]) (.seq (.ops [Of 27 7 1,Ol 28 27,Oc 29 83 [.t 28],Of 30 7 3,Os 1 30 29]) (.seq (.ops [Of 31 8 1,Ol 32 31,Oc 33 83 [.t 32],Of 34 8 3,Os 1 34 33]) (.seq (.ops [Od 35 9 3,Os 9 2 35]) .ret))))))))))))⟩
theorem c37 : compileF Try.prog [] 37 = some cf37 := by kernel_rfl
def cf39 : CF := ⟨54,[.t 4],(.seq (.ops [Oo 2 (.bx (.t 0)),Oo 3 (.bx (.t 1)),Ok 4 (.bool false)]) (.seq (.seq (.ops [Of 5 0 2,Ol 6 5,Of 7 0 3,Ol 8 7,Ob 9 .neq 6 8]) (.cond (.t 9) (.seq (.ops [Ok 4 (.bool false)]) .ret) .skip)) (.seq (.seq (.ops [Of 10 1 2,Ol 11 10,Of 12 1 3,Ol 13 12,Oo 14 (.binb true (.t 11) (.t 13))]) (.cond (.t 14) (.seq (.ops [Ok 4 (.bool false)]) .ret) .skip)) (.seq (.seq (.ops [Of 15 2 2,Ol 16 15,Of 17 2 3,Ol 18 17,Ob 19 .neq 16 18]) (.cond (.t 19) (.seq (.ops [Ok 4 (.bool false)]) .ret) .skip)) (.seq (.seq (.ops [Of 20 3 2,Ol 21 20,Of 22 3 3,Ol 23 22,Oo 24 (.binb true (.t 21) (.t 23))]) (.cond (.t 24) (.seq (.ops [Ok 4 (.bool false)]) .ret) .skip)) (.seq (.seq (.ops [Of 25 4 2,Ol 26 25,Of 27 4 3,Ol 28 27,Ob 29 .neq 26 28]) (.cond (.t 29) (.seq (.ops [Ok 4 (.bool false)]) .ret) .skip)) (.seq (.seq (.ops [Of 30 5 2,Ol 31 30,Of 32 5 3,Ol 33 32,Oc 34 22 [.t 31,.t 33],Oo 35 (.not (.t 34))]) (.cond (.t 35) (.seq (.ops [Ok 4 (.bool false)]) .ret) .skip)) (.seq (.seq (.ops [Of 36 6 2,Ol 37 36,Of 38 6 3,Ol 39 38,Oc 40 27 [.t 37,.t 39],Oo 41 (.not (.t 40))]) (.cond (.t 41) (.seq (.ops [Ok 4 (.bool false)]) .ret) .skip)) (.seq (.seq (.ops [Of 42 7 2,Ol 43 42,Of 44 7 3,Ol 45 44,Oc 46 86 [.t 43,.t 45],Oo 47 (.not (.t 46))]) (.cond (.t 47) (.seq (.ops [Ok 4 (.bool false)]) .ret) .skip)) (.seq (.seq (.ops [Of 48 8 2,Ol 49 48,Of 50 8 3,Ol 51 50,Oc 52 86 [.t 49,.t 51],Oo 53 (.not (.t 52))]) (.cond (.t 53) (.seq (.ops [Ok 4 (.bool false)]) .ret) .skip)) (.seq (.ops [Ok 4 (.bool true)]) .ret)))))))))))⟩
theorem c39 : compileF Try.prog [] 39 = some cf39 := by kernel_rfl
structure MateRun where
 fWant : MateWant
 fState : Int
 fLeft : Int
 fFalls : Int
 fUntil : Int
def MateRun.D (x : MateRun) : D := .agg [x.fWant.D, .int .i64 x.fState, .int .i64 x.fLeft, .int .i64 x.fFalls, .int .i64 x.fUntil]
instance : Inhabited MateRun := ⟨⟨⟨⟨#[]⟩, 0, ⟨#[]⟩, 0, 0, 0, 0⟩, 0, 0, 0, 0⟩⟩
structure MateRun.wf (x : MateRun) : Prop where
 fWant : x.fWant.wf
structure MateRun.small (x : MateRun) : Prop where
 fWant : x.fWant.small
theorem MateRun.len (x : MateRun) : x.D.len = 11 := by rfl
theorem args_MateRun {d : D} (h : Has (.st [.st [.str, .int .i64, .str, .int .i64, .int .i64, .int .i64, .int .i64], .int .i64, .int .i64, .int .i64, .int .i64]) d) : ∃ x : MateRun, d = x.D ∧ x.wf := by
 rw [Has] at h
 obtain ⟨_, rfl, h⟩ := h
 simp only [HasF] at h
 obtain ⟨_, _, rfl, hWant, _, _, rfl, hState, _, _, rfl, hLeft, _, _, rfl, hFalls, _, _, rfl, hUntil, rfl⟩ := h
 obtain ⟨vWant, rfl, wWant⟩ := args_MateWant hWant
 rw [Has] at hState
 obtain ⟨vState, rfl, _⟩ := hState
 rw [Has] at hLeft
 obtain ⟨vLeft, rfl, _⟩ := hLeft
 rw [Has] at hFalls
 obtain ⟨vFalls, rfl, _⟩ := hFalls
 rw [Has] at hUntil
 obtain ⟨vUntil, rfl, _⟩ := hUntil
 exact ⟨⟨vWant, vState, vLeft, vFalls, vUntil⟩, rfl, ⟨wWant⟩⟩
theorem sz_MateRun (x : MateRun) (k : Int) (hw : x.wf) (h0 : 0 ≤ k) (h1 : k ≤ 1048576) : XC Try.prog 14 [x.D, .int .i64 k] [] (fun d ls => ls = [] ∧ ∃ n, d = .int .i64 n ∧ (0 ≤ n → n ≤ k ∧ x.small)) := by
 refine XC.intro' hm [] rfl c14 (Nat.le_of_ble_eq_true rfl) ?_
 conv => whnf
 repeat' (first | (refine g_op ?_; conv => whnf) | (refine And.intro ?_ ?_; (focus exact au0); conv => whnf) | (refine g_seq ?_) | (refine XS.go ?_) | (refine g_ops ?_) | ((first | refine g_nil ?_ | refine fun _ => ?_); conv => whnf) | fail)
 refine XCL.ask (sz_MateWant x.fWant _ hw.fWant (by omega) (by omega)) (fun d h => ?_)
 obtain ⟨n1, rfl, m1⟩ := h
 conv => whnf
 repeat' (first | (refine g_op ?_; conv => whnf) | (refine And.intro ?_ ?_; (focus exact au0); conv => whnf) | (refine g_seq ?_) | (refine XS.go ?_) | (refine g_ops ?_) | ((first | refine g_nil ?_ | refine g_cond ?_); conv => whnf) | fail)
 refine Br.mk (fun hb => ?_) (fun hb => ?_)
 ·conv => whnf
  repeat' (first | (refine g_op ?_; conv => whnf) | (refine And.intro ?_ ?_; (focus exact au0); conv => whnf) | (refine g_seq ?_) | (refine XS.go ?_) | (refine g_ops ?_) | ((first | refine g_nil ?_ | refine g_ret ?_ | refine r_t ?_ | refine r_nil ?_); conv => whnf) | fail)
  exact ⟨_, rfl, fun h => absurd h (by decide)⟩
 have p1 : 0 ≤ n1 := Int.not_lt.1 (of_decide_eq_false hb)
 obtain ⟨l1, s1⟩ := m1 p1
 conv => whnf
 repeat' (first | (refine g_op ?_; conv => whnf) | (refine And.intro ?_ ?_; (focus exact au0); conv => whnf) | (refine g_seq ?_) | (refine XS.go ?_) | (refine g_ops ?_) | ((first | refine g_nil ?_ | refine g_skip ?_ | refine g_ret ?_ | refine r_t ?_ | refine r_nil ?_); conv => whnf) | fail)
 exact ⟨_, rfl, fun _ => ⟨by omega, ⟨s1⟩⟩⟩
theorem to_MateRun (x : MateRun) (hs : x.small) : Rdr Try.prog 16 [x.D] x.D := by
 refine Rdr.intro' hm c16 (Nat.le_of_ble_eq_true rfl) ?_
 conv => whnf
 repeat' (first | (refine g_op ?_; conv => whnf) | (refine And.intro ?_ ?_; (focus exact au0); conv => whnf) | (refine g_seq ?_) | (refine XS.go ?_) | (refine g_ops ?_) | ((first | refine g_nil ?_ | refine g_ret ?_ | refine r_c ?_ | refine r_nil ?_ | refine fun _ => ?_ | refine XCL.of_rdr (to_MateWant x.fWant hs.fWant) ?_); conv => whnf) | fail)
 all_goals rfl
theorem eq_MateRun (x : MateRun) (hs : x.small) : Rdr Try.prog 67 [x.D, x.D] (.bool true) := by
 refine Rdr.intro' hm c67 (Nat.le_of_ble_eq_true rfl) ?_
 conv => whnf
 repeat' (first | (refine g_op ?_; conv => whnf) | (refine And.intro ?_ ?_; (focus exact au0); conv => whnf) | (refine g_seq ?_) | (refine XS.go ?_) | (refine g_ops ?_) | (refine g_nil ?_; conv => whnf) | (refine Br.f ?_ ?_; (focus (first | assumption | exact rfl)); conv => whnf) | ((first | refine g_cond ?_ | refine g_skip ?_ | refine g_ret ?_ | refine r_t ?_ | refine r_nil ?_ | refine fun _ => ?_ | refine Br.f (by simp) ?_ | refine XCL.of_rdr (eq_MateWant x.fWant hs.fWant) ?_); conv => whnf) | fail)
 all_goals rfl
theorem args_MateRunS {d : D} (h : Has (.sl 11 (.st [.st [.str, .int .i64, .str, .int .i64, .int .i64, .int .i64, .int .i64], .int .i64, .int .i64, .int .i64, .int .i64])) d) : ∃ l : (List MateRun), d = .ro 11 (l.map MateRun.D) ∧ l.length ≤ 9223372036854775807 ∧ ∀ y ∈ l, y.wf := by
 rw [Has] at h
 obtain ⟨ds, rfl, hm, hd⟩ := h
 have : ∃ l : (List MateRun), ds = l.map MateRun.D ∧ ∀ y ∈ l, y.wf := by
  clear hm
  induction ds with
  | nil => exact ⟨[], rfl, by simp⟩
  | cons d ds ih =>
   obtain ⟨l, rfl, hl⟩ := ih (fun x hx => hd x (List.mem_cons_of_mem _ hx))
   obtain ⟨v, rfl, wv⟩ : ∃ v : MateRun, d = MateRun.D v ∧ v.wf := args_MateRun (hd _ (List.mem_cons_self ..))
   exact ⟨v :: l, rfl, fun y hy => by rcases List.mem_cons.1 hy with rfl | hy <;> first | exact wv | exact hl y hy⟩
 obtain ⟨l, rfl, hl⟩ := this
 exact ⟨l, rfl, by rw [List.length_map] at hm; exact hm, hl⟩
theorem to_MateRunS (l : (List MateRun)) (hs : l.length ≤ 1048576 ∧ ∀ y ∈ l, y.small) : Rdr Try.prog 25 [.ro 11 (l.map MateRun.D)] (.ro 11 (l.map MateRun.D)) :=
 toS_rdr hm c25 (zs := [.agg [.str ⟨#[]⟩, .int .i64 0, .str ⟨#[]⟩, .int .i64 0, .int .i64 0, .int .i64 0, .int .i64 0], .int .i64 0, .int .i64 0, .int .i64 0, .int .i64 0]) rfl (by decide) (by decide) (by simpa using hs.1) (fun d hd => by obtain ⟨x, hx, rfl⟩ := List.mem_map.1 hd; exact ⟨_, rfl, rfl, to_MateRun x (hs.2 x hx)⟩) (D.frozs_map (fun _ => rfl) _)
theorem eq_MateRunS (l : (List MateRun)) (hs : l.length ≤ 1048576 ∧ ∀ y ∈ l, y.small) : Rdr Try.prog 27 [.ro 11 (l.map MateRun.D), .ro 11 (l.map MateRun.D)] (.bool true) :=
 eqS_rdr hm c27 (by decide) (by rw [List.length_map]; exact Nat.le_trans hs.1 (by decide)) (fun d hd => by obtain ⟨x, hx, rfl⟩ := List.mem_map.1 hd; exact ⟨_, rfl, rfl, eq_MateRun x (hs.2 x hx)⟩)
theorem sz_MateRunS (l : (List MateRun)) (k : Int) (hw : l.length ≤ 9223372036854775807 ∧ ∀ y ∈ l, y.wf) (h0 : 0 ≤ k) (h1 : k ≤ 1048576) : XC Try.prog 23 [.ro 11 (l.map MateRun.D), .int .i64 k] [] (fun d ls => ls = [] ∧ ∃ n, d = .int .i64 n ∧ (0 ≤ n → n ≤ k ∧ l.length ≤ 1048576 ∧ ∀ y ∈ l, y.small)) :=
 szS_xc hm c23 (fun x : MateRun => [x.fWant.D, .int .i64 x.fState, .int .i64 x.fLeft, .int .i64 x.fFalls, .int .i64 x.fUntil]) (fun x => x.small) l k (by decide) (fun x => rfl) hw.1 h0 h1 (fun x hx k' h0' h1' => sz_MateRun x k' (hw.2 x hx) h0' h1')
structure MateAsk where
 fHold : ByteArray
 fCopy : ByteArray
 fFirst : Int
 fAt : Int
def MateAsk.D (x : MateAsk) : D := .agg [.str x.fHold, .str x.fCopy, .int .i64 x.fFirst, .int .i64 x.fAt]
instance : Inhabited MateAsk := ⟨⟨⟨#[]⟩, ⟨#[]⟩, 0, 0⟩⟩
structure MateAsk.wf (x : MateAsk) : Prop where
 fHold : x.fHold.size ≤ 9223372036854775807
 fCopy : x.fCopy.size ≤ 9223372036854775807
structure MateAsk.small (x : MateAsk) : Prop where
theorem MateAsk.len (x : MateAsk) : x.D.len = 4 := rfl
theorem args_MateAsk {d : D} (h : Has (.st [.str, .str, .int .i64, .int .i64]) d) : ∃ x : MateAsk, d = x.D ∧ x.wf := by
 rw [Has] at h
 obtain ⟨_, rfl, h⟩ := h
 simp only [HasF] at h
 obtain ⟨_, _, rfl, hHold, _, _, rfl, hCopy, _, _, rfl, hFirst, _, _, rfl, hAt, rfl⟩ := h
 rw [Has] at hHold
 obtain ⟨vHold, rfl, wHold⟩ := hHold
 rw [Has] at hCopy
 obtain ⟨vCopy, rfl, wCopy⟩ := hCopy
 rw [Has] at hFirst
 obtain ⟨vFirst, rfl, _⟩ := hFirst
 rw [Has] at hAt
 obtain ⟨vAt, rfl, _⟩ := hAt
 exact ⟨⟨vHold, vCopy, vFirst, vAt⟩, rfl, ⟨wHold, wCopy⟩⟩
theorem sz_MateAsk (x : MateAsk) (k : Int) (hw : x.wf) (h0 : 0 ≤ k) (h1 : k ≤ 1048576) : XC Try.prog 107 [x.D, .int .i64 k] [] (fun d ls => ls = [] ∧ ∃ n, d = .int .i64 n ∧ (0 ≤ n → n ≤ k ∧ x.small)) := by
 refine XC.intro' hm [] rfl c107 (Nat.le_of_ble_eq_true rfl) ?_
 conv => whnf
 repeat' (first | (refine g_op ?_; conv => whnf) | (refine And.intro ?_ ?_; (focus exact au0); conv => whnf) | (refine g_seq ?_) | (refine XS.go ?_) | (refine g_ops ?_) | ((first | refine g_nil ?_ | refine g_cond ?_ | refine fun _ => ?_); conv => whnf) | fail)
 have q1 := hw.fHold
 have e1 : IntKind.wrap .i64 (k - (x.fHold.size : Int)) = k - (x.fHold.size : Int) := wrap_ok (by omega) (by omega)
 rw [e1]
 refine Br.mk (fun hb => ?_) (fun hb => ?_)
 ·conv => whnf
  repeat' (first | (refine g_op ?_; conv => whnf) | (refine And.intro ?_ ?_; (focus exact au0); conv => whnf) | (refine g_seq ?_) | (refine XS.go ?_) | (refine g_ops ?_) | ((first | refine g_nil ?_ | refine g_ret ?_ | refine r_t ?_ | refine r_nil ?_); conv => whnf) | fail)
  exact ⟨_, rfl, fun h => absurd h (by decide)⟩
 have p1 : 0 ≤ (k - (x.fHold.size : Int)) := Int.not_lt.1 (of_decide_eq_false hb)
 conv => whnf
 repeat' (first | (refine g_op ?_; conv => whnf) | (refine And.intro ?_ ?_; (focus exact au0); conv => whnf) | (refine g_seq ?_) | (refine XS.go ?_) | (refine g_ops ?_) | ((first | refine g_nil ?_ | refine g_cond ?_ | refine g_skip ?_); conv => whnf) | fail)
 have q2 := hw.fCopy
 have e2 : IntKind.wrap .i64 ((k - (x.fHold.size : Int)) - (x.fCopy.size : Int)) = (k - (x.fHold.size : Int)) - (x.fCopy.size : Int) := wrap_ok (by omega) (by omega)
 rw [e2]
 refine Br.mk (fun hb => ?_) (fun hb => ?_)
 ·conv => whnf
  repeat' (first | (refine g_op ?_; conv => whnf) | (refine And.intro ?_ ?_; (focus exact au0); conv => whnf) | (refine g_seq ?_) | (refine XS.go ?_) | (refine g_ops ?_) | ((first | refine g_nil ?_ | refine g_ret ?_ | refine r_t ?_ | refine r_nil ?_); conv => whnf) | fail)
  exact ⟨_, rfl, fun h => absurd h (by decide)⟩
 have p2 : 0 ≤ ((k - (x.fHold.size : Int)) - (x.fCopy.size : Int)) := Int.not_lt.1 (of_decide_eq_false hb)
 conv => whnf
 repeat' (first | (refine g_op ?_; conv => whnf) | (refine And.intro ?_ ?_; (focus exact au0); conv => whnf) | (refine g_seq ?_) | (refine XS.go ?_) | (refine g_ops ?_) | ((first | refine g_nil ?_ | refine g_skip ?_ | refine g_ret ?_ | refine r_t ?_ | refine r_nil ?_); conv => whnf) | fail)
 exact ⟨_, rfl, fun _ => ⟨by omega, ⟨⟩⟩⟩
theorem to_MateAsk (x : MateAsk) (hs : x.small) : Rdr Try.prog 110 [x.D] x.D := by
 refine Rdr.intro' hm c110 (Nat.le_of_ble_eq_true rfl) ?_
 conv => whnf
 repeat' (first | (refine g_op ?_; conv => whnf) | (refine And.intro ?_ ?_; (focus exact au0); conv => whnf) | (refine g_seq ?_) | (refine XS.go ?_) | (refine g_ops ?_) | ((first | refine g_nil ?_ | refine g_ret ?_ | refine r_c ?_ | refine r_nil ?_ | refine fun _ => ?_); conv => whnf) | fail)
 all_goals rfl
theorem eq_MateAsk (x : MateAsk) (hs : x.small) : Rdr Try.prog 114 [x.D, x.D] (.bool true) := by
 refine Rdr.intro' hm c114 (Nat.le_of_ble_eq_true rfl) ?_
 conv => whnf
 repeat' (first | (refine g_op ?_; conv => whnf) | (refine And.intro ?_ ?_; (focus exact au0); conv => whnf) | (refine g_seq ?_) | (refine XS.go ?_) | (refine g_ops ?_) | ((first | refine g_nil ?_ | refine g_cond ?_ | refine g_skip ?_ | refine g_ret ?_ | refine r_t ?_ | refine r_nil ?_ | refine fun _ => ?_ | refine Br.f (by simp) ?_); conv => whnf) | fail)
 all_goals rfl
theorem args_MateAskS {d : D} (h : Has (.sl 4 (.st [.str, .str, .int .i64, .int .i64])) d) : ∃ l : (List MateAsk), d = .ro 4 (l.map MateAsk.D) ∧ l.length ≤ 9223372036854775807 ∧ ∀ y ∈ l, y.wf := by
 rw [Has] at h
 obtain ⟨ds, rfl, hm, hd⟩ := h
 have : ∃ l : (List MateAsk), ds = l.map MateAsk.D ∧ ∀ y ∈ l, y.wf := by
  clear hm
  induction ds with
  | nil => exact ⟨[], rfl, by simp⟩
  | cons d ds ih =>
   obtain ⟨l, rfl, hl⟩ := ih (fun x hx => hd x (List.mem_cons_of_mem _ hx))
   obtain ⟨v, rfl, wv⟩ : ∃ v : MateAsk, d = MateAsk.D v ∧ v.wf := args_MateAsk (hd _ (List.mem_cons_self ..))
   exact ⟨v :: l, rfl, fun y hy => by rcases List.mem_cons.1 hy with rfl | hy <;> first | exact wv | exact hl y hy⟩
 obtain ⟨l, rfl, hl⟩ := this
 exact ⟨l, rfl, by rw [List.length_map] at hm; exact hm, hl⟩
theorem to_MateAskS (l : (List MateAsk)) (hs : l.length ≤ 1048576 ∧ ∀ y ∈ l, y.small) : Rdr Try.prog 83 [.ro 4 (l.map MateAsk.D)] (.ro 4 (l.map MateAsk.D)) :=
 toS_rdr hm c83 (zs := [.str ⟨#[]⟩, .str ⟨#[]⟩, .int .i64 0, .int .i64 0]) rfl (by decide) (by decide) (by simpa using hs.1) (fun d hd => by obtain ⟨x, hx, rfl⟩ := List.mem_map.1 hd; exact ⟨_, rfl, rfl, to_MateAsk x (hs.2 x hx)⟩) (D.frozs_map (fun _ => rfl) _)
theorem eq_MateAskS (l : (List MateAsk)) (hs : l.length ≤ 1048576 ∧ ∀ y ∈ l, y.small) : Rdr Try.prog 86 [.ro 4 (l.map MateAsk.D), .ro 4 (l.map MateAsk.D)] (.bool true) :=
 eqS_rdr hm c86 (by decide) (by rw [List.length_map]; exact Nat.le_trans hs.1 (by decide)) (fun d hd => by obtain ⟨x, hx, rfl⟩ := List.mem_map.1 hd; exact ⟨_, rfl, rfl, eq_MateAsk x (hs.2 x hx)⟩)
theorem sz_MateAskS (l : (List MateAsk)) (k : Int) (hw : l.length ≤ 9223372036854775807 ∧ ∀ y ∈ l, y.wf) (h0 : 0 ≤ k) (h1 : k ≤ 1048576) : XC Try.prog 78 [.ro 4 (l.map MateAsk.D), .int .i64 k] [] (fun d ls => ls = [] ∧ ∃ n, d = .int .i64 n ∧ (0 ≤ n → n ≤ k ∧ l.length ≤ 1048576 ∧ ∀ y ∈ l, y.small)) :=
 szS_xc hm c78 (fun x : MateAsk => [.str x.fHold, .str x.fCopy, .int .i64 x.fFirst, .int .i64 x.fAt]) (fun x => x.small) l k (by decide) (fun x => rfl) hw.1 h0 h1 (fun x hx k' h0' h1' => sz_MateAsk x k' (hw.2 x hx) h0' h1')
structure Mate where
 fName : ByteArray
 fUp : Bool
 fClock : Int
 fKnown : Bool
 fSeen : Int
 fWants : (List MateWant)
 fRuns : (List MateRun)
 fAsks : (List MateAsk)
 fGives : (List MateAsk)
def Mate.D (x : Mate) : D := .agg [.str x.fName, .bool x.fUp, .int .i64 x.fClock, .bool x.fKnown, .int .i64 x.fSeen, .ro 7 (x.fWants.map MateWant.D), .ro 11 (x.fRuns.map MateRun.D), .ro 4 (x.fAsks.map MateAsk.D), .ro 4 (x.fGives.map MateAsk.D)]
instance : Inhabited Mate := ⟨⟨⟨#[]⟩, false, 0, false, 0, [], [], [], []⟩⟩
structure Mate.wf (x : Mate) : Prop where
 fName : x.fName.size ≤ 9223372036854775807
 fWants : x.fWants.length ≤ 9223372036854775807 ∧ ∀ y ∈ x.fWants, y.wf
 fRuns : x.fRuns.length ≤ 9223372036854775807 ∧ ∀ y ∈ x.fRuns, y.wf
 fAsks : x.fAsks.length ≤ 9223372036854775807 ∧ ∀ y ∈ x.fAsks, y.wf
 fGives : x.fGives.length ≤ 9223372036854775807 ∧ ∀ y ∈ x.fGives, y.wf
structure Mate.small (x : Mate) : Prop where
 fWants : x.fWants.length ≤ 1048576 ∧ ∀ y ∈ x.fWants, y.small
 fRuns : x.fRuns.length ≤ 1048576 ∧ ∀ y ∈ x.fRuns, y.small
 fAsks : x.fAsks.length ≤ 1048576 ∧ ∀ y ∈ x.fAsks, y.small
 fGives : x.fGives.length ≤ 1048576 ∧ ∀ y ∈ x.fGives, y.small
theorem Mate.len (x : Mate) : x.D.len = 9 := rfl
theorem args_Mate {d : D} (h : Has (.st [.str, .bool, .int .i64, .bool, .int .i64, .sl 7 (.st [.str, .int .i64, .str, .int .i64, .int .i64, .int .i64, .int .i64]), .sl 11 (.st [.st [.str, .int .i64, .str, .int .i64, .int .i64, .int .i64, .int .i64], .int .i64, .int .i64, .int .i64, .int .i64]), .sl 4 (.st [.str, .str, .int .i64, .int .i64]), .sl 4 (.st [.str, .str, .int .i64, .int .i64])]) d) : ∃ x : Mate, d = x.D ∧ x.wf := by
 rw [Has] at h
 obtain ⟨_, rfl, h⟩ := h
 simp only [HasF] at h
 obtain ⟨_, _, rfl, hName, _, _, rfl, hUp, _, _, rfl, hClock, _, _, rfl, hKnown, _, _, rfl, hSeen, _, _, rfl, hWants, _, _, rfl, hRuns, _, _, rfl, hAsks, _, _, rfl, hGives, rfl⟩ := h
 rw [Has] at hName
 obtain ⟨vName, rfl, wName⟩ := hName
 rw [Has] at hUp
 obtain ⟨vUp, rfl⟩ := hUp
 rw [Has] at hClock
 obtain ⟨vClock, rfl, _⟩ := hClock
 rw [Has] at hKnown
 obtain ⟨vKnown, rfl⟩ := hKnown
 rw [Has] at hSeen
 obtain ⟨vSeen, rfl, _⟩ := hSeen
 obtain ⟨vWants, rfl, wWants⟩ := args_MateWantS hWants
 obtain ⟨vRuns, rfl, wRuns⟩ := args_MateRunS hRuns
 obtain ⟨vAsks, rfl, wAsks⟩ := args_MateAskS hAsks
 obtain ⟨vGives, rfl, wGives⟩ := args_MateAskS hGives
 exact ⟨⟨vName, vUp, vClock, vKnown, vSeen, vWants, vRuns, vAsks, vGives⟩, rfl, ⟨wName, wWants, wRuns, wAsks, wGives⟩⟩
theorem sz_Mate (x : Mate) (k : Int) (hw : x.wf) (h0 : 0 ≤ k) (h1 : k ≤ 1048576) : XC Try.prog 35 [x.D, .int .i64 k] [] (fun d ls => ls = [] ∧ ∃ n, d = .int .i64 n ∧ (0 ≤ n → n ≤ k ∧ x.small)) := by
 refine XC.intro' hm [] rfl c35 (Nat.le_of_ble_eq_true rfl) ?_
 conv => whnf
 repeat' (first | (refine g_op ?_; conv => whnf) | (refine And.intro ?_ ?_; (focus exact au0); conv => whnf) | (refine g_seq ?_) | (refine XS.go ?_) | (refine g_ops ?_) | ((first | refine g_nil ?_ | refine g_cond ?_ | refine fun _ => ?_); conv => whnf) | fail)
 have q1 := hw.fName
 have e1 : IntKind.wrap .i64 (k - (x.fName.size : Int)) = k - (x.fName.size : Int) := wrap_ok (by omega) (by omega)
 rw [e1]
 refine Br.mk (fun hb => ?_) (fun hb => ?_)
 ·conv => whnf
  repeat' (first | (refine g_op ?_; conv => whnf) | (refine And.intro ?_ ?_; (focus exact au0); conv => whnf) | (refine g_seq ?_) | (refine XS.go ?_) | (refine g_ops ?_) | ((first | refine g_nil ?_ | refine g_ret ?_ | refine r_t ?_ | refine r_nil ?_); conv => whnf) | fail)
  exact ⟨_, rfl, fun h => absurd h (by decide)⟩
 have p1 : 0 ≤ (k - (x.fName.size : Int)) := Int.not_lt.1 (of_decide_eq_false hb)
 conv => whnf
 repeat' (first | (refine g_op ?_; conv => whnf) | (refine And.intro ?_ ?_; (focus exact au0); conv => whnf) | (refine g_seq ?_) | (refine XS.go ?_) | (refine g_ops ?_) | (refine g_skip ?_; conv => whnf) | fail)
 refine XCL.ask (sz_MateWantS x.fWants _ hw.fWants (by omega) (by omega)) (fun d h => ?_)
 obtain ⟨n2, rfl, m2⟩ := h
 conv => whnf
 repeat' (first | (refine g_op ?_; conv => whnf) | (refine And.intro ?_ ?_; (focus exact au0); conv => whnf) | (refine g_seq ?_) | (refine XS.go ?_) | (refine g_ops ?_) | ((first | refine g_nil ?_ | refine g_cond ?_); conv => whnf) | fail)
 refine Br.mk (fun hb => ?_) (fun hb => ?_)
 ·conv => whnf
  repeat' (first | (refine g_op ?_; conv => whnf) | (refine And.intro ?_ ?_; (focus exact au0); conv => whnf) | (refine g_seq ?_) | (refine XS.go ?_) | (refine g_ops ?_) | ((first | refine g_nil ?_ | refine g_ret ?_ | refine r_t ?_ | refine r_nil ?_); conv => whnf) | fail)
  exact ⟨_, rfl, fun h => absurd h (by decide)⟩
 have p2 : 0 ≤ n2 := Int.not_lt.1 (of_decide_eq_false hb)
 obtain ⟨l2, s2⟩ := m2 p2
 conv => whnf
 repeat' (first | (refine g_op ?_; conv => whnf) | (refine And.intro ?_ ?_; (focus exact au0); conv => whnf) | (refine g_seq ?_) | (refine XS.go ?_) | (refine g_ops ?_) | (refine g_skip ?_; conv => whnf) | fail)
 refine XCL.ask (sz_MateRunS x.fRuns _ hw.fRuns (by omega) (by omega)) (fun d h => ?_)
 obtain ⟨n3, rfl, m3⟩ := h
 conv => whnf
 repeat' (first | (refine g_op ?_; conv => whnf) | (refine And.intro ?_ ?_; (focus exact au0); conv => whnf) | (refine g_seq ?_) | (refine XS.go ?_) | (refine g_ops ?_) | ((first | refine g_nil ?_ | refine g_cond ?_); conv => whnf) | fail)
 refine Br.mk (fun hb => ?_) (fun hb => ?_)
 ·conv => whnf
  repeat' (first | (refine g_op ?_; conv => whnf) | (refine And.intro ?_ ?_; (focus exact au0); conv => whnf) | (refine g_seq ?_) | (refine XS.go ?_) | (refine g_ops ?_) | ((first | refine g_nil ?_ | refine g_ret ?_ | refine r_t ?_ | refine r_nil ?_); conv => whnf) | fail)
  exact ⟨_, rfl, fun h => absurd h (by decide)⟩
 have p3 : 0 ≤ n3 := Int.not_lt.1 (of_decide_eq_false hb)
 obtain ⟨l3, s3⟩ := m3 p3
 conv => whnf
 repeat' (first | (refine g_op ?_; conv => whnf) | (refine And.intro ?_ ?_; (focus exact au0); conv => whnf) | (refine g_seq ?_) | (refine XS.go ?_) | (refine g_ops ?_) | (refine g_skip ?_; conv => whnf) | fail)
 refine XCL.ask (sz_MateAskS x.fAsks _ hw.fAsks (by omega) (by omega)) (fun d h => ?_)
 obtain ⟨n4, rfl, m4⟩ := h
 conv => whnf
 repeat' (first | (refine g_op ?_; conv => whnf) | (refine And.intro ?_ ?_; (focus exact au0); conv => whnf) | (refine g_seq ?_) | (refine XS.go ?_) | (refine g_ops ?_) | ((first | refine g_nil ?_ | refine g_cond ?_); conv => whnf) | fail)
 refine Br.mk (fun hb => ?_) (fun hb => ?_)
 ·conv => whnf
  repeat' (first | (refine g_op ?_; conv => whnf) | (refine And.intro ?_ ?_; (focus exact au0); conv => whnf) | (refine g_seq ?_) | (refine XS.go ?_) | (refine g_ops ?_) | ((first | refine g_nil ?_ | refine g_ret ?_ | refine r_t ?_ | refine r_nil ?_); conv => whnf) | fail)
  exact ⟨_, rfl, fun h => absurd h (by decide)⟩
 have p4 : 0 ≤ n4 := Int.not_lt.1 (of_decide_eq_false hb)
 obtain ⟨l4, s4⟩ := m4 p4
 conv => whnf
 repeat' (first | (refine g_op ?_; conv => whnf) | (refine And.intro ?_ ?_; (focus exact au0); conv => whnf) | (refine g_seq ?_) | (refine XS.go ?_) | (refine g_ops ?_) | (refine g_skip ?_; conv => whnf) | fail)
 refine XCL.ask (sz_MateAskS x.fGives _ hw.fGives (by omega) (by omega)) (fun d h => ?_)
 obtain ⟨n5, rfl, m5⟩ := h
 conv => whnf
 repeat' (first | (refine g_op ?_; conv => whnf) | (refine And.intro ?_ ?_; (focus exact au0); conv => whnf) | (refine g_seq ?_) | (refine XS.go ?_) | (refine g_ops ?_) | ((first | refine g_nil ?_ | refine g_cond ?_); conv => whnf) | fail)
 refine Br.mk (fun hb => ?_) (fun hb => ?_)
 ·conv => whnf
  repeat' (first | (refine g_op ?_; conv => whnf) | (refine And.intro ?_ ?_; (focus exact au0); conv => whnf) | (refine g_seq ?_) | (refine XS.go ?_) | (refine g_ops ?_) | ((first | refine g_nil ?_ | refine g_ret ?_ | refine r_t ?_ | refine r_nil ?_); conv => whnf) | fail)
  exact ⟨_, rfl, fun h => absurd h (by decide)⟩
 have p5 : 0 ≤ n5 := Int.not_lt.1 (of_decide_eq_false hb)
 obtain ⟨l5, s5⟩ := m5 p5
 conv => whnf
 repeat' (first | (refine g_op ?_; conv => whnf) | (refine And.intro ?_ ?_; (focus exact au0); conv => whnf) | (refine g_seq ?_) | (refine XS.go ?_) | (refine g_ops ?_) | ((first | refine g_nil ?_ | refine g_skip ?_ | refine g_ret ?_ | refine r_t ?_ | refine r_nil ?_); conv => whnf) | fail)
 exact ⟨_, rfl, fun _ => ⟨by omega, ⟨s2, s3, s4, s5⟩⟩⟩
theorem to_Mate (x : Mate) (hs : x.small) : Rdr Try.prog 37 [x.D] x.D := by
 refine Rdr.intro' hm c37 (Nat.le_of_ble_eq_true rfl) ?_
 conv => whnf
 repeat' (first | (refine g_op ?_; conv => whnf) | (refine And.intro ?_ ?_; (focus exact au0); conv => whnf) | (refine g_seq ?_) | (refine XS.go ?_) | (refine g_ops ?_) | ((first | refine g_nil ?_ | refine g_ret ?_ | refine r_c ?_ | refine r_nil ?_ | refine fun _ => ?_ | refine XCL.of_rdr (to_MateWantS x.fWants hs.fWants) ?_ | refine XCL.of_rdr (to_MateRunS x.fRuns hs.fRuns) ?_ | refine XCL.of_rdr (to_MateAskS x.fAsks hs.fAsks) ?_ | refine XCL.of_rdr (to_MateAskS x.fGives hs.fGives) ?_); conv => whnf) | fail)
 all_goals rfl
theorem eq_Mate (x : Mate) (hs : x.small) : Rdr Try.prog 39 [x.D, x.D] (.bool true) := by
 refine Rdr.intro' hm c39 (Nat.le_of_ble_eq_true rfl) ?_
 conv => whnf
 repeat' (first | (refine g_op ?_; conv => whnf) | (refine And.intro ?_ ?_; (focus exact au0); conv => whnf) | (refine g_seq ?_) | (refine XS.go ?_) | (refine g_ops ?_) | (refine g_nil ?_; conv => whnf) | (refine Br.f ?_ ?_; (focus (first | assumption | exact rfl)); conv => whnf) | ((first | refine g_cond ?_ | refine g_skip ?_ | refine g_ret ?_ | refine r_t ?_ | refine r_nil ?_ | refine fun _ => ?_ | refine Br.f (by simp) ?_ | refine XCL.of_rdr (eq_MateWantS x.fWants hs.fWants) ?_ | refine XCL.of_rdr (eq_MateRunS x.fRuns hs.fRuns) ?_ | refine XCL.of_rdr (eq_MateAskS x.fAsks hs.fAsks) ?_ | refine XCL.of_rdr (eq_MateAskS x.fGives hs.fGives) ?_); conv => whnf) | fail)
 all_goals rfl
def cf15 : CF := ⟨16,[.t 2],(.seq (.ops [Oo 1 (.bx (.t 0)),Ok 2 (.bool false)]) (.seq (.ops [Oo 3 (.fa 7 1 1 (.t 1)),Ol 4 3,Oo 5 (.bin .eql (.t 4) (.k (.int .i64 3))),Om 6 5,⟨some 7,.fa 7 1 1 (.t 1),some (6,false)⟩,⟨some 8,.ld 1 false (.t 7),some (6,false)⟩,⟨some 9,.bin .eql (.t 8) (.k (.int .i64 4)),some (6,false)⟩,Oo 10 (.pick (.t 6) (.k (.bool true)) (.t 9)),Om 11 10,⟨some 12,.fa 7 1 1 (.t 1),some (11,false)⟩,⟨some 13,.ld 1 false (.t 12),some (11,false)⟩,⟨some 14,.bin .eql (.t 13) (.k (.int .i64 6)),some (11,false)⟩,Oo 15 (.pick (.t 11) (.k (.bool true)) (.t 14)),Om 2 15]) .ret))⟩
theorem c15 : compileF Try.prog [] 15 = some cf15 := by kernel_rfl
def cf17 : CF := ⟨16,[.t 2],(.seq (.ops [Oo 1 (.bx (.t 0)),Ok 2 (.bool false)]) (.seq (.ops [Oo 3 (.fa 7 1 1 (.t 1)),Ol 4 3,Oo 5 (.bin .eql (.t 4) (.k (.int .i64 3))),Om 6 5,⟨some 7,.fa 7 1 1 (.t 1),some (6,false)⟩,⟨some 8,.ld 1 false (.t 7),some (6,false)⟩,⟨some 9,.bin .eql (.t 8) (.k (.int .i64 4)),some (6,false)⟩,Oo 10 (.pick (.t 6) (.k (.bool true)) (.t 9)),Om 11 10,⟨some 12,.fa 7 1 1 (.t 1),some (11,false)⟩,⟨some 13,.ld 1 false (.t 12),some (11,false)⟩,⟨some 14,.bin .eql (.t 13) (.k (.int .i64 6)),some (11,false)⟩,Oo 15 (.pick (.t 11) (.k (.bool true)) (.t 14)),Om 2 15]) .ret))⟩
theorem c17 : compileF Try.prog [] 17 = some cf17 := by kernel_rfl
def cf76 : CF := ⟨16,[.t 4],(.seq (.ops [Oo 2 (.bx (.t 0)),Ok 4 (.bool false)]) (.seq (.ops [Oo 5 (.fa 0 7 0 (.t 2)),Of 6 2 5,Ol 7 6,Oo 8 (.bin .eql (.t 7) (.k (.str ⟨#[]⟩))),Om 9 8,⟨some 10,.fa 10 1 4 (.t 2),some (9,false)⟩,⟨some 11,.ld 1 false (.t 10),some (9,false)⟩,⟨some 12,.mv (.t 1),some (9,false)⟩,⟨some 13,.bin .add (.t 12) (.k (.int .i64 4)),some (9,false)⟩,⟨some 14,.bin .geq (.t 11) (.t 13),some (9,false)⟩,Oo 15 (.pick (.t 9) (.k (.bool true)) (.t 14)),Om 4 15]) .ret))⟩
theorem c76 : compileF Try.prog [] 76 = some cf76 := by kernel_rfl
def cf65 : CF := ⟨60,[.t 4],(.seq (.ops [Oo 2 (.bx (.t 0)),Ok 4 (.bool false)]) (.seq (.seq (.ops [Oo 5 (.fa 0 7 0 (.t 2)),Od 6 7 5,Oc 7 62 [.t 6],Oo 8 (.not (.t 7)),Om 9 8,⟨some 10,.fa 7 1 1 (.t 2),some (9,false)⟩,⟨some 11,.ld 1 false (.t 10),some (9,false)⟩,⟨some 12,.call 80 [.t 11,(.k (.int .i64 1)),(.k (.int .i64 6))],some (9,false)⟩,⟨some 13,.not (.t 12),some (9,false)⟩,Oo 14 (.pick (.t 9) (.k (.bool true)) (.t 13)),Om 15 14,⟨some 16,.fa 8 1 2 (.t 2),some (15,false)⟩,⟨some 17,.ld 1 false (.t 16),some (15,false)⟩,⟨some 18,.call 80 [.t 17,(.k (.int .i64 0)),(.k (.int .i64 100))],some (15,false)⟩,⟨some 19,.not (.t 18),some (15,false)⟩,Oo 20 (.pick (.t 15) (.k (.bool true)) (.t 19)),Om 21 20,⟨some 22,.fa 7 1 1 (.t 2),some (21,false)⟩,⟨some 23,.ld 1 false (.t 22),some (21,false)⟩,⟨some 24,.bin .eql (.t 23) (.k (.int .i64 2)),some (21,false)⟩,⟨some 25,.mv (.t 24),some (21,false)⟩,⟨some 26,.fa 8 1 2 (.t 2),some (25,true)⟩,⟨some 27,.ld 1 false (.t 26),some (25,true)⟩,⟨some 28,.bin .neq (.t 27) (.k (.int .i64 0)),some (25,true)⟩,⟨some 29,.pick (.t 25) (.t 28) (.k (.bool false)),some (21,false)⟩,Oo 30 (.pick (.t 21) (.k (.bool true)) (.t 29)),Om 31 30,⟨some 32,.fa 9 1 3 (.t 2),some (31,false)⟩,⟨some 33,.ld 1 false (.t 32),some (31,false)⟩,⟨some 34,.call 80 [.t 33,(.k (.int .i64 0)),(.k (.int .i64 1000))],some (31,false)⟩,⟨some 35,.not (.t 34),some (31,false)⟩,Oo 36 (.pick (.t 31) (.k (.bool true)) (.t 35))]) (.cond (.t 36) (.seq (.ops [Ok 4 (.bool false)]) .ret) .skip)) (.seq (.seq (.ops [Oo 37 (.fa 10 1 4 (.t 2)),Ol 38 37,Oc 39 80 [.t 38,(.k (.int .i64 0)),(.k (.int .i64 1000016))],Oo 40 (.not (.t 39)),Om 41 40,⟨some 42,.fa 0 7 0 (.t 2),some (41,false)⟩,⟨some 43,.fa 2 1 2 (.t 42),some (41,false)⟩,⟨some 44,.ld 1 false (.t 43),some (41,false)⟩,⟨some 45,.bin .eql (.t 44) (.k (.str ⟨#[]⟩)),some (41,false)⟩,⟨some 46,.mv (.t 45),some (41,false)⟩,⟨some 47,.fa 10 1 4 (.t 2),some (46,true)⟩,⟨some 48,.ld 1 false (.t 47),some (46,true)⟩,⟨some 49,.bin .neq (.t 48) (.k (.int .i64 0)),some (46,true)⟩,⟨some 50,.pick (.t 46) (.t 49) (.k (.bool false)),some (41,false)⟩,Oo 51 (.pick (.t 41) (.k (.bool true)) (.t 50))]) (.cond (.t 51) (.seq (.ops [Ok 4 (.bool false)]) .ret) .skip)) (.seq (.ops [Od 52 11 2,Oc 53 15 [.t 52],Oo 54 (.not (.t 53)),Om 55 54,⟨some 56,.ld 11 true (.t 2),some (55,false)⟩,⟨some 57,.mv (.t 1),some (55,false)⟩,⟨some 58,.call 76 [.t 56,.t 57],some (55,false)⟩,Oo 59 (.pick (.t 55) (.k (.bool true)) (.t 58)),Om 4 59]) .ret))))⟩
theorem c65 : compileF Try.prog [] 65 = some cf65 := by kernel_rfl
def cf24 : CF := ⟨42,[.t 4],(.seq (.ops [Ok 4 (.bool false)]) (.seq (.seq (.ops [Om 6 0,Og 7 6,Oo 8 (.bin .gtr (.t 7) (.k (.int .i64 20)))]) (.cond (.t 8) (.seq (.ops [Ok 4 (.bool false)]) .ret) .skip)) (.seq (.seq (.ops [Ok 5 (.int .i64 0)]) (.block 0 (.loop (.seq (.seq (.ops [Om 9 5,Om 10 0,Og 11 10,Ob 12 .lss 9 11]) (.cond (.t 12) .skip (.exit 0))) (.seq (.block 1 (.seq (.quiet [Om 15 0,Om 16 5,Ox 17 11 15 16,Od 18 11 17,Om 19 1,Oc 20 65 [.t 18,.t 19],Oo 21 (.not (.t 20)),Om 22 21,⟨some 23,.mv (.t 5),some (22,false)⟩,⟨some 24,.bin .gtr (.t 23) (.k (.int .i64 0)),some (22,false)⟩,⟨some 25,.mv (.t 24),some (22,false)⟩,⟨some 26,.mv (.t 0),some (25,true)⟩,⟨some 27,.mv (.t 5),some (25,true)⟩,⟨some 28,.bin .sub (.t 27) (.k (.int .i64 1)),some (25,true)⟩,⟨some 29,.ix 11 (.t 26) (.t 28),some (25,true)⟩,⟨some 30,.fa 0 7 0 (.t 29),some (25,true)⟩,⟨some 31,.fa 0 1 0 (.t 30),some (25,true)⟩,⟨some 32,.ld 1 false (.t 31),some (25,true)⟩,⟨some 33,.mv (.t 0),some (25,true)⟩,⟨some 34,.mv (.t 5),some (25,true)⟩,⟨some 35,.ix 11 (.t 33) (.t 34),some (25,true)⟩,⟨some 36,.fa 0 7 0 (.t 35),some (25,true)⟩,⟨some 37,.fa 0 1 0 (.t 36),some (25,true)⟩,⟨some 38,.ld 1 false (.t 37),some (25,true)⟩,⟨some 39,.bin .geq (.t 32) (.t 38),some (25,true)⟩,⟨some 40,.pick (.t 25) (.t 39) (.k (.bool false)),some (22,false)⟩,Oo 41 (.pick (.t 22) (.k (.bool true)) (.t 40))]) (.cond (.t 41) (.seq (.ops [Ok 4 (.bool false)]) .ret) .skip))) (.ops [Om 13 5,Oi 14 13,Om 5 14])))))) (.seq (.ops [Ok 4 (.bool true)]) .ret))))⟩
theorem c24 : compileF Try.prog [] 24 = some cf24 := by kernel_rfl
def cf26 : CF := ⟨99,[.t 4],(.seq (.ops [Ok 4 (.bool false)]) (.seq (.seq (.ops [Om 7 0,Og 8 7,Oo 9 (.bin .gtr (.t 8) (.k (.int .i64 20)))]) (.cond (.t 9) (.seq (.ops [Ok 4 (.bool false)]) .ret) .skip)) (.seq (.seq (.ops [Om 10 0,Og 11 10,Ok 12 (.int .i64 0)]) (.block 0 (.loop (.seq (.ops [Ob 13 .lss 12 11]) (.seq (.cond (.t 13) .skip (.exit 0)) (.seq (.block 1 (.seq (.ops [Om 14 12,Ox 15 11 10 12,Od 16 11 15,Oo 6 (.al (.agg [.agg [.str ⟨#[]⟩,.int .i64 0,.str ⟨#[]⟩,.int .i64 0,.int .i64 0,.int .i64 0,.int .i64 0],.int .i64 0,.int .i64 0,.int .i64 0,.int .i64 0])),Om 5 14,Os 11 6 16]) (.seq (.seq (.quiet [Oo 17 (.fa 0 7 0 (.t 6)),Od 18 7 17,Oc 19 63 [.t 18],Oo 20 (.not (.t 19)),Om 21 20,⟨some 22,.mv (.t 5),some (21,false)⟩,⟨some 23,.bin .gtr (.t 22) (.k (.int .i64 0)),some (21,false)⟩,⟨some 24,.mv (.t 23),some (21,false)⟩,⟨some 25,.fa 0 7 0 (.t 6),some (24,true)⟩,⟨some 26,.fa 0 1 0 (.t 25),some (24,true)⟩,⟨some 27,.ld 1 false (.t 26),some (24,true)⟩,⟨some 28,.mv (.t 0),some (24,true)⟩,⟨some 29,.mv (.t 5),some (24,true)⟩,⟨some 30,.bin .sub (.t 29) (.k (.int .i64 1)),some (24,true)⟩,⟨some 31,.ix 11 (.t 28) (.t 30),some (24,true)⟩,⟨some 32,.fa 0 7 0 (.t 31),some (24,true)⟩,⟨some 33,.fa 0 1 0 (.t 32),some (24,true)⟩,⟨some 34,.ld 1 false (.t 33),some (24,true)⟩,⟨some 35,.bin .leq (.t 27) (.t 34),some (24,true)⟩,⟨some 36,.pick (.t 24) (.t 35) (.k (.bool false)),some (21,false)⟩,Oo 37 (.pick (.t 21) (.k (.bool true)) (.t 36)),Om 38 37,⟨some 39,.fa 7 1 1 (.t 6),some (38,false)⟩,⟨some 40,.ld 1 false (.t 39),some (38,false)⟩,⟨some 41,.call 66 [.t 40,(.k (.int .i64 1)),(.k (.int .i64 6))],some (38,false)⟩,⟨some 42,.not (.t 41),some (38,false)⟩,Oo 43 (.pick (.t 38) (.k (.bool true)) (.t 42)),Om 44 43,⟨some 45,.fa 8 1 2 (.t 6),some (44,false)⟩,⟨some 46,.ld 1 false (.t 45),some (44,false)⟩,⟨some 47,.call 66 [.t 46,(.k (.int .i64 0)),(.k (.int .i64 100))],some (44,false)⟩,⟨some 48,.not (.t 47),some (44,false)⟩,Oo 49 (.pick (.t 44) (.k (.bool true)) (.t 48)),Om 50 49,⟨some 51,.fa 7 1 1 (.t 6),some (50,false)⟩,⟨some 52,.ld 1 false (.t 51),some (50,false)⟩,⟨some 53,.bin .eql (.t 52) (.k (.int .i64 2)),some (50,false)⟩,⟨some 54,.mv (.t 53),some (50,false)⟩,⟨some 55,.fa 8 1 2 (.t 6),some (54,true)⟩,⟨some 56,.ld 1 false (.t 55),some (54,true)⟩,⟨some 57,.bin .neq (.t 56) (.k (.int .i64 0)),some (54,true)⟩,⟨some 58,.pick (.t 54) (.t 57) (.k (.bool false)),some (50,false)⟩,Oo 59 (.pick (.t 50) (.k (.bool true)) (.t 58)),Om 60 59,⟨some 61,.fa 9 1 3 (.t 6),some (60,false)⟩,⟨some 62,.ld 1 false (.t 61),some (60,false)⟩,⟨some 63,.call 66 [.t 62,(.k (.int .i64 0)),(.k (.int .i64 1000))],some (60,false)⟩,⟨some 64,.not (.t 63),some (60,false)⟩,Oo 65 (.pick (.t 60) (.k (.bool true)) (.t 64)),Om 66 65,⟨some 67,.fa 10 1 4 (.t 6),some (66,false)⟩,⟨some 68,.ld 1 false (.t 67),some (66,false)⟩,⟨some 69,.call 66 [.t 68,(.k (.int .i64 0)),(.k (.int .i64 1000016))],some (66,false)⟩,⟨some 70,.not (.t 69),some (66,false)⟩,Oo 71 (.pick (.t 66) (.k (.bool true)) (.t 70))]) (.cond (.t 71) (.seq (.ops [Ok 4 (.bool false)]) .ret) .skip)) (.seq (.ops [Oo 72 (.fa 0 7 0 (.t 6)),Of 73 2 72,Ol 74 73,Oo 75 (.bin .eql (.t 74) (.k (.str ⟨#[]⟩))),Om 76 75,⟨some 77,.fa 10 1 4 (.t 6),some (76,true)⟩,⟨some 78,.ld 1 false (.t 77),some (76,true)⟩,⟨some 79,.bin .neq (.t 78) (.k (.int .i64 0)),some (76,true)⟩,Oo 80 (.pick (.t 76) (.t 79) (.k (.bool false))),Om 81 80,⟨some 82,.fa 0 7 0 (.t 6),some (81,false)⟩,⟨some 83,.fa 2 1 2 (.t 82),some (81,false)⟩,⟨some 84,.ld 1 false (.t 83),some (81,false)⟩,⟨some 85,.bin .neq (.t 84) (.k (.str ⟨#[]⟩)),some (81,false)⟩,⟨some 86,.mv (.t 85),some (81,false)⟩,⟨some 87,.ld 11 true (.t 6),some (86,true)⟩,⟨some 88,.call 17 [.t 87],some (86,true)⟩,⟨some 89,.pick (.t 86) (.t 88) (.k (.bool false)),some (81,false)⟩,⟨some 90,.mv (.t 89),some (81,false)⟩,⟨some 91,.fa 10 1 4 (.t 6),some (90,true)⟩,⟨some 92,.ld 1 false (.t 91),some (90,true)⟩,⟨some 93,.mv (.t 1),some (90,true)⟩,⟨some 94,.bin .add (.t 93) (.k (.int .i64 4)),some (90,true)⟩,⟨some 95,.bin .lss (.t 92) (.t 94),some (90,true)⟩,⟨some 96,.pick (.t 90) (.t 95) (.k (.bool false)),some (81,false)⟩,Oo 97 (.pick (.t 81) (.k (.bool true)) (.t 96))]) (.cond (.t 97) (.seq (.ops [Ok 4 (.bool false)]) .ret) .skip))))) (.ops [Oi 98 12,Om 12 98]))))))) (.seq (.ops [Ok 4 (.bool true)]) .ret))))⟩
theorem c26 : compileF Try.prog [] 26 = some cf26 := by kernel_rfl
def cf95 : CF := ⟨58,[.t 4],(.seq (.ops [Ok 4 (.bool false)]) (.seq (.seq (.ops [Om 7 0,Og 8 7,Oo 9 (.bin .gtr (.t 8) (.k (.int .i64 40)))]) (.cond (.t 9) (.seq (.ops [Ok 4 (.bool false)]) .ret) .skip)) (.seq (.seq (.ops [Om 10 0,Og 11 10,Ok 12 (.int .i64 0)]) (.block 0 (.loop (.seq (.ops [Ob 13 .lss 12 11]) (.seq (.cond (.t 13) .skip (.exit 0)) (.seq (.block 1 (.seq (.ops [Om 14 12,Ox 15 4 10 12,Od 16 4 15,Oo 6 (.al (.agg [.str ⟨#[]⟩,.str ⟨#[]⟩,.int .i64 0,.int .i64 0])),Om 5 14,Os 4 6 16]) (.seq (.quiet [Of 17 0 6,Ol 18 17,Oc 19 105 [.t 18],Oo 20 (.not (.t 19)),Om 21 20,⟨some 22,.fa 1 1 1 (.t 6),some (21,false)⟩,⟨some 23,.ld 1 false (.t 22),some (21,false)⟩,⟨some 24,.call 94 [.t 23],some (21,false)⟩,⟨some 25,.not (.t 24),some (21,false)⟩,Oo 26 (.pick (.t 21) (.k (.bool true)) (.t 25)),Om 27 26,⟨some 28,.fa 3 1 3 (.t 6),some (27,false)⟩,⟨some 29,.ld 1 false (.t 28),some (27,false)⟩,⟨some 30,.mv (.t 1),some (27,false)⟩,⟨some 31,.call 66 [.t 29,(.k (.int .i64 0)),.t 30],some (27,false)⟩,⟨some 32,.not (.t 31),some (27,false)⟩,Oo 33 (.pick (.t 27) (.k (.bool true)) (.t 32)),Om 34 33,⟨some 35,.fa 2 1 2 (.t 6),some (34,false)⟩,⟨some 36,.ld 1 false (.t 35),some (34,false)⟩,⟨some 37,.fa 3 1 3 (.t 6),some (34,false)⟩,⟨some 38,.ld 1 false (.t 37),some (34,false)⟩,⟨some 39,.call 66 [.t 36,(.k (.int .i64 0)),.t 38],some (34,false)⟩,⟨some 40,.not (.t 39),some (34,false)⟩,Oo 41 (.pick (.t 34) (.k (.bool true)) (.t 40)),Om 42 41,⟨some 43,.mv (.t 5),some (42,false)⟩,⟨some 44,.bin .gtr (.t 43) (.k (.int .i64 0)),some (42,false)⟩,⟨some 45,.mv (.t 44),some (42,false)⟩,⟨some 46,.fa 0 1 0 (.t 6),some (45,true)⟩,⟨some 47,.ld 1 false (.t 46),some (45,true)⟩,⟨some 48,.mv (.t 0),some (45,true)⟩,⟨some 49,.mv (.t 5),some (45,true)⟩,⟨some 50,.bin .sub (.t 49) (.k (.int .i64 1)),some (45,true)⟩,⟨some 51,.ix 4 (.t 48) (.t 50),some (45,true)⟩,⟨some 52,.fa 0 1 0 (.t 51),some (45,true)⟩,⟨some 53,.ld 1 false (.t 52),some (45,true)⟩,⟨some 54,.bin .leq (.t 47) (.t 53),some (45,true)⟩,⟨some 55,.pick (.t 45) (.t 54) (.k (.bool false)),some (42,false)⟩,Oo 56 (.pick (.t 42) (.k (.bool true)) (.t 55))]) (.cond (.t 56) (.seq (.ops [Ok 4 (.bool false)]) .ret) .skip)))) (.ops [Oi 57 12,Om 12 57]))))))) (.seq (.ops [Ok 4 (.bool true)]) .ret))))⟩
theorem c95 : compileF Try.prog [] 95 = some cf95 := by kernel_rfl
def cf92 : CF := ⟨60,[.t 4],(.seq (.ops [Ok 4 (.bool false)]) (.seq (.seq (.ops [Om 7 0,Og 8 7,Oo 9 (.bin .gtr (.t 8) (.k (.int .i64 40)))]) (.cond (.t 9) (.seq (.ops [Ok 4 (.bool false)]) .ret) .skip)) (.seq (.seq (.ops [Ok 5 (.int .i64 0)]) (.block 0 (.loop (.seq (.seq (.ops [Om 10 5,Om 11 0,Og 12 11,Ob 13 .lss 10 12]) (.cond (.t 13) .skip (.exit 0))) (.seq (.block 1 (.seq (.ops [Om 16 0,Om 17 5,Ox 18 4 16 17,Od 19 4 18,Oo 6 (.al (.agg [.str ⟨#[]⟩,.str ⟨#[]⟩,.int .i64 0,.int .i64 0])),Os 4 6 19]) (.seq (.quiet [Of 20 0 6,Ol 21 20,Oc 22 104 [.t 21],Oo 23 (.not (.t 22)),Om 24 23,⟨some 25,.fa 1 1 1 (.t 6),some (24,false)⟩,⟨some 26,.ld 1 false (.t 25),some (24,false)⟩,⟨some 27,.call 91 [.t 26],some (24,false)⟩,⟨some 28,.not (.t 27),some (24,false)⟩,Oo 29 (.pick (.t 24) (.k (.bool true)) (.t 28)),Om 30 29,⟨some 31,.fa 3 1 3 (.t 6),some (30,false)⟩,⟨some 32,.ld 1 false (.t 31),some (30,false)⟩,⟨some 33,.mv (.t 1),some (30,false)⟩,⟨some 34,.call 80 [.t 32,(.k (.int .i64 0)),.t 33],some (30,false)⟩,⟨some 35,.not (.t 34),some (30,false)⟩,Oo 36 (.pick (.t 30) (.k (.bool true)) (.t 35)),Om 37 36,⟨some 38,.fa 2 1 2 (.t 6),some (37,false)⟩,⟨some 39,.ld 1 false (.t 38),some (37,false)⟩,⟨some 40,.fa 3 1 3 (.t 6),some (37,false)⟩,⟨some 41,.ld 1 false (.t 40),some (37,false)⟩,⟨some 42,.call 80 [.t 39,(.k (.int .i64 0)),.t 41],some (37,false)⟩,⟨some 43,.not (.t 42),some (37,false)⟩,Oo 44 (.pick (.t 37) (.k (.bool true)) (.t 43)),Om 45 44,⟨some 46,.mv (.t 5),some (45,false)⟩,⟨some 47,.bin .gtr (.t 46) (.k (.int .i64 0)),some (45,false)⟩,⟨some 48,.mv (.t 47),some (45,false)⟩,⟨some 49,.mv (.t 0),some (48,true)⟩,⟨some 50,.mv (.t 5),some (48,true)⟩,⟨some 51,.bin .sub (.t 50) (.k (.int .i64 1)),some (48,true)⟩,⟨some 52,.ix 4 (.t 49) (.t 51),some (48,true)⟩,⟨some 53,.fa 0 1 0 (.t 52),some (48,true)⟩,⟨some 54,.ld 1 false (.t 53),some (48,true)⟩,⟨some 55,.fa 0 1 0 (.t 6),some (48,true)⟩,⟨some 56,.ld 1 false (.t 55),some (48,true)⟩,⟨some 57,.bin .geq (.t 54) (.t 56),some (48,true)⟩,⟨some 58,.pick (.t 48) (.t 57) (.k (.bool false)),some (45,false)⟩,Oo 59 (.pick (.t 45) (.k (.bool true)) (.t 58))]) (.cond (.t 59) (.seq (.ops [Ok 4 (.bool false)]) .ret) .skip)))) (.ops [Om 14 5,Oi 15 14,Om 5 15])))))) (.seq (.ops [Ok 4 (.bool true)]) .ret))))⟩
theorem c92 : compileF Try.prog [] 92 = some cf92 := by kernel_rfl
def cf93 : CF := ⟨20,[.t 4],(.seq (.ops [Ok 4 (.int .i64 0)]) (.seq (.seq (.ops [Ok 5 (.int .i64 0)]) (.block 0 (.loop (.seq (.seq (.ops [Om 6 5,Om 7 0,Og 8 7,Ob 9 .lss 6 8]) (.cond (.t 9) .skip (.exit 0))) (.seq (.block 1 (.seq (.ops [Om 12 0,Om 13 5,Ox 14 4 12 13,Of 15 0 14,Ol 16 15,Om 17 1,Ob 18 .eql 16 17]) (.cond (.t 18) (.seq (.ops [Om 19 5,Om 4 19]) .ret) .skip))) (.ops [Om 10 5,Oi 11 10,Om 5 11])))))) (.seq (.ops [Ok 4 (.int .i64 (-1))]) .ret)))⟩
theorem c93 : compileF Try.prog [] 93 = some cf93 := by kernel_rfl
def cf115 : CF := ⟨19,[.t 4],(.seq (.ops [Ok 4 (.int .i64 0)]) (.seq (.seq (.ops [Om 6 0,Og 7 6,Ok 8 (.int .i64 0)]) (.block 0 (.loop (.seq (.ops [Ob 9 .lss 8 7]) (.seq (.cond (.t 9) .skip (.exit 0)) (.seq (.block 1 (.seq (.ops [Om 10 8,Om 5 10]) (.seq (.ops [Om 11 1,Om 12 0,Om 13 5,Ox 14 4 12 13,Od 15 4 14,Oo 16 (.callv (.t 11) [(.t 15)])]) (.cond (.t 16) (.seq (.ops [Om 17 5,Om 4 17]) .ret) .skip)))) (.ops [Oi 18 8,Om 8 18]))))))) (.seq (.ops [Ok 4 (.int .i64 (-1))]) .ret)))⟩
theorem c115 : compileF Try.prog [] 115 = some cf115 := by kernel_rfl
def cf96 : CF := ⟨8,[.t 4],(.seq (.ops [Oo 3 (.bx (.t 1)),Ok 4 (.int .i64 0)]) (.seq (.ops [Om 5 0,Oo 6 (.fnm 116 [(.t 3)]),Oc 7 115 [.t 5,.t 6],Om 4 7]) .ret))⟩
theorem c96 : compileF Try.prog [] 96 = some cf96 := by kernel_rfl
def cf116 : CF := ⟨8,[.t 3],(.seq (.ops [Oo 2 (.bx (.t 0)),Ok 3 (.bool false)]) (.seq (.ops [Of 4 0 2,Ol 5 4,Ol 6 1,Ob 7 .eql 5 6,Om 3 7]) .ret))⟩
theorem c116 : compileF Try.prog [] 116 = some cf116 := by kernel_rfl
def alive (x : MateRun) : Bool := x.fState == 3 || x.fState == 4 || x.fState == 6
def leased (x : MateRun) (c : Int) : Bool := (x.fWant.fHold.toList == (ByteArray.mk #[]).toList) || decide (x.fUntil ≥ IntKind.wrap .i64 (c + 4))
def runOk (x : MateRun) (c : Int) : Bool := wantOk x.fWant && inR x.fState 1 6 && inR x.fLeft 0 100 && !((x.fState == 2) && (x.fLeft != 0)) && inR x.fFalls 0 1000 && inR x.fUntil 0 1000016 && !((x.fWant.fHold.toList == (ByteArray.mk #[]).toList) && (x.fUntil != 0)) && (!alive x || leased x c)
theorem spec_Alive (x : MateRun) : Rdr Try.prog 15 [x.D] (.bool (alive x)) := by
 refine Rdr.intro' hm c15 (Nat.le_of_ble_eq_true rfl) ?_
 conv => whnf
 repeat' (first | (refine z_ld1 ?_; first | (refine z_ld rfl rfl rfl rfl au1 au2 ?_; conv => whnf) | (refine z_ld0 rfl ?_; conv => whnf)) | (refine z_ld1g ?_; first | (refine z_ldg rfl rfl rfl rfl rfl rfl rfl (by (repeat intro _); exact ⟨au1, au2⟩) rfl rfl rfl rfl ?_; conv => whnf) | (refine z_ld0g ?_; (conv => whnf); refine And.intro ?_ ?_; (focus exact rfl); conv => whnf)) | (refine z_op ?_ ?_; (focus exact rfl); conv => whnf) | (refine z_opg0 ?_; (conv => whnf); refine And.intro ?_ ?_; (focus exact rfl); conv => whnf) | (refine z_pick ?_ ?_; (focus exact rfl); conv => whnf) | (refine zs_ops ?_ ?_; (focus exact rfl)) | ((first | refine z_nil fun vals => ?_ | refine g_op ?_); conv => whnf) | (refine And.intro ?_ ?_; (focus exact au0); conv => whnf) | (refine g_seq ?_) | (refine XS.go ?_) | (refine g_ops ?_) | ((first | refine g_nil ?_ | refine g_ret ?_ | refine r_t ?_ | refine r_nil ?_ | refine fun _ => ?_); conv => whnf) | fail)
 all_goals (conv => lhs; whnf)
 all_goals refine congrArg D.bool ?_
 all_goals first | (refine (Bool.eq_false_iff.mpr fun h => ?_).symm; simp_all [alive]; done) | (refine Bool.eq_false_iff.mpr fun h => ?_; simp_all [alive]; done) | (simp_all [alive]; done) | (simp_all [alive]; omega) | (refine (Bool.eq_false_iff.mpr fun h => ?_).symm; simp_all [alive]; omega) | (refine Bool.eq_false_iff.mpr fun h => ?_; simp_all [alive]; omega) | (rw [Bool.eq_iff_iff]; constructor <;> intro h <;> simp_all [alive] <;> omega) | fail
theorem impl_Alive (x : MateRun) : Rdr Try.prog 17 [x.D] (.bool (alive x)) := by
 refine Rdr.intro' hm c17 (Nat.le_of_ble_eq_true rfl) ?_
 conv => whnf
 repeat' (first | (refine z_ld1 ?_; first | (refine z_ld rfl rfl rfl rfl au1 au2 ?_; conv => whnf) | (refine z_ld0 rfl ?_; conv => whnf)) | (refine z_ld1g ?_; first | (refine z_ldg rfl rfl rfl rfl rfl rfl rfl (by (repeat intro _); exact ⟨au1, au2⟩) rfl rfl rfl rfl ?_; conv => whnf) | (refine z_ld0g ?_; (conv => whnf); refine And.intro ?_ ?_; (focus exact rfl); conv => whnf)) | (refine z_op ?_ ?_; (focus exact rfl); conv => whnf) | (refine z_opg0 ?_; (conv => whnf); refine And.intro ?_ ?_; (focus exact rfl); conv => whnf) | (refine z_pick ?_ ?_; (focus exact rfl); conv => whnf) | (refine zs_ops ?_ ?_; (focus exact rfl)) | ((first | refine z_nil fun vals => ?_ | refine g_op ?_); conv => whnf) | (refine And.intro ?_ ?_; (focus exact au0); conv => whnf) | (refine g_seq ?_) | (refine XS.go ?_) | (refine g_ops ?_) | ((first | refine g_nil ?_ | refine g_ret ?_ | refine r_t ?_ | refine r_nil ?_ | refine fun _ => ?_); conv => whnf) | fail)
 all_goals (conv => lhs; whnf)
 all_goals refine congrArg D.bool ?_
 all_goals first | (refine (Bool.eq_false_iff.mpr fun h => ?_).symm; simp_all [alive]; done) | (refine Bool.eq_false_iff.mpr fun h => ?_; simp_all [alive]; done) | (simp_all [alive]; done) | (simp_all [alive]; omega) | (refine (Bool.eq_false_iff.mpr fun h => ?_).symm; simp_all [alive]; omega) | (refine Bool.eq_false_iff.mpr fun h => ?_; simp_all [alive]; omega) | (rw [Bool.eq_iff_iff]; constructor <;> intro h <;> simp_all [alive] <;> omega) | fail
theorem spec_Leased (x : MateRun) (c : Int) : Rdr Try.prog 76 [x.D, .int .i64 c] (.bool (leased x c)) := by
 refine Rdr.intro' hm c76 (Nat.le_of_ble_eq_true rfl) ?_
 conv => whnf
 repeat' (first | (refine z_ld1 ?_; first | (refine z_ld rfl rfl rfl rfl au1 au2 ?_; conv => whnf) | (refine z_ld0 rfl ?_; conv => whnf)) | (refine z_ld1g ?_; first | (refine z_ldg rfl rfl rfl rfl rfl rfl rfl (by (repeat intro _); exact ⟨au1, au2⟩) rfl rfl rfl rfl ?_; conv => whnf) | (refine z_ld0g ?_; (conv => whnf); refine And.intro ?_ ?_; (focus exact rfl); conv => whnf)) | (refine z_op ?_ ?_; (focus exact rfl); conv => whnf) | (refine z_opg0 ?_; (conv => whnf); refine And.intro ?_ ?_; (focus exact rfl); conv => whnf) | (refine z_pick ?_ ?_; (focus exact rfl); conv => whnf) | (refine zs_ops ?_ ?_; (focus exact rfl)) | ((first | refine z_nil fun vals => ?_ | refine g_op ?_); conv => whnf) | (refine And.intro ?_ ?_; (focus exact au0); conv => whnf) | (refine g_seq ?_) | (refine XS.go ?_) | (refine g_ops ?_) | ((first | refine g_nil ?_ | refine g_ret ?_ | refine r_t ?_ | refine r_nil ?_ | refine fun _ => ?_); conv => whnf) | fail)
 all_goals (conv => lhs; whnf)
 all_goals refine congrArg D.bool ?_
 all_goals first | (refine (Bool.eq_false_iff.mpr fun h => ?_).symm; simp_all [leased]; done) | (refine Bool.eq_false_iff.mpr fun h => ?_; simp_all [leased]; done) | (simp_all [leased]; done) | (simp_all [leased]; omega) | (refine (Bool.eq_false_iff.mpr fun h => ?_).symm; simp_all [leased]; omega) | (refine Bool.eq_false_iff.mpr fun h => ?_; simp_all [leased]; omega) | (rw [Bool.eq_iff_iff]; constructor <;> intro h <;> simp_all [leased] <;> omega) | fail
theorem spec_RunOk (x : MateRun) (c : Int) : Rdr Try.prog 65 [x.D, .int .i64 c] (.bool (runOk x c)) := by
 refine Rdr.intro' hm c65 (Nat.le_of_ble_eq_true rfl) ?_
 conv => whnf
 repeat' (first | (refine z_ld1 ?_; first | (refine z_ld rfl rfl rfl rfl au1 au2 ?_; conv => whnf) | (refine z_ld0 rfl ?_; conv => whnf)) | (refine z_ld1g ?_; first | (refine z_ldg rfl rfl rfl rfl rfl rfl rfl (by (repeat intro _); exact ⟨au1, au2⟩) rfl rfl rfl rfl ?_; conv => whnf) | (refine z_ld0g ?_; (conv => whnf); refine And.intro ?_ ?_; (focus exact rfl); conv => whnf)) | (refine z_op ?_ ?_; (focus exact rfl); conv => whnf) | (refine z_opg0 ?_; (conv => whnf); refine And.intro ?_ ?_; (focus exact rfl); conv => whnf) | (refine z_pick ?_ ?_; (focus exact rfl); conv => whnf) | (refine z_pickg ?_; (conv => whnf); refine And.intro ?_ ?_; (focus exact rfl); conv => whnf) | (refine zs_ops ?_ ?_; (focus exact rfl)) | (refine z_nil fun vals => ?_; conv => whnf) | (refine z_call ?_ ?_; (focus exact rfl)) | (refine z_callg0 ?_; (conv => whnf); refine And.intro ?_ ?_; (focus exact rfl)) | (refine RC.of (spec_WantOk _) ?_ ?_; (focus exact rfl); conv => whnf) | (refine RC.of (spec_In _ _ _) ?_ ?_; (focus exact rfl); conv => whnf) | (refine RC.of (spec_Alive _) ?_ ?_; (focus exact rfl); conv => whnf) | (refine RC.of (spec_Leased _ _) ?_ ?_; (focus exact rfl); conv => whnf) | (refine g_op ?_; conv => whnf) | (refine And.intro ?_ ?_; (focus exact au0); conv => whnf) | (refine g_seq ?_) | (refine XS.go ?_) | (refine g_ops ?_) | ((first | refine g_nil ?_ | refine g_cond ?_ | refine g_skip ?_ | refine g_ret ?_ | refine r_t ?_ | refine r_nil ?_ | refine fun _ => ?_); conv => whnf) | (refine Br.mk (fun hb => ?_) (fun hb => ?_) <;> conv => whnf) | fail)
 all_goals (conv => lhs; whnf)
 all_goals refine congrArg D.bool ?_
 all_goals by_cases hq : x.fWant.fHold.toList = [] <;> by_cases hs : x.fState = 2 <;> by_cases hl : x.fLeft = 0 <;> by_cases hu : x.fUntil = 0
 all_goals first | (simp_all [runOk]; done) | (refine (Bool.eq_false_iff.mpr fun h => ?_).symm; simp_all [runOk]; done) | fail
def rS (xs : List MateRun) (c : Int) (i : Nat) : Bool := runOk (xs.getD i default) c && !(decide ((i : Int) > 0) && !Op.bytesLess (xs.getD (pr i) default).fWant.fCopy.toList (xs.getD i default).fWant.fCopy.toList)
def runsOk (xs : List MateRun) (c : Int) : Bool := !decide ((xs.length : Int) > 20) && (allN (rS xs c) xs.length 0 && true)
theorem spec_RunsOk (xs : List MateRun) (c : Int) : Rdr Try.prog 24 [.ro 11 (xs.map MateRun.D), .int .i64 c] (.bool (runsOk xs c)) := by
 refine Rdr.intro' hm c24 (Nat.le_of_ble_eq_true rfl) ?_
 conv => whnf
 repeat' (first | (refine g_op ?_; conv => whnf) | (refine And.intro ?_ ?_; (focus exact au0); conv => whnf) | (refine g_seq ?_) | (refine XS.go ?_) | (refine g_ops ?_) | ((first | refine g_nil ?_ | refine g_cond ?_); conv => whnf) | fail)
 rw [mlen]
 refine Br.mk (fun hb => ?_) (fun hb => ?_)
 ·conv => whnf
  repeat' (first | (refine g_op ?_; conv => whnf) | (refine And.intro ?_ ?_; (focus exact au0); conv => whnf) | (refine g_seq ?_) | (refine XS.go ?_) | (refine g_ops ?_) | ((first | refine g_nil ?_ | refine g_ret ?_ | refine r_t ?_ | refine r_nil ?_); conv => whnf) | fail)
  (conv => lhs; whnf)
  rw [runsOk, hb]
  rfl
 have hv : runsOk xs c = (allN (rS xs c) xs.length 0 && true) := by rw [runsOk, hb]; rfl
 have hl : xs.length ≤ 20 := by simp at hb; omega
 clear hb
 conv => whnf
 repeat' (first | (refine g_op ?_; conv => whnf) | (refine And.intro ?_ ?_; (focus exact au0); conv => whnf) | (refine g_seq ?_) | (refine XS.go ?_) | (refine g_ops ?_) | (refine g_loop ?_) | ((first | refine g_nil ?_ | refine g_skip ?_); conv => whnf) | (refine g_block ?_) | fail)
 refine XLc.mkL (α := Nat) (fun i => i ≤ xs.length ∧ runsOk xs c = (allN (rS xs c) (xs.length - i) i && true)) (fun i => xs.length - i) (fun i gs => [.ro 11 (xs.map MateRun.D), .int .i64 c, .any, .any, .any, .int .i64 (i : Int)]) (fun i gs => []) 0 ⟨Nat.zero_le _, hv⟩ ?_ ?_
 ·refine ⟨?_, ?_⟩
  ·repeat' (first | exact True.intro | refine And.intro rfl ?_)
  ·repeat' (first | exact True.intro | refine And.intro rfl ?_)
 intro i gs hI
 obtain ⟨hi, hN⟩ := hI
 repeat' (first | (refine g_op ?_; conv => whnf) | (refine And.intro ?_ ?_; (focus exact au0); conv => whnf) | (refine g_seq ?_) | (refine XS.go ?_) | (refine g_ops ?_) | ((first | refine g_nil ?_ | refine g_cond ?_); conv => whnf) | fail)
 refine Br.mk (fun hb => ?_) (fun hb => ?_)
 ·have hlt : i < xs.length := by simpa using hb
  have hw : IntKind.wrap .i64 ((i : Int) + 1) = ((i + 1 : Nat) : Int) := by rw [wrap_ok (by omega) (by omega)]; rfl
  have hw1 : IntKind.wrap .i64 ((i : Int) - 1) = (i : Int) - 1 := wrap_ok (by omega) (by omega)
  have hbad := fun h => allN_bad (f := rS xs c) hlt hN h
  have hgood := fun h => allN_good (f := rS xs c) hlt hN h
  clear hN hb
  all_goals conv => whnf
  repeat' (first | (refine z_ld1 ?_; first | (refine z_ld rfl rfl rfl rfl au1 au2 ?_; conv => whnf) | (refine z_ld0 rfl ?_; conv => whnf)) | (refine z_ld1g ?_; first | (refine z_ldg rfl rfl rfl rfl rfl rfl rfl (by (repeat intro _); exact ⟨au1, au2⟩) rfl rfl rfl rfl ?_; conv => whnf) | (refine z_ld0g ?_; (conv => whnf); refine And.intro ?_ ?_; (focus exact rfl); conv => whnf)) | (refine z_ix1 ?_; first | (refine z_ix rfl rfl rfl rfl rfl ⟨by first | omega | (simp only [decide_eq_true_eq, Bool.not_eq_true', Bool.or_eq_false_iff, decide_eq_false_iff_not, Bool.and_eq_true, Bool.not_eq_false'] at *; omega), by first | omega | (simp only [decide_eq_true_eq, Bool.not_eq_true', Bool.or_eq_false_iff, decide_eq_false_iff_not, Bool.and_eq_true, Bool.not_eq_false'] at *; omega)⟩ ?_; conv => whnf) | (refine z_ix0 rfl rfl ?_; conv => whnf)) | (refine z_ix1g ?_; refine z_ixg rfl rfl rfl rfl rfl rfl rfl (by (repeat intro _); refine ⟨?_, ?_⟩ <;> first | omega | (simp only [decide_eq_true_eq, Bool.not_eq_true', Bool.or_eq_false_iff, decide_eq_false_iff_not, Bool.and_eq_true, Bool.not_eq_false'] at *; omega)) ?_) | (refine z_op ?_ ?_; (focus exact rfl); conv => whnf) | (refine z_opg0 ?_; (conv => whnf); refine And.intro ?_ ?_; (focus exact rfl); conv => whnf) | (refine z_pick ?_ ?_; (focus exact rfl); conv => whnf) | (refine z_pickg ?_; (conv => whnf); refine And.intro ?_ ?_; (focus exact rfl); conv => whnf) | (refine zs_quiet ?_ ?_; (focus exact rfl)) | (refine z_nil fun vals => ?_; conv => whnf) | (refine z_call ?_ ?_; (focus exact rfl)) | (refine RC.of (spec_RunOk _ _) ?_ ?_; (focus exact rfl); conv => whnf) | (refine g_op ?_; conv => whnf) | (refine And.intro ?_ ?_; (focus exact au0); conv => whnf) | (refine g_seq ?_) | (refine XS.go ?_) | (refine g_ops ?_) | ((first | refine g_nil ?_ | refine g_cond ?_ | refine g_skip ?_ | refine g_ret ?_); conv => whnf) | (refine g_block ?_) | ((first | refine r_t ?_ | refine r_nil ?_); conv => whnf) | (refine Br.mk (fun hb => ?_) (fun hb => ?_) <;> conv => whnf) | fail)
  all_goals
   first
   |(refine ⟨(), hbad ?_, ⟨?_, True.intro⟩⟩
     ·clear hbad hgood hw
      first | (first | (refine (Bool.eq_false_iff.mpr fun h => ?_).symm; simp_all [rS, pr, le_eq]; done) | (refine Bool.eq_false_iff.mpr fun h => ?_; simp_all [rS, pr, le_eq]; done) | (simp_all [rS, pr, le_eq]; done) | (simp_all [rS, pr, le_eq]; omega) | (refine (Bool.eq_false_iff.mpr fun h => ?_).symm; simp_all [rS, pr, le_eq]; omega) | (refine Bool.eq_false_iff.mpr fun h => ?_; simp_all [rS, pr, le_eq]; omega) | (rw [Bool.eq_iff_iff]; constructor <;> intro h <;> simp_all [rS, pr, le_eq] <;> omega) | fail) | (rcases Nat.eq_zero_or_pos i with h0 | h0 <;> simp_all [rS, pr, le_eq] <;> omega) | (fail) | fail
     ·repeat' (first | exact True.intro | refine And.intro rfl ?_))
   |(conv => lhs; whnf
     refine congrArg D.bool (hbad ?_)
     clear hbad hgood hw
     first | (first | (refine (Bool.eq_false_iff.mpr fun h => ?_).symm; simp_all [rS, pr, le_eq]; done) | (refine Bool.eq_false_iff.mpr fun h => ?_; simp_all [rS, pr, le_eq]; done) | (simp_all [rS, pr, le_eq]; done) | (simp_all [rS, pr, le_eq]; omega) | (refine (Bool.eq_false_iff.mpr fun h => ?_).symm; simp_all [rS, pr, le_eq]; omega) | (refine Bool.eq_false_iff.mpr fun h => ?_; simp_all [rS, pr, le_eq]; omega) | (rw [Bool.eq_iff_iff]; constructor <;> intro h <;> simp_all [rS, pr, le_eq] <;> omega) | fail) | (rcases Nat.eq_zero_or_pos i with h0 | h0 <;> simp_all [rS, pr, le_eq] <;> omega) | (fail) | fail)
   |(refine ⟨i + 1, ⟨by omega, ?_⟩, by omega, ?_, ?_⟩
     ·refine hgood ?_
      clear hbad hgood hw
      first | (first | (refine (Bool.eq_false_iff.mpr fun h => ?_).symm; simp_all [rS, pr, le_eq]; done) | (refine Bool.eq_false_iff.mpr fun h => ?_; simp_all [rS, pr, le_eq]; done) | (simp_all [rS, pr, le_eq]; done) | (simp_all [rS, pr, le_eq]; omega) | (refine (Bool.eq_false_iff.mpr fun h => ?_).symm; simp_all [rS, pr, le_eq]; omega) | (refine Bool.eq_false_iff.mpr fun h => ?_; simp_all [rS, pr, le_eq]; omega) | (rw [Bool.eq_iff_iff]; constructor <;> intro h <;> simp_all [rS, pr, le_eq] <;> omega) | fail) | (rcases Nat.eq_zero_or_pos i with h0 | h0 <;> simp_all [rS, pr, le_eq] <;> omega) | (fail) | fail
     ·repeat' (first | exact True.intro | refine And.intro (congrArg (D.int .i64) hw) ?_ | refine And.intro rfl ?_)
     ·repeat' (first | exact True.intro | refine And.intro rfl ?_))
 have hge : ¬ i < xs.length := by simpa using hb
 have hend : runsOk xs c = true := by rw [hN, allN_end hge, Bool.true_and]
 clear hN
 conv => whnf
 repeat' (first | (refine g_op ?_; conv => whnf) | (refine And.intro ?_ ?_; (focus exact au0); conv => whnf) | (refine g_seq ?_) | (refine XS.go ?_) | (refine g_ops ?_) | ((first | refine g_nil ?_ | refine g_ret ?_ | refine g_exit ?_ | refine r_t ?_ | refine r_nil ?_); conv => whnf) | fail)
 (conv => lhs; whnf)
 rw [hend]
theorem impl_RunsOk (xs : List MateRun) (c : Int) : Rdr Try.prog 26 [.ro 11 (xs.map MateRun.D), .int .i64 c] (.bool (runsOk xs c)) := by
 refine Rdr.intro' hm c26 (Nat.le_of_ble_eq_true rfl) ?_
 conv => whnf
 repeat' (first | (refine g_op ?_; conv => whnf) | (refine And.intro ?_ ?_; (focus exact au0); conv => whnf) | (refine g_seq ?_) | (refine XS.go ?_) | (refine g_ops ?_) | ((first | refine g_nil ?_ | refine g_cond ?_); conv => whnf) | fail)
 rw [mlen]
 refine Br.mk (fun hb => ?_) (fun hb => ?_)
 ·conv => whnf
  repeat' (first | (refine g_op ?_; conv => whnf) | (refine And.intro ?_ ?_; (focus exact au0); conv => whnf) | (refine g_seq ?_) | (refine XS.go ?_) | (refine g_ops ?_) | ((first | refine g_nil ?_ | refine g_ret ?_ | refine r_t ?_ | refine r_nil ?_); conv => whnf) | fail)
  (conv => lhs; whnf)
  rw [runsOk, hb]
  rfl
 have hv : runsOk xs c = (allN (rS xs c) xs.length 0 && true) := by rw [runsOk, hb]; rfl
 have hl : xs.length ≤ 20 := by simp at hb; omega
 clear hb
 conv => whnf
 repeat' (first | (refine g_op ?_; conv => whnf) | (refine And.intro ?_ ?_; (focus exact au0); conv => whnf) | (refine g_seq ?_) | (refine XS.go ?_) | (refine g_ops ?_) | (refine g_loop ?_) | ((first | refine g_nil ?_ | refine g_skip ?_); conv => whnf) | (refine g_block ?_) | fail)
 refine XLc.mkL (α := Nat) (fun i => i ≤ xs.length ∧ runsOk xs c = (allN (rS xs c) (xs.length - i) i && true)) (fun i => xs.length - i) (fun i gs => [.ro 11 (xs.map MateRun.D), .int .i64 c, .any, .any, .any, .any, .any, .any, .any, .any, .ro 11 (xs.map MateRun.D), .int .i64 ((xs.map MateRun.D).length : Int), .int .i64 (i : Int)]) (fun i gs => []) 0 ⟨Nat.zero_le _, hv⟩ ?_ ?_
 ·refine ⟨?_, ?_⟩
  ·repeat' (first | exact True.intro | refine And.intro rfl ?_)
  ·repeat' (first | exact True.intro | refine And.intro rfl ?_)
 intro i gs hI
 obtain ⟨hi, hN⟩ := hI
 repeat' (first | (refine g_op ?_; conv => whnf) | (refine And.intro ?_ ?_; (focus exact au0); conv => whnf) | (refine g_seq ?_) | (refine XS.go ?_) | (refine g_ops ?_) | ((first | refine g_nil ?_ | refine g_cond ?_); conv => whnf) | fail)
 refine Br.mk (fun hb => ?_) (fun hb => ?_)
 ·have hlt : i < xs.length := by simpa using hb
  have hw : IntKind.wrap .i64 ((i : Int) + 1) = ((i + 1 : Nat) : Int) := by rw [wrap_ok (by omega) (by omega)]; rfl
  have hw1 : IntKind.wrap .i64 ((i : Int) - 1) = (i : Int) - 1 := wrap_ok (by omega) (by omega)
  have hbad := fun h => allN_bad (f := rS xs c) hlt hN h
  have hgood := fun h => allN_good (f := rS xs c) hlt hN h
  clear hN hb
  all_goals conv => whnf
  repeat' (first | (refine z_ld1 ?_; first | (refine z_ld rfl rfl rfl rfl au1 au2 ?_; conv => whnf) | (refine z_ld0 rfl ?_; conv => whnf)) | (refine z_ld1g ?_; first | (refine z_ldg rfl rfl rfl rfl rfl rfl rfl (by (repeat intro _); exact ⟨au1, au2⟩) rfl rfl rfl rfl ?_; conv => whnf) | (refine z_ld0g ?_; (conv => whnf); refine And.intro ?_ ?_; (focus exact rfl); conv => whnf)) | (refine z_st1 ?_; first | (refine z_st rfl rfl rfl au1 au2 rfl rfl ?_; conv => whnf) | (refine z_st0 ?_; conv => whnf)) | (refine z_ix1 ?_; first | (refine z_ix rfl rfl rfl rfl rfl ⟨by first | omega | (simp only [decide_eq_true_eq, Bool.not_eq_true', Bool.or_eq_false_iff, decide_eq_false_iff_not, Bool.and_eq_true, Bool.not_eq_false'] at *; omega), by first | omega | (simp only [decide_eq_true_eq, Bool.not_eq_true', Bool.or_eq_false_iff, decide_eq_false_iff_not, Bool.and_eq_true, Bool.not_eq_false'] at *; omega)⟩ ?_; conv => whnf) | (refine z_ix0 rfl rfl ?_; conv => whnf)) | (refine z_ix1g ?_; refine z_ixg rfl rfl rfl rfl rfl rfl rfl (by (repeat intro _); refine ⟨?_, ?_⟩ <;> first | omega | (simp only [decide_eq_true_eq, Bool.not_eq_true', Bool.or_eq_false_iff, decide_eq_false_iff_not, Bool.and_eq_true, Bool.not_eq_false'] at *; omega)) ?_) | (refine z_op ?_ ?_; (focus exact rfl); conv => whnf) | (refine z_opg0 ?_; (conv => whnf); refine And.intro ?_ ?_; (focus exact rfl); conv => whnf) | (refine z_pick ?_ ?_; (focus exact rfl); conv => whnf) | (refine z_pickg ?_; (conv => whnf); refine And.intro ?_ ?_; (focus exact rfl); conv => whnf) | (refine zs_ops ?_ ?_; (focus exact rfl)) | (refine zs_quiet ?_ ?_; (focus exact rfl)) | (refine z_nil fun vals => ?_; conv => whnf) | (refine z_call ?_ ?_; (focus exact rfl)) | (refine z_eff ?_; conv => whnf) | (refine z_callg0 ?_; (conv => whnf); refine And.intro ?_ ?_; (focus exact rfl)) | (refine RC.of (impl_mWantOk _) ?_ ?_; (focus exact rfl); conv => whnf) | (refine RC.of (impl_within _ _ _) ?_ ?_; (focus exact rfl); conv => whnf) | (refine RC.of (impl_Alive _) ?_ ?_; (focus exact rfl); conv => whnf) | (refine g_op ?_; conv => whnf) | (refine And.intro ?_ ?_; (focus exact au0); conv => whnf) | (refine g_seq ?_) | (refine XS.go ?_) | (refine g_ops ?_) | ((first | refine g_nil ?_ | refine g_cond ?_ | refine g_skip ?_ | refine g_ret ?_); conv => whnf) | (refine g_block ?_) | ((first | refine r_t ?_ | refine r_nil ?_ | refine fun _ => ?_); conv => whnf) | (refine Br.mk (fun hb => ?_) (fun hb => ?_) <;> conv => whnf) | fail)
  all_goals
   first
   |(refine ⟨(), hbad ?_, ⟨?_, True.intro⟩⟩
     ·clear hbad hgood hw
      first | (first | (refine (Bool.eq_false_iff.mpr fun h => ?_).symm; simp_all [rS, runOk, leased, pr, le_eq]; done) | (refine Bool.eq_false_iff.mpr fun h => ?_; simp_all [rS, runOk, leased, pr, le_eq]; done) | (simp_all [rS, runOk, leased, pr, le_eq]; done) | (simp_all [rS, runOk, leased, pr, le_eq]; omega) | (refine (Bool.eq_false_iff.mpr fun h => ?_).symm; simp_all [rS, runOk, leased, pr, le_eq]; omega) | (refine Bool.eq_false_iff.mpr fun h => ?_; simp_all [rS, runOk, leased, pr, le_eq]; omega) | (rw [Bool.eq_iff_iff]; constructor <;> intro h <;> simp_all [rS, runOk, leased, pr, le_eq] <;> omega) | fail) | (rcases Nat.eq_zero_or_pos i with h0 | h0 <;> simp_all [rS, runOk, leased, pr, le_eq] <;> omega) | (rcases Nat.eq_zero_or_pos i with h0 | h0 <;> by_cases hq : (xs.getD i default).fWant.fHold.toList = [] <;> cases ha : alive (xs.getD i default) <;> by_cases hs : (xs.getD i default).fState = 2 <;> by_cases hl : (xs.getD i default).fLeft = 0 <;> by_cases hu : (xs.getD i default).fUntil = 0 <;> first | (simp_all [rS, runOk, leased, pr, le_eq]; done) | (simp_all [rS, runOk, leased, pr, le_eq]; omega) | (refine Bool.eq_false_iff.mpr fun h => ?_; simp_all [rS, runOk, leased, pr, le_eq]; done) | (refine Bool.eq_false_iff.mpr fun h => ?_; simp_all [rS, runOk, leased, pr, le_eq]; omega) | fail) | fail
     ·repeat' (first | exact True.intro | refine And.intro rfl ?_))
   |(conv => lhs; whnf
     refine congrArg D.bool (hbad ?_)
     clear hbad hgood hw
     first | (first | (refine (Bool.eq_false_iff.mpr fun h => ?_).symm; simp_all [rS, runOk, leased, pr, le_eq]; done) | (refine Bool.eq_false_iff.mpr fun h => ?_; simp_all [rS, runOk, leased, pr, le_eq]; done) | (simp_all [rS, runOk, leased, pr, le_eq]; done) | (simp_all [rS, runOk, leased, pr, le_eq]; omega) | (refine (Bool.eq_false_iff.mpr fun h => ?_).symm; simp_all [rS, runOk, leased, pr, le_eq]; omega) | (refine Bool.eq_false_iff.mpr fun h => ?_; simp_all [rS, runOk, leased, pr, le_eq]; omega) | (rw [Bool.eq_iff_iff]; constructor <;> intro h <;> simp_all [rS, runOk, leased, pr, le_eq] <;> omega) | fail) | (rcases Nat.eq_zero_or_pos i with h0 | h0 <;> simp_all [rS, runOk, leased, pr, le_eq] <;> omega) | (rcases Nat.eq_zero_or_pos i with h0 | h0 <;> by_cases hq : (xs.getD i default).fWant.fHold.toList = [] <;> cases ha : alive (xs.getD i default) <;> by_cases hs : (xs.getD i default).fState = 2 <;> by_cases hl : (xs.getD i default).fLeft = 0 <;> by_cases hu : (xs.getD i default).fUntil = 0 <;> first | (simp_all [rS, runOk, leased, pr, le_eq]; done) | (simp_all [rS, runOk, leased, pr, le_eq]; omega) | (refine Bool.eq_false_iff.mpr fun h => ?_; simp_all [rS, runOk, leased, pr, le_eq]; done) | (refine Bool.eq_false_iff.mpr fun h => ?_; simp_all [rS, runOk, leased, pr, le_eq]; omega) | fail) | fail)
   |(refine ⟨i + 1, ⟨by omega, ?_⟩, by omega, ?_, ?_⟩
     ·refine hgood ?_
      clear hbad hgood hw
      first | (first | (refine (Bool.eq_false_iff.mpr fun h => ?_).symm; simp_all [rS, runOk, leased, pr, le_eq]; done) | (refine Bool.eq_false_iff.mpr fun h => ?_; simp_all [rS, runOk, leased, pr, le_eq]; done) | (simp_all [rS, runOk, leased, pr, le_eq]; done) | (simp_all [rS, runOk, leased, pr, le_eq]; omega) | (refine (Bool.eq_false_iff.mpr fun h => ?_).symm; simp_all [rS, runOk, leased, pr, le_eq]; omega) | (refine Bool.eq_false_iff.mpr fun h => ?_; simp_all [rS, runOk, leased, pr, le_eq]; omega) | (rw [Bool.eq_iff_iff]; constructor <;> intro h <;> simp_all [rS, runOk, leased, pr, le_eq] <;> omega) | fail) | (rcases Nat.eq_zero_or_pos i with h0 | h0 <;> simp_all [rS, runOk, leased, pr, le_eq] <;> omega) | (rcases Nat.eq_zero_or_pos i with h0 | h0 <;> by_cases hq : (xs.getD i default).fWant.fHold.toList = [] <;> cases ha : alive (xs.getD i default) <;> by_cases hs : (xs.getD i default).fState = 2 <;> by_cases hl : (xs.getD i default).fLeft = 0 <;> by_cases hu : (xs.getD i default).fUntil = 0 <;> first | (simp_all [rS, runOk, leased, pr, le_eq]; done) | (simp_all [rS, runOk, leased, pr, le_eq]; omega) | (refine Bool.eq_false_iff.mpr fun h => ?_; simp_all [rS, runOk, leased, pr, le_eq]; done) | (refine Bool.eq_false_iff.mpr fun h => ?_; simp_all [rS, runOk, leased, pr, le_eq]; omega) | fail) | fail
     ·repeat' (first | exact True.intro | refine And.intro (congrArg (D.int .i64) hw) ?_ | refine And.intro rfl ?_)
     ·repeat' (first | exact True.intro | refine And.intro rfl ?_))
 have hge : ¬ i < xs.length := by simpa using hb
 have hend : runsOk xs c = true := by rw [hN, allN_end hge, Bool.true_and]
 clear hN
 conv => whnf
 repeat' (first | (refine g_op ?_; conv => whnf) | (refine And.intro ?_ ?_; (focus exact au0); conv => whnf) | (refine g_seq ?_) | (refine XS.go ?_) | (refine g_ops ?_) | ((first | refine g_nil ?_ | refine g_ret ?_ | refine g_exit ?_ | refine r_t ?_ | refine r_nil ?_); conv => whnf) | fail)
 (conv => lhs; whnf)
 rw [hend]
def aS (xs : List MateAsk) (c : Int) (i : Nat) : Bool := holdOk (xs.getD i default).fHold && nameOk (xs.getD i default).fCopy && inR (xs.getD i default).fAt 0 c && inR (xs.getD i default).fFirst 0 (xs.getD i default).fAt && !(decide ((i : Int) > 0) && !Op.bytesLess (xs.getD (pr i) default).fHold.toList (xs.getD i default).fHold.toList)
def asksOk (xs : List MateAsk) (c : Int) : Bool := !decide ((xs.length : Int) > 40) && (allN (aS xs c) xs.length 0 && true)
theorem spec_AsksOk (xs : List MateAsk) (c : Int) : Rdr Try.prog 92 [.ro 4 (xs.map MateAsk.D), .int .i64 c] (.bool (asksOk xs c)) := by
 refine Rdr.intro' hm c92 (Nat.le_of_ble_eq_true rfl) ?_
 conv => whnf
 repeat' (first | (refine g_op ?_; conv => whnf) | (refine And.intro ?_ ?_; (focus exact au0); conv => whnf) | (refine g_seq ?_) | (refine XS.go ?_) | (refine g_ops ?_) | ((first | refine g_nil ?_ | refine g_cond ?_); conv => whnf) | fail)
 rw [mlen]
 refine Br.mk (fun hb => ?_) (fun hb => ?_)
 ·conv => whnf
  repeat' (first | (refine g_op ?_; conv => whnf) | (refine And.intro ?_ ?_; (focus exact au0); conv => whnf) | (refine g_seq ?_) | (refine XS.go ?_) | (refine g_ops ?_) | ((first | refine g_nil ?_ | refine g_ret ?_ | refine r_t ?_ | refine r_nil ?_); conv => whnf) | fail)
  (conv => lhs; whnf)
  rw [asksOk, hb]
  rfl
 have hv : asksOk xs c = (allN (aS xs c) xs.length 0 && true) := by rw [asksOk, hb]; rfl
 have hl : xs.length ≤ 40 := by simp at hb; omega
 clear hb
 conv => whnf
 repeat' (first | (refine g_op ?_; conv => whnf) | (refine And.intro ?_ ?_; (focus exact au0); conv => whnf) | (refine g_seq ?_) | (refine XS.go ?_) | (refine g_ops ?_) | (refine g_loop ?_) | ((first | refine g_nil ?_ | refine g_skip ?_); conv => whnf) | (refine g_block ?_) | fail)
 refine XLc.mkL (α := Nat) (fun i => i ≤ xs.length ∧ asksOk xs c = (allN (aS xs c) (xs.length - i) i && true)) (fun i => xs.length - i) (fun i gs => [.ro 4 (xs.map MateAsk.D), .int .i64 c, .any, .any, .any, .int .i64 (i : Int)]) (fun i gs => []) 0 ⟨Nat.zero_le _, hv⟩ ?_ ?_
 ·refine ⟨?_, ?_⟩
  ·repeat' (first | exact True.intro | refine And.intro rfl ?_)
  ·repeat' (first | exact True.intro | refine And.intro rfl ?_)
 intro i gs hI
 obtain ⟨hi, hN⟩ := hI
 repeat' (first | (refine g_op ?_; conv => whnf) | (refine And.intro ?_ ?_; (focus exact au0); conv => whnf) | (refine g_seq ?_) | (refine XS.go ?_) | (refine g_ops ?_) | ((first | refine g_nil ?_ | refine g_cond ?_); conv => whnf) | fail)
 refine Br.mk (fun hb => ?_) (fun hb => ?_)
 ·have hlt : i < xs.length := by simpa using hb
  have hw : IntKind.wrap .i64 ((i : Int) + 1) = ((i + 1 : Nat) : Int) := by rw [wrap_ok (by omega) (by omega)]; rfl
  have hw1 : IntKind.wrap .i64 ((i : Int) - 1) = (i : Int) - 1 := wrap_ok (by omega) (by omega)
  have hbad := fun h => allN_bad (f := aS xs c) hlt hN h
  have hgood := fun h => allN_good (f := aS xs c) hlt hN h
  clear hN hb
  all_goals conv => whnf
  repeat' (first | (refine z_ld1 ?_; first | (refine z_ld rfl rfl rfl rfl au1 au2 ?_; conv => whnf) | (refine z_ld0 rfl ?_; conv => whnf)) | (refine z_ld1g ?_; first | (refine z_ldg rfl rfl rfl rfl rfl rfl rfl (by (repeat intro _); exact ⟨au1, au2⟩) rfl rfl rfl rfl ?_; conv => whnf) | (refine z_ld0g ?_; (conv => whnf); refine And.intro ?_ ?_; (focus exact rfl); conv => whnf)) | (refine z_st1 ?_; first | (refine z_st rfl rfl rfl au1 au2 rfl rfl ?_; conv => whnf) | (refine z_st0 ?_; conv => whnf)) | (refine z_ix1 ?_; first | (refine z_ix rfl rfl rfl rfl rfl ⟨by first | omega | (simp only [decide_eq_true_eq, Bool.not_eq_true', Bool.or_eq_false_iff, decide_eq_false_iff_not, Bool.and_eq_true, Bool.not_eq_false'] at *; omega), by first | omega | (simp only [decide_eq_true_eq, Bool.not_eq_true', Bool.or_eq_false_iff, decide_eq_false_iff_not, Bool.and_eq_true, Bool.not_eq_false'] at *; omega)⟩ ?_; conv => whnf) | (refine z_ix0 rfl rfl ?_; conv => whnf)) | (refine z_ix1g ?_; refine z_ixg rfl rfl rfl rfl rfl rfl rfl (by (repeat intro _); refine ⟨?_, ?_⟩ <;> first | omega | (simp only [decide_eq_true_eq, Bool.not_eq_true', Bool.or_eq_false_iff, decide_eq_false_iff_not, Bool.and_eq_true, Bool.not_eq_false'] at *; omega)) ?_) | (refine z_op ?_ ?_; (focus exact rfl); conv => whnf) | (refine z_opg0 ?_; (conv => whnf); refine And.intro ?_ ?_; (focus exact rfl); conv => whnf) | (refine z_pick ?_ ?_; (focus exact rfl); conv => whnf) | (refine z_pickg ?_; (conv => whnf); refine And.intro ?_ ?_; (focus exact rfl); conv => whnf) | (refine zs_ops ?_ ?_; (focus exact rfl)) | (refine zs_quiet ?_ ?_; (focus exact rfl)) | (refine z_nil fun vals => ?_; conv => whnf) | (refine z_call ?_ ?_; (focus exact rfl)) | (refine z_eff ?_; conv => whnf) | (refine z_callg0 ?_; (conv => whnf); refine And.intro ?_ ?_; (focus exact rfl)) | (refine RC.of (spec_HoldOk _) ?_ ?_; (focus exact rfl); conv => whnf) | (refine RC.of (spec_NameOk _) ?_ ?_; (focus exact rfl); conv => whnf) | (refine RC.of (spec_In _ _ _) ?_ ?_; (focus exact rfl); conv => whnf) | (refine g_op ?_; conv => whnf) | (refine And.intro ?_ ?_; (focus exact au0); conv => whnf) | (refine g_seq ?_) | (refine XS.go ?_) | (refine g_ops ?_) | ((first | refine g_nil ?_ | refine g_cond ?_ | refine g_skip ?_ | refine g_ret ?_); conv => whnf) | (refine g_block ?_) | ((first | refine r_t ?_ | refine r_nil ?_ | refine fun _ => ?_); conv => whnf) | (refine Br.mk (fun hb => ?_) (fun hb => ?_) <;> conv => whnf) | fail)
  all_goals
   first
   |(refine ⟨(), hbad ?_, ⟨?_, True.intro⟩⟩
     ·clear hbad hgood hw
      first | (first | (refine (Bool.eq_false_iff.mpr fun h => ?_).symm; simp_all [aS, pr, le_eq]; done) | (refine Bool.eq_false_iff.mpr fun h => ?_; simp_all [aS, pr, le_eq]; done) | (simp_all [aS, pr, le_eq]; done) | (simp_all [aS, pr, le_eq]; omega) | (refine (Bool.eq_false_iff.mpr fun h => ?_).symm; simp_all [aS, pr, le_eq]; omega) | (refine Bool.eq_false_iff.mpr fun h => ?_; simp_all [aS, pr, le_eq]; omega) | (rw [Bool.eq_iff_iff]; constructor <;> intro h <;> simp_all [aS, pr, le_eq] <;> omega) | fail) | (rcases Nat.eq_zero_or_pos i with h0 | h0 <;> simp_all [aS, pr, le_eq] <;> omega) | (fail) | fail
     ·repeat' (first | exact True.intro | refine And.intro rfl ?_))
   |(conv => lhs; whnf
     refine congrArg D.bool (hbad ?_)
     clear hbad hgood hw
     first | (first | (refine (Bool.eq_false_iff.mpr fun h => ?_).symm; simp_all [aS, pr, le_eq]; done) | (refine Bool.eq_false_iff.mpr fun h => ?_; simp_all [aS, pr, le_eq]; done) | (simp_all [aS, pr, le_eq]; done) | (simp_all [aS, pr, le_eq]; omega) | (refine (Bool.eq_false_iff.mpr fun h => ?_).symm; simp_all [aS, pr, le_eq]; omega) | (refine Bool.eq_false_iff.mpr fun h => ?_; simp_all [aS, pr, le_eq]; omega) | (rw [Bool.eq_iff_iff]; constructor <;> intro h <;> simp_all [aS, pr, le_eq] <;> omega) | fail) | (rcases Nat.eq_zero_or_pos i with h0 | h0 <;> simp_all [aS, pr, le_eq] <;> omega) | (fail) | fail)
   |(refine ⟨i + 1, ⟨by omega, ?_⟩, by omega, ?_, ?_⟩
     ·refine hgood ?_
      clear hbad hgood hw
      first | (first | (refine (Bool.eq_false_iff.mpr fun h => ?_).symm; simp_all [aS, pr, le_eq]; done) | (refine Bool.eq_false_iff.mpr fun h => ?_; simp_all [aS, pr, le_eq]; done) | (simp_all [aS, pr, le_eq]; done) | (simp_all [aS, pr, le_eq]; omega) | (refine (Bool.eq_false_iff.mpr fun h => ?_).symm; simp_all [aS, pr, le_eq]; omega) | (refine Bool.eq_false_iff.mpr fun h => ?_; simp_all [aS, pr, le_eq]; omega) | (rw [Bool.eq_iff_iff]; constructor <;> intro h <;> simp_all [aS, pr, le_eq] <;> omega) | fail) | (rcases Nat.eq_zero_or_pos i with h0 | h0 <;> simp_all [aS, pr, le_eq] <;> omega) | (fail) | fail
     ·repeat' (first | exact True.intro | refine And.intro (congrArg (D.int .i64) hw) ?_ | refine And.intro rfl ?_)
     ·repeat' (first | exact True.intro | refine And.intro rfl ?_))
 have hge : ¬ i < xs.length := by simpa using hb
 have hend : asksOk xs c = true := by rw [hN, allN_end hge, Bool.true_and]
 clear hN
 conv => whnf
 repeat' (first | (refine g_op ?_; conv => whnf) | (refine And.intro ?_ ?_; (focus exact au0); conv => whnf) | (refine g_seq ?_) | (refine XS.go ?_) | (refine g_ops ?_) | ((first | refine g_nil ?_ | refine g_ret ?_ | refine g_exit ?_ | refine r_t ?_ | refine r_nil ?_); conv => whnf) | fail)
 (conv => lhs; whnf)
 rw [hend]
theorem impl_AsksOk (xs : List MateAsk) (c : Int) : Rdr Try.prog 95 [.ro 4 (xs.map MateAsk.D), .int .i64 c] (.bool (asksOk xs c)) := by
 refine Rdr.intro' hm c95 (Nat.le_of_ble_eq_true rfl) ?_
 conv => whnf
 repeat' (first | (refine g_op ?_; conv => whnf) | (refine And.intro ?_ ?_; (focus exact au0); conv => whnf) | (refine g_seq ?_) | (refine XS.go ?_) | (refine g_ops ?_) | ((first | refine g_nil ?_ | refine g_cond ?_); conv => whnf) | fail)
 rw [mlen]
 refine Br.mk (fun hb => ?_) (fun hb => ?_)
 ·conv => whnf
  repeat' (first | (refine g_op ?_; conv => whnf) | (refine And.intro ?_ ?_; (focus exact au0); conv => whnf) | (refine g_seq ?_) | (refine XS.go ?_) | (refine g_ops ?_) | ((first | refine g_nil ?_ | refine g_ret ?_ | refine r_t ?_ | refine r_nil ?_); conv => whnf) | fail)
  (conv => lhs; whnf)
  rw [asksOk, hb]
  rfl
 have hv : asksOk xs c = (allN (aS xs c) xs.length 0 && true) := by rw [asksOk, hb]; rfl
 have hl : xs.length ≤ 40 := by simp at hb; omega
 clear hb
 conv => whnf
 repeat' (first | (refine g_op ?_; conv => whnf) | (refine And.intro ?_ ?_; (focus exact au0); conv => whnf) | (refine g_seq ?_) | (refine XS.go ?_) | (refine g_ops ?_) | (refine g_loop ?_) | ((first | refine g_nil ?_ | refine g_skip ?_); conv => whnf) | (refine g_block ?_) | fail)
 refine XLc.mkL (α := Nat) (fun i => i ≤ xs.length ∧ asksOk xs c = (allN (aS xs c) (xs.length - i) i && true)) (fun i => xs.length - i) (fun i gs => [.ro 4 (xs.map MateAsk.D), .int .i64 c, .any, .any, .any, .any, .any, .any, .any, .any, .ro 4 (xs.map MateAsk.D), .int .i64 ((xs.map MateAsk.D).length : Int), .int .i64 (i : Int)]) (fun i gs => []) 0 ⟨Nat.zero_le _, hv⟩ ?_ ?_
 ·refine ⟨?_, ?_⟩
  ·repeat' (first | exact True.intro | refine And.intro rfl ?_)
  ·repeat' (first | exact True.intro | refine And.intro rfl ?_)
 intro i gs hI
 obtain ⟨hi, hN⟩ := hI
 repeat' (first | (refine g_op ?_; conv => whnf) | (refine And.intro ?_ ?_; (focus exact au0); conv => whnf) | (refine g_seq ?_) | (refine XS.go ?_) | (refine g_ops ?_) | ((first | refine g_nil ?_ | refine g_cond ?_); conv => whnf) | fail)
 refine Br.mk (fun hb => ?_) (fun hb => ?_)
 ·have hlt : i < xs.length := by simpa using hb
  have hw : IntKind.wrap .i64 ((i : Int) + 1) = ((i + 1 : Nat) : Int) := by rw [wrap_ok (by omega) (by omega)]; rfl
  have hw1 : IntKind.wrap .i64 ((i : Int) - 1) = (i : Int) - 1 := wrap_ok (by omega) (by omega)
  have hbad := fun h => allN_bad (f := aS xs c) hlt hN h
  have hgood := fun h => allN_good (f := aS xs c) hlt hN h
  clear hN hb
  all_goals conv => whnf
  repeat' (first | (refine z_ld1 ?_; first | (refine z_ld rfl rfl rfl rfl au1 au2 ?_; conv => whnf) | (refine z_ld0 rfl ?_; conv => whnf)) | (refine z_ld1g ?_; first | (refine z_ldg rfl rfl rfl rfl rfl rfl rfl (by (repeat intro _); exact ⟨au1, au2⟩) rfl rfl rfl rfl ?_; conv => whnf) | (refine z_ld0g ?_; (conv => whnf); refine And.intro ?_ ?_; (focus exact rfl); conv => whnf)) | (refine z_st1 ?_; first | (refine z_st rfl rfl rfl au1 au2 rfl rfl ?_; conv => whnf) | (refine z_st0 ?_; conv => whnf)) | (refine z_ix1 ?_; first | (refine z_ix rfl rfl rfl rfl rfl ⟨by first | omega | (simp only [decide_eq_true_eq, Bool.not_eq_true', Bool.or_eq_false_iff, decide_eq_false_iff_not, Bool.and_eq_true, Bool.not_eq_false'] at *; omega), by first | omega | (simp only [decide_eq_true_eq, Bool.not_eq_true', Bool.or_eq_false_iff, decide_eq_false_iff_not, Bool.and_eq_true, Bool.not_eq_false'] at *; omega)⟩ ?_; conv => whnf) | (refine z_ix0 rfl rfl ?_; conv => whnf)) | (refine z_ix1g ?_; refine z_ixg rfl rfl rfl rfl rfl rfl rfl (by (repeat intro _); refine ⟨?_, ?_⟩ <;> first | omega | (simp only [decide_eq_true_eq, Bool.not_eq_true', Bool.or_eq_false_iff, decide_eq_false_iff_not, Bool.and_eq_true, Bool.not_eq_false'] at *; omega)) ?_) | (refine z_op ?_ ?_; (focus exact rfl); conv => whnf) | (refine z_opg0 ?_; (conv => whnf); refine And.intro ?_ ?_; (focus exact rfl); conv => whnf) | (refine z_pick ?_ ?_; (focus exact rfl); conv => whnf) | (refine z_pickg ?_; (conv => whnf); refine And.intro ?_ ?_; (focus exact rfl); conv => whnf) | (refine zs_ops ?_ ?_; (focus exact rfl)) | (refine zs_quiet ?_ ?_; (focus exact rfl)) | (refine z_nil fun vals => ?_; conv => whnf) | (refine z_call ?_ ?_; (focus exact rfl)) | (refine z_eff ?_; conv => whnf) | (refine z_callg0 ?_; (conv => whnf); refine And.intro ?_ ?_; (focus exact rfl)) | (refine RC.of (impl_mHold _) ?_ ?_; (focus exact rfl); conv => whnf) | (refine RC.of (impl_mName _) ?_ ?_; (focus exact rfl); conv => whnf) | (refine RC.of (impl_within _ _ _) ?_ ?_; (focus exact rfl); conv => whnf) | (refine g_op ?_; conv => whnf) | (refine And.intro ?_ ?_; (focus exact au0); conv => whnf) | (refine g_seq ?_) | (refine XS.go ?_) | (refine g_ops ?_) | ((first | refine g_nil ?_ | refine g_cond ?_ | refine g_skip ?_ | refine g_ret ?_); conv => whnf) | (refine g_block ?_) | ((first | refine r_t ?_ | refine r_nil ?_ | refine fun _ => ?_); conv => whnf) | (refine Br.mk (fun hb => ?_) (fun hb => ?_) <;> conv => whnf) | fail)
  all_goals
   first
   |(refine ⟨(), hbad ?_, ⟨?_, True.intro⟩⟩
     ·clear hbad hgood hw
      first | (first | (refine (Bool.eq_false_iff.mpr fun h => ?_).symm; simp_all [aS, pr, le_eq]; done) | (refine Bool.eq_false_iff.mpr fun h => ?_; simp_all [aS, pr, le_eq]; done) | (simp_all [aS, pr, le_eq]; done) | (simp_all [aS, pr, le_eq]; omega) | (refine (Bool.eq_false_iff.mpr fun h => ?_).symm; simp_all [aS, pr, le_eq]; omega) | (refine Bool.eq_false_iff.mpr fun h => ?_; simp_all [aS, pr, le_eq]; omega) | (rw [Bool.eq_iff_iff]; constructor <;> intro h <;> simp_all [aS, pr, le_eq] <;> omega) | fail) | (rcases Nat.eq_zero_or_pos i with h0 | h0 <;> simp_all [aS, pr, le_eq] <;> omega) | (fail) | fail
     ·repeat' (first | exact True.intro | refine And.intro rfl ?_))
   |(conv => lhs; whnf
     refine congrArg D.bool (hbad ?_)
     clear hbad hgood hw
     first | (first | (refine (Bool.eq_false_iff.mpr fun h => ?_).symm; simp_all [aS, pr, le_eq]; done) | (refine Bool.eq_false_iff.mpr fun h => ?_; simp_all [aS, pr, le_eq]; done) | (simp_all [aS, pr, le_eq]; done) | (simp_all [aS, pr, le_eq]; omega) | (refine (Bool.eq_false_iff.mpr fun h => ?_).symm; simp_all [aS, pr, le_eq]; omega) | (refine Bool.eq_false_iff.mpr fun h => ?_; simp_all [aS, pr, le_eq]; omega) | (rw [Bool.eq_iff_iff]; constructor <;> intro h <;> simp_all [aS, pr, le_eq] <;> omega) | fail) | (rcases Nat.eq_zero_or_pos i with h0 | h0 <;> simp_all [aS, pr, le_eq] <;> omega) | (fail) | fail)
   |(refine ⟨i + 1, ⟨by omega, ?_⟩, by omega, ?_, ?_⟩
     ·refine hgood ?_
      clear hbad hgood hw
      first | (first | (refine (Bool.eq_false_iff.mpr fun h => ?_).symm; simp_all [aS, pr, le_eq]; done) | (refine Bool.eq_false_iff.mpr fun h => ?_; simp_all [aS, pr, le_eq]; done) | (simp_all [aS, pr, le_eq]; done) | (simp_all [aS, pr, le_eq]; omega) | (refine (Bool.eq_false_iff.mpr fun h => ?_).symm; simp_all [aS, pr, le_eq]; omega) | (refine Bool.eq_false_iff.mpr fun h => ?_; simp_all [aS, pr, le_eq]; omega) | (rw [Bool.eq_iff_iff]; constructor <;> intro h <;> simp_all [aS, pr, le_eq] <;> omega) | fail) | (rcases Nat.eq_zero_or_pos i with h0 | h0 <;> simp_all [aS, pr, le_eq] <;> omega) | (fail) | fail
     ·repeat' (first | exact True.intro | refine And.intro (congrArg (D.int .i64) hw) ?_ | refine And.intro rfl ?_)
     ·repeat' (first | exact True.intro | refine And.intro rfl ?_))
 have hge : ¬ i < xs.length := by simpa using hb
 have hend : asksOk xs c = true := by rw [hN, allN_end hge, Bool.true_and]
 clear hN
 conv => whnf
 repeat' (first | (refine g_op ?_; conv => whnf) | (refine And.intro ?_ ?_; (focus exact au0); conv => whnf) | (refine g_seq ?_) | (refine XS.go ?_) | (refine g_ops ?_) | ((first | refine g_nil ?_ | refine g_ret ?_ | refine g_exit ?_ | refine r_t ?_ | refine r_nil ?_); conv => whnf) | fail)
 (conv => lhs; whnf)
 rw [hend]
def askF (xs : List MateAsk) (hold : ByteArray) (i : Nat) : Bool := (xs.getD i default).fHold.toList == hold.toList
def askI (xs : List MateAsk) (hold : ByteArray) : Int := idxN (askF xs hold) xs.length 0
theorem spec_Ask (xs : List MateAsk) (hold : ByteArray) (hl : xs.length ≤ 1048576) : Rdr Try.prog 93 [.ro 4 (xs.map MateAsk.D), .str hold] (.int .i64 (askI xs hold)) := by
 refine Rdr.intro' hm c93 (Nat.le_of_ble_eq_true rfl) ?_
 conv => whnf
 repeat' (first | (refine g_op ?_; conv => whnf) | (refine And.intro ?_ ?_; (focus exact au0); conv => whnf) | (refine g_seq ?_) | (refine XS.go ?_) | (refine g_ops ?_) | (refine g_loop ?_) | (refine g_nil ?_; conv => whnf) | (refine g_block ?_) | fail)
 refine XLc.mkL (α := Nat) (fun i => i ≤ xs.length ∧ askI xs hold = idxN (askF xs hold) (xs.length - i) i) (fun i => xs.length - i) (fun i gs => [.ro 4 (xs.map MateAsk.D), .str hold, .any, .any, .any, .int .i64 (i : Int)]) (fun i gs => []) 0 ⟨Nat.zero_le _, rfl⟩ ?_ ?_
 ·refine ⟨?_, ?_⟩
  ·repeat' (first | exact True.intro | refine And.intro rfl ?_)
  ·repeat' (first | exact True.intro | refine And.intro rfl ?_)
 intro i gs hI
 obtain ⟨hi, hN⟩ := hI
 repeat' (first | (refine g_op ?_; conv => whnf) | (refine And.intro ?_ ?_; (focus exact au0); conv => whnf) | (refine g_seq ?_) | (refine XS.go ?_) | (refine g_ops ?_) | ((first | refine g_nil ?_ | refine g_cond ?_); conv => whnf) | fail)
 refine Br.mk (fun hb => ?_) (fun hb => ?_)
 ·have hlt : i < xs.length := by simpa using hb
  have hw : IntKind.wrap .i64 ((i : Int) + 1) = ((i + 1 : Nat) : Int) := by rw [wrap_ok (by omega) (by omega)]; rfl
  have hit := fun h => idxN_hit (f := askF xs hold) hlt hN h
  have miss := fun h => idxN_miss (f := askF xs hold) hlt hN h
  clear hN hb
  conv => whnf
  repeat' (first | (refine z_ld1 ?_; first | (refine z_ld rfl rfl rfl rfl au1 au2 ?_; conv => whnf) | (refine z_ld0 rfl ?_; conv => whnf)) | (refine z_ix1 ?_; first | (refine z_ix rfl rfl rfl rfl rfl ⟨by first | omega | (simp only [decide_eq_true_eq, Bool.not_eq_true', Bool.or_eq_false_iff, decide_eq_false_iff_not, Bool.and_eq_true, Bool.not_eq_false'] at *; omega), by first | omega | (simp only [decide_eq_true_eq, Bool.not_eq_true', Bool.or_eq_false_iff, decide_eq_false_iff_not, Bool.and_eq_true, Bool.not_eq_false'] at *; omega)⟩ ?_; conv => whnf) | (refine z_ix0 rfl rfl ?_; conv => whnf)) | (refine z_op ?_ ?_; (focus exact rfl); conv => whnf) | (refine zs_ops ?_ ?_; (focus exact rfl)) | ((first | refine z_nil fun vals => ?_ | refine g_op ?_); conv => whnf) | (refine And.intro ?_ ?_; (focus exact au0); conv => whnf) | (refine g_seq ?_) | (refine XS.go ?_) | (refine g_ops ?_) | ((first | refine g_nil ?_ | refine g_cond ?_ | refine g_skip ?_ | refine g_ret ?_); conv => whnf) | (refine g_block ?_) | ((first | refine r_t ?_ | refine r_nil ?_); conv => whnf) | (refine Br.mk (fun hb => ?_) (fun hb => ?_) <;> conv => whnf) | fail)
  all_goals
   first
   | ((conv => lhs; whnf); first | (rw [hit hb]; done) | (rw [hit hb]; rfl) | fail)
   |(refine ⟨i + 1, ⟨by omega, miss hb⟩, by omega, ?_, ?_⟩
     ·repeat' (first | exact True.intro | refine And.intro (congrArg (D.int .i64) hw) ?_ | refine And.intro rfl ?_)
     ·repeat' (first | exact True.intro | refine And.intro rfl ?_))
 have hge : ¬ i < xs.length := by simpa using hb
 have hend : askI xs hold = -1 := by rw [hN, idxN_end hge]
 clear hN
 conv => whnf
 repeat' (first | (refine g_op ?_; conv => whnf) | (refine And.intro ?_ ?_; (focus exact au0); conv => whnf) | (refine g_seq ?_) | (refine XS.go ?_) | (refine g_ops ?_) | ((first | refine g_nil ?_ | refine g_ret ?_ | refine g_exit ?_ | refine r_t ?_ | refine r_nil ?_); conv => whnf) | fail)
 ((conv => lhs; whnf); first | (rw [hend]; done) | (rw [hend]; rfl))
theorem impl_cl (x : MateAsk) (hold : ByteArray) : Rdr Try.prog 116 [x.D, .cref (.str hold)] (.bool (x.fHold.toList == hold.toList)) := by
 refine Rdr.intro' hm c116 (Nat.le_of_ble_eq_true rfl) ?_
 conv => whnf
 repeat' (first | (refine z_ld1 ?_; first | (refine z_ld rfl rfl rfl rfl au1 au2 ?_; conv => whnf) | (refine z_ld0 rfl ?_; conv => whnf)) | (refine z_op ?_ ?_; (focus exact rfl); conv => whnf) | (refine zs_ops ?_ ?_; (focus exact rfl)) | ((first | refine z_nil fun vals => ?_ | refine g_op ?_); conv => whnf) | (refine And.intro ?_ ?_; (focus exact au0); conv => whnf) | (refine g_seq ?_) | (refine XS.go ?_) | (refine g_ops ?_) | ((first | refine g_nil ?_ | refine g_ret ?_ | refine r_t ?_ | refine r_nil ?_ | refine fun _ => ?_); conv => whnf) | fail)
 (conv => lhs; whnf)
theorem impl_Index (xs : List MateAsk) (hold : ByteArray) (hl : xs.length ≤ 1048576) : Rdr Try.prog 115 [.ro 4 (xs.map MateAsk.D), .fn 116 [.cref (.str hold)]] (.int .i64 (askI xs hold)) := by
 refine Rdr.intro' hm c115 (Nat.le_of_ble_eq_true rfl) ?_
 conv => whnf
 repeat' (first | (refine g_op ?_; conv => whnf) | (refine And.intro ?_ ?_; (focus exact au0); conv => whnf) | (refine g_seq ?_) | (refine XS.go ?_) | (refine g_ops ?_) | (refine g_loop ?_) | (refine g_nil ?_; conv => whnf) | (refine g_block ?_) | fail)
 refine XLc.mkL (α := Nat) (fun i => i ≤ xs.length ∧ askI xs hold = idxN (askF xs hold) (xs.length - i) i) (fun i => xs.length - i) (fun i gs => [.ro 4 (xs.map MateAsk.D), .fn 116 [.cref (.str hold)], .any, .any, .any, .any, .any, .int .i64 ((xs.map MateAsk.D).length : Int), .int .i64 (i : Int)]) (fun i gs => []) 0 ⟨Nat.zero_le _, rfl⟩ ?_ ?_
 ·refine ⟨?_, ?_⟩
  ·repeat' (first | exact True.intro | refine And.intro rfl ?_)
  ·repeat' (first | exact True.intro | refine And.intro rfl ?_)
 intro i gs hI
 obtain ⟨hi, hN⟩ := hI
 repeat' (first | (refine g_op ?_; conv => whnf) | (refine And.intro ?_ ?_; (focus exact au0); conv => whnf) | (refine g_seq ?_) | (refine XS.go ?_) | (refine g_ops ?_) | ((first | refine g_nil ?_ | refine g_cond ?_); conv => whnf) | fail)
 refine Br.mk (fun hb => ?_) (fun hb => ?_)
 ·have hlt : i < xs.length := by simpa using hb
  have hw : IntKind.wrap .i64 ((i : Int) + 1) = ((i + 1 : Nat) : Int) := by rw [wrap_ok (by omega) (by omega)]; rfl
  have hit := fun h => idxN_hit (f := askF xs hold) hlt hN h
  have miss := fun h => idxN_miss (f := askF xs hold) hlt hN h
  clear hN hb
  conv => whnf
  repeat' (first | (refine z_ld1 ?_; first | (refine z_ld rfl rfl rfl rfl au1 au2 ?_; conv => whnf) | (refine z_ld0 rfl ?_; conv => whnf)) | (refine z_ix1 ?_; first | (refine z_ix rfl rfl rfl rfl rfl ⟨by first | omega | (simp only [decide_eq_true_eq, Bool.not_eq_true', Bool.or_eq_false_iff, decide_eq_false_iff_not, Bool.and_eq_true, Bool.not_eq_false'] at *; omega), by first | omega | (simp only [decide_eq_true_eq, Bool.not_eq_true', Bool.or_eq_false_iff, decide_eq_false_iff_not, Bool.and_eq_true, Bool.not_eq_false'] at *; omega)⟩ ?_; conv => whnf) | (refine z_ix0 rfl rfl ?_; conv => whnf)) | (refine z_op ?_ ?_; (focus exact rfl); conv => whnf) | (refine zs_ops ?_ ?_; (focus exact rfl)) | ((first | refine z_nil fun vals => ?_ | refine z_eff ?_ | refine g_op ?_); conv => whnf) | (refine And.intro ?_ ?_; (focus exact au0); conv => whnf) | (refine g_seq ?_) | (refine XS.go ?_) | (refine g_ops ?_) | ((first | refine g_nil ?_ | refine g_cond ?_ | refine g_skip ?_ | refine g_ret ?_); conv => whnf) | (refine g_block ?_) | ((first | refine r_t ?_ | refine r_nil ?_); conv => whnf) | (refine Br.mk (fun hb => ?_) (fun hb => ?_) <;> conv => whnf) | (refine XCL.of_rdr (impl_cl _ _) ?_; conv => whnf) | fail)
  all_goals
   first
   | ((conv => lhs; whnf); first | (rw [hit hb]; done) | (rw [hit hb]; rfl) | fail)
   |(refine ⟨i + 1, ⟨by omega, miss hb⟩, by omega, ?_, ?_⟩
     ·repeat' (first | exact True.intro | refine And.intro (congrArg (D.int .i64) hw) ?_ | refine And.intro rfl ?_)
     ·repeat' (first | exact True.intro | refine And.intro rfl ?_))
 have hge : ¬ i < xs.length := by simpa using hb
 have hend : askI xs hold = -1 := by rw [hN, idxN_end hge]
 clear hN
 conv => whnf
 repeat' (first | (refine g_op ?_; conv => whnf) | (refine And.intro ?_ ?_; (focus exact au0); conv => whnf) | (refine g_seq ?_) | (refine XS.go ?_) | (refine g_ops ?_) | ((first | refine g_nil ?_ | refine g_ret ?_ | refine g_exit ?_ | refine r_t ?_ | refine r_nil ?_); conv => whnf) | fail)
 ((conv => lhs; whnf); first | (rw [hend]; done) | (rw [hend]; rfl))
theorem impl_AskAt (xs : List MateAsk) (hold : ByteArray) (hl : xs.length ≤ 1048576) : Rdr Try.prog 96 [.ro 4 (xs.map MateAsk.D), .str hold] (.int .i64 (askI xs hold)) := by
 refine Rdr.intro' hm c96 (Nat.le_of_ble_eq_true rfl) ?_
 conv => whnf
 repeat' (first | (refine g_op ?_; conv => whnf) | (refine And.intro ?_ ?_; (focus exact au0); conv => whnf) | (refine g_seq ?_) | (refine g_ops ?_) | ((first | refine g_nil ?_ | refine fun _ => ?_); conv => whnf) | fail)
 refine XS.freezeB 3 rfl ?_
 repeat' (first | (refine g_op ?_; conv => whnf) | (refine And.intro ?_ ?_; (focus exact au0); conv => whnf) | (refine g_seq ?_) | (refine XS.go ?_) | (refine g_ops ?_) | ((first | refine g_nil ?_ | refine g_ret ?_ | refine r_t ?_ | refine r_nil ?_ | refine XCL.of_rdr (impl_Index xs hold hl) ?_); conv => whnf) | fail)
 (conv => lhs; whnf)
end Go.Ab
