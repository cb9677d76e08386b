/- Steps towards the law: contracts of functions and facts of lists. -/
import Derived.Test.YtagleaabhljkfaaMateW
import Derived.Test.YtagleaabhljkfaaRows
set_option linter.unusedSimpArgs false
set_option linter.unusedVariables false
namespace Go.Ab
open Go Go.RowKit Go.Proofs
attribute [local irreducible] XC Rdr IntKind.wrap xw xos xqs xr xd
set_option maxRecDepth 100000

/-- laws.markMateRunS -/
def cf33 : CF := ⟨99, [.t 4],
  (.seq (.ops [⟨some 4, .mv (.k (.int .i64 0)), none⟩])
  (.seq (.seq (.ops [⟨some 5, .mv (.k (.int .i64 0)), none⟩])
  (.block 0 (.loop (.seq (.seq (.ops [⟨some 6, .mv (.t 5), none⟩,
    ⟨some 7, .mv (.t 0), none⟩,
    ⟨some 8, .lenl (.t 7), none⟩,
    ⟨some 9, .bin .lss (.t 6) (.t 8), none⟩])
  (.cond (.t 9)
  .skip
  (.exit 0)))
  (.seq (.block 1 (.seq (.ops [⟨some 12, .mv (.t 0), none⟩,
    ⟨some 13, .mv (.t 5), none⟩,
    ⟨some 14, .mv (.t 1), none⟩,
    ⟨some 15, .call 77 [(.t 14)], none⟩,
    ⟨some 16, .ix 11 (.t 12) (.t 13), none⟩,
    ⟨some 17, .fa 0 7 0 (.t 16), none⟩,
    ⟨some 18, .fa 0 1 0 (.t 17), none⟩,
    ⟨none, .st 1 (.t 18) (.t 15), none⟩])
  (.seq (.ops [⟨some 19, .mv (.t 1), none⟩,
    ⟨some 20, .bin .add (.t 19) (.k (.int .i64 1)), none⟩,
    ⟨some 1, .mv (.t 20), none⟩])
  (.seq (.ops [⟨some 21, .mv (.t 0), none⟩,
    ⟨some 22, .mv (.t 5), none⟩,
    ⟨some 23, .mv (.t 1), none⟩,
    ⟨some 24, .ix 11 (.t 21) (.t 22), none⟩,
    ⟨some 25, .fa 0 7 0 (.t 24), none⟩,
    ⟨some 26, .fa 1 1 1 (.t 25), none⟩,
    ⟨none, .st 1 (.t 26) (.t 23), none⟩])
  (.seq (.ops [⟨some 27, .mv (.t 1), none⟩,
    ⟨some 28, .bin .add (.t 27) (.k (.int .i64 1)), none⟩,
    ⟨some 1, .mv (.t 28), none⟩])
  (.seq (.ops [⟨some 29, .mv (.t 0), none⟩,
    ⟨some 30, .mv (.t 5), none⟩,
    ⟨some 31, .mv (.t 1), none⟩,
    ⟨some 32, .call 77 [(.t 31)], none⟩,
    ⟨some 33, .ix 11 (.t 29) (.t 30), none⟩,
    ⟨some 34, .fa 0 7 0 (.t 33), none⟩,
    ⟨some 35, .fa 2 1 2 (.t 34), none⟩,
    ⟨none, .st 1 (.t 35) (.t 32), none⟩])
  (.seq (.ops [⟨some 36, .mv (.t 1), none⟩,
    ⟨some 37, .bin .add (.t 36) (.k (.int .i64 1)), none⟩,
    ⟨some 1, .mv (.t 37), none⟩])
  (.seq (.ops [⟨some 38, .mv (.t 0), none⟩,
    ⟨some 39, .mv (.t 5), none⟩,
    ⟨some 40, .mv (.t 1), none⟩,
    ⟨some 41, .ix 11 (.t 38) (.t 39), none⟩,
    ⟨some 42, .fa 0 7 0 (.t 41), none⟩,
    ⟨some 43, .fa 3 1 3 (.t 42), none⟩,
    ⟨none, .st 1 (.t 43) (.t 40), none⟩])
  (.seq (.ops [⟨some 44, .mv (.t 1), none⟩,
    ⟨some 45, .bin .add (.t 44) (.k (.int .i64 1)), none⟩,
    ⟨some 1, .mv (.t 45), none⟩])
  (.seq (.ops [⟨some 46, .mv (.t 0), none⟩,
    ⟨some 47, .mv (.t 5), none⟩,
    ⟨some 48, .mv (.t 1), none⟩,
    ⟨some 49, .ix 11 (.t 46) (.t 47), none⟩,
    ⟨some 50, .fa 0 7 0 (.t 49), none⟩,
    ⟨some 51, .fa 4 1 4 (.t 50), none⟩,
    ⟨none, .st 1 (.t 51) (.t 48), none⟩])
  (.seq (.ops [⟨some 52, .mv (.t 1), none⟩,
    ⟨some 53, .bin .add (.t 52) (.k (.int .i64 1)), none⟩,
    ⟨some 1, .mv (.t 53), none⟩])
  (.seq (.ops [⟨some 54, .mv (.t 0), none⟩,
    ⟨some 55, .mv (.t 5), none⟩,
    ⟨some 56, .mv (.t 1), none⟩,
    ⟨some 57, .ix 11 (.t 54) (.t 55), none⟩,
    ⟨some 58, .fa 0 7 0 (.t 57), none⟩,
    ⟨some 59, .fa 5 1 5 (.t 58), none⟩,
    ⟨none, .st 1 (.t 59) (.t 56), none⟩])
  (.seq (.ops [⟨some 60, .mv (.t 1), none⟩,
    ⟨some 61, .bin .add (.t 60) (.k (.int .i64 1)), none⟩,
    ⟨some 1, .mv (.t 61), none⟩])
  (.seq (.ops [⟨some 62, .mv (.t 0), none⟩,
    ⟨some 63, .mv (.t 5), none⟩,
    ⟨some 64, .mv (.t 1), none⟩,
    ⟨some 65, .ix 11 (.t 62) (.t 63), none⟩,
    ⟨some 66, .fa 0 7 0 (.t 65), none⟩,
    ⟨some 67, .fa 6 1 6 (.t 66), none⟩,
    ⟨none, .st 1 (.t 67) (.t 64), none⟩])
  (.seq (.ops [⟨some 68, .mv (.t 1), none⟩,
    ⟨some 69, .bin .add (.t 68) (.k (.int .i64 1)), none⟩,
    ⟨some 1, .mv (.t 69), none⟩])
  (.seq (.ops [⟨some 70, .mv (.t 0), none⟩,
    ⟨some 71, .mv (.t 5), none⟩,
    ⟨some 72, .mv (.t 1), none⟩,
    ⟨some 73, .ix 11 (.t 70) (.t 71), none⟩,
    ⟨some 74, .fa 7 1 1 (.t 73), none⟩,
    ⟨none, .st 1 (.t 74) (.t 72), none⟩])
  (.seq (.ops [⟨some 75, .mv (.t 1), none⟩,
    ⟨some 76, .bin .add (.t 75) (.k (.int .i64 1)), none⟩,
    ⟨some 1, .mv (.t 76), none⟩])
  (.seq (.ops [⟨some 77, .mv (.t 0), none⟩,
    ⟨some 78, .mv (.t 5), none⟩,
    ⟨some 79, .mv (.t 1), none⟩,
    ⟨some 80, .ix 11 (.t 77) (.t 78), none⟩,
    ⟨some 81, .fa 8 1 2 (.t 80), none⟩,
    ⟨none, .st 1 (.t 81) (.t 79), none⟩])
  (.seq (.ops [⟨some 82, .mv (.t 1), none⟩,
    ⟨some 83, .bin .add (.t 82) (.k (.int .i64 1)), none⟩,
    ⟨some 1, .mv (.t 83), none⟩])
  (.seq (.ops [⟨some 84, .mv (.t 0), none⟩,
    ⟨some 85, .mv (.t 5), none⟩,
    ⟨some 86, .mv (.t 1), none⟩,
    ⟨some 87, .ix 11 (.t 84) (.t 85), none⟩,
    ⟨some 88, .fa 9 1 3 (.t 87), none⟩,
    ⟨none, .st 1 (.t 88) (.t 86), none⟩])
  (.seq (.ops [⟨some 89, .mv (.t 1), none⟩,
    ⟨some 90, .bin .add (.t 89) (.k (.int .i64 1)), none⟩,
    ⟨some 1, .mv (.t 90), none⟩])
  (.seq (.ops [⟨some 91, .mv (.t 0), none⟩,
    ⟨some 92, .mv (.t 5), none⟩,
    ⟨some 93, .mv (.t 1), none⟩,
    ⟨some 94, .ix 11 (.t 91) (.t 92), none⟩,
    ⟨some 95, .fa 10 1 4 (.t 94), none⟩,
    ⟨none, .st 1 (.t 95) (.t 93), none⟩])
  (.ops [⟨some 96, .mv (.t 1), none⟩,
    ⟨some 97, .bin .add (.t 96) (.k (.int .i64 1)), none⟩,
    ⟨some 1, .mv (.t 97), none⟩])))))))))))))))))))))))
  (.ops [⟨some 10, .mv (.t 5), none⟩,
    ⟨some 11, .bin .add (.t 10) (.k (.int .i64 1)), none⟩,
    ⟨some 5, .mv (.t 11), none⟩]))))))
  (.seq (.ops [⟨some 98, .mv (.t 1), none⟩,
    ⟨some 4, .mv (.t 98), none⟩])
  .ret)))⟩
theorem c33 : compileF Try.prog [] 33 = some cf33 := by kernel_rfl
/-- laws.heldMateRunS -/
def cf34 : CF := ⟨121, [.t 4],
  (.seq (.ops [⟨some 4, .mv (.k (.int .i64 0)), none⟩])
  (.seq (.seq (.ops [⟨some 5, .mv (.k (.int .i64 0)), none⟩])
  (.block 0 (.loop (.seq (.seq (.ops [⟨some 6, .mv (.t 5), none⟩,
    ⟨some 7, .mv (.t 0), none⟩,
    ⟨some 8, .lenl (.t 7), none⟩,
    ⟨some 9, .bin .lss (.t 6) (.t 8), none⟩])
  (.cond (.t 9)
  .skip
  (.exit 0)))
  (.seq (.block 1 (.seq (.seq (.quiet [⟨some 12, .mv (.t 0), none⟩,
    ⟨some 13, .mv (.t 5), none⟩,
    ⟨some 14, .ix 11 (.t 12) (.t 13), none⟩,
    ⟨some 15, .fa 0 7 0 (.t 14), none⟩,
    ⟨some 16, .fa 0 1 0 (.t 15), none⟩,
    ⟨some 17, .ld 1 false (.t 16), none⟩,
    ⟨some 18, .mv (.t 1), none⟩,
    ⟨some 19, .call 77 [(.t 18)], none⟩,
    ⟨some 20, .bin .neq (.t 17) (.t 19), none⟩])
  (.cond (.t 20)
  (.seq (.ops [⟨some 4, .mv (.k (.int .i64 (-1))), none⟩])
  .ret)
  .skip))
  (.seq (.ops [⟨some 21, .mv (.t 1), none⟩,
    ⟨some 22, .bin .add (.t 21) (.k (.int .i64 1)), none⟩,
    ⟨some 1, .mv (.t 22), none⟩])
  (.seq (.seq (.ops [⟨some 23, .mv (.t 0), none⟩,
    ⟨some 24, .mv (.t 5), none⟩,
    ⟨some 25, .ix 11 (.t 23) (.t 24), none⟩,
    ⟨some 26, .fa 0 7 0 (.t 25), none⟩,
    ⟨some 27, .fa 1 1 1 (.t 26), none⟩,
    ⟨some 28, .ld 1 false (.t 27), none⟩,
    ⟨some 29, .mv (.t 1), none⟩,
    ⟨some 30, .bin .neq (.t 28) (.t 29), none⟩])
  (.cond (.t 30)
  (.seq (.ops [⟨some 4, .mv (.k (.int .i64 (-1))), none⟩])
  .ret)
  .skip))
  (.seq (.ops [⟨some 31, .mv (.t 1), none⟩,
    ⟨some 32, .bin .add (.t 31) (.k (.int .i64 1)), none⟩,
    ⟨some 1, .mv (.t 32), none⟩])
  (.seq (.seq (.quiet [⟨some 33, .mv (.t 0), none⟩,
    ⟨some 34, .mv (.t 5), none⟩,
    ⟨some 35, .ix 11 (.t 33) (.t 34), none⟩,
    ⟨some 36, .fa 0 7 0 (.t 35), none⟩,
    ⟨some 37, .fa 2 1 2 (.t 36), none⟩,
    ⟨some 38, .ld 1 false (.t 37), none⟩,
    ⟨some 39, .mv (.t 1), none⟩,
    ⟨some 40, .call 77 [(.t 39)], none⟩,
    ⟨some 41, .bin .neq (.t 38) (.t 40), none⟩])
  (.cond (.t 41)
  (.seq (.ops [⟨some 4, .mv (.k (.int .i64 (-1))), none⟩])
  .ret)
  .skip))
  (.seq (.ops [⟨some 42, .mv (.t 1), none⟩,
    ⟨some 43, .bin .add (.t 42) (.k (.int .i64 1)), none⟩,
    ⟨some 1, .mv (.t 43), none⟩])
  (.seq (.seq (.ops [⟨some 44, .mv (.t 0), none⟩,
    ⟨some 45, .mv (.t 5), none⟩,
    ⟨some 46, .ix 11 (.t 44) (.t 45), none⟩,
    ⟨some 47, .fa 0 7 0 (.t 46), none⟩,
    ⟨some 48, .fa 3 1 3 (.t 47), none⟩,
    ⟨some 49, .ld 1 false (.t 48), none⟩,
    ⟨some 50, .mv (.t 1), none⟩,
    ⟨some 51, .bin .neq (.t 49) (.t 50), none⟩])
  (.cond (.t 51)
  (.seq (.ops [⟨some 4, .mv (.k (.int .i64 (-1))), none⟩])
  .ret)
  .skip))
  (.seq (.ops [⟨some 52, .mv (.t 1), none⟩,
    ⟨some 53, .bin .add (.t 52) (.k (.int .i64 1)), none⟩,
    ⟨some 1, .mv (.t 53), none⟩])
  (.seq (.seq (.ops [⟨some 54, .mv (.t 0), none⟩,
    ⟨some 55, .mv (.t 5), none⟩,
    ⟨some 56, .ix 11 (.t 54) (.t 55), none⟩,
    ⟨some 57, .fa 0 7 0 (.t 56), none⟩,
    ⟨some 58, .fa 4 1 4 (.t 57), none⟩,
    ⟨some 59, .ld 1 false (.t 58), none⟩,
    ⟨some 60, .mv (.t 1), none⟩,
    ⟨some 61, .bin .neq (.t 59) (.t 60), none⟩])
  (.cond (.t 61)
  (.seq (.ops [⟨some 4, .mv (.k (.int .i64 (-1))), none⟩])
  .ret)
  .skip))
  (.seq (.ops [⟨some 62, .mv (.t 1), none⟩,
    ⟨some 63, .bin .add (.t 62) (.k (.int .i64 1)), none⟩,
    ⟨some 1, .mv (.t 63), none⟩])
  (.seq (.seq (.ops [⟨some 64, .mv (.t 0), none⟩,
    ⟨some 65, .mv (.t 5), none⟩,
    ⟨some 66, .ix 11 (.t 64) (.t 65), none⟩,
    ⟨some 67, .fa 0 7 0 (.t 66), none⟩,
    ⟨some 68, .fa 5 1 5 (.t 67), none⟩,
    ⟨some 69, .ld 1 false (.t 68), none⟩,
    ⟨some 70, .mv (.t 1), none⟩,
    ⟨some 71, .bin .neq (.t 69) (.t 70), none⟩])
  (.cond (.t 71)
  (.seq (.ops [⟨some 4, .mv (.k (.int .i64 (-1))), none⟩])
  .ret)
  .skip))
  (.seq (.ops [⟨some 72, .mv (.t 1), none⟩,
    ⟨some 73, .bin .add (.t 72) (.k (.int .i64 1)), none⟩,
    ⟨some 1, .mv (.t 73), none⟩])
  (.seq (.seq (.ops [⟨some 74, .mv (.t 0), none⟩,
    ⟨some 75, .mv (.t 5), none⟩,
    ⟨some 76, .ix 11 (.t 74) (.t 75), none⟩,
    ⟨some 77, .fa 0 7 0 (.t 76), none⟩,
    ⟨some 78, .fa 6 1 6 (.t 77), none⟩,
    ⟨some 79, .ld 1 false (.t 78), none⟩,
    ⟨some 80, .mv (.t 1), none⟩,
    ⟨some 81, .bin .neq (.t 79) (.t 80), none⟩])
  (.cond (.t 81)
  (.seq (.ops [⟨some 4, .mv (.k (.int .i64 (-1))), none⟩])
  .ret)
  .skip))
  (.seq (.ops [⟨some 82, .mv (.t 1), none⟩,
    ⟨some 83, .bin .add (.t 82) (.k (.int .i64 1)), none⟩,
    ⟨some 1, .mv (.t 83), none⟩])
  (.seq (.seq (.ops [⟨some 84, .mv (.t 0), none⟩,
    ⟨some 85, .mv (.t 5), none⟩,
    ⟨some 86, .ix 11 (.t 84) (.t 85), none⟩,
    ⟨some 87, .fa 7 1 1 (.t 86), none⟩,
    ⟨some 88, .ld 1 false (.t 87), none⟩,
    ⟨some 89, .mv (.t 1), none⟩,
    ⟨some 90, .bin .neq (.t 88) (.t 89), none⟩])
  (.cond (.t 90)
  (.seq (.ops [⟨some 4, .mv (.k (.int .i64 (-1))), none⟩])
  .ret)
  .skip))
  (.seq (.ops [⟨some 91, .mv (.t 1), none⟩,
    ⟨some 92, .bin .add (.t 91) (.k (.int .i64 1)), none⟩,
    ⟨some 1, .mv (.t 92), none⟩])
  (.seq (.seq (.ops [⟨some 93, .mv (.t 0), none⟩,
    ⟨some 94, .mv (.t 5), none⟩,
    ⟨some 95, .ix 11 (.t 93) (.t 94), none⟩,
    ⟨some 96, .fa 8 1 2 (.t 95), none⟩,
    ⟨some 97, .ld 1 false (.t 96), none⟩,
    ⟨some 98, .mv (.t 1), none⟩,
    ⟨some 99, .bin .neq (.t 97) (.t 98), none⟩])
  (.cond (.t 99)
  (.seq (.ops [⟨some 4, .mv (.k (.int .i64 (-1))), none⟩])
  .ret)
  .skip))
  (.seq (.ops [⟨some 100, .mv (.t 1), none⟩,
    ⟨some 101, .bin .add (.t 100) (.k (.int .i64 1)), none⟩,
    ⟨some 1, .mv (.t 101), none⟩])
  (.seq (.seq (.ops [⟨some 102, .mv (.t 0), none⟩,
    ⟨some 103, .mv (.t 5), none⟩,
    ⟨some 104, .ix 11 (.t 102) (.t 103), none⟩,
    ⟨some 105, .fa 9 1 3 (.t 104), none⟩,
    ⟨some 106, .ld 1 false (.t 105), none⟩,
    ⟨some 107, .mv (.t 1), none⟩,
    ⟨some 108, .bin .neq (.t 106) (.t 107), none⟩])
  (.cond (.t 108)
  (.seq (.ops [⟨some 4, .mv (.k (.int .i64 (-1))), none⟩])
  .ret)
  .skip))
  (.seq (.ops [⟨some 109, .mv (.t 1), none⟩,
    ⟨some 110, .bin .add (.t 109) (.k (.int .i64 1)), none⟩,
    ⟨some 1, .mv (.t 110), none⟩])
  (.seq (.seq (.ops [⟨some 111, .mv (.t 0), none⟩,
    ⟨some 112, .mv (.t 5), none⟩,
    ⟨some 113, .ix 11 (.t 111) (.t 112), none⟩,
    ⟨some 114, .fa 10 1 4 (.t 113), none⟩,
    ⟨some 115, .ld 1 false (.t 114), none⟩,
    ⟨some 116, .mv (.t 1), none⟩,
    ⟨some 117, .bin .neq (.t 115) (.t 116), none⟩])
  (.cond (.t 117)
  (.seq (.ops [⟨some 4, .mv (.k (.int .i64 (-1))), none⟩])
  .ret)
  .skip))
  (.ops [⟨some 118, .mv (.t 1), none⟩,
    ⟨some 119, .bin .add (.t 118) (.k (.int .i64 1)), none⟩,
    ⟨some 1, .mv (.t 119), none⟩])))))))))))))))))))))))
  (.ops [⟨some 10, .mv (.t 5), none⟩,
    ⟨some 11, .bin .add (.t 10) (.k (.int .i64 1)), none⟩,
    ⟨some 5, .mv (.t 11), none⟩]))))))
  (.seq (.ops [⟨some 120, .mv (.t 1), none⟩,
    ⟨some 4, .mv (.t 120), none⟩])
  .ret)))⟩
theorem c34 : compileF Try.prog [] 34 = some cf34 := by kernel_rfl
def mk_MateRun (x : MateRun) (k : Int) : MateRun := { x with fWant := { x.fWant with fCopy := mtext k, fVersion := (k + 1), fHold := mtext ((k + 1) + 1), fPull := (((k + 1) + 1) + 1), fStart := ((((k + 1) + 1) + 1) + 1), fDies := (((((k + 1) + 1) + 1) + 1) + 1), fGrace := ((((((k + 1) + 1) + 1) + 1) + 1) + 1) }, fState := (((((((k + 1) + 1) + 1) + 1) + 1) + 1) + 1), fLeft := ((((((((k + 1) + 1) + 1) + 1) + 1) + 1) + 1) + 1), fFalls := (((((((((k + 1) + 1) + 1) + 1) + 1) + 1) + 1) + 1) + 1), fUntil := ((((((((((k + 1) + 1) + 1) + 1) + 1) + 1) + 1) + 1) + 1) + 1) }
set_option maxHeartbeats 8000000 in
theorem mark_MateRunS (xs : List MateRun) (b0 c0 : Nat) (k : Int) (hk : 1 ≤ k) (hl : xs.length ≤ 1048576) (hB : k + (11 * xs.length : Nat) ≤ 50000000) : XC Try.prog 33 [.lsl 0 b0 xs.length c0, .int .i64 k] [(0, b0, .arr 11 (xs.map MateRun.D) c0)] (fun d ls => d = .int .i64 (k + (11 * xs.length : Nat)) ∧ ls = [(0, b0, .arr 11 ((mkS mk_MateRun 11 xs k).map MateRun.D) c0)]) := by
  refine XC.intro' hm [0] rfl c33 (Nat.le_of_ble_eq_true rfl) ?_
  conv => whnf
  repeat' (first | (refine g_op ?_; conv => whnf) | (refine And.intro ?_ ?_; (focus (first | exact rfl | exact Nat.le_of_ble_eq_true rfl | decide | omega | fail)); conv => whnf) | (refine g_seq ?_) | (refine XS.go ?_) | (refine g_ops ?_) | (refine g_loop ?_) | (refine g_nil ?_; conv => whnf) | (refine g_block ?_) | fail)
  refine XLc.mkG (α := Nat) (fun i gs => i ≤ xs.length ∧ gs 0 = b0) (fun i => xs.length - i) (fun i gs => [.lsl 0 (gs 0) xs.length c0, .int .i64 (k + (11 * i : Nat)), .any, .any, .any, .int .i64 (i : Int)]) (fun i gs => [(0, .arr 11 ((mkP mk_MateRun 11 xs k i).map MateRun.D) c0)]) 0 ⟨Nat.zero_le _, rfl⟩ ?_ ?_
  · refine ⟨?_, ?_⟩
    · repeat' (first | exact True.intro | refine And.intro rfl ?_ | refine And.intro (congrArg (D.int .i64) (by simp)) ?_)
    · exact And.intro (by rw [mkP_zero]; rfl) True.intro
  intro i gs hI
  obtain ⟨hi0, hg⟩ := hI
  subst hg
  repeat' (first | (refine g_op ?_; conv => whnf) | (refine And.intro ?_ ?_; (focus (first | exact rfl | exact Nat.le_of_ble_eq_true rfl | decide | omega | fail)); conv => whnf) | (refine g_seq ?_) | (refine XS.go ?_) | (refine g_ops ?_) | (refine g_nil ?_; conv => whnf) | (refine g_cond ?_; conv => whnf) | fail)
  refine Br.mk (fun hb => ?_) (fun hb => ?_)
  · have hlt : i < xs.length := by simpa using hb
    have hj0 : i < ((mkP mk_MateRun 11 xs k i).map MateRun.D).length := by rw [List.length_map, mkP_len]; exact hlt
    have he0 : ((mkP mk_MateRun 11 xs k i).map MateRun.D).getD i .any = (xs.getD i default).D := by
      rw [elt_map (by rw [mkP_len]; exact hlt), mkP_get _ hlt]
    have hfin : ∀ d, d = (mk_MateRun (xs.getD i default) (k + (11 * i : Nat))).D → ((mkP mk_MateRun 11 xs k i).map MateRun.D).set i d = (mkP mk_MateRun 11 xs k (i + 1)).map MateRun.D := fun d h => by
      rw [h, ← mkP_set default hlt, List.map_set]
    have hKe : k + (11 * (i + 1) : Nat) = k + (11 * i : Nat) + 11 := by omega
    have hK0 : 1 ≤ k + (11 * i : Nat) := by omega
    have hK1 : k + (11 * i : Nat) + 11 ≤ 50000000 := by omega
    generalize hK : k + (11 * i : Nat) = K at hfin hK0 hK1 hKe ⊢
    have hw1 : IntKind.wrap .i64 (K + 1) = (K + 1) := wrap_ok (by omega) (by omega)
    have hw2 : IntKind.wrap .i64 ((K + 1) + 1) = ((K + 1) + 1) := wrap_ok (by omega) (by omega)
    have hw3 : IntKind.wrap .i64 (((K + 1) + 1) + 1) = (((K + 1) + 1) + 1) := wrap_ok (by omega) (by omega)
    have hw4 : IntKind.wrap .i64 ((((K + 1) + 1) + 1) + 1) = ((((K + 1) + 1) + 1) + 1) := wrap_ok (by omega) (by omega)
    have hw5 : IntKind.wrap .i64 (((((K + 1) + 1) + 1) + 1) + 1) = (((((K + 1) + 1) + 1) + 1) + 1) := wrap_ok (by omega) (by omega)
    have hw6 : IntKind.wrap .i64 ((((((K + 1) + 1) + 1) + 1) + 1) + 1) = ((((((K + 1) + 1) + 1) + 1) + 1) + 1) := wrap_ok (by omega) (by omega)
    have hw7 : IntKind.wrap .i64 (((((((K + 1) + 1) + 1) + 1) + 1) + 1) + 1) = (((((((K + 1) + 1) + 1) + 1) + 1) + 1) + 1) := wrap_ok (by omega) (by omega)
    have hw8 : IntKind.wrap .i64 ((((((((K + 1) + 1) + 1) + 1) + 1) + 1) + 1) + 1) = ((((((((K + 1) + 1) + 1) + 1) + 1) + 1) + 1) + 1) := wrap_ok (by omega) (by omega)
    have hw9 : IntKind.wrap .i64 (((((((((K + 1) + 1) + 1) + 1) + 1) + 1) + 1) + 1) + 1) = (((((((((K + 1) + 1) + 1) + 1) + 1) + 1) + 1) + 1) + 1) := wrap_ok (by omega) (by omega)
    have hw10 : IntKind.wrap .i64 ((((((((((K + 1) + 1) + 1) + 1) + 1) + 1) + 1) + 1) + 1) + 1) = ((((((((((K + 1) + 1) + 1) + 1) + 1) + 1) + 1) + 1) + 1) + 1) := wrap_ok (by omega) (by omega)
    have hw11 : IntKind.wrap .i64 (((((((((((K + 1) + 1) + 1) + 1) + 1) + 1) + 1) + 1) + 1) + 1) + 1) = (((((((((((K + 1) + 1) + 1) + 1) + 1) + 1) + 1) + 1) + 1) + 1) + 1) := wrap_ok (by omega) (by omega)
    have ht0 := mark_text K (by first | omega | (simp only [hw1, hw2, hw3, hw4, hw5, hw6, hw7, hw8, hw9, hw10, hw11]; omega)) (by first | omega | (simp only [hw1, hw2, hw3, hw4, hw5, hw6, hw7, hw8, hw9, hw10, hw11]; omega))
    have ht2 := mark_text (IntKind.wrap .i64 ((IntKind.wrap .i64 (K + 1)) + 1)) (by first | omega | (simp only [hw1, hw2, hw3, hw4, hw5, hw6, hw7, hw8, hw9, hw10, hw11]; omega)) (by first | omega | (simp only [hw1, hw2, hw3, hw4, hw5, hw6, hw7, hw8, hw9, hw10, hw11]; omega))
    conv => whnf
    repeat' (first | (refine z_st1 ?_; first | (refine z_st rfl rfl rfl (by first | (simp only [List.length_set]; assumption) | assumption | omega) (by first | exact elt_set (by first | assumption | (simp only [List.length_set]; assumption)) | assumption) rfl rfl ?_; conv => whnf) | (refine z_st0 ?_; conv => whnf)) | (refine z_ix1 ?_; first | (refine z_ix rfl rfl rfl rfl rfl ⟨by first | omega | (simp only [decide_eq_true_eq, Bool.not_eq_true', Bool.or_eq_false_iff, decide_eq_false_iff_not, Bool.and_eq_true, Bool.not_eq_false'] at *; omega), by first | omega | (simp only [decide_eq_true_eq, Bool.not_eq_true', Bool.or_eq_false_iff, decide_eq_false_iff_not, Bool.and_eq_true, Bool.not_eq_false'] at *; omega)⟩ ?_; conv => whnf) | (refine z_ix0 rfl rfl ?_; conv => whnf)) | (refine z_op ?_ ?_; (focus exact rfl); conv => whnf) | (refine zs_ops ?_ ?_; (focus exact rfl)) | (refine z_nil fun vals => ?_; conv => whnf) | (refine z_call ?_ ?_; (focus exact rfl)) | (refine RC.of (ht0) ?_ ?_; (focus exact rfl); conv => whnf) | (refine RC.of (ht2) ?_ ?_; (focus exact rfl); conv => whnf) | (refine g_op ?_; conv => whnf) | (refine And.intro ?_ ?_; (focus (first | exact rfl | exact Nat.le_of_ble_eq_true rfl | decide | omega | fail)); conv => whnf) | (refine g_seq ?_) | (refine XS.go ?_) | (refine g_ops ?_) | (refine g_nil ?_; conv => whnf) | (refine g_skip ?_; conv => whnf) | (refine g_block ?_) | fail)
    have hw : IntKind.wrap .i64 ((i : Int) + 1) = ((i + 1 : Nat) : Int) := by rw [wrap_ok (by omega) (by omega)]; rfl
    refine ⟨i + 1, ⟨by omega, rfl⟩, by omega, ?_, ?_⟩
    · repeat' (first | exact True.intro | refine And.intro (congrArg (D.int .i64) hw) ?_ | refine And.intro rfl ?_ | refine And.intro (congrArg (D.int .i64) (by simp only [hw1, hw2, hw3, hw4, hw5, hw6, hw7, hw8, hw9, hw10, hw11]; omega)) ?_)
    · refine And.intro ?_ True.intro
      refine congrArg (fun l => some (D.arr 11 l c0)) ?_
      simp only [List.set_set]
      exact hfin _ (by simp only [hw1, hw2, hw3, hw4, hw5, hw6, hw7, hw8, hw9, hw10, hw11]; rfl)
  have hi : i = xs.length := by
    have : ¬ i < xs.length := by simpa using hb
    omega
  subst hi
  rw [mkP_all]
  conv => whnf
  repeat' (first | (refine g_op ?_; conv => whnf) | (refine And.intro ?_ ?_; (focus (first | exact rfl | exact Nat.le_of_ble_eq_true rfl | decide | omega | fail)); conv => whnf) | (refine g_seq ?_) | (refine XS.go ?_) | (refine g_ops ?_) | (refine g_nil ?_; conv => whnf) | (refine g_ret ?_; conv => whnf) | (refine g_exit ?_; conv => whnf) | (refine r_t ?_; conv => whnf) | (refine r_nil ?_; conv => whnf) | fail)
  first | exact ⟨rfl, rfl⟩ | exact rfl
set_option maxHeartbeats 8000000 in
theorem held_MateRunS (xs : List MateRun) (k : Int) (hk : 1 ≤ k) (hl : xs.length ≤ 1048576) (hB : k + (11 * xs.length : Nat) ≤ 50000000) : Rdr Try.prog 34 [.ro 11 ((mkS mk_MateRun 11 xs k).map MateRun.D), .int .i64 k] (.int .i64 (k + (11 * xs.length : Nat))) := by
  have hml : (mkS mk_MateRun 11 xs k).length = xs.length := mkS_len
  refine Rdr.intro' hm c34 (Nat.le_of_ble_eq_true rfl) ?_
  conv => whnf
  repeat' (first | (refine g_op ?_; conv => whnf) | (refine And.intro ?_ ?_; (focus (first | exact rfl | exact Nat.le_of_ble_eq_true rfl | decide | omega | fail)); conv => whnf) | (refine g_seq ?_) | (refine XS.go ?_) | (refine g_ops ?_) | (refine g_loop ?_) | (refine g_nil ?_; conv => whnf) | (refine g_block ?_) | fail)
  refine XLc.mkA (α := Nat) (fun i => i ≤ xs.length) (fun i => xs.length - i) (fun i gs => [.ro 11 ((mkS mk_MateRun 11 xs k).map MateRun.D), .int .i64 (k + (11 * i : Nat)), .any, .any, .any, .int .i64 (i : Int)]) (fun i gs => []) 0 (Nat.zero_le _) ?_ ?_
  · refine ⟨?_, True.intro⟩
    · repeat' (first | exact True.intro | refine And.intro rfl ?_ | refine And.intro (congrArg (D.int .i64) (by simp)) ?_)
  intro i gs hi0
  repeat' (first | (refine g_op ?_; conv => whnf) | (refine And.intro ?_ ?_; (focus (first | exact rfl | exact Nat.le_of_ble_eq_true rfl | decide | omega | fail)); conv => whnf) | (refine g_seq ?_) | (refine XS.go ?_) | (refine g_ops ?_) | (refine g_nil ?_; conv => whnf) | (refine g_cond ?_; conv => whnf) | fail)
  refine Br.mk (fun hb => ?_) (fun hb => ?_)
  · have hlt : i < xs.length := by simpa [mkS_len] using hb
    have hel : (mkS mk_MateRun 11 xs k).getD i default = mk_MateRun (xs.getD i default) (k + (11 * i : Nat)) := mkS_get default hlt
    have hlt' : i < (mkS mk_MateRun 11 xs k).length := by rw [hml]; exact hlt
    have hKe : k + (11 * (i + 1) : Nat) = k + (11 * i : Nat) + 11 := by omega
    have hK0 : 1 ≤ k + (11 * i : Nat) := by omega
    have hK1 : k + (11 * i : Nat) + 11 ≤ 50000000 := by omega
    generalize hK : k + (11 * i : Nat) = K at hel hK0 hK1 hKe ⊢
    have hw1 : IntKind.wrap .i64 (K + 1) = (K + 1) := wrap_ok (by omega) (by omega)
    have hw2 : IntKind.wrap .i64 ((K + 1) + 1) = ((K + 1) + 1) := wrap_ok (by omega) (by omega)
    have hw3 : IntKind.wrap .i64 (((K + 1) + 1) + 1) = (((K + 1) + 1) + 1) := wrap_ok (by omega) (by omega)
    have hw4 : IntKind.wrap .i64 ((((K + 1) + 1) + 1) + 1) = ((((K + 1) + 1) + 1) + 1) := wrap_ok (by omega) (by omega)
    have hw5 : IntKind.wrap .i64 (((((K + 1) + 1) + 1) + 1) + 1) = (((((K + 1) + 1) + 1) + 1) + 1) := wrap_ok (by omega) (by omega)
    have hw6 : IntKind.wrap .i64 ((((((K + 1) + 1) + 1) + 1) + 1) + 1) = ((((((K + 1) + 1) + 1) + 1) + 1) + 1) := wrap_ok (by omega) (by omega)
    have hw7 : IntKind.wrap .i64 (((((((K + 1) + 1) + 1) + 1) + 1) + 1) + 1) = (((((((K + 1) + 1) + 1) + 1) + 1) + 1) + 1) := wrap_ok (by omega) (by omega)
    have hw8 : IntKind.wrap .i64 ((((((((K + 1) + 1) + 1) + 1) + 1) + 1) + 1) + 1) = ((((((((K + 1) + 1) + 1) + 1) + 1) + 1) + 1) + 1) := wrap_ok (by omega) (by omega)
    have hw9 : IntKind.wrap .i64 (((((((((K + 1) + 1) + 1) + 1) + 1) + 1) + 1) + 1) + 1) = (((((((((K + 1) + 1) + 1) + 1) + 1) + 1) + 1) + 1) + 1) := wrap_ok (by omega) (by omega)
    have hw10 : IntKind.wrap .i64 ((((((((((K + 1) + 1) + 1) + 1) + 1) + 1) + 1) + 1) + 1) + 1) = ((((((((((K + 1) + 1) + 1) + 1) + 1) + 1) + 1) + 1) + 1) + 1) := wrap_ok (by omega) (by omega)
    have hw11 : IntKind.wrap .i64 (((((((((((K + 1) + 1) + 1) + 1) + 1) + 1) + 1) + 1) + 1) + 1) + 1) = (((((((((((K + 1) + 1) + 1) + 1) + 1) + 1) + 1) + 1) + 1) + 1) + 1) := wrap_ok (by omega) (by omega)
    have ht0 := mark_text K (by first | omega | (simp only [hw1, hw2, hw3, hw4, hw5, hw6, hw7, hw8, hw9, hw10, hw11]; omega)) (by first | omega | (simp only [hw1, hw2, hw3, hw4, hw5, hw6, hw7, hw8, hw9, hw10, hw11]; omega))
    have ht2 := mark_text (IntKind.wrap .i64 ((IntKind.wrap .i64 (K + 1)) + 1)) (by first | omega | (simp only [hw1, hw2, hw3, hw4, hw5, hw6, hw7, hw8, hw9, hw10, hw11]; omega)) (by first | omega | (simp only [hw1, hw2, hw3, hw4, hw5, hw6, hw7, hw8, hw9, hw10, hw11]; omega))
    conv => whnf
    repeat' (first | (refine z_ld1 ?_; first | (refine z_ld rfl rfl rfl rfl (by first | (simp only [List.length_set]; assumption) | assumption | omega) (by first | exact elt_set (by first | assumption | (simp only [List.length_set]; assumption)) | assumption) ?_; conv => whnf) | (refine z_ld0 rfl ?_; conv => whnf)) | (refine z_ix1 ?_; first | (refine z_ix rfl rfl rfl rfl rfl ⟨by first | omega | (simp only [decide_eq_true_eq, Bool.not_eq_true', Bool.or_eq_false_iff, decide_eq_false_iff_not, Bool.and_eq_true, Bool.not_eq_false'] at *; omega), by first | omega | (simp only [decide_eq_true_eq, Bool.not_eq_true', Bool.or_eq_false_iff, decide_eq_false_iff_not, Bool.and_eq_true, Bool.not_eq_false'] at *; omega)⟩ ?_; conv => whnf) | (refine z_ix0 rfl rfl ?_; conv => whnf)) | (refine z_op ?_ ?_; (focus exact rfl); conv => whnf) | (refine zs_ops ?_ ?_; (focus exact rfl)) | (refine zs_quiet ?_ ?_; (focus exact rfl)) | (refine z_nil fun vals => ?_; conv => whnf) | (refine z_call ?_ ?_; (focus exact rfl)) | (refine RC.of (ht0) ?_ ?_; (focus exact rfl); conv => whnf) | (refine RC.of (ht2) ?_ ?_; (focus exact rfl); conv => whnf) | (refine g_op ?_; conv => whnf) | (refine And.intro ?_ ?_; (focus (first | exact rfl | exact Nat.le_of_ble_eq_true rfl | decide | omega | fail)); conv => whnf) | (refine g_seq ?_) | (refine XS.go ?_) | (refine g_ops ?_) | (refine g_nil ?_; conv => whnf) | (refine g_cond ?_; conv => whnf) | (refine g_skip ?_; conv => whnf) | (refine g_block ?_) | (refine Br.f (by simp only [Int.toNat_natCast, hel, hw1, hw2, hw3, hw4, hw5, hw6, hw7, hw8, hw9, hw10, hw11, mk_MateRun] <;> simp) ?_; conv => whnf) | fail)
    have hw : IntKind.wrap .i64 ((i : Int) + 1) = ((i + 1 : Nat) : Int) := by rw [wrap_ok (by omega) (by omega)]; rfl
    refine ⟨i + 1, by omega, by omega, ?_, True.intro⟩
    · repeat' (first | exact True.intro | refine And.intro (congrArg (D.int .i64) hw) ?_ | refine And.intro rfl ?_ | refine And.intro (congrArg (D.int .i64) (by simp only [hw1, hw2, hw3, hw4, hw5, hw6, hw7, hw8, hw9, hw10, hw11]; omega)) ?_)
  have hi : i = xs.length := by
    have : ¬ i < xs.length := by simpa [mkS_len] using hb
    omega
  subst hi
  conv => whnf
  repeat' (first | (refine g_op ?_; conv => whnf) | (refine And.intro ?_ ?_; (focus (first | exact rfl | exact Nat.le_of_ble_eq_true rfl | decide | omega | fail)); conv => whnf) | (refine g_seq ?_) | (refine XS.go ?_) | (refine g_ops ?_) | (refine g_nil ?_; conv => whnf) | (refine g_ret ?_; conv => whnf) | (refine g_exit ?_; conv => whnf) | (refine r_t ?_; conv => whnf) | (refine r_nil ?_; conv => whnf) | fail)
  rfl
end Go.Ab
