/- Steps towards the law: contracts of functions and facts of lists. -/
import Derived.Test.YtagleaabhljkfaaMateP
import Derived.Test.YtagleaabhljkfaaRows
set_option linter.unusedSimpArgs false
set_option linter.unusedVariables false
namespace Go.Ab
open Go Go.RowKit Go.Proofs
attribute [local irreducible] XC Rdr IntKind.wrap xw xos xqs xr xd
set_option maxRecDepth 100000

/-- spec.MateLive -/
def cf30 : CF := ⟨73, [.c 8 11 true, .t 9],
  (.seq (.ops [⟨some 4, .bx (.t 0), none⟩,
    ⟨some 5, .bx (.t 1), none⟩,
    ⟨some 8, .al (.agg [.agg [.str ⟨#[]⟩, .int .i64 0, .str ⟨#[]⟩, .int .i64 0, .int .i64 0, .int .i64 0, .int .i64 0], .int .i64 0, .int .i64 0, .int .i64 0, .int .i64 0]), none⟩,
    ⟨some 9, .mv (.k (.bool false)), none⟩])
  (.seq (.seq (.ops [⟨some 10, .mv (.t 2), none⟩,
    ⟨some 11, .not (.t 10), none⟩,
    ⟨some 12, .mv (.t 11), none⟩,
    ⟨some 13, .ld 7 true (.t 5), some (12, false)⟩,
    ⟨some 14, .fa 0 7 0 (.t 4), some (12, false)⟩,
    ⟨some 15, .ld 7 true (.t 14), some (12, false)⟩,
    ⟨some 16, .cmp true (.agg [.str ⟨#[]⟩, .int .i64 0, .str ⟨#[]⟩, .int .i64 0, .int .i64 0, .int .i64 0, .int .i64 0]) (.t 13) (.t 15), some (12, false)⟩,
    ⟨some 17, .pick (.t 12) (.k (.bool true)) (.t 16), none⟩,
    ⟨some 18, .mv (.t 17), none⟩,
    ⟨some 19, .fa 7 1 1 (.t 4), some (18, true)⟩,
    ⟨some 20, .ld 1 false (.t 19), some (18, true)⟩,
    ⟨some 21, .bin .neq (.t 20) (.k (.int .i64 6)), some (18, true)⟩,
    ⟨some 22, .pick (.t 18) (.t 21) (.k (.bool false)), none⟩])
  (.cond (.t 22)
  (.seq (.seq (.ops [⟨some 23, .ld 11 true (.t 4), none⟩,
    ⟨some 24, .call 15 [(.t 23)], none⟩,
    ⟨some 25, .not (.t 24), none⟩])
  (.cond (.t 25)
  (.seq (.ops [⟨some 26, .bld (.agg [.agg [.str ⟨#[]⟩, .int .i64 0, .str ⟨#[]⟩, .int .i64 0, .int .i64 0, .int .i64 0, .int .i64 0], .int .i64 0, .int .i64 0, .int .i64 0, .int .i64 0]) [], none⟩,
    ⟨none, .st 11 (.t 8) (.t 26), none⟩,
    ⟨some 9, .mv (.k (.bool false)), none⟩])
  .ret)
  .skip))
  (.seq (.ops [⟨some 27, .fa 7 1 1 (.t 4), none⟩,
    ⟨none, .st 1 (.t 27) (.k (.int .i64 6)), none⟩])
  (.seq (.ops [⟨some 28, .fa 0 7 0 (.t 4), none⟩,
    ⟨some 29, .fa 6 1 6 (.t 28), none⟩,
    ⟨some 30, .ld 1 false (.t 29), none⟩,
    ⟨some 31, .fa 8 1 2 (.t 4), none⟩,
    ⟨none, .st 1 (.t 31) (.t 30), none⟩])
  (.seq (.ops [⟨some 32, .ld 11 true (.t 4), none⟩,
    ⟨none, .st 11 (.t 8) (.t 32), none⟩,
    ⟨some 9, .mv (.k (.bool true)), none⟩])
  .ret))))
  .skip))
  (.seq (.seq (.ops [⟨some 33, .fa 7 1 1 (.t 4), none⟩,
    ⟨some 34, .ld 1 false (.t 33), none⟩,
    ⟨some 35, .bin .neq (.t 34) (.k (.int .i64 2)), none⟩,
    ⟨some 36, .mv (.t 35), none⟩,
    ⟨some 37, .fa 8 1 2 (.t 4), some (36, true)⟩,
    ⟨some 38, .ld 1 false (.t 37), some (36, true)⟩,
    ⟨some 39, .bin .gtr (.t 38) (.k (.int .i64 1)), some (36, true)⟩,
    ⟨some 40, .pick (.t 36) (.t 39) (.k (.bool false)), none⟩])
  (.cond (.t 40)
  (.seq (.ops [⟨some 41, .fa 8 1 2 (.t 4), none⟩,
    ⟨some 42, .ld 1 false (.t 41), none⟩,
    ⟨some 43, .bin .sub (.t 42) (.k (.int .i64 1)), none⟩,
    ⟨some 44, .fa 8 1 2 (.t 4), none⟩,
    ⟨none, .st 1 (.t 44) (.t 43), none⟩])
  (.seq (.ops [⟨some 45, .ld 11 true (.t 4), none⟩,
    ⟨none, .st 11 (.t 8) (.t 45), none⟩,
    ⟨some 9, .mv (.k (.bool true)), none⟩])
  .ret))
  .skip))
  (.seq (.seq (.ops [⟨some 46, .fa 7 1 1 (.t 4), none⟩,
    ⟨some 47, .ld 1 false (.t 46), none⟩])
  (.block 0 (.seq (.ops [⟨some 49, .bin .eql (.t 47) (.k (.int .i64 3)), none⟩,
    ⟨some 48, .mv (.t 49), none⟩])
  (.cond (.t 48)
  (.seq (.ops [⟨some 50, .fa 7 1 1 (.t 4), none⟩,
    ⟨none, .st 1 (.t 50) (.k (.int .i64 4)), none⟩])
  (.ops [⟨some 51, .fa 0 7 0 (.t 4), none⟩,
    ⟨some 52, .fa 5 1 5 (.t 51), none⟩,
    ⟨some 53, .ld 1 false (.t 52), none⟩,
    ⟨some 54, .fa 8 1 2 (.t 4), none⟩,
    ⟨none, .st 1 (.t 54) (.t 53), none⟩]))
  (.seq (.ops [⟨some 56, .bin .eql (.t 47) (.k (.int .i64 4)), none⟩,
    ⟨some 55, .mv (.t 56), none⟩])
  (.cond (.t 55)
  (.seq (.ops [⟨some 57, .fa 8 1 2 (.t 4), none⟩,
    ⟨some 58, .ld 1 false (.t 57), none⟩,
    ⟨some 59, .bin .eql (.t 58) (.k (.int .i64 1)), none⟩])
  (.cond (.t 59)
  (.ops [⟨some 60, .ld 11 true (.t 4), none⟩,
    ⟨some 61, .call 74 [(.t 60)], none⟩,
    ⟨none, .st 11 (.t 4) (.t 61), none⟩])
  .skip))
  (.seq (.ops [⟨some 63, .bin .eql (.t 47) (.k (.int .i64 6)), none⟩,
    ⟨some 62, .mv (.t 63), none⟩])
  (.cond (.t 62)
  (.seq (.ops [⟨some 64, .bld (.agg [.agg [.str ⟨#[]⟩, .int .i64 0, .str ⟨#[]⟩, .int .i64 0, .int .i64 0, .int .i64 0, .int .i64 0], .int .i64 0, .int .i64 0, .int .i64 0, .int .i64 0]) [], none⟩,
    ⟨none, .st 11 (.t 8) (.t 64), none⟩,
    ⟨some 9, .mv (.k (.bool false)), none⟩])
  .ret)
  (.seq (.seq (.ops [⟨some 66, .bin .eql (.t 47) (.k (.int .i64 1)), none⟩,
    ⟨some 65, .mv (.t 66), none⟩])
  (.cond (.t 65)
  .skip
  (.seq (.ops [⟨some 67, .bin .eql (.t 47) (.k (.int .i64 2)), none⟩,
    ⟨some 65, .mv (.t 67), none⟩])
  (.cond (.t 65)
  .skip
  (.ops [⟨some 68, .bin .eql (.t 47) (.k (.int .i64 5)), none⟩,
    ⟨some 65, .mv (.t 68), none⟩])))))
  (.cond (.t 65)
  (.ops [⟨some 69, .ld 11 true (.t 4), none⟩,
    ⟨some 70, .mv (.t 3), none⟩,
    ⟨some 71, .call 75 [(.t 69), (.t 70)], none⟩,
    ⟨none, .st 11 (.t 4) (.t 71), none⟩])
  .skip))))))))))
  (.seq (.ops [⟨some 72, .ld 11 true (.t 4), none⟩,
    ⟨none, .st 11 (.t 8) (.t 72), none⟩,
    ⟨some 9, .mv (.k (.bool true)), none⟩])
  .ret)))))⟩
theorem c30 : compileF Try.prog [] 30 = some cf30 := by kernel_rfl
/-- impl.MateLive -/
def cf29 : CF := ⟨92, [.c 8 11 true, .t 9],
  (.seq (.ops [⟨some 4, .bx (.t 0), none⟩,
    ⟨some 5, .bx (.t 1), none⟩,
    ⟨some 8, .al (.agg [.agg [.str ⟨#[]⟩, .int .i64 0, .str ⟨#[]⟩, .int .i64 0, .int .i64 0, .int .i64 0, .int .i64 0], .int .i64 0, .int .i64 0, .int .i64 0, .int .i64 0]), none⟩,
    ⟨some 9, .mv (.k (.bool false)), none⟩])
  (.seq (.seq (.ops [⟨some 10, .mv (.t 2), none⟩,
    ⟨some 11, .not (.t 10), none⟩,
    ⟨some 12, .mv (.t 11), none⟩,
    ⟨some 13, .ld 7 true (.t 5), some (12, false)⟩,
    ⟨some 14, .fa 0 7 0 (.t 4), some (12, false)⟩,
    ⟨some 15, .ld 7 true (.t 14), some (12, false)⟩,
    ⟨some 16, .cmp true (.agg [.str ⟨#[]⟩, .int .i64 0, .str ⟨#[]⟩, .int .i64 0, .int .i64 0, .int .i64 0, .int .i64 0]) (.t 13) (.t 15), some (12, false)⟩,
    ⟨some 17, .pick (.t 12) (.k (.bool true)) (.t 16), none⟩,
    ⟨some 18, .mv (.t 17), none⟩,
    ⟨some 19, .fa 7 1 1 (.t 4), some (18, true)⟩,
    ⟨some 20, .ld 1 false (.t 19), some (18, true)⟩,
    ⟨some 21, .bin .neq (.t 20) (.k (.int .i64 6)), some (18, true)⟩,
    ⟨some 22, .pick (.t 18) (.t 21) (.k (.bool false)), none⟩])
  (.cond (.t 22)
  (.seq (.seq (.ops [⟨some 23, .ld 11 true (.t 4), none⟩,
    ⟨some 24, .call 17 [(.t 23)], none⟩,
    ⟨some 25, .not (.t 24), none⟩])
  (.cond (.t 25)
  (.seq (.ops [⟨some 26, .bld (.agg [.agg [.str ⟨#[]⟩, .int .i64 0, .str ⟨#[]⟩, .int .i64 0, .int .i64 0, .int .i64 0, .int .i64 0], .int .i64 0, .int .i64 0, .int .i64 0, .int .i64 0]) [], none⟩,
    ⟨none, .st 11 (.t 8) (.t 26), none⟩,
    ⟨some 9, .mv (.k (.bool false)), none⟩])
  .ret)
  .skip))
  (.seq (.ops [⟨some 27, .fa 0 7 0 (.t 4), none⟩,
    ⟨some 28, .fa 6 1 6 (.t 27), none⟩,
    ⟨some 29, .ld 1 false (.t 28), none⟩,
    ⟨some 30, .fa 7 1 1 (.t 4), none⟩,
    ⟨none, .st 1 (.t 30) (.k (.int .i64 6)), none⟩,
    ⟨some 31, .fa 8 1 2 (.t 4), none⟩,
    ⟨none, .st 1 (.t 31) (.t 29), none⟩])
  (.seq (.ops [⟨some 32, .ld 11 true (.t 4), none⟩,
    ⟨none, .st 11 (.t 8) (.t 32), none⟩,
    ⟨some 9, .mv (.k (.bool true)), none⟩])
  .ret)))
  .skip))
  (.seq (.seq (.ops [⟨some 33, .fa 8 1 2 (.t 4), none⟩,
    ⟨some 34, .ld 1 false (.t 33), none⟩,
    ⟨some 35, .bin .gtr (.t 34) (.k (.int .i64 1)), none⟩,
    ⟨some 36, .mv (.t 35), none⟩,
    ⟨some 37, .fa 7 1 1 (.t 4), some (36, true)⟩,
    ⟨some 38, .ld 1 false (.t 37), some (36, true)⟩,
    ⟨some 39, .bin .neq (.t 38) (.k (.int .i64 2)), some (36, true)⟩,
    ⟨some 40, .pick (.t 36) (.t 39) (.k (.bool false)), none⟩])
  (.cond (.t 40)
  (.seq (.ops [⟨some 41, .fa 8 1 2 (.t 4), none⟩,
    ⟨some 42, .ld 1 false (.t 41), none⟩,
    ⟨some 43, .bin .sub (.t 42) (.k (.int .i64 1)), none⟩,
    ⟨some 44, .fa 8 1 2 (.t 4), none⟩,
    ⟨none, .st 1 (.t 44) (.t 43), none⟩])
  (.seq (.ops [⟨some 45, .ld 11 true (.t 4), none⟩,
    ⟨none, .st 11 (.t 8) (.t 45), none⟩,
    ⟨some 9, .mv (.k (.bool true)), none⟩])
  .ret))
  .skip))
  (.seq (.seq (.ops [⟨some 46, .fa 7 1 1 (.t 4), none⟩,
    ⟨some 47, .ld 1 false (.t 46), none⟩])
  (.block 0 (.seq (.seq (.ops [⟨some 49, .bin .eql (.t 47) (.k (.int .i64 1)), none⟩,
    ⟨some 48, .mv (.t 49), none⟩])
  (.cond (.t 48)
  .skip
  (.seq (.ops [⟨some 50, .bin .eql (.t 47) (.k (.int .i64 2)), none⟩,
    ⟨some 48, .mv (.t 50), none⟩])
  (.cond (.t 48)
  .skip
  (.ops [⟨some 51, .bin .eql (.t 47) (.k (.int .i64 5)), none⟩,
    ⟨some 48, .mv (.t 51), none⟩])))))
  (.cond (.t 48)
  (.seq (.ops [⟨some 52, .ld 11 true (.t 4), none⟩,
    ⟨some 53, .mv (.t 3), none⟩,
    ⟨some 54, .call 73 [(.t 52), (.t 53)], none⟩,
    ⟨none, .st 11 (.t 8) (.t 54), none⟩,
    ⟨some 9, .mv (.k (.bool true)), none⟩])
  .ret)
  (.seq (.ops [⟨some 56, .bin .eql (.t 47) (.k (.int .i64 3)), none⟩,
    ⟨some 55, .mv (.t 56), none⟩])
  (.cond (.t 55)
  (.ops [⟨some 57, .fa 0 7 0 (.t 4), none⟩,
    ⟨some 58, .fa 5 1 5 (.t 57), none⟩,
    ⟨some 59, .ld 1 false (.t 58), none⟩,
    ⟨some 60, .fa 7 1 1 (.t 4), none⟩,
    ⟨none, .st 1 (.t 60) (.k (.int .i64 4)), none⟩,
    ⟨some 61, .fa 8 1 2 (.t 4), none⟩,
    ⟨none, .st 1 (.t 61) (.t 59), none⟩])
  (.seq (.ops [⟨some 63, .bin .eql (.t 47) (.k (.int .i64 4)), none⟩,
    ⟨some 62, .mv (.t 63), none⟩])
  (.cond (.t 62)
  (.seq (.seq (.ops [⟨some 64, .fa 8 1 2 (.t 4), none⟩,
    ⟨some 65, .ld 1 false (.t 64), none⟩,
    ⟨some 66, .bin .neq (.t 65) (.k (.int .i64 1)), none⟩])
  (.cond (.t 66)
  (.seq (.ops [⟨some 67, .ld 11 true (.t 4), none⟩,
    ⟨none, .st 11 (.t 8) (.t 67), none⟩,
    ⟨some 9, .mv (.k (.bool true)), none⟩])
  .ret)
  .skip))
  (.seq (.seq (.ops [⟨some 68, .fa 9 1 3 (.t 4), none⟩,
    ⟨some 69, .ld 1 false (.t 68), none⟩,
    ⟨some 70, .bin .lss (.t 69) (.k (.int .i64 1000)), none⟩])
  (.cond (.t 70)
  (.ops [⟨some 71, .fa 9 1 3 (.t 4), none⟩,
    ⟨some 72, .ld 1 false (.t 71), none⟩,
    ⟨some 73, .bin .add (.t 72) (.k (.int .i64 1)), none⟩,
    ⟨some 74, .fa 9 1 3 (.t 4), none⟩,
    ⟨none, .st 1 (.t 74) (.t 73), none⟩])
  .skip))
  (.seq (.ops [⟨some 75, .fa 7 1 1 (.t 4), none⟩,
    ⟨none, .st 1 (.t 75) (.k (.int .i64 5)), none⟩,
    ⟨some 76, .fa 8 1 2 (.t 4), none⟩,
    ⟨none, .st 1 (.t 76) (.k (.int .i64 16)), none⟩])
  (.seq (.ops [⟨some 77, .fa 9 1 3 (.t 4), none⟩,
    ⟨some 78, .ld 1 false (.t 77), none⟩,
    ⟨some 79, .bin .lss (.t 78) (.k (.int .i64 0)), none⟩])
  (.cond (.t 79)
  (.ops [⟨some 80, .fa 8 1 2 (.t 4), none⟩,
    ⟨none, .st 1 (.t 80) (.k (.int .i64 1)), none⟩])
  (.seq (.ops [⟨some 81, .fa 9 1 3 (.t 4), none⟩,
    ⟨some 82, .ld 1 false (.t 81), none⟩,
    ⟨some 83, .bin .lss (.t 82) (.k (.int .i64 4)), none⟩])
  (.cond (.t 83)
  (.ops [⟨some 84, .fa 9 1 3 (.t 4), none⟩,
    ⟨some 85, .ld 1 false (.t 84), none⟩,
    ⟨some 86, .bin .shl (.k (.int .i64 1)) (.t 85), none⟩,
    ⟨some 87, .fa 8 1 2 (.t 4), none⟩,
    ⟨none, .st 1 (.t 87) (.t 86), none⟩])
  .skip)))))))
  (.seq (.ops [⟨some 89, .bin .eql (.t 47) (.k (.int .i64 6)), none⟩,
    ⟨some 88, .mv (.t 89), none⟩])
  (.cond (.t 88)
  (.seq (.ops [⟨some 90, .bld (.agg [.agg [.str ⟨#[]⟩, .int .i64 0, .str ⟨#[]⟩, .int .i64 0, .int .i64 0, .int .i64 0, .int .i64 0], .int .i64 0, .int .i64 0, .int .i64 0, .int .i64 0]) [], none⟩,
    ⟨none, .st 11 (.t 8) (.t 90), none⟩,
    ⟨some 9, .mv (.k (.bool false)), none⟩])
  .ret)
  .skip))))))))))
  (.seq (.ops [⟨some 91, .ld 11 true (.t 4), none⟩,
    ⟨none, .st 11 (.t 8) (.t 91), none⟩,
    ⟨some 9, .mv (.k (.bool true)), none⟩])
  .ret)))))⟩
theorem c29 : compileF Try.prog [] 29 = some cf29 := by kernel_rfl
def wantEq (w v : MateWant) : Bool := w.fCopy.toList == v.fCopy.toList && (w.fVersion == v.fVersion && (w.fHold.toList == v.fHold.toList && (w.fPull == v.fPull && (w.fStart == v.fStart && (w.fDies == v.fDies && (w.fGrace == v.fGrace && true))))))
def lc1 (r : MateRun) (w : MateWant) (wanted : Bool) : Bool := (!wanted || !wantEq w r.fWant) && r.fState != 6
def lc2 (r : MateRun) : Bool := r.fState != 2 && decide (r.fLeft > 1)
def liveS (r : MateRun) (c : Int) : MateRun × Bool :=
  if r.fState = 3 then ({ r with fState := 4, fLeft := r.fWant.fDies }, true) else
  if r.fState = 4 then (if r.fLeft = 1 then diesR r else r, true) else
  if r.fState = 6 then (default, false) else
  if r.fState = 1 ∨ r.fState = 2 ∨ r.fState = 5 then (beginR r c, true) else (r, true)
def liveR (r : MateRun) (w : MateWant) (wanted : Bool) (c : Int) : MateRun × Bool :=
  if lc1 r w wanted = true then (if alive r = true then ({ r with fState := 6, fLeft := r.fWant.fGrace }, true) else (default, false))
  else if lc2 r = true then ({ r with fLeft := IntKind.wrap .i64 (r.fLeft - 1) }, true)
  else liveS r c
set_option maxHeartbeats 8000000 in
theorem spec_Live (r : MateRun) (w : MateWant) (wanted : Bool) (c : Int) : Rdr Try.prog 30 [r.D, w.D, .bool wanted, .int .i64 c] (.tup [(liveR r w wanted c).1.D, .bool (liveR r w wanted c).2]) := by
  have ha := spec_Alive r
  have hd := spec_Dies r
  have hg := spec_Begin r c
  refine Rdr.intro' hm c30 (Nat.le_of_ble_eq_true rfl) ?_
  conv => whnf
  repeat' (first | (refine z_ld1g ?_; first | (refine z_ldg rfl rfl rfl rfl rfl rfl rfl (by (repeat intro _); exact ⟨(by first | (simp only [List.length_set]; assumption) | assumption | omega), (by first | exact elt_set (by first | assumption | (simp only [List.length_set]; assumption)) | assumption)⟩) rfl rfl rfl rfl ?_; conv => whnf) | (refine z_ld0g ?_; (conv => whnf); refine And.intro ?_ ?_; (focus exact rfl); conv => whnf)) | (refine z_op ?_ ?_; (focus exact rfl); conv => whnf) | (refine z_opg0 ?_; (conv => whnf); refine And.intro ?_ ?_; (focus exact rfl); conv => whnf) | (refine z_pick ?_ ?_; (focus exact rfl); conv => whnf) | (refine zs_ops ?_ ?_; (focus exact rfl)) | (refine z_nil fun vals => ?_; conv => whnf) | (refine g_op ?_; conv => whnf) | (refine And.intro ?_ ?_; (focus (first | exact rfl | exact Nat.le_of_ble_eq_true rfl | decide | omega | fail)); conv => whnf) | (refine g_seq ?_) | (refine XS.go ?_) | (refine g_ops ?_) | (refine g_nil ?_; conv => whnf) | (refine g_cond ?_; conv => whnf) | (refine fun _ => ?_; conv => whnf) | fail)
  refine Br.mk (fun hb => ?_) (fun hb => ?_)
  · have h1 : lc1 r w wanted = true := hb
    clear hb
    cases hal : alive r with
    | true =>
      have e : liveR r w wanted c = ({ r with fState := 6, fLeft := r.fWant.fGrace }, true) := by rw [liveR, if_pos h1, if_pos hal]
      rw [e]
      rw [hal] at ha
      conv => whnf
      repeat' (first | (refine z_ld1 ?_; first | (refine z_ld rfl rfl rfl rfl (by first | (simp only [List.length_set]; assumption) | assumption | omega) (by first | exact elt_set (by first | assumption | (simp only [List.length_set]; assumption)) | assumption) ?_; conv => whnf) | (refine z_ld0 rfl ?_; conv => whnf)) | (refine z_st1 ?_; first | (refine z_st rfl rfl rfl (by first | (simp only [List.length_set]; assumption) | assumption | omega) (by first | exact elt_set (by first | assumption | (simp only [List.length_set]; assumption)) | assumption) rfl rfl ?_; conv => whnf) | (refine z_st0 ?_; conv => whnf)) | (refine z_op ?_ ?_; (focus exact rfl); conv => whnf) | (refine zs_ops ?_ ?_; (focus exact rfl)) | (refine z_nil fun vals => ?_; conv => whnf) | (refine z_call ?_ ?_; (focus exact rfl)) | (refine RC.of (ha) ?_ ?_; (focus exact rfl); conv => whnf) | (refine And.intro ?_ ?_; (focus (first | exact rfl | exact Nat.le_of_ble_eq_true rfl | decide | omega | fail)); conv => whnf) | (refine g_seq ?_) | (refine XS.go ?_) | (refine Br.f ?_ ?_; (focus (first | assumption | exact rfl)); conv => whnf) | (refine g_cond ?_; conv => whnf) | (refine g_skip ?_; conv => whnf) | (refine g_ret ?_; conv => whnf) | (refine r_t ?_; conv => whnf) | (refine r_c ?_; conv => whnf) | (refine r_nil ?_; conv => whnf) | fail)
      rfl
    | false =>
      have e : liveR r w wanted c = (default, false) := by rw [liveR, if_pos h1, if_neg (by rw [hal]; exact Bool.false_ne_true)]
      rw [e]
      rw [hal] at ha
      conv => whnf
      repeat' (first | (refine z_ld1 ?_; first | (refine z_ld rfl rfl rfl rfl (by first | (simp only [List.length_set]; assumption) | assumption | omega) (by first | exact elt_set (by first | assumption | (simp only [List.length_set]; assumption)) | assumption) ?_; conv => whnf) | (refine z_ld0 rfl ?_; conv => whnf)) | (refine z_st1 ?_; first | (refine z_st rfl rfl rfl (by first | (simp only [List.length_set]; assumption) | assumption | omega) (by first | exact elt_set (by first | assumption | (simp only [List.length_set]; assumption)) | assumption) rfl rfl ?_; conv => whnf) | (refine z_st0 ?_; conv => whnf)) | (refine z_op ?_ ?_; (focus exact rfl); conv => whnf) | (refine zs_ops ?_ ?_; (focus exact rfl)) | (refine z_nil fun vals => ?_; conv => whnf) | (refine z_call ?_ ?_; (focus exact rfl)) | (refine RC.of (ha) ?_ ?_; (focus exact rfl); conv => whnf) | (refine And.intro ?_ ?_; (focus (first | exact rfl | exact Nat.le_of_ble_eq_true rfl | decide | omega | fail)); conv => whnf) | (refine g_seq ?_) | (refine XS.go ?_) | (refine Br.t ?_ ?_; (focus (first | assumption | exact rfl)); conv => whnf) | (refine g_cond ?_; conv => whnf) | (refine g_ret ?_; conv => whnf) | (refine r_t ?_; conv => whnf) | (refine r_c ?_; conv => whnf) | (refine r_nil ?_; conv => whnf) | fail)
      rfl
  have h1 : lc1 r w wanted = false := hb
  clear hb
  have e1 : liveR r w wanted c = if lc2 r = true then ({ r with fLeft := IntKind.wrap .i64 (r.fLeft - 1) }, true) else liveS r c := by rw [liveR, if_neg (by rw [h1]; exact Bool.false_ne_true)]
  rw [e1]
  clear e1
  conv => whnf
  repeat' (first | (refine z_ld1 ?_; first | (refine z_ld rfl rfl rfl rfl (by first | (simp only [List.length_set]; assumption) | assumption | omega) (by first | exact elt_set (by first | assumption | (simp only [List.length_set]; assumption)) | assumption) ?_; conv => whnf) | (refine z_ld0 rfl ?_; conv => whnf)) | (refine z_ld1g ?_; first | (refine z_ldg rfl rfl rfl rfl rfl rfl rfl (by (repeat intro _); exact ⟨(by first | (simp only [List.length_set]; assumption) | assumption | omega), (by first | exact elt_set (by first | assumption | (simp only [List.length_set]; assumption)) | assumption)⟩) rfl rfl rfl rfl ?_; conv => whnf) | (refine z_ld0g ?_; (conv => whnf); refine And.intro ?_ ?_; (focus exact rfl); conv => whnf)) | (refine z_op ?_ ?_; (focus exact rfl); conv => whnf) | (refine z_opg0 ?_; (conv => whnf); refine And.intro ?_ ?_; (focus exact rfl); conv => whnf) | (refine z_pick ?_ ?_; (focus exact rfl); conv => whnf) | (refine zs_ops ?_ ?_; (focus exact rfl)) | (refine z_nil fun vals => ?_; conv => whnf) | (refine And.intro ?_ ?_; (focus (first | exact rfl | exact Nat.le_of_ble_eq_true rfl | decide | omega | fail)); conv => whnf) | (refine g_seq ?_) | (refine XS.go ?_) | (refine g_cond ?_; conv => whnf) | (refine g_skip ?_; conv => whnf) | fail)
  refine Br.mk (fun hb => ?_) (fun hb => ?_)
  · have h2 : lc2 r = true := hb
    rw [if_pos h2]
    conv => whnf
    repeat' (first | (refine z_ld1 ?_; first | (refine z_ld rfl rfl rfl rfl (by first | (simp only [List.length_set]; assumption) | assumption | omega) (by first | exact elt_set (by first | assumption | (simp only [List.length_set]; assumption)) | assumption) ?_; conv => whnf) | (refine z_ld0 rfl ?_; conv => whnf)) | (refine z_st1 ?_; first | (refine z_st rfl rfl rfl (by first | (simp only [List.length_set]; assumption) | assumption | omega) (by first | exact elt_set (by first | assumption | (simp only [List.length_set]; assumption)) | assumption) rfl rfl ?_; conv => whnf) | (refine z_st0 ?_; conv => whnf)) | (refine z_op ?_ ?_; (focus exact rfl); conv => whnf) | (refine zs_ops ?_ ?_; (focus exact rfl)) | (refine z_nil fun vals => ?_; conv => whnf) | (refine And.intro ?_ ?_; (focus (first | exact rfl | exact Nat.le_of_ble_eq_true rfl | decide | omega | fail)); conv => whnf) | (refine g_seq ?_) | (refine XS.go ?_) | (refine g_ret ?_; conv => whnf) | (refine r_t ?_; conv => whnf) | (refine r_c ?_; conv => whnf) | (refine r_nil ?_; conv => whnf) | fail)
    rfl
  have h2 : lc2 r = false := hb
  rw [if_neg (by rw [h2]; exact Bool.false_ne_true)]
  clear hb
  conv => whnf
  repeat' (first | (refine z_ld1 ?_; first | (refine z_ld rfl rfl rfl rfl (by first | (simp only [List.length_set]; assumption) | assumption | omega) (by first | exact elt_set (by first | assumption | (simp only [List.length_set]; assumption)) | assumption) ?_; conv => whnf) | (refine z_ld0 rfl ?_; conv => whnf)) | (refine z_st1 ?_; first | (refine z_st rfl rfl rfl (by first | (simp only [List.length_set]; assumption) | assumption | omega) (by first | exact elt_set (by first | assumption | (simp only [List.length_set]; assumption)) | assumption) rfl rfl ?_; conv => whnf) | (refine z_st0 ?_; conv => whnf)) | (refine z_op ?_ ?_; (focus exact rfl); conv => whnf) | (refine zs_ops ?_ ?_; (focus exact rfl)) | (refine z_nil fun vals => ?_; conv => whnf) | (refine z_call ?_ ?_; (focus exact rfl)) | (refine RC.of (hd) ?_ ?_; (focus exact rfl); conv => whnf) | (refine RC.of (hg) ?_ ?_; (focus exact rfl); conv => whnf) | (refine g_op ?_; conv => whnf) | (refine And.intro ?_ ?_; (focus (first | exact rfl | exact Nat.le_of_ble_eq_true rfl | decide | omega | fail)); conv => whnf) | (refine g_seq ?_) | (refine XS.go ?_) | (refine g_ops ?_) | (refine g_nil ?_; conv => whnf) | (refine Br.t ?_ ?_; (focus (first | assumption | exact rfl)); conv => whnf) | (refine g_cond ?_; conv => whnf) | (refine g_skip ?_; conv => whnf) | (refine g_ret ?_; conv => whnf) | (refine g_block ?_) | (refine r_t ?_; conv => whnf) | (refine r_c ?_; conv => whnf) | (refine r_nil ?_; conv => whnf) | (refine Br.mk (fun hb => ?_) (fun hb => ?_) <;> conv => whnf) | fail)
  all_goals (conv => lhs; whnf)
  all_goals first
    | (have hx : r.fState = 3 := by simp_all); (rw [liveS, if_pos hx]; rfl)
    | (have hx : r.fState = 4 := by simp_all); (have hy : r.fLeft = 1 := by simp_all); (rw [liveS, if_neg (by omega), if_pos hx, if_pos hy]; rfl)
    | (have hx : r.fState = 4 := by simp_all); (have hy : ¬ r.fLeft = 1 := by simp_all); (rw [liveS, if_neg (by omega), if_pos hx, if_neg hy]; rfl)
    | (have hx : r.fState = 6 := by simp_all); (rw [liveS, if_neg (by omega), if_neg (by omega), if_pos hx]; rfl)
    | (have hx : r.fState = 1 ∨ r.fState = 2 ∨ r.fState = 5 := by simp_all); (rw [liveS, if_neg (by omega), if_neg (by omega), if_neg (by omega), if_pos hx]; rfl)
    | (have h3 : ¬ r.fState = 3 := by simp_all); (have h4 : ¬ r.fState = 4 := by simp_all); (have h6 : ¬ r.fState = 6 := by simp_all); (have hx : ¬ (r.fState = 1 ∨ r.fState = 2 ∨ r.fState = 5) := by simp_all); (rw [liveS, if_neg h3, if_neg h4, if_neg h6, if_neg hx]; rfl)
    | fail
end Go.Ab
