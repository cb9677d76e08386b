/- Steps towards the law: contracts of functions and facts of lists. -/
import Derived.Test.YtalddljlemppnaaStewE
import Derived.Test.YtalddljlemppnaaRows
set_option linter.unusedSimpArgs false
set_option linter.unusedVariables false
namespace Go.Ab
open Go Go.RowKit Go.Proofs
attribute [local irreducible] XC Rdr IntKind.wrap xw xos xqs xr xd
set_option maxRecDepth 100000

/-- laws.eqStewCount -/
def cf32 : CF := ⟨30, [.t 4],
  (.seq (.ops [⟨some 2, .bx (.t 0), none⟩,
    ⟨some 3, .bx (.t 1), none⟩,
    ⟨some 4, .mv (.k (.bool false)), none⟩])
  (.seq (.seq (.ops [⟨some 5, .fa 0 1 0 (.t 2), none⟩,
    ⟨some 6, .ld 1 false (.t 5), none⟩,
    ⟨some 7, .fa 0 1 0 (.t 3), none⟩,
    ⟨some 8, .ld 1 false (.t 7), none⟩,
    ⟨some 9, .bin .neq (.t 6) (.t 8), none⟩])
  (.cond (.t 9)
  (.seq (.ops [⟨some 4, .mv (.k (.bool false)), none⟩])
  .ret)
  .skip))
  (.seq (.seq (.ops [⟨some 10, .fa 1 1 1 (.t 2), none⟩,
    ⟨some 11, .ld 1 false (.t 10), none⟩,
    ⟨some 12, .fa 1 1 1 (.t 3), none⟩,
    ⟨some 13, .ld 1 false (.t 12), none⟩,
    ⟨some 14, .bin .neq (.t 11) (.t 13), none⟩])
  (.cond (.t 14)
  (.seq (.ops [⟨some 4, .mv (.k (.bool false)), none⟩])
  .ret)
  .skip))
  (.seq (.seq (.ops [⟨some 15, .fa 2 1 2 (.t 2), none⟩,
    ⟨some 16, .ld 1 false (.t 15), none⟩,
    ⟨some 17, .fa 2 1 2 (.t 3), none⟩,
    ⟨some 18, .ld 1 false (.t 17), none⟩,
    ⟨some 19, .bin .neq (.t 16) (.t 18), none⟩])
  (.cond (.t 19)
  (.seq (.ops [⟨some 4, .mv (.k (.bool false)), none⟩])
  .ret)
  .skip))
  (.seq (.seq (.ops [⟨some 20, .fa 3 1 3 (.t 2), none⟩,
    ⟨some 21, .ld 1 false (.t 20), none⟩,
    ⟨some 22, .fa 3 1 3 (.t 3), none⟩,
    ⟨some 23, .ld 1 false (.t 22), none⟩,
    ⟨some 24, .bin .neq (.t 21) (.t 23), none⟩])
  (.cond (.t 24)
  (.seq (.ops [⟨some 4, .mv (.k (.bool false)), none⟩])
  .ret)
  .skip))
  (.seq (.seq (.ops [⟨some 25, .fa 4 1 4 (.t 2), none⟩,
    ⟨some 26, .ld 1 false (.t 25), none⟩,
    ⟨some 27, .fa 4 1 4 (.t 3), none⟩,
    ⟨some 28, .ld 1 false (.t 27), none⟩,
    ⟨some 29, .bin .neq (.t 26) (.t 28), none⟩])
  (.cond (.t 29)
  (.seq (.ops [⟨some 4, .mv (.k (.bool false)), none⟩])
  .ret)
  .skip))
  (.seq (.ops [⟨some 4, .mv (.k (.bool true)), none⟩])
  .ret)))))))⟩
theorem c32 : compileF Try.prog [] 32 = some cf32 := by kernel_rfl
structure StewCount where
  fLive : Int
  fReady : Int
  fOld : Int
  fFailed : Int
  fEnding : Int
def StewCount.D (x : StewCount) : D := .agg [.int .i64 x.fLive, .int .i64 x.fReady, .int .i64 x.fOld, .int .i64 x.fFailed, .int .i64 x.fEnding]
instance : Inhabited StewCount := ⟨⟨0, 0, 0, 0, 0⟩⟩
structure StewCount.wf (x : StewCount) : Prop where
structure StewCount.small (x : StewCount) : Prop where
theorem StewCount.len (x : StewCount) : x.D.len = 5 := rfl
theorem args_StewCount {d : D} (h : Has (.st [.int .i64, .int .i64, .int .i64, .int .i64, .int .i64]) d) : ∃ x : StewCount, d = x.D ∧ x.wf := by
  rw [Has] at h
  obtain ⟨_, rfl, h⟩ := h
  simp only [HasF] at h
  obtain ⟨_, _, rfl, hLive, _, _, rfl, hReady, _, _, rfl, hOld, _, _, rfl, hFailed, _, _, rfl, hEnding, rfl⟩ := h
  rw [Has] at hLive
  obtain ⟨vLive, rfl, _⟩ := hLive
  rw [Has] at hReady
  obtain ⟨vReady, rfl, _⟩ := hReady
  rw [Has] at hOld
  obtain ⟨vOld, rfl, _⟩ := hOld
  rw [Has] at hFailed
  obtain ⟨vFailed, rfl, _⟩ := hFailed
  rw [Has] at hEnding
  obtain ⟨vEnding, rfl, _⟩ := hEnding
  exact ⟨⟨vLive, vReady, vOld, vFailed, vEnding⟩, rfl, ⟨⟩⟩
theorem eq_StewCount (x : StewCount) (hs : x.small) : Rdr Try.prog 32 [x.D, x.D] (.bool true) := by
  refine Rdr.intro' hm c32 (Nat.le_of_ble_eq_true rfl) ?_
  conv => whnf
  repeat' (first | (refine g_op ?_; conv => whnf) | (refine And.intro ?_ ?_; (focus (first | exact rfl | exact Nat.le_of_ble_eq_true rfl | decide | omega | fail)); conv => whnf) | (refine g_seq ?_) | (refine XS.go ?_) | (refine g_ops ?_) | (refine g_nil ?_; conv => whnf) | (refine g_cond ?_; conv => whnf) | (refine g_skip ?_; conv => whnf) | (refine g_ret ?_; conv => whnf) | (refine r_t ?_; conv => whnf) | (refine r_nil ?_; conv => whnf) | (refine fun _ => ?_; conv => whnf) | (refine Br.f (by simp) ?_; conv => whnf) | fail)
  all_goals rfl
/-- spec.l19Count -/
def cf93 : CF := ⟨71, [.c 4 5 true],
  (.seq (.ops [⟨some 2, .bx (.t 0), none⟩,
    ⟨some 4, .al (.agg [.int .i64 0, .int .i64 0, .int .i64 0, .int .i64 0, .int .i64 0]), none⟩])
  (.seq (.ops [⟨some 9, .bld (.agg [.int .i64 0, .int .i64 0, .int .i64 0, .int .i64 0, .int .i64 0]) [], none⟩,
    ⟨some 5, .al (.agg [.int .i64 0, .int .i64 0, .int .i64 0, .int .i64 0, .int .i64 0]), none⟩,
    ⟨none, .st 5 (.t 5) (.t 9), none⟩])
  (.seq (.ops [⟨some 10, .ld 4 true (.t 2), none⟩,
    ⟨some 11, .mv (.t 1), none⟩,
    ⟨some 12, .call 129 [(.t 10), (.t 11)], none⟩,
    ⟨some 6, .mv (.t 12), none⟩])
  (.seq (.seq (.ops [⟨some 7, .mv (.k (.int .i64 0)), none⟩])
  (.block 0 (.loop (.seq (.seq (.ops [⟨some 13, .mv (.t 7), none⟩,
    ⟨some 14, .fa 2 1 2 (.t 2), none⟩,
    ⟨some 15, .ld 1 false (.t 14), none⟩,
    ⟨some 16, .lenl (.t 15), none⟩,
    ⟨some 17, .bin .lss (.t 13) (.t 16), none⟩,
    ⟨some 18, .mv (.t 17), none⟩,
    ⟨some 19, .mv (.t 6), some (18, true)⟩,
    ⟨some 20, .bin .geq (.t 19) (.k (.int .i64 0)), some (18, true)⟩,
    ⟨some 21, .pick (.t 18) (.t 20) (.k (.bool false)), none⟩])
  (.cond (.t 21)
  .skip
  (.exit 0)))
  (.seq (.block 1 (.seq (.ops [⟨some 24, .fa 2 1 2 (.t 2), none⟩,
    ⟨some 25, .ld 1 false (.t 24), none⟩,
    ⟨some 26, .mv (.t 7), none⟩,
    ⟨some 27, .ix 7 (.t 25) (.t 26), none⟩,
    ⟨some 28, .ld 7 true (.t 27), none⟩,
    ⟨some 8, .al (.agg [.str ⟨#[]⟩, .int .i64 0, .int .i64 0, .int .i64 0, .int .i64 0, .bool false, .str ⟨#[]⟩]), none⟩,
    ⟨none, .st 7 (.t 8) (.t 28), none⟩])
  (.seq (.seq (.ops [⟨some 29, .fa 0 1 0 (.t 8), none⟩,
    ⟨some 30, .ld 1 false (.t 29), none⟩,
    ⟨some 31, .mv (.t 1), none⟩,
    ⟨some 32, .bin .neq (.t 30) (.t 31), none⟩])
  (.cond (.t 32)
  (.exit 1)
  .skip))
  (.seq (.seq (.ops [⟨some 33, .fa 5 1 5 (.t 8), none⟩,
    ⟨some 34, .ld 1 false (.t 33), none⟩])
  (.cond (.t 34)
  (.seq (.ops [⟨some 35, .fa 4 1 4 (.t 5), none⟩,
    ⟨some 36, .ld 1 false (.t 35), none⟩,
    ⟨some 37, .bin .add (.t 36) (.k (.int .i64 1)), none⟩,
    ⟨some 38, .fa 4 1 4 (.t 5), none⟩,
    ⟨none, .st 1 (.t 38) (.t 37), none⟩])
  (.exit 1))
  .skip))
  (.seq (.ops [⟨some 39, .fa 0 1 0 (.t 5), none⟩,
    ⟨some 40, .ld 1 false (.t 39), none⟩,
    ⟨some 41, .bin .add (.t 40) (.k (.int .i64 1)), none⟩,
    ⟨some 42, .fa 0 1 0 (.t 5), none⟩,
    ⟨none, .st 1 (.t 42) (.t 41), none⟩])
  (.seq (.seq (.ops [⟨some 43, .fa 4 1 4 (.t 8), none⟩,
    ⟨some 44, .ld 1 false (.t 43), none⟩,
    ⟨some 45, .bin .eql (.t 44) (.k (.int .i64 3)), none⟩])
  (.cond (.t 45)
  (.ops [⟨some 46, .fa 1 1 1 (.t 5), none⟩,
    ⟨some 47, .ld 1 false (.t 46), none⟩,
    ⟨some 48, .bin .add (.t 47) (.k (.int .i64 1)), none⟩,
    ⟨some 49, .fa 1 1 1 (.t 5), none⟩,
    ⟨none, .st 1 (.t 49) (.t 48), none⟩])
  .skip))
  (.seq (.seq (.ops [⟨some 50, .fa 4 1 4 (.t 8), none⟩,
    ⟨some 51, .ld 1 false (.t 50), none⟩,
    ⟨some 52, .bin .eql (.t 51) (.k (.int .i64 4)), none⟩])
  (.cond (.t 52)
  (.ops [⟨some 53, .fa 3 1 3 (.t 5), none⟩,
    ⟨some 54, .ld 1 false (.t 53), none⟩,
    ⟨some 55, .bin .add (.t 54) (.k (.int .i64 1)), none⟩,
    ⟨some 56, .fa 3 1 3 (.t 5), none⟩,
    ⟨none, .st 1 (.t 56) (.t 55), none⟩])
  .skip))
  (.seq (.quiet [⟨some 57, .fa 3 1 3 (.t 8), none⟩,
    ⟨some 58, .ld 1 false (.t 57), none⟩,
    ⟨some 59, .fa 1 1 1 (.t 2), none⟩,
    ⟨some 60, .ld 1 false (.t 59), none⟩,
    ⟨some 61, .mv (.t 6), none⟩,
    ⟨some 62, .ix 13 (.t 60) (.t 61), none⟩,
    ⟨some 63, .fa 3 1 3 (.t 62), none⟩,
    ⟨some 64, .ld 1 false (.t 63), none⟩,
    ⟨some 65, .bin .neq (.t 58) (.t 64), none⟩])
  (.cond (.t 65)
  (.ops [⟨some 66, .fa 2 1 2 (.t 5), none⟩,
    ⟨some 67, .ld 1 false (.t 66), none⟩,
    ⟨some 68, .bin .add (.t 67) (.k (.int .i64 1)), none⟩,
    ⟨some 69, .fa 2 1 2 (.t 5), none⟩,
    ⟨none, .st 1 (.t 69) (.t 68), none⟩])
  .skip)))))))))
  (.ops [⟨some 22, .mv (.t 7), none⟩,
    ⟨some 23, .bin .add (.t 22) (.k (.int .i64 1)), none⟩,
    ⟨some 7, .mv (.t 23), none⟩]))))))
  (.seq (.ops [⟨some 70, .ld 5 true (.t 5), none⟩,
    ⟨none, .st 5 (.t 4) (.t 70), none⟩])
  .ret)))))⟩
theorem c93 : compileF Try.prog [] 93 = some cf93 := by kernel_rfl
/-- (*impl.StewBook).count -/
def cf94 : CF := ⟨63, [.c 4 5 true],
  (.seq (.ops [⟨some 4, .al (.agg [.int .i64 0, .int .i64 0, .int .i64 0, .int .i64 0, .int .i64 0]), none⟩])
  (.seq (.ops [⟨some 5, .al (.agg [.int .i64 0, .int .i64 0, .int .i64 0, .int .i64 0, .int .i64 0]), none⟩])
  (.seq (.seq (.ops [⟨some 8, .mv (.t 0), none⟩,
    ⟨some 9, .nilc (.t 8), none⟩,
    ⟨some 10, .fa 2 1 2 (.t 9), none⟩,
    ⟨some 11, .ld 1 false (.t 10), none⟩,
    ⟨some 12, .lenl (.t 11), none⟩,
    ⟨some 13, .mv (.k (.int .i64 0)), none⟩])
  (.block 0 (.loop (.seq (.ops [⟨some 14, .bin .lss (.t 13) (.t 12), none⟩])
  (.seq (.cond (.t 14)
  .skip
  (.exit 0))
  (.seq (.block 1 (.seq (.ops [⟨some 15, .ix 7 (.t 11) (.t 13), none⟩,
    ⟨some 16, .ld 7 true (.t 15), none⟩,
    ⟨some 7, .al (.agg [.str ⟨#[]⟩, .int .i64 0, .int .i64 0, .int .i64 0, .int .i64 0, .bool false, .str ⟨#[]⟩]), none⟩,
    ⟨none, .st 7 (.t 7) (.t 16), none⟩])
  (.block 2 (.seq (.quiet [⟨some 47, .fa 0 1 0 (.t 7), none⟩,
    ⟨some 48, .ld 1 false (.t 47), none⟩,
    ⟨some 49, .mv (.t 1), none⟩,
    ⟨some 50, .nilc (.t 49), none⟩,
    ⟨some 51, .fa 0 1 0 (.t 50), none⟩,
    ⟨some 52, .ld 1 false (.t 51), none⟩,
    ⟨some 53, .bin .neq (.t 48) (.t 52), none⟩,
    ⟨some 46, .mv (.t 53), none⟩])
  (.cond (.t 46)
  .skip
  (.seq (.ops [⟨some 55, .fa 5 1 5 (.t 7), none⟩,
    ⟨some 56, .ld 1 false (.t 55), none⟩,
    ⟨some 54, .mv (.t 56), none⟩])
  (.cond (.t 54)
  (.ops [⟨some 57, .fa 4 1 4 (.t 5), none⟩,
    ⟨some 58, .ld 1 false (.t 57), none⟩,
    ⟨some 59, .bin .add (.t 58) (.k (.int .i64 1)), none⟩,
    ⟨some 60, .fa 4 1 4 (.t 5), none⟩,
    ⟨none, .st 1 (.t 60) (.t 59), none⟩])
  (.seq (.ops [⟨some 17, .fa 0 1 0 (.t 5), none⟩,
    ⟨some 18, .ld 1 false (.t 17), none⟩,
    ⟨some 19, .bin .add (.t 18) (.k (.int .i64 1)), none⟩,
    ⟨some 20, .fa 0 1 0 (.t 5), none⟩,
    ⟨none, .st 1 (.t 20) (.t 19), none⟩])
  (.seq (.seq (.ops [⟨some 21, .fa 4 1 4 (.t 7), none⟩,
    ⟨some 22, .ld 1 false (.t 21), none⟩,
    ⟨some 23, .bin .eql (.t 22) (.k (.int .i64 3)), none⟩])
  (.cond (.t 23)
  (.ops [⟨some 24, .fa 1 1 1 (.t 5), none⟩,
    ⟨some 25, .ld 1 false (.t 24), none⟩,
    ⟨some 26, .bin .add (.t 25) (.k (.int .i64 1)), none⟩,
    ⟨some 27, .fa 1 1 1 (.t 5), none⟩,
    ⟨none, .st 1 (.t 27) (.t 26), none⟩])
  .skip))
  (.seq (.seq (.quiet [⟨some 28, .fa 3 1 3 (.t 7), none⟩,
    ⟨some 29, .ld 1 false (.t 28), none⟩,
    ⟨some 30, .mv (.t 1), none⟩,
    ⟨some 31, .nilc (.t 30), none⟩,
    ⟨some 32, .fa 3 1 3 (.t 31), none⟩,
    ⟨some 33, .ld 1 false (.t 32), none⟩,
    ⟨some 34, .bin .neq (.t 29) (.t 33), none⟩])
  (.cond (.t 34)
  (.ops [⟨some 35, .fa 2 1 2 (.t 5), none⟩,
    ⟨some 36, .ld 1 false (.t 35), none⟩,
    ⟨some 37, .bin .add (.t 36) (.k (.int .i64 1)), none⟩,
    ⟨some 38, .fa 2 1 2 (.t 5), none⟩,
    ⟨none, .st 1 (.t 38) (.t 37), none⟩])
  .skip))
  (.seq (.ops [⟨some 39, .fa 4 1 4 (.t 7), none⟩,
    ⟨some 40, .ld 1 false (.t 39), none⟩,
    ⟨some 41, .bin .eql (.t 40) (.k (.int .i64 4)), none⟩])
  (.cond (.t 41)
  (.ops [⟨some 42, .fa 3 1 3 (.t 5), none⟩,
    ⟨some 43, .ld 1 false (.t 42), none⟩,
    ⟨some 44, .bin .add (.t 43) (.k (.int .i64 1)), none⟩,
    ⟨some 45, .fa 3 1 3 (.t 5), none⟩,
    ⟨none, .st 1 (.t 45) (.t 44), none⟩])
  .skip))))))))))))
  (.ops [⟨some 61, .bin .add (.t 13) (.k (.int .i64 1)), none⟩,
    ⟨some 13, .mv (.t 61), none⟩])))))))
  (.seq (.ops [⟨some 62, .ld 5 true (.t 5), none⟩,
    ⟨none, .st 5 (.t 4) (.t 62), none⟩])
  .ret))))⟩
theorem c94 : compileF Try.prog [] 94 = some cf94 := by kernel_rfl
/-- spec.StewCountOf -/
def cf30 : CF := ⟨12, [.c 4 5 true],
  (.seq (.ops [⟨some 2, .bx (.t 0), none⟩,
    ⟨some 4, .al (.agg [.int .i64 0, .int .i64 0, .int .i64 0, .int .i64 0, .int .i64 0]), none⟩])
  (.seq (.seq (.ops [⟨some 5, .ld 4 true (.t 2), none⟩,
    ⟨some 6, .call 19 [(.t 5)], none⟩,
    ⟨some 7, .not (.t 6), none⟩])
  (.cond (.t 7)
  (.seq (.ops [⟨some 8, .bld (.agg [.int .i64 0, .int .i64 0, .int .i64 0, .int .i64 0, .int .i64 0]) [], none⟩,
    ⟨none, .st 5 (.t 4) (.t 8), none⟩])
  .ret)
  .skip))
  (.seq (.ops [⟨some 9, .ld 4 true (.t 2), none⟩,
    ⟨some 10, .mv (.t 1), none⟩,
    ⟨some 11, .call 93 [(.t 9), (.t 10)], none⟩,
    ⟨none, .st 5 (.t 4) (.t 11), none⟩])
  .ret)))⟩
theorem c30 : compileF Try.prog [] 30 = some cf30 := by kernel_rfl
/-- impl.StewCountOf -/
def cf31 : CF := ⟨17, [.c 4 5 true],
  (.seq (.ops [⟨some 2, .bx (.t 0), none⟩,
    ⟨some 4, .al (.agg [.int .i64 0, .int .i64 0, .int .i64 0, .int .i64 0, .int .i64 0]), none⟩])
  (.seq (.seq (.ops [⟨some 6, .ld 4 true (.t 2), none⟩,
    ⟨some 7, .call 20 [(.t 6)], none⟩,
    ⟨some 8, .not (.t 7), none⟩])
  (.cond (.t 8)
  (.seq (.ops [⟨some 9, .bld (.agg [.int .i64 0, .int .i64 0, .int .i64 0, .int .i64 0, .int .i64 0]) [], none⟩,
    ⟨none, .st 5 (.t 4) (.t 9), none⟩])
  .ret)
  .skip))
  (.seq (.ops [⟨some 10, .mv (.t 1), none⟩,
    ⟨some 11, .call 78 [(.t 2), (.t 10)], none⟩,
    ⟨some 5, .mv (.t 11), none⟩])
  (.seq (.seq (.ops [⟨some 12, .mv (.t 5), none⟩,
    ⟨some 13, .ptb false (.t 12) (.k (.nilp)), none⟩])
  (.cond (.t 13)
  (.seq (.ops [⟨some 14, .bld (.agg [.int .i64 0, .int .i64 0, .int .i64 0, .int .i64 0, .int .i64 0]) [], none⟩,
    ⟨none, .st 5 (.t 4) (.t 14), none⟩])
  .ret)
  .skip))
  (.seq (.ops [⟨some 15, .mv (.t 5), none⟩,
    ⟨some 16, .call 94 [(.t 2), (.t 15)], none⟩,
    ⟨none, .st 5 (.t 4) (.t 16), none⟩])
  .ret)))))⟩
theorem c31 : compileF Try.prog [] 31 = some cf31 := by kernel_rfl
/-- laws.FnExactStewCountOf -/
def cf6 : CF := ⟨35, [.t 4],
  (.seq (.ops [⟨some 2, .bx (.t 0), none⟩,
    ⟨some 4, .mv (.k (.bool false)), none⟩])
  (.seq (.seq (.ops [⟨some 9, .mv (.t 1), none⟩,
    ⟨some 10, .lens (.t 9), none⟩,
    ⟨some 11, .bin .gtr (.t 10) (.k (.int .i64 1048576)), none⟩])
  (.cond (.t 11)
  (.seq (.ops [⟨some 4, .mv (.k (.bool true)), none⟩])
  .ret)
  .skip))
  (.seq (.ops [⟨some 5, .mv (.k (.int .i64 1048576)), none⟩])
  (.seq (.ops [⟨some 12, .ld 4 true (.t 2), none⟩,
    ⟨some 13, .mv (.t 5), none⟩,
    ⟨some 14, .call 22 [(.t 12), (.t 13)], none⟩,
    ⟨some 5, .mv (.t 14), none⟩])
  (.seq (.seq (.ops [⟨some 15, .mv (.t 5), none⟩,
    ⟨some 16, .bin .lss (.t 15) (.k (.int .i64 0)), none⟩])
  (.cond (.t 16)
  (.seq (.ops [⟨some 4, .mv (.k (.bool true)), none⟩])
  .ret)
  .skip))
  (.seq (.ops [⟨some 17, .ld 4 true (.t 2), none⟩,
    ⟨some 18, .call 23 [(.t 17)], none⟩,
    ⟨some 19, .mv (.t 1), none⟩,
    ⟨some 20, .call 30 [(.t 18), (.t 19)], none⟩,
    ⟨some 6, .al (.agg [.int .i64 0, .int .i64 0, .int .i64 0, .int .i64 0, .int .i64 0]), none⟩,
    ⟨none, .st 5 (.t 6) (.t 20), none⟩])
  (.seq (.ops [⟨some 21, .ld 4 true (.t 2), none⟩,
    ⟨some 22, .call 23 [(.t 21)], none⟩,
    ⟨some 7, .al (.agg [.int .i64 0, .nil, .nil, .nil]), none⟩,
    ⟨none, .st 4 (.t 7) (.t 22), none⟩])
  (.seq (.ops [⟨some 23, .ld 4 true (.t 7), none⟩,
    ⟨some 24, .mv (.t 1), none⟩,
    ⟨some 25, .call 31 [(.t 23), (.t 24)], none⟩,
    ⟨some 8, .al (.agg [.int .i64 0, .int .i64 0, .int .i64 0, .int .i64 0, .int .i64 0]), none⟩,
    ⟨none, .st 5 (.t 8) (.t 25), none⟩])
  (.seq (.seq (.ops [⟨some 26, .ld 5 true (.t 8), none⟩,
    ⟨some 27, .ld 5 true (.t 6), none⟩,
    ⟨some 28, .call 32 [(.t 26), (.t 27)], none⟩,
    ⟨some 29, .not (.t 28), none⟩])
  (.cond (.t 29)
  (.seq (.ops [⟨some 4, .mv (.k (.bool false)), none⟩])
  .ret)
  .skip))
  (.seq (.seq (.quiet [⟨some 30, .ld 4 true (.t 7), none⟩,
    ⟨some 31, .ld 4 true (.t 2), none⟩,
    ⟨some 32, .call 23 [(.t 31)], none⟩,
    ⟨some 33, .call 24 [(.t 30), (.t 32)], none⟩,
    ⟨some 34, .not (.t 33), none⟩])
  (.cond (.t 34)
  (.seq (.ops [⟨some 4, .mv (.k (.bool false)), none⟩])
  .ret)
  .skip))
  (.seq (.ops [⟨some 4, .mv (.k (.bool true)), none⟩])
  .ret)))))))))))⟩
theorem c6 : compileF Try.prog [] 6 = some cf6 := by kernel_rfl
def stepC (name : List UInt8) (img : Int) (n : StewCount) (c : StewCopy) : StewCount :=
  if c.fService.toList = name then
    if c.fEnding = true then { n with fEnding := IntKind.wrap .i64 (n.fEnding + 1) }
    else ⟨IntKind.wrap .i64 (n.fLive + 1), if c.fState = 3 then IntKind.wrap .i64 (n.fReady + 1) else n.fReady, if c.fImage = img then n.fOld else IntKind.wrap .i64 (n.fOld + 1), if c.fState = 4 then IntKind.wrap .i64 (n.fFailed + 1) else n.fFailed, n.fEnding⟩
  else n
def cntUp (name : List UInt8) (img : Int) (xs : List StewCopy) : Nat → StewCount
  | 0 => ⟨0, 0, 0, 0, 0⟩
  | i + 1 => stepC name img (cntUp name img xs i) (xs.getD i default)
set_option maxHeartbeats 8000000 in
theorem impl_count (b : StewBook) (s : StewService) (hl : b.fCopies.length ≤ 1048576) : Rdr Try.prog 94 [.cref b.D, .cref s.D] ((cntUp s.fName.toList s.fImage b.fCopies b.fCopies.length).D) := by
  refine Rdr.intro' hm c94 (Nat.le_of_ble_eq_true rfl) ?_
  conv => whnf
  repeat' (first | (refine z_ld1 ?_; first | (refine z_ld rfl rfl rfl rfl (by first | (simp only [List.length_set]; assumption) | assumption | omega) (by first | exact elt_set (by first | assumption | (simp only [List.length_set]; assumption)) | assumption) ?_; conv => whnf) | (refine z_ld0 rfl ?_; conv => whnf)) | (refine z_op ?_ ?_; (focus exact rfl); conv => whnf) | (refine zs_ops ?_ ?_; (focus exact rfl)) | (refine z_nil fun vals => ?_; conv => whnf) | (refine g_op ?_; conv => whnf) | (refine And.intro ?_ ?_; (focus (first | exact rfl | exact Nat.le_of_ble_eq_true rfl | decide | omega | fail)); conv => whnf) | (refine g_seq ?_) | (refine XS.go ?_) | (refine g_ops ?_) | (refine g_loop ?_) | (refine g_nil ?_; conv => whnf) | (refine g_block ?_) | (refine fun _ => ?_; conv => whnf) | fail)
  refine XLc.mkL (α := Nat) (fun i => i ≤ b.fCopies.length) (fun i => b.fCopies.length - i) (fun i gs => [.any, .cref s.D, .any, .any, .lref 4 (gs 4) [] 0, .lref 5 (gs 5) [] 0, .any, .any, .any, .any, .any, .ro 7 (b.fCopies.map StewCopy.D), .int .i64 ((b.fCopies.map StewCopy.D).length : Int), .int .i64 (i : Int)]) (fun i gs => [none, none, none, none, some (.agg [.int .i64 0, .int .i64 0, .int .i64 0, .int .i64 0, .int .i64 0]), some (cntUp s.fName.toList s.fImage b.fCopies i).D]) 0 (Nat.zero_le _) ?_ ?_
  · refine ⟨?_, ?_⟩
    · repeat' (first | exact True.intro | refine And.intro rfl ?_)
    · repeat' (first | exact True.intro | refine And.intro rfl ?_)
  intro i gs hi
  repeat' (first | (refine g_op ?_; conv => whnf) | (refine And.intro ?_ ?_; (focus (first | exact rfl | exact Nat.le_of_ble_eq_true rfl | decide | omega | fail)); conv => whnf) | (refine g_seq ?_) | (refine XS.go ?_) | (refine g_ops ?_) | (refine g_nil ?_; conv => whnf) | (refine g_cond ?_; conv => whnf) | fail)
  refine Br.mk (fun hb => ?_) (fun hb => ?_)
  · have hlt : i < b.fCopies.length := by simpa using hb
    have hw : IntKind.wrap .i64 ((i : Int) + 1) = ((i + 1 : Nat) : Int) := by rw [wrap_ok (by omega) (by omega)]; rfl
    clear hb
    have hst : cntUp s.fName.toList s.fImage b.fCopies (i + 1) = stepC s.fName.toList s.fImage (cntUp s.fName.toList s.fImage b.fCopies i) (b.fCopies.getD i default) := rfl
    generalize hacc : cntUp s.fName.toList s.fImage b.fCopies i = acc at *
    conv => whnf
    repeat' (first | (refine z_ld1 ?_; first | (refine z_ld rfl rfl rfl rfl (by first | (simp only [List.length_set]; assumption) | assumption | omega) (by first | exact elt_set (by first | assumption | (simp only [List.length_set]; assumption)) | assumption) ?_; conv => whnf) | (refine z_ld0 rfl ?_; conv => whnf)) | (refine z_st1 ?_; first | (refine z_st rfl rfl rfl (by first | (simp only [List.length_set]; assumption) | assumption | omega) (by first | exact elt_set (by first | assumption | (simp only [List.length_set]; assumption)) | assumption) rfl rfl ?_; conv => whnf) | (refine z_st0 ?_; conv => whnf)) | (refine z_ix1 ?_; first | (refine z_ix rfl rfl rfl rfl rfl ⟨by first | omega | (simp only [decide_eq_true_eq, Bool.not_eq_true', Bool.or_eq_false_iff, decide_eq_false_iff_not, Bool.and_eq_true, Bool.not_eq_false'] at *; omega), by first | omega | (simp only [decide_eq_true_eq, Bool.not_eq_true', Bool.or_eq_false_iff, decide_eq_false_iff_not, Bool.and_eq_true, Bool.not_eq_false'] at *; omega)⟩ ?_; conv => whnf) | (refine z_ix0 rfl rfl ?_; conv => whnf)) | (refine z_op ?_ ?_; (focus exact rfl); conv => whnf) | (refine zs_ops ?_ ?_; (focus exact rfl)) | (refine zs_quiet ?_ ?_; (focus exact rfl)) | (refine z_nil fun vals => ?_; conv => whnf) | (refine z_eff ?_; conv => whnf) | (refine g_op ?_; conv => whnf) | (refine And.intro ?_ ?_; (focus (first | exact rfl | exact Nat.le_of_ble_eq_true rfl | decide | omega | fail)); conv => whnf) | (refine g_seq ?_) | (refine XS.go ?_) | (refine g_ops ?_) | (refine g_nil ?_; conv => whnf) | (refine g_cond ?_; conv => whnf) | (refine g_skip ?_; conv => whnf) | (refine g_block ?_) | (refine fun _ => ?_; conv => whnf) | (refine Br.mk (fun hb => ?_) (fun hb => ?_) <;> conv => whnf) | fail)
    all_goals
      refine ⟨i + 1, by omega, by omega, ?_, ?_⟩
      · repeat' (first | exact True.intro | refine And.intro (congrArg (D.int .i64) hw) ?_ | refine And.intro rfl ?_)
      · refine And.intro rfl (And.intro (congrArg some ?_) True.intro)
        rw [hst]
        clear hst hacc hw
        simp_all [stepC, StewCount.D]
  · have he : i = b.fCopies.length := by have : ¬ i < b.fCopies.length := by simpa using hb
                                         omega
    subst he
    clear hb
    generalize cntUp s.fName.toList s.fImage b.fCopies b.fCopies.length = acc at *
    conv => whnf
    repeat' (first | (refine z_ld1 ?_; first | (refine z_ld rfl rfl rfl rfl (by first | (simp only [List.length_set]; assumption) | assumption | omega) (by first | exact elt_set (by first | assumption | (simp only [List.length_set]; assumption)) | assumption) ?_; conv => whnf) | (refine z_ld0 rfl ?_; conv => whnf)) | (refine z_st1 ?_; first | (refine z_st rfl rfl rfl (by first | (simp only [List.length_set]; assumption) | assumption | omega) (by first | exact elt_set (by first | assumption | (simp only [List.length_set]; assumption)) | assumption) rfl rfl ?_; conv => whnf) | (refine z_st0 ?_; conv => whnf)) | (refine zs_ops ?_ ?_; (focus exact rfl)) | (refine z_nil fun vals => ?_; conv => whnf) | (refine And.intro ?_ ?_; (focus (first | exact rfl | exact Nat.le_of_ble_eq_true rfl | decide | omega | fail)); conv => whnf) | (refine g_seq ?_) | (refine XS.go ?_) | (refine g_ret ?_; conv => whnf) | (refine g_exit ?_; conv => whnf) | (refine r_c ?_; conv => whnf) | (refine r_nil ?_; conv => whnf) | fail)
    (conv => lhs; whnf)
    rfl
def z5 : StewCount := ⟨0, 0, 0, 0, 0⟩
def cntOf (b : StewBook) (name : ByteArray) : StewCount := if svcI b name < 0 then z5 else cntUp name.toList (b.fServices.getD (svcI b name).toNat default).fImage b.fCopies b.fCopies.length
theorem svcI_hit (b : StewBook) (name : ByteArray) (h : ¬ svcI b name < 0) : svcI b name < b.fServices.length ∧ (b.fServices.getD (svcI b name).toNat default).fName.toList = name.toList := by
  rcases idxN_cases (f := svcF b name) (k := b.fServices.length) (i := 0) with ⟨h1, _⟩ | ⟨j, h1, _, h3, h4⟩
  · exact absurd (show svcI b name < 0 by unfold svcI; rw [h1]; decide) h
  · have e : svcI b name = j := h1
    refine ⟨by omega, ?_⟩
    rw [e]
    simpa [svcF] using h4
set_option maxHeartbeats 8000000 in
theorem spec_count (b : StewBook) (name : ByteArray) (h1 : b.fServices.length ≤ 1048576) (hl : b.fCopies.length ≤ 1048576) : Rdr Try.prog 93 [b.D, .str name] ((cntOf b name).D) := by
  refine Rdr.intro' hm c93 (Nat.le_of_ble_eq_true rfl) ?_
  conv => whnf
  repeat' (first | (refine g_op ?_; conv => whnf) | (refine And.intro ?_ ?_; (focus (first | exact rfl | exact Nat.le_of_ble_eq_true rfl | decide | omega | fail)); conv => whnf) | (refine g_seq ?_) | (refine g_ops ?_) | (refine g_nil ?_; conv => whnf) | (refine fun _ => ?_; conv => whnf) | fail)
  refine XS.freezeB 2 rfl ?_
  by_cases hs : svcI b name < 0
  · have e0 : cntOf b name = z5 := by unfold cntOf; rw [if_pos hs]
    repeat' (first | (refine z_ld1 ?_; first | (refine z_ld rfl rfl rfl rfl (by first | (simp only [List.length_set]; assumption) | assumption | omega) (by first | exact elt_set (by first | assumption | (simp only [List.length_set]; assumption)) | assumption) ?_; conv => whnf) | (refine z_ld0 rfl ?_; conv => whnf)) | (refine z_st1 ?_; first | (refine z_st rfl rfl rfl (by first | (simp only [List.length_set]; assumption) | assumption | omega) (by first | exact elt_set (by first | assumption | (simp only [List.length_set]; assumption)) | assumption) rfl rfl ?_; conv => whnf) | (refine z_st0 ?_; conv => whnf)) | (refine z_op ?_ ?_; (focus exact rfl); conv => whnf) | (refine zs_ops ?_ ?_; (focus exact rfl)) | (refine z_nil fun vals => ?_; conv => whnf) | (refine z_call ?_ ?_; (focus exact rfl)) | (refine z_eff ?_; conv => whnf) | (refine RC.of (spec_Service b _ h1) ?_ ?_; (focus exact rfl); conv => whnf) | (refine g_op ?_; conv => whnf) | (refine And.intro ?_ ?_; (focus (first | exact rfl | exact Nat.le_of_ble_eq_true rfl | decide | omega | fail)); conv => whnf) | (refine g_seq ?_) | (refine XS.go ?_) | (refine g_ops ?_) | (refine g_loop ?_) | (refine g_nil ?_; conv => whnf) | (refine g_block ?_) | (refine fun _ => ?_; conv => whnf) | fail)
    refine XLc.mkL (α := Unit) (fun _ => True) (fun _ => 0) (fun _ gs => [.any, .str name, .cref b.D, .any, .lref 4 (gs 4) [] 0, .lref 5 (gs 5) [] 0, .int .i64 (svcI b name), .int .i64 0]) (fun _ gs => [none, none, none, none, some z5.D, some z5.D]) () trivial ?_ ?_
    · refine ⟨?_, ?_⟩
      · repeat' (first | exact True.intro | refine And.intro rfl ?_)
      · repeat' (first | exact True.intro | refine And.intro rfl ?_)
    intro i gs hi
    repeat' (first | (refine z_ld1 ?_; first | (refine z_ld rfl rfl rfl rfl (by first | (simp only [List.length_set]; assumption) | assumption | omega) (by first | exact elt_set (by first | assumption | (simp only [List.length_set]; assumption)) | assumption) ?_; conv => whnf) | (refine z_ld0 rfl ?_; conv => whnf)) | (refine z_op ?_ ?_; (focus exact rfl); conv => whnf) | (refine z_opg0 ?_; (conv => whnf); refine And.intro ?_ ?_; (focus exact rfl); conv => whnf) | (refine z_pick ?_ ?_; (focus exact rfl); conv => whnf) | (refine zs_ops ?_ ?_; (focus exact rfl)) | (refine z_nil fun vals => ?_; conv => whnf) | (refine And.intro ?_ ?_; (focus (first | exact rfl | exact Nat.le_of_ble_eq_true rfl | decide | omega | fail)); conv => whnf) | (refine g_seq ?_) | (refine XS.go ?_) | (refine g_cond ?_; conv => whnf) | fail)
    refine Br.f ?_ ?_
    · simp [hs]
    conv => whnf
    repeat' (first | (refine z_ld1 ?_; first | (refine z_ld rfl rfl rfl rfl (by first | (simp only [List.length_set]; assumption) | assumption | omega) (by first | exact elt_set (by first | assumption | (simp only [List.length_set]; assumption)) | assumption) ?_; conv => whnf) | (refine z_ld0 rfl ?_; conv => whnf)) | (refine z_st1 ?_; first | (refine z_st rfl rfl rfl (by first | (simp only [List.length_set]; assumption) | assumption | omega) (by first | exact elt_set (by first | assumption | (simp only [List.length_set]; assumption)) | assumption) rfl rfl ?_; conv => whnf) | (refine z_st0 ?_; conv => whnf)) | (refine zs_ops ?_ ?_; (focus exact rfl)) | (refine z_nil fun vals => ?_; conv => whnf) | (refine And.intro ?_ ?_; (focus (first | exact rfl | exact Nat.le_of_ble_eq_true rfl | decide | omega | fail)); conv => whnf) | (refine g_seq ?_) | (refine XS.go ?_) | (refine g_ret ?_; conv => whnf) | (refine g_exit ?_; conv => whnf) | (refine r_c ?_; conv => whnf) | (refine r_nil ?_; conv => whnf) | fail)
    (conv => lhs; whnf)
    rw [e0]
    rfl
  · have e0 : cntOf b name = cntUp name.toList (b.fServices.getD (svcI b name).toNat default).fImage b.fCopies b.fCopies.length := by unfold cntOf; rw [if_neg hs]
    have hlt0 := (svcI_hit b name hs).1
    repeat' (first | (refine z_ld1 ?_; first | (refine z_ld rfl rfl rfl rfl (by first | (simp only [List.length_set]; assumption) | assumption | omega) (by first | exact elt_set (by first | assumption | (simp only [List.length_set]; assumption)) | assumption) ?_; conv => whnf) | (refine z_ld0 rfl ?_; conv => whnf)) | (refine z_st1 ?_; first | (refine z_st rfl rfl rfl (by first | (simp only [List.length_set]; assumption) | assumption | omega) (by first | exact elt_set (by first | assumption | (simp only [List.length_set]; assumption)) | assumption) rfl rfl ?_; conv => whnf) | (refine z_st0 ?_; conv => whnf)) | (refine z_op ?_ ?_; (focus exact rfl); conv => whnf) | (refine zs_ops ?_ ?_; (focus exact rfl)) | (refine z_nil fun vals => ?_; conv => whnf) | (refine z_call ?_ ?_; (focus exact rfl)) | (refine z_eff ?_; conv => whnf) | (refine RC.of (spec_Service b _ h1) ?_ ?_; (focus exact rfl); conv => whnf) | (refine g_op ?_; conv => whnf) | (refine And.intro ?_ ?_; (focus (first | exact rfl | exact Nat.le_of_ble_eq_true rfl | decide | omega | fail)); conv => whnf) | (refine g_seq ?_) | (refine XS.go ?_) | (refine g_ops ?_) | (refine g_loop ?_) | (refine g_nil ?_; conv => whnf) | (refine g_block ?_) | (refine fun _ => ?_; conv => whnf) | fail)
    refine XLc.mkL (α := Nat) (fun i => i ≤ b.fCopies.length) (fun i => b.fCopies.length - i) (fun i gs => [.any, .str name, .cref b.D, .any, .lref 4 (gs 4) [] 0, .lref 5 (gs 5) [] 0, .int .i64 (svcI b name), .int .i64 (i : Int)]) (fun i gs => [none, none, none, none, some z5.D, some (cntUp name.toList (b.fServices.getD (svcI b name).toNat default).fImage b.fCopies i).D]) 0 (Nat.zero_le _) ?_ ?_
    · refine ⟨?_, ?_⟩
      · repeat' (first | exact True.intro | refine And.intro rfl ?_)
      · repeat' (first | exact True.intro | refine And.intro rfl ?_)
    intro i gs hi
    repeat' (first | (refine z_ld1 ?_; first | (refine z_ld rfl rfl rfl rfl (by first | (simp only [List.length_set]; assumption) | assumption | omega) (by first | exact elt_set (by first | assumption | (simp only [List.length_set]; assumption)) | assumption) ?_; conv => whnf) | (refine z_ld0 rfl ?_; conv => whnf)) | (refine z_op ?_ ?_; (focus exact rfl); conv => whnf) | (refine z_opg0 ?_; (conv => whnf); refine And.intro ?_ ?_; (focus exact rfl); conv => whnf) | (refine z_pick ?_ ?_; (focus exact rfl); conv => whnf) | (refine zs_ops ?_ ?_; (focus exact rfl)) | (refine z_nil fun vals => ?_; conv => whnf) | (refine And.intro ?_ ?_; (focus (first | exact rfl | exact Nat.le_of_ble_eq_true rfl | decide | omega | fail)); conv => whnf) | (refine g_seq ?_) | (refine XS.go ?_) | (refine g_cond ?_; conv => whnf) | fail)
    refine Br.mk (fun hb => ?_) (fun hb => ?_)
    · have hlt : i < b.fCopies.length := by simp at hb; exact hb.1
      have hw : IntKind.wrap .i64 ((i : Int) + 1) = ((i + 1 : Nat) : Int) := by rw [wrap_ok (by omega) (by omega)]; rfl
      clear hb
      have hst : cntUp name.toList (b.fServices.getD (svcI b name).toNat default).fImage b.fCopies (i + 1) = stepC name.toList (b.fServices.getD (svcI b name).toNat default).fImage (cntUp name.toList (b.fServices.getD (svcI b name).toNat default).fImage b.fCopies i) (b.fCopies.getD i default) := rfl
      generalize hacc : cntUp name.toList (b.fServices.getD (svcI b name).toNat default).fImage b.fCopies i = acc at *
      clear e0
      conv => whnf
      repeat' (first | (refine z_ld1 ?_; first | (refine z_ld rfl rfl rfl rfl (by first | (simp only [List.length_set]; assumption) | assumption | omega) (by first | exact elt_set (by first | assumption | (simp only [List.length_set]; assumption)) | assumption) ?_; conv => whnf) | (refine z_ld0 rfl ?_; conv => whnf)) | (refine z_st1 ?_; first | (refine z_st rfl rfl rfl (by first | (simp only [List.length_set]; assumption) | assumption | omega) (by first | exact elt_set (by first | assumption | (simp only [List.length_set]; assumption)) | assumption) rfl rfl ?_; conv => whnf) | (refine z_st0 ?_; conv => whnf)) | (refine z_ix1 ?_; first | (refine z_ix rfl rfl rfl rfl rfl ⟨by first | omega | (simp only [decide_eq_true_eq, Bool.not_eq_true', Bool.or_eq_false_iff, decide_eq_false_iff_not, Bool.and_eq_true, Bool.not_eq_false'] at *; omega), by first | omega | (simp only [decide_eq_true_eq, Bool.not_eq_true', Bool.or_eq_false_iff, decide_eq_false_iff_not, Bool.and_eq_true, Bool.not_eq_false'] at *; omega)⟩ ?_; conv => whnf) | (refine z_ix0 rfl rfl ?_; conv => whnf)) | (refine z_op ?_ ?_; (focus exact rfl); conv => whnf) | (refine zs_ops ?_ ?_; (focus exact rfl)) | (refine zs_quiet ?_ ?_; (focus exact rfl)) | (refine z_nil fun vals => ?_; conv => whnf) | (refine z_eff ?_; conv => whnf) | (refine g_op ?_; conv => whnf) | (refine And.intro ?_ ?_; (focus (first | exact rfl | exact Nat.le_of_ble_eq_true rfl | decide | omega | fail)); conv => whnf) | (refine g_seq ?_) | (refine XS.go ?_) | (refine g_ops ?_) | (refine g_nil ?_; conv => whnf) | (refine g_cond ?_; conv => whnf) | (refine g_skip ?_; conv => whnf) | (refine g_exit ?_; conv => whnf) | (refine g_block ?_) | (refine fun _ => ?_; conv => whnf) | (refine Br.mk (fun hb => ?_) (fun hb => ?_) <;> conv => whnf) | fail)
      all_goals
        refine ⟨i + 1, by omega, by omega, ?_, ?_⟩
        · repeat' (first | exact True.intro | refine And.intro (congrArg (D.int .i64) hw) ?_ | refine And.intro rfl ?_)
        · refine And.intro rfl (And.intro (congrArg some ?_) True.intro)
          rw [hst]
          clear hst hacc hw
          simp_all [stepC, StewCount.D]
    · have he : i = b.fCopies.length := by
        have hq : ¬ i < b.fCopies.length := fun h => by
          simp at hb
          have := hb (by omega)
          omega
        omega
      subst he
      clear hb
      rw [e0]
      clear e0
      generalize cntUp name.toList (b.fServices.getD (svcI b name).toNat default).fImage b.fCopies b.fCopies.length = acc at *
      conv => whnf
      repeat' (first | (refine z_ld1 ?_; first | (refine z_ld rfl rfl rfl rfl (by first | (simp only [List.length_set]; assumption) | assumption | omega) (by first | exact elt_set (by first | assumption | (simp only [List.length_set]; assumption)) | assumption) ?_; conv => whnf) | (refine z_ld0 rfl ?_; conv => whnf)) | (refine z_st1 ?_; first | (refine z_st rfl rfl rfl (by first | (simp only [List.length_set]; assumption) | assumption | omega) (by first | exact elt_set (by first | assumption | (simp only [List.length_set]; assumption)) | assumption) rfl rfl ?_; conv => whnf) | (refine z_st0 ?_; conv => whnf)) | (refine zs_ops ?_ ?_; (focus exact rfl)) | (refine z_nil fun vals => ?_; conv => whnf) | (refine And.intro ?_ ?_; (focus (first | exact rfl | exact Nat.le_of_ble_eq_true rfl | decide | omega | fail)); conv => whnf) | (refine g_seq ?_) | (refine XS.go ?_) | (refine g_ret ?_; conv => whnf) | (refine g_exit ?_; conv => whnf) | (refine r_c ?_; conv => whnf) | (refine r_nil ?_; conv => whnf) | fail)
      (conv => lhs; whnf)
      rfl
def countOf (b : StewBook) (name : ByteArray) : StewCount := if valid b = true then cntOf b name else z5
set_option maxHeartbeats 8000000 in
theorem spec_CountOf (b : StewBook) (name : ByteArray) (h1 : b.fServices.length ≤ 1048576) (h2 : b.fBerths.length ≤ 1048576) (h3 : b.fCopies.length ≤ 1048576) : Rdr Try.prog 30 [b.D, .str name] ((countOf b name).D) := by
  refine Rdr.intro' hm c30 (Nat.le_of_ble_eq_true rfl) ?_
  conv => whnf
  repeat' (first | (refine z_ld1 ?_; first | (refine z_ld rfl rfl rfl rfl (by first | (simp only [List.length_set]; assumption) | assumption | omega) (by first | exact elt_set (by first | assumption | (simp only [List.length_set]; assumption)) | assumption) ?_; conv => whnf) | (refine z_ld0 rfl ?_; conv => whnf)) | (refine z_op ?_ ?_; (focus exact rfl); conv => whnf) | (refine zs_ops ?_ ?_; (focus exact rfl)) | (refine z_nil fun vals => ?_; conv => whnf) | (refine z_call ?_ ?_; (focus exact rfl)) | (refine RC.of (spec_Valid b h1 h2 h3) ?_ ?_; (focus exact rfl); conv => whnf) | (refine g_op ?_; conv => whnf) | (refine And.intro ?_ ?_; (focus (first | exact rfl | exact Nat.le_of_ble_eq_true rfl | decide | omega | fail)); conv => whnf) | (refine g_seq ?_) | (refine XS.go ?_) | (refine g_ops ?_) | (refine g_nil ?_; conv => whnf) | (refine g_cond ?_; conv => whnf) | (refine fun _ => ?_; conv => whnf) | fail)
  refine Br.mk (fun hb => ?_) (fun hb => ?_)
  · have e : countOf b name = z5 := by unfold countOf; rw [if_neg (by simpa using hb)]
    conv => whnf
    repeat' (first | (refine z_st1 ?_; first | (refine z_st rfl rfl rfl (by first | (simp only [List.length_set]; assumption) | assumption | omega) (by first | exact elt_set (by first | assumption | (simp only [List.length_set]; assumption)) | assumption) rfl rfl ?_; conv => whnf) | (refine z_st0 ?_; conv => whnf)) | (refine z_op ?_ ?_; (focus exact rfl); conv => whnf) | (refine zs_ops ?_ ?_; (focus exact rfl)) | (refine z_nil fun vals => ?_; conv => whnf) | (refine And.intro ?_ ?_; (focus (first | exact rfl | exact Nat.le_of_ble_eq_true rfl | decide | omega | fail)); conv => whnf) | (refine g_seq ?_) | (refine XS.go ?_) | (refine g_ret ?_; conv => whnf) | (refine r_c ?_; conv => whnf) | (refine r_nil ?_; conv => whnf) | fail)
    (conv => lhs; whnf)
    rw [e]
    rfl
  have e : countOf b name = cntOf b name := by unfold countOf; rw [if_pos (by simpa using hb)]
  rw [e]
  have hc := spec_count b name h1 h3
  generalize cntOf b name = r at *
  conv => whnf
  repeat' (first | (refine z_ld1 ?_; first | (refine z_ld rfl rfl rfl rfl (by first | (simp only [List.length_set]; assumption) | assumption | omega) (by first | exact elt_set (by first | assumption | (simp only [List.length_set]; assumption)) | assumption) ?_; conv => whnf) | (refine z_ld0 rfl ?_; conv => whnf)) | (refine z_st1 ?_; first | (refine z_st rfl rfl rfl (by first | (simp only [List.length_set]; assumption) | assumption | omega) (by first | exact elt_set (by first | assumption | (simp only [List.length_set]; assumption)) | assumption) rfl rfl ?_; conv => whnf) | (refine z_st0 ?_; conv => whnf)) | (refine z_op ?_ ?_; (focus exact rfl); conv => whnf) | (refine zs_ops ?_ ?_; (focus exact rfl)) | (refine z_nil fun vals => ?_; conv => whnf) | (refine z_call ?_ ?_; (focus exact rfl)) | (refine RC.of (hc) ?_ ?_; (focus exact rfl); conv => whnf) | (refine And.intro ?_ ?_; (focus (first | exact rfl | exact Nat.le_of_ble_eq_true rfl | decide | omega | fail)); conv => whnf) | (refine g_seq ?_) | (refine XS.go ?_) | (refine g_skip ?_; conv => whnf) | (refine g_ret ?_; conv => whnf) | (refine r_c ?_; conv => whnf) | (refine r_nil ?_; conv => whnf) | fail)
  (conv => lhs; whnf)
  rfl
set_option maxHeartbeats 8000000 in
theorem impl_CountOf (b : StewBook) (name : ByteArray) (h1 : b.fServices.length ≤ 1048576) (h2 : b.fBerths.length ≤ 1048576) (h3 : b.fCopies.length ≤ 1048576) : Rdr Try.prog 31 [b.D, .str name] ((countOf b name).D) := by
  refine Rdr.intro' hm c31 (Nat.le_of_ble_eq_true rfl) ?_
  conv => whnf
  repeat' (first | (refine g_op ?_; conv => whnf) | (refine And.intro ?_ ?_; (focus (first | exact rfl | exact Nat.le_of_ble_eq_true rfl | decide | omega | fail)); conv => whnf) | (refine g_seq ?_) | (refine g_ops ?_) | (refine g_nil ?_; conv => whnf) | (refine fun _ => ?_; conv => whnf) | fail)
  refine XS.freezeB 2 rfl ?_
  repeat' (first | (refine z_ld1 ?_; first | (refine z_ld rfl rfl rfl rfl (by first | (simp only [List.length_set]; assumption) | assumption | omega) (by first | exact elt_set (by first | assumption | (simp only [List.length_set]; assumption)) | assumption) ?_; conv => whnf) | (refine z_ld0 rfl ?_; conv => whnf)) | (refine z_op ?_ ?_; (focus exact rfl); conv => whnf) | (refine zs_ops ?_ ?_; (focus exact rfl)) | (refine z_nil fun vals => ?_; conv => whnf) | (refine z_call ?_ ?_; (focus exact rfl)) | (refine RC.of (impl_Valid b h1 h2 h3) ?_ ?_; (focus exact rfl); conv => whnf) | (refine And.intro ?_ ?_; (focus (first | exact rfl | exact Nat.le_of_ble_eq_true rfl | decide | omega | fail)); conv => whnf) | (refine g_seq ?_) | (refine XS.go ?_) | (refine g_cond ?_; conv => whnf) | fail)
  refine Br.mk (fun hb => ?_) (fun hb => ?_)
  · have e : countOf b name = z5 := by unfold countOf; rw [if_neg (by simpa using hb)]
    conv => whnf
    repeat' (first | (refine z_st1 ?_; first | (refine z_st rfl rfl rfl (by first | (simp only [List.length_set]; assumption) | assumption | omega) (by first | exact elt_set (by first | assumption | (simp only [List.length_set]; assumption)) | assumption) rfl rfl ?_; conv => whnf) | (refine z_st0 ?_; conv => whnf)) | (refine z_op ?_ ?_; (focus exact rfl); conv => whnf) | (refine zs_ops ?_ ?_; (focus exact rfl)) | (refine z_nil fun vals => ?_; conv => whnf) | (refine And.intro ?_ ?_; (focus (first | exact rfl | exact Nat.le_of_ble_eq_true rfl | decide | omega | fail)); conv => whnf) | (refine g_seq ?_) | (refine XS.go ?_) | (refine g_ret ?_; conv => whnf) | (refine r_c ?_; conv => whnf) | (refine r_nil ?_; conv => whnf) | fail)
    (conv => lhs; whnf)
    rw [e]
    rfl
  have e : countOf b name = cntOf b name := by unfold countOf; rw [if_pos (by simpa using hb)]
  rw [e]
  have hs := impl_service b name h1
  by_cases hs0 : svcI b name < 0
  · rw [ptr_none hs0] at hs
    have e0 : cntOf b name = z5 := by unfold cntOf; rw [if_pos hs0]
    conv => whnf
    repeat' (first | (refine z_st1 ?_; first | (refine z_st rfl rfl rfl (by first | (simp only [List.length_set]; assumption) | assumption | omega) (by first | exact elt_set (by first | assumption | (simp only [List.length_set]; assumption)) | assumption) rfl rfl ?_; conv => whnf) | (refine z_st0 ?_; conv => whnf)) | (refine z_op ?_ ?_; (focus exact rfl); conv => whnf) | (refine zs_ops ?_ ?_; (focus exact rfl)) | (refine z_nil fun vals => ?_; conv => whnf) | (refine g_op ?_; conv => whnf) | (refine And.intro ?_ ?_; (focus (first | exact rfl | exact Nat.le_of_ble_eq_true rfl | decide | omega | fail)); conv => whnf) | (refine g_seq ?_) | (refine XS.go ?_) | (refine g_ops ?_) | (refine g_nil ?_; conv => whnf) | (refine Br.t ?_ ?_; (focus (first | assumption | exact rfl)); conv => whnf) | (refine g_cond ?_; conv => whnf) | (refine g_skip ?_; conv => whnf) | (refine g_ret ?_; conv => whnf) | (refine r_c ?_; conv => whnf) | (refine r_nil ?_; conv => whnf) | (refine XCL.of_rdr (hs) ?_; conv => whnf) | fail)
    (conv => lhs; whnf)
    rw [e0]
    rfl
  · rw [ptr_some hs0] at hs
    have e0 : cntOf b name = cntUp name.toList (b.fServices.getD (svcI b name).toNat default).fImage b.fCopies b.fCopies.length := by unfold cntOf; rw [if_neg hs0]
    have hc := impl_count b (b.fServices.getD (svcI b name).toNat default) h3
    rw [(svcI_hit b name hs0).2, ← e0] at hc
    generalize cntOf b name = r at *
    conv => whnf
    repeat' (first | (refine z_st1 ?_; first | (refine z_st rfl rfl rfl (by first | (simp only [List.length_set]; assumption) | assumption | omega) (by first | exact elt_set (by first | assumption | (simp only [List.length_set]; assumption)) | assumption) rfl rfl ?_; conv => whnf) | (refine z_st0 ?_; conv => whnf)) | (refine z_op ?_ ?_; (focus exact rfl); conv => whnf) | (refine zs_ops ?_ ?_; (focus exact rfl)) | (refine z_nil fun vals => ?_; conv => whnf) | (refine z_call ?_ ?_; (focus exact rfl)) | (refine RC.of (hc) ?_ ?_; (focus exact rfl); conv => whnf) | (refine g_op ?_; conv => whnf) | (refine And.intro ?_ ?_; (focus (first | exact rfl | exact Nat.le_of_ble_eq_true rfl | decide | omega | fail)); conv => whnf) | (refine g_seq ?_) | (refine XS.go ?_) | (refine g_ops ?_) | (refine g_nil ?_; conv => whnf) | (refine Br.f ?_ ?_; (focus (first | assumption | exact rfl)); conv => whnf) | (refine g_cond ?_; conv => whnf) | (refine g_skip ?_; conv => whnf) | (refine g_ret ?_; conv => whnf) | (refine r_c ?_; conv => whnf) | (refine r_nil ?_; conv => whnf) | (refine XCL.of_rdr (hs) ?_; conv => whnf) | fail)
    (conv => lhs; whnf)
    rfl
set_option maxHeartbeats 8000000 in
theorem law_StewCountOf (x : StewBook) (name : ByteArray) (hw : x.wf) : Rdr Try.prog 6 [x.D, .str name] (.bool true) := by
  refine Rdr.intro' hm c6 (Nat.le_of_ble_eq_true rfl) ?_
  conv => whnf
  repeat' (first | (refine g_op ?_; conv => whnf) | (refine And.intro ?_ ?_; (focus (first | exact rfl | exact Nat.le_of_ble_eq_true rfl | decide | omega | fail)); conv => whnf) | (refine g_seq ?_) | (refine g_ops ?_) | (refine g_nil ?_; conv => whnf) | (refine fun _ => ?_; conv => whnf) | fail)
  refine XS.freezeB 2 rfl ?_
  repeat' (first | (refine g_op ?_; conv => whnf) | (refine And.intro ?_ ?_; (focus (first | exact rfl | exact Nat.le_of_ble_eq_true rfl | decide | omega | fail)); conv => whnf) | (refine g_seq ?_) | (refine XS.go ?_) | (refine g_ops ?_) | (refine g_nil ?_; conv => whnf) | (refine g_cond ?_; conv => whnf) | fail)
  refine Br.mk (fun hb => ?_) (fun hb => ?_)
  · conv => whnf
    repeat' (first | (refine g_op ?_; conv => whnf) | (refine And.intro ?_ ?_; (focus (first | exact rfl | exact Nat.le_of_ble_eq_true rfl | decide | omega | fail)); conv => whnf) | (refine g_seq ?_) | (refine XS.go ?_) | (refine g_ops ?_) | (refine g_nil ?_; conv => whnf) | (refine g_ret ?_; conv => whnf) | (refine r_t ?_; conv => whnf) | (refine r_nil ?_; conv => whnf) | fail)
    rfl
  conv => whnf
  repeat' (first | (refine g_op ?_; conv => whnf) | (refine And.intro ?_ ?_; (focus (first | exact rfl | exact Nat.le_of_ble_eq_true rfl | decide | omega | fail)); conv => whnf) | (refine g_seq ?_) | (refine XS.go ?_) | (refine g_ops ?_) | (refine g_nil ?_; conv => whnf) | (refine g_skip ?_; conv => whnf) | fail)
  refine XCL.ask (sz_StewBook x _ hw (by decide) (by decide)) (fun d h => ?_)
  obtain ⟨n, rfl, hn⟩ := h
  conv => whnf
  repeat' (first | (refine g_op ?_; conv => whnf) | (refine And.intro ?_ ?_; (focus (first | exact rfl | exact Nat.le_of_ble_eq_true rfl | decide | omega | fail)); conv => whnf) | (refine g_seq ?_) | (refine XS.go ?_) | (refine g_ops ?_) | (refine g_nil ?_; conv => whnf) | (refine g_cond ?_; conv => whnf) | fail)
  refine Br.mk (fun hb => ?_) (fun hb => ?_)
  · conv => whnf
    repeat' (first | (refine g_op ?_; conv => whnf) | (refine And.intro ?_ ?_; (focus (first | exact rfl | exact Nat.le_of_ble_eq_true rfl | decide | omega | fail)); conv => whnf) | (refine g_seq ?_) | (refine XS.go ?_) | (refine g_ops ?_) | (refine g_nil ?_; conv => whnf) | (refine g_ret ?_; conv => whnf) | (refine r_t ?_; conv => whnf) | (refine r_nil ?_; conv => whnf) | fail)
    rfl
  have hs := (hn (Int.not_lt.1 (of_decide_eq_false hb))).2
  have q1 := spec_CountOf x name hs.fServices.1 hs.fBerths.1 hs.fCopies.1
  have q2 := impl_CountOf x name hs.fServices.1 hs.fBerths.1 hs.fCopies.1
  generalize countOf x name = r at *
  conv => whnf
  repeat' (first | (refine g_op ?_; conv => whnf) | (refine And.intro ?_ ?_; (focus (first | exact rfl | exact Nat.le_of_ble_eq_true rfl | decide | omega | fail)); conv => whnf) | (refine g_seq ?_) | (refine XS.go ?_) | (refine g_ops ?_) | (refine g_nil ?_; conv => whnf) | (refine Br.f ?_ ?_; (focus (first | assumption | exact rfl)); conv => whnf) | (refine g_cond ?_; conv => whnf) | (refine g_skip ?_; conv => whnf) | (refine g_ret ?_; conv => whnf) | (refine g_quiet ?_) | (refine q_op ?_; conv => whnf) | (refine q_nil ?_; conv => whnf) | (refine r_t ?_; conv => whnf) | (refine r_nil ?_; conv => whnf) | (refine fun _ => ?_; conv => whnf) | (refine XCL.of_rdr (to_StewBook x hs) ?_; conv => whnf) | (refine XCL.of_rdr (q1) ?_; conv => whnf) | (refine XCL.of_rdr (q2) ?_; conv => whnf) | (refine XCL.of_rdr (eq_StewCount r ⟨⟩) ?_; conv => whnf) | (refine QC.of_rdr (to_StewBook x hs) ?_; conv => whnf) | (refine QC.of_rdr (eq_StewBook x hs) ?_; conv => whnf) | fail)
  rfl
end Go.Ab
