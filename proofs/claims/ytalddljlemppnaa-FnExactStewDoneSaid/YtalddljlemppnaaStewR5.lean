/- Steps towards the law: contracts of functions and facts of lists. -/
import Derived.Test.YtalddljlemppnaaStewR4
import Derived.Test.YtalddljlemppnaaRows
set_option linter.unusedSimpArgs false
set_option linter.unusedVariables false
namespace Go.Ab
open Go Go.RowKit Go.Proofs
attribute [local irreducible] XC Rdr IntKind.wrap xw xos xqs xr xd
set_option maxRecDepth 100000

/-- spec.l22Desired -/
def cf98 : CF := ⟨26, [.t 2],
  (.seq (.ops [⟨some 1, .bx (.t 0), none⟩,
    ⟨some 2, .mv (.k (.int .i64 0)), none⟩])
  (.seq (.ops [⟨some 4, .fa 11 1 11 (.t 1), none⟩,
    ⟨some 5, .ld 1 false (.t 4), none⟩,
    ⟨some 6, .fa 8 1 8 (.t 1), none⟩,
    ⟨some 7, .ld 1 false (.t 6), none⟩,
    ⟨some 8, .bin .add (.t 5) (.t 7), none⟩,
    ⟨some 9, .bin .sub (.t 8) (.k (.int .i64 1)), none⟩,
    ⟨some 10, .fa 8 1 8 (.t 1), none⟩,
    ⟨some 11, .ld 1 false (.t 10), none⟩,
    ⟨some 12, .bin .quo (.t 9) (.t 11), none⟩,
    ⟨some 3, .mv (.t 12), none⟩])
  (.seq (.seq (.ops [⟨some 13, .mv (.t 3), none⟩,
    ⟨some 14, .fa 9 1 9 (.t 1), none⟩,
    ⟨some 15, .ld 1 false (.t 14), none⟩,
    ⟨some 16, .bin .lss (.t 13) (.t 15), none⟩])
  (.cond (.t 16)
  (.ops [⟨some 17, .fa 9 1 9 (.t 1), none⟩,
    ⟨some 18, .ld 1 false (.t 17), none⟩,
    ⟨some 3, .mv (.t 18), none⟩])
  .skip))
  (.seq (.seq (.ops [⟨some 19, .mv (.t 3), none⟩,
    ⟨some 20, .fa 10 1 10 (.t 1), none⟩,
    ⟨some 21, .ld 1 false (.t 20), none⟩,
    ⟨some 22, .bin .gtr (.t 19) (.t 21), none⟩])
  (.cond (.t 22)
  (.ops [⟨some 23, .fa 10 1 10 (.t 1), none⟩,
    ⟨some 24, .ld 1 false (.t 23), none⟩,
    ⟨some 3, .mv (.t 24), none⟩])
  .skip))
  (.seq (.ops [⟨some 25, .mv (.t 3), none⟩,
    ⟨some 2, .mv (.t 25), none⟩])
  .ret)))))⟩
theorem c98 : compileF Try.prog [] 98 = some cf98 := by kernel_rfl
/-- impl.demand -/
def cf99 : CF := ⟨28, [.t 2],
  (.seq (.ops [⟨some 2, .mv (.k (.int .i64 0)), none⟩])
  (.seq (.quiet [⟨some 3, .mv (.t 0), none⟩,
    ⟨some 4, .nilc (.t 3), none⟩,
    ⟨some 5, .fa 11 1 11 (.t 4), none⟩,
    ⟨some 6, .ld 1 false (.t 5), none⟩,
    ⟨some 7, .mv (.t 0), none⟩,
    ⟨some 8, .nilc (.t 7), none⟩,
    ⟨some 9, .fa 8 1 8 (.t 8), none⟩,
    ⟨some 10, .ld 1 false (.t 9), none⟩,
    ⟨some 11, .bin .add (.t 6) (.t 10), none⟩,
    ⟨some 12, .bin .sub (.t 11) (.k (.int .i64 1)), none⟩,
    ⟨some 13, .mv (.t 0), none⟩,
    ⟨some 14, .nilc (.t 13), none⟩,
    ⟨some 15, .fa 8 1 8 (.t 14), none⟩,
    ⟨some 16, .ld 1 false (.t 15), none⟩,
    ⟨some 17, .bin .quo (.t 12) (.t 16), none⟩,
    ⟨some 18, .mv (.t 0), none⟩,
    ⟨some 19, .nilc (.t 18), none⟩,
    ⟨some 20, .fa 9 1 9 (.t 19), none⟩,
    ⟨some 21, .ld 1 false (.t 20), none⟩,
    ⟨some 22, .mnx true (.t 17) (.t 21), none⟩,
    ⟨some 23, .mv (.t 0), none⟩,
    ⟨some 24, .nilc (.t 23), none⟩,
    ⟨some 25, .fa 10 1 10 (.t 24), none⟩,
    ⟨some 26, .ld 1 false (.t 25), none⟩,
    ⟨some 27, .mnx false (.t 22) (.t 26), none⟩,
    ⟨some 2, .mv (.t 27), none⟩])
  .ret))⟩
theorem c99 : compileF Try.prog [] 99 = some cf99 := by kernel_rfl
/-- spec.StewDone -/
def cf35 : CF := ⟨50, [.t 2],
  (.seq (.ops [⟨some 1, .bx (.t 0), none⟩,
    ⟨some 2, .mv (.k (.bool false)), none⟩])
  (.seq (.seq (.ops [⟨some 7, .ld 4 true (.t 1), none⟩,
    ⟨some 8, .call 19 [(.t 7)], none⟩,
    ⟨some 9, .not (.t 8), none⟩])
  (.cond (.t 9)
  (.seq (.ops [⟨some 2, .mv (.k (.bool false)), none⟩])
  .ret)
  .skip))
  (.seq (.ops [⟨some 10, .ld 4 true (.t 1), none⟩,
    ⟨some 11, .call 37 [(.t 10)], none⟩,
    ⟨some 3, .mv (.t 11), none⟩])
  (.seq (.seq (.ops [⟨some 4, .mv (.k (.int .i64 0)), none⟩])
  (.block 0 (.loop (.seq (.seq (.ops [⟨some 12, .mv (.t 4), none⟩,
    ⟨some 13, .mv (.t 3), none⟩,
    ⟨some 14, .lenl (.t 13), none⟩,
    ⟨some 15, .bin .lss (.t 12) (.t 14), none⟩])
  (.cond (.t 15)
  .skip
  (.exit 0)))
  (.seq (.block 1 (.seq (.ops [⟨some 18, .mv (.t 3), none⟩,
    ⟨some 19, .mv (.t 4), none⟩,
    ⟨some 20, .ix 1 (.t 18) (.t 19), none⟩,
    ⟨some 21, .ld 1 false (.t 20), none⟩,
    ⟨some 22, .bin .neq (.t 21) (.k (.int .i64 0)), none⟩])
  (.cond (.t 22)
  (.seq (.ops [⟨some 2, .mv (.k (.bool false)), none⟩])
  .ret)
  .skip)))
  (.ops [⟨some 16, .mv (.t 4), none⟩,
    ⟨some 17, .bin .add (.t 16) (.k (.int .i64 1)), none⟩,
    ⟨some 4, .mv (.t 17), none⟩]))))))
  (.seq (.seq (.ops [⟨some 5, .mv (.k (.int .i64 0)), none⟩])
  (.block 2 (.loop (.seq (.seq (.ops [⟨some 23, .mv (.t 5), none⟩,
    ⟨some 24, .fa 1 1 1 (.t 1), none⟩,
    ⟨some 25, .ld 1 false (.t 24), none⟩,
    ⟨some 26, .lenl (.t 25), none⟩,
    ⟨some 27, .bin .lss (.t 23) (.t 26), none⟩])
  (.cond (.t 27)
  .skip
  (.exit 2)))
  (.seq (.block 3 (.seq (.ops [⟨some 30, .fa 1 1 1 (.t 1), none⟩,
    ⟨some 31, .ld 1 false (.t 30), none⟩,
    ⟨some 32, .mv (.t 5), none⟩,
    ⟨some 33, .ix 13 (.t 31) (.t 32), none⟩,
    ⟨some 34, .ld 13 true (.t 33), none⟩,
    ⟨some 6, .al (.agg [.str ⟨#[]⟩, .int .i64 0, .bool false, .int .i64 0, .int .i64 0, .int .i64 0, .int .i64 0, .int .i64 0, .int .i64 0, .int .i64 0, .int .i64 0, .int .i64 0, .int .i64 0]), none⟩,
    ⟨none, .st 13 (.t 6) (.t 34), none⟩])
  (.seq (.quiet [⟨some 35, .fa 8 1 8 (.t 6), none⟩,
    ⟨some 36, .ld 1 false (.t 35), none⟩,
    ⟨some 37, .bin .gtr (.t 36) (.k (.int .i64 0)), none⟩,
    ⟨some 38, .mv (.t 37), none⟩,
    ⟨some 39, .fa 4 1 4 (.t 6), some (38, true)⟩,
    ⟨some 40, .ld 1 false (.t 39), some (38, true)⟩,
    ⟨some 41, .ld 13 true (.t 6), some (38, true)⟩,
    ⟨some 42, .call 98 [(.t 41)], some (38, true)⟩,
    ⟨some 43, .bin .neq (.t 40) (.t 42), some (38, true)⟩,
    ⟨some 44, .mv (.t 43), some (38, true)⟩,
    ⟨some 45, .fa 12 1 12 (.t 6), some (44, false)⟩,
    ⟨some 46, .ld 1 false (.t 45), some (44, false)⟩,
    ⟨some 47, .bin .neq (.t 46) (.k (.int .i64 0)), some (44, false)⟩,
    ⟨some 48, .pick (.t 44) (.k (.bool true)) (.t 47), some (38, true)⟩,
    ⟨some 49, .pick (.t 38) (.t 48) (.k (.bool false)), none⟩])
  (.cond (.t 49)
  (.seq (.ops [⟨some 2, .mv (.k (.bool false)), none⟩])
  .ret)
  .skip))))
  (.ops [⟨some 28, .mv (.t 5), none⟩,
    ⟨some 29, .bin .add (.t 28) (.k (.int .i64 1)), none⟩,
    ⟨some 5, .mv (.t 29), none⟩]))))))
  (.seq (.ops [⟨some 2, .mv (.k (.bool true)), none⟩])
  .ret))))))⟩
theorem c35 : compileF Try.prog [] 35 = some cf35 := by kernel_rfl
/-- impl.StewDone -/
def cf36 : CF := ⟨52, [.t 2],
  (.seq (.ops [⟨some 1, .bx (.t 0), none⟩,
    ⟨some 2, .mv (.k (.bool false)), none⟩])
  (.seq (.seq (.ops [⟨some 7, .ld 4 true (.t 1), none⟩,
    ⟨some 8, .call 20 [(.t 7)], none⟩,
    ⟨some 9, .not (.t 8), none⟩])
  (.cond (.t 9)
  (.seq (.ops [⟨some 2, .mv (.k (.bool false)), none⟩])
  .ret)
  .skip))
  (.seq (.seq (.ops [⟨some 10, .ld 4 true (.t 1), none⟩,
    ⟨some 11, .call 38 [(.t 10)], none⟩,
    ⟨some 12, .lenl (.t 11), none⟩,
    ⟨some 13, .mv (.k (.int .i64 0)), none⟩])
  (.block 0 (.loop (.seq (.ops [⟨some 14, .bin .lss (.t 13) (.t 12), none⟩])
  (.seq (.cond (.t 14)
  .skip
  (.exit 0))
  (.seq (.block 1 (.seq (.ops [⟨some 15, .ix 1 (.t 11) (.t 13), none⟩,
    ⟨some 16, .ld 1 false (.t 15), none⟩,
    ⟨some 4, .mv (.t 16), none⟩])
  (.seq (.ops [⟨some 17, .mv (.t 4), none⟩,
    ⟨some 18, .bin .neq (.t 17) (.k (.int .i64 0)), none⟩])
  (.cond (.t 18)
  (.seq (.ops [⟨some 2, .mv (.k (.bool false)), none⟩])
  .ret)
  .skip))))
  (.ops [⟨some 19, .bin .add (.t 13) (.k (.int .i64 1)), none⟩,
    ⟨some 13, .mv (.t 19), none⟩])))))))
  (.seq (.seq (.ops [⟨some 20, .fa 1 1 1 (.t 1), none⟩,
    ⟨some 21, .ld 1 false (.t 20), none⟩,
    ⟨some 22, .lenl (.t 21), none⟩,
    ⟨some 23, .mv (.k (.int .i64 0)), none⟩])
  (.block 2 (.loop (.seq (.ops [⟨some 24, .bin .lss (.t 23) (.t 22), none⟩])
  (.seq (.cond (.t 24)
  .skip
  (.exit 2))
  (.seq (.block 3 (.seq (.ops [⟨some 25, .mv (.t 23), none⟩,
    ⟨some 5, .mv (.t 25), none⟩])
  (.seq (.ops [⟨some 26, .fa 1 1 1 (.t 1), none⟩,
    ⟨some 27, .ld 1 false (.t 26), none⟩,
    ⟨some 28, .mv (.t 5), none⟩,
    ⟨some 29, .ix 13 (.t 27) (.t 28), none⟩,
    ⟨some 6, .mv (.t 29), none⟩])
  (.seq (.quiet [⟨some 30, .mv (.t 6), none⟩,
    ⟨some 31, .nilc (.t 30), none⟩,
    ⟨some 32, .fa 8 1 8 (.t 31), none⟩,
    ⟨some 33, .ld 1 false (.t 32), none⟩,
    ⟨some 34, .bin .gtr (.t 33) (.k (.int .i64 0)), none⟩,
    ⟨some 35, .mv (.t 34), none⟩,
    ⟨some 36, .mv (.t 6), some (35, true)⟩,
    ⟨some 37, .nilc (.t 36), some (35, true)⟩,
    ⟨some 38, .fa 4 1 4 (.t 37), some (35, true)⟩,
    ⟨some 39, .ld 1 false (.t 38), some (35, true)⟩,
    ⟨some 40, .mv (.t 6), some (35, true)⟩,
    ⟨some 41, .call 99 [(.t 40)], some (35, true)⟩,
    ⟨some 42, .bin .neq (.t 39) (.t 41), some (35, true)⟩,
    ⟨some 43, .mv (.t 42), some (35, true)⟩,
    ⟨some 44, .mv (.t 6), some (43, false)⟩,
    ⟨some 45, .nilc (.t 44), some (43, false)⟩,
    ⟨some 46, .fa 12 1 12 (.t 45), some (43, false)⟩,
    ⟨some 47, .ld 1 false (.t 46), some (43, false)⟩,
    ⟨some 48, .bin .neq (.t 47) (.k (.int .i64 0)), some (43, false)⟩,
    ⟨some 49, .pick (.t 43) (.k (.bool true)) (.t 48), some (35, true)⟩,
    ⟨some 50, .pick (.t 35) (.t 49) (.k (.bool false)), none⟩])
  (.cond (.t 50)
  (.seq (.ops [⟨some 2, .mv (.k (.bool false)), none⟩])
  .ret)
  .skip)))))
  (.ops [⟨some 51, .bin .add (.t 23) (.k (.int .i64 1)), none⟩,
    ⟨some 23, .mv (.t 51), none⟩])))))))
  (.seq (.ops [⟨some 2, .mv (.k (.bool true)), none⟩])
  .ret)))))⟩
theorem c36 : compileF Try.prog [] 36 = some cf36 := by kernel_rfl
/-- laws.FnExactStewDone -/
def cf8 : CF := ⟨27, [.t 2],
  (.seq (.ops [⟨some 1, .bx (.t 0), none⟩,
    ⟨some 2, .mv (.k (.bool false)), none⟩])
  (.seq (.ops [⟨some 3, .mv (.k (.int .i64 1048576)), none⟩])
  (.seq (.ops [⟨some 7, .ld 4 true (.t 1), none⟩,
    ⟨some 8, .mv (.t 3), none⟩,
    ⟨some 9, .call 22 [(.t 7), (.t 8)], none⟩,
    ⟨some 3, .mv (.t 9), none⟩])
  (.seq (.seq (.ops [⟨some 10, .mv (.t 3), none⟩,
    ⟨some 11, .bin .lss (.t 10) (.k (.int .i64 0)), none⟩])
  (.cond (.t 11)
  (.seq (.ops [⟨some 2, .mv (.k (.bool true)), none⟩])
  .ret)
  .skip))
  (.seq (.ops [⟨some 12, .ld 4 true (.t 1), none⟩,
    ⟨some 13, .call 23 [(.t 12)], none⟩,
    ⟨some 14, .call 35 [(.t 13)], none⟩,
    ⟨some 4, .mv (.t 14), none⟩])
  (.seq (.ops [⟨some 15, .ld 4 true (.t 1), none⟩,
    ⟨some 16, .call 23 [(.t 15)], none⟩,
    ⟨some 5, .al (.agg [.int .i64 0, .nil, .nil, .nil]), none⟩,
    ⟨none, .st 4 (.t 5) (.t 16), none⟩])
  (.seq (.ops [⟨some 17, .ld 4 true (.t 5), none⟩,
    ⟨some 18, .call 36 [(.t 17)], none⟩,
    ⟨some 6, .mv (.t 18), none⟩])
  (.seq (.seq (.ops [⟨some 19, .mv (.t 6), none⟩,
    ⟨some 20, .mv (.t 4), none⟩,
    ⟨some 21, .binb true (.t 19) (.t 20), none⟩])
  (.cond (.t 21)
  (.seq (.ops [⟨some 2, .mv (.k (.bool false)), none⟩])
  .ret)
  .skip))
  (.seq (.seq (.quiet [⟨some 22, .ld 4 true (.t 5), none⟩,
    ⟨some 23, .ld 4 true (.t 1), none⟩,
    ⟨some 24, .call 23 [(.t 23)], none⟩,
    ⟨some 25, .call 24 [(.t 22), (.t 24)], none⟩,
    ⟨some 26, .not (.t 25), none⟩])
  (.cond (.t 26)
  (.seq (.ops [⟨some 2, .mv (.k (.bool false)), none⟩])
  .ret)
  .skip))
  (.seq (.ops [⟨some 2, .mv (.k (.bool true)), none⟩])
  .ret))))))))))⟩
theorem c8 : compileF Try.prog [] 8 = some cf8 := by kernel_rfl
def des0 (s : StewService) : Int := IntKind.wrap .i64 ((IntKind.wrap .i64 (IntKind.wrap .i64 (s.fLoad + s.fPer) - 1)).tdiv s.fPer)
def desP (s : StewService) : Int := min (max (des0 s) s.fLeast) s.fMost
set_option maxHeartbeats 4000000 in
theorem spec_Desired (s : StewService) (h : s.fPer > 0) : Rdr Try.prog 98 [s.D] (.int .i64 (desP s)) := by
  have h0 : s.fPer ≠ 0 := by omega
  refine Rdr.intro' hm c98 (Nat.le_of_ble_eq_true rfl) ?_
  conv => whnf
  repeat' (first | ((refine And.intro h0 ?_; conv => whnf)) | (refine z_ld1 ?_; first | (refine z_ld rfl rfl rfl rfl (by first | (simp only [List.length_set]; assumption) | assumption | omega) (by first | exact elt_set (by first | assumption | (simp only [List.length_set]; assumption)) | assumption) ?_; conv => whnf) | (refine z_ld0 rfl ?_; conv => whnf)) | (refine z_op ?_ ?_; (focus exact rfl); conv => whnf) | (refine zs_ops ?_ ?_; (focus exact rfl)) | (refine z_nil fun vals => ?_; conv => whnf) | (refine g_op ?_; conv => whnf) | (refine And.intro ?_ ?_; (focus (first | exact rfl | exact Nat.le_of_ble_eq_true rfl | decide | omega | fail)); conv => whnf) | (refine g_seq ?_) | (refine XS.go ?_) | (refine g_ops ?_) | (refine g_nil ?_; conv => whnf) | (refine g_cond ?_; conv => whnf) | (refine g_skip ?_; conv => whnf) | (refine g_ret ?_; conv => whnf) | (refine r_t ?_; conv => whnf) | (refine r_nil ?_; conv => whnf) | (refine fun _ => ?_; conv => whnf) | (refine Br.mk (fun hb => ?_) (fun hb => ?_) <;> conv => whnf) | fail)
  all_goals (conv => lhs; whnf)
  all_goals refine congrArg (D.int .i64) ?_
  all_goals simp only [decide_eq_true_eq, decide_eq_false_iff_not] at *
  all_goals unfold desP
  all_goals change _ = min (max (IntKind.wrap .i64 ((IntKind.wrap .i64 (IntKind.wrap .i64 (s.fLoad + s.fPer) - 1)).tdiv s.fPer)) s.fLeast) s.fMost
  all_goals omega
set_option maxHeartbeats 4000000 in
theorem impl_demand (s : StewService) (h : s.fPer > 0) : Rdr Try.prog 99 [.cref s.D] (.int .i64 (desP s)) := by
  have h0 : s.fPer ≠ 0 := by omega
  refine Rdr.intro' hm c99 (Nat.le_of_ble_eq_true rfl) ?_
  conv => whnf
  repeat' (first | ((refine And.intro h0 ?_; conv => whnf)) | (refine z_ld1 ?_; first | (refine z_ld rfl rfl rfl rfl (by first | (simp only [List.length_set]; assumption) | assumption | omega) (by first | exact elt_set (by first | assumption | (simp only [List.length_set]; assumption)) | assumption) ?_; conv => whnf) | (refine z_ld0 rfl ?_; conv => whnf)) | (refine z_op ?_ ?_; (focus exact rfl); conv => whnf) | (refine zs_quiet ?_ ?_; (focus exact rfl)) | (refine z_nil fun vals => ?_; conv => whnf) | (refine g_op ?_; conv => whnf) | (refine And.intro ?_ ?_; (focus (first | exact rfl | exact Nat.le_of_ble_eq_true rfl | decide | omega | fail)); conv => whnf) | (refine g_seq ?_) | (refine XS.go ?_) | (refine g_ops ?_) | (refine g_nil ?_; conv => whnf) | (refine g_ret ?_; conv => whnf) | (refine r_t ?_; conv => whnf) | (refine r_nil ?_; conv => whnf) | fail)
  rfl
def dF (b : StewBook) (i : Nat) : Bool := !(decide ((sv b i).fPer > 0) && ((sv b i).fWant != desP (sv b i) || (sv b i).fCool != 0))
def rF (b : StewBook) (i : Nat) : Bool := (rankL b).getD i default == 0
def doneP (b : StewBook) : Bool := valid b && (allN (rF b) (rankL b).length 0 && (allN (dF b) b.fServices.length 0 && true))
theorem rankL_len (b : StewBook) : (rankL b).length = 5 := by
  unfold rankL
  split <;> rfl
set_option maxHeartbeats 8000000 in
theorem spec_Done (b : StewBook) (h1 : b.fServices.length ≤ 1048576) (h2 : b.fBerths.length ≤ 1048576) (h3 : b.fCopies.length ≤ 1048576) : Rdr Try.prog 35 [b.D] (.bool (doneP b)) := by
  refine Rdr.intro' hm c35 (Nat.le_of_ble_eq_true rfl) ?_
  conv => whnf
  repeat' (first | (refine g_op ?_; conv => whnf) | (refine And.intro ?_ ?_; (focus (first | exact rfl | exact Nat.le_of_ble_eq_true rfl | decide | omega | fail)); conv => whnf) | (refine g_seq ?_) | (refine g_ops ?_) | (refine g_nil ?_; conv => whnf) | (refine fun _ => ?_; conv => whnf) | fail)
  refine XS.freezeB 1 rfl ?_
  have hV := spec_Valid b h1 h2 h3
  have hR := spec_Rank b h1 h2 h3
  have hlen := rankL_len b
  cases hv : valid b with
  | false =>
    rw [hv] at hV
    repeat' (first | (refine z_ld1 ?_; first | (refine z_ld rfl rfl rfl rfl (by first | (simp only [List.length_set]; assumption) | assumption | omega) (by first | exact elt_set (by first | assumption | (simp only [List.length_set]; assumption)) | assumption) ?_; conv => whnf) | (refine z_ld0 rfl ?_; conv => whnf)) | (refine z_op ?_ ?_; (focus exact rfl); conv => whnf) | (refine zs_ops ?_ ?_; (focus exact rfl)) | (refine z_nil fun vals => ?_; conv => whnf) | (refine z_call ?_ ?_; (focus exact rfl)) | (refine RC.of (hV) ?_ ?_; (focus exact rfl); conv => whnf) | (refine g_op ?_; conv => whnf) | (refine And.intro ?_ ?_; (focus (first | exact rfl | exact Nat.le_of_ble_eq_true rfl | decide | omega | fail)); conv => whnf) | (refine g_seq ?_) | (refine XS.go ?_) | (refine g_ops ?_) | (refine g_nil ?_; conv => whnf) | (refine Br.t ?_ ?_; (focus (first | assumption | exact rfl)); conv => whnf) | (refine g_cond ?_; conv => whnf) | (refine g_ret ?_; conv => whnf) | (refine r_t ?_; conv => whnf) | (refine r_nil ?_; conv => whnf) | fail)
    (conv => lhs; whnf)
    rw [doneP, hv]
    rfl
  | true =>
    rw [hv] at hV
    have hv2 : doneP b = (allN (rF b) (rankL b).length 0 && (allN (dF b) b.fServices.length 0 && true)) := by rw [doneP, hv]; rfl
    repeat' (first | (refine z_ld1 ?_; first | (refine z_ld rfl rfl rfl rfl (by first | (simp only [List.length_set]; assumption) | assumption | omega) (by first | exact elt_set (by first | assumption | (simp only [List.length_set]; assumption)) | assumption) ?_; conv => whnf) | (refine z_ld0 rfl ?_; conv => whnf)) | (refine z_op ?_ ?_; (focus exact rfl); conv => whnf) | (refine zs_ops ?_ ?_; (focus exact rfl)) | (refine z_nil fun vals => ?_; conv => whnf) | (refine z_call ?_ ?_; (focus exact rfl)) | (refine RC.of (hV) ?_ ?_; (focus exact rfl); conv => whnf) | (refine RC.of (hR) ?_ ?_; (focus exact rfl); conv => whnf) | (refine g_op ?_; conv => whnf) | (refine And.intro ?_ ?_; (focus (first | exact rfl | exact Nat.le_of_ble_eq_true rfl | decide | omega | fail)); conv => whnf) | (refine g_seq ?_) | (refine XS.go ?_) | (refine g_ops ?_) | (refine g_loop ?_) | (refine g_nil ?_; conv => whnf) | (refine Br.f ?_ ?_; (focus (first | assumption | exact rfl)); conv => whnf) | (refine g_cond ?_; conv => whnf) | (refine g_skip ?_; conv => whnf) | (refine g_block ?_) | fail)
    refine XLc.mkL (α := Nat) (fun i => i ≤ (rankL b).length ∧ doneP b = (allN (rF b) ((rankL b).length - i) i && (allN (dF b) b.fServices.length 0 && true))) (fun i => (rankL b).length - i) (fun i gs => [.any, .cref b.D, .any, .ro 1 ((rankL b).map (D.int .i64)), .int .i64 (i : Int)]) (fun i gs => []) 0 ⟨Nat.zero_le _, hv2⟩ ?_ ?_
    · refine ⟨?_, ?_⟩
      · repeat' (first | exact True.intro | refine And.intro rfl ?_)
      · repeat' (first | exact True.intro | refine And.intro rfl ?_)
    intro i gs hI
    obtain ⟨hi, hN⟩ := hI
    repeat' (first | (refine g_op ?_; conv => whnf) | (refine And.intro ?_ ?_; (focus (first | exact rfl | exact Nat.le_of_ble_eq_true rfl | decide | omega | fail)); conv => whnf) | (refine g_seq ?_) | (refine XS.go ?_) | (refine g_ops ?_) | (refine g_nil ?_; conv => whnf) | (refine g_cond ?_; conv => whnf) | fail)
    refine Br.mk (fun hb => ?_) (fun hb => ?_)
    · have hlt : i < (rankL b).length := by simpa using hb
      have hw : IntKind.wrap .i64 ((i : Int) + 1) = ((i + 1 : Nat) : Int) := by rw [wrap_ok (by omega) (by omega)]; rfl
      have hw1 : IntKind.wrap .i64 ((i : Int) - 1) = (i : Int) - 1 := wrap_ok (by omega) (by omega)
      have hbad := fun h => allN_bad (f := rF b) hlt hN h
      have hgood := fun h => allN_good (f := rF b) hlt hN h
      clear hN hb
      all_goals conv => whnf
      repeat' (first | (refine z_ld1 ?_; first | (refine z_ld rfl rfl rfl rfl (by first | (simp only [List.length_set]; assumption) | assumption | omega) (by first | exact elt_set (by first | assumption | (simp only [List.length_set]; assumption)) | assumption) ?_; conv => whnf) | (refine z_ld0 rfl ?_; conv => whnf)) | (refine z_ix1 ?_; first | (refine z_ix rfl rfl rfl rfl rfl ⟨by first | omega | (simp only [decide_eq_true_eq, Bool.not_eq_true', Bool.or_eq_false_iff, decide_eq_false_iff_not, Bool.and_eq_true, Bool.not_eq_false'] at *; omega), by first | omega | (simp only [decide_eq_true_eq, Bool.not_eq_true', Bool.or_eq_false_iff, decide_eq_false_iff_not, Bool.and_eq_true, Bool.not_eq_false'] at *; omega)⟩ ?_; conv => whnf) | (refine z_ix0 rfl rfl ?_; conv => whnf)) | (refine z_op ?_ ?_; (focus exact rfl); conv => whnf) | (refine zs_ops ?_ ?_; (focus exact rfl)) | (refine z_nil fun vals => ?_; conv => whnf) | (refine g_op ?_; conv => whnf) | (refine And.intro ?_ ?_; (focus (first | exact rfl | exact Nat.le_of_ble_eq_true rfl | decide | omega | fail)); conv => whnf) | (refine g_seq ?_) | (refine XS.go ?_) | (refine g_ops ?_) | (refine g_nil ?_; conv => whnf) | (refine g_cond ?_; conv => whnf) | (refine g_skip ?_; conv => whnf) | (refine g_ret ?_; conv => whnf) | (refine g_block ?_) | (refine r_t ?_; conv => whnf) | (refine r_nil ?_; conv => whnf) | (refine Br.mk (fun hb => ?_) (fun hb => ?_) <;> conv => whnf) | fail)
      all_goals
        first
        | (refine ⟨(), hbad ?_, ⟨?_, True.intro⟩⟩
           · clear hbad hgood hw hV hR
             first | (first | (refine (Bool.eq_false_iff.mpr fun h => ?_).symm; simp_all [rF]; done) | (refine Bool.eq_false_iff.mpr fun h => ?_; simp_all [rF]; done) | (simp_all [rF]; done) | (simp_all [rF]; omega) | (refine (Bool.eq_false_iff.mpr fun h => ?_).symm; simp_all [rF]; omega) | (refine Bool.eq_false_iff.mpr fun h => ?_; simp_all [rF]; omega) | (rw [Bool.eq_iff_iff]; constructor <;> intro h <;> simp_all [rF] <;> omega) | fail) | (rcases Nat.eq_zero_or_pos i with h0 | h0 <;> simp_all [rF] <;> omega) | (fail) | fail
           · repeat' (first | exact True.intro | refine And.intro rfl ?_))
        | (conv => lhs; whnf
           refine congrArg D.bool (hbad ?_)
           clear hbad hgood hw hV hR
           first | (first | (refine (Bool.eq_false_iff.mpr fun h => ?_).symm; simp_all [rF]; done) | (refine Bool.eq_false_iff.mpr fun h => ?_; simp_all [rF]; done) | (simp_all [rF]; done) | (simp_all [rF]; omega) | (refine (Bool.eq_false_iff.mpr fun h => ?_).symm; simp_all [rF]; omega) | (refine Bool.eq_false_iff.mpr fun h => ?_; simp_all [rF]; omega) | (rw [Bool.eq_iff_iff]; constructor <;> intro h <;> simp_all [rF] <;> omega) | fail) | (rcases Nat.eq_zero_or_pos i with h0 | h0 <;> simp_all [rF] <;> omega) | (fail) | fail)
        | (refine ⟨i + 1, ⟨by omega, ?_⟩, by omega, ?_, ?_⟩
           · refine hgood ?_
             clear hbad hgood hw hV hR
             first | (first | (refine (Bool.eq_false_iff.mpr fun h => ?_).symm; simp_all [rF]; done) | (refine Bool.eq_false_iff.mpr fun h => ?_; simp_all [rF]; done) | (simp_all [rF]; done) | (simp_all [rF]; omega) | (refine (Bool.eq_false_iff.mpr fun h => ?_).symm; simp_all [rF]; omega) | (refine Bool.eq_false_iff.mpr fun h => ?_; simp_all [rF]; omega) | (rw [Bool.eq_iff_iff]; constructor <;> intro h <;> simp_all [rF] <;> omega) | fail) | (rcases Nat.eq_zero_or_pos i with h0 | h0 <;> simp_all [rF] <;> omega) | (fail) | fail
           · repeat' (first | exact True.intro | refine And.intro (congrArg (D.int .i64) hw) ?_ | refine And.intro rfl ?_)
           · repeat' (first | exact True.intro | refine And.intro rfl ?_))
    have hge : ¬ i < (rankL b).length := by simpa using hb
    have hend : doneP b = (allN (dF b) b.fServices.length 0 && true) := by rw [hN, allN_end hge, Bool.true_and]
    clear hN
    conv => whnf
    repeat' (first | (refine g_op ?_; conv => whnf) | (refine And.intro ?_ ?_; (focus (first | exact rfl | exact Nat.le_of_ble_eq_true rfl | decide | omega | fail)); conv => whnf) | (refine g_seq ?_) | (refine XS.go ?_) | (refine g_ops ?_) | (refine g_loop ?_) | (refine g_nil ?_; conv => whnf) | (refine g_exit ?_; conv => whnf) | (refine g_block ?_) | fail)
    refine XLc.mkL (α := Nat) (fun i => i ≤ b.fServices.length ∧ doneP b = (allN (dF b) (b.fServices.length - i) i && true)) (fun i => b.fServices.length - i) (fun i gs => [.any, .cref b.D, .any, .any, .any, .int .i64 (i : Int)]) (fun i gs => []) 0 ⟨Nat.zero_le _, hend⟩ ?_ ?_
    · refine ⟨?_, ?_⟩
      · repeat' (first | exact True.intro | refine And.intro rfl ?_)
      · repeat' (first | exact True.intro | refine And.intro rfl ?_)
    intro i gs hI
    obtain ⟨hi, hN⟩ := hI
    repeat' (first | (refine z_ld1 ?_; first | (refine z_ld rfl rfl rfl rfl (by first | (simp only [List.length_set]; assumption) | assumption | omega) (by first | exact elt_set (by first | assumption | (simp only [List.length_set]; assumption)) | assumption) ?_; conv => whnf) | (refine z_ld0 rfl ?_; conv => whnf)) | (refine z_op ?_ ?_; (focus exact rfl); conv => whnf) | (refine zs_ops ?_ ?_; (focus exact rfl)) | (refine z_nil fun vals => ?_; conv => whnf) | (refine And.intro ?_ ?_; (focus (first | exact rfl | exact Nat.le_of_ble_eq_true rfl | decide | omega | fail)); conv => whnf) | (refine g_seq ?_) | (refine XS.go ?_) | (refine g_cond ?_; conv => whnf) | fail)
    refine Br.mk (fun hb => ?_) (fun hb => ?_)
    · have hlt : i < b.fServices.length := by simpa using hb
      have hw : IntKind.wrap .i64 ((i : Int) + 1) = ((i + 1 : Nat) : Int) := by rw [wrap_ok (by omega) (by omega)]; rfl
      have hw1 : IntKind.wrap .i64 ((i : Int) - 1) = (i : Int) - 1 := wrap_ok (by omega) (by omega)
      have hbad := fun h => allN_bad (f := dF b) hlt hN h
      have hgood := fun h => allN_good (f := dF b) hlt hN h
      clear hN hb
      have hp0 : ¬ (sv b i).fPer > 0 → decide ((sv b i).fPer > 0) = false := decide_eq_false
      by_cases hp : (sv b i).fPer > 0
      all_goals conv => whnf
      repeat' (first | ((refine z_skipF (congrArg Go.Ab.D.bool (hp0 hp)) ?_; (conv => whnf); refine And.intro ?_ ?_; (focus exact rfl))) | (refine z_ld1 ?_; first | (refine z_ld rfl rfl rfl rfl (by first | (simp only [List.length_set]; assumption) | assumption | omega) (by first | exact elt_set (by first | assumption | (simp only [List.length_set]; assumption)) | assumption) ?_; conv => whnf) | (refine z_ld0 rfl ?_; conv => whnf)) | (refine z_ld1g ?_; first | (refine z_ldg rfl rfl rfl rfl rfl rfl rfl (by (repeat intro _); exact ⟨(by first | (simp only [List.length_set]; assumption) | assumption | omega), (by first | exact elt_set (by first | assumption | (simp only [List.length_set]; assumption)) | assumption)⟩) rfl rfl rfl rfl ?_; conv => whnf) | (refine z_ld0g ?_; (conv => whnf); refine And.intro ?_ ?_; (focus exact rfl); conv => whnf)) | (refine z_st1 ?_; first | (refine z_st rfl rfl rfl (by first | (simp only [List.length_set]; assumption) | assumption | omega) (by first | exact elt_set (by first | assumption | (simp only [List.length_set]; assumption)) | assumption) rfl rfl ?_; conv => whnf) | (refine z_st0 ?_; conv => whnf)) | (refine z_ix1 ?_; first | (refine z_ix rfl rfl rfl rfl rfl ⟨by first | omega | (simp only [decide_eq_true_eq, Bool.not_eq_true', Bool.or_eq_false_iff, decide_eq_false_iff_not, Bool.and_eq_true, Bool.not_eq_false'] at *; omega), by first | omega | (simp only [decide_eq_true_eq, Bool.not_eq_true', Bool.or_eq_false_iff, decide_eq_false_iff_not, Bool.and_eq_true, Bool.not_eq_false'] at *; omega)⟩ ?_; conv => whnf) | (refine z_ix0 rfl rfl ?_; conv => whnf)) | (refine z_op ?_ ?_; (focus exact rfl); conv => whnf) | (refine z_opg0 ?_; (conv => whnf); refine And.intro ?_ ?_; (focus exact rfl); conv => whnf) | (refine z_pick ?_ ?_; (focus exact rfl); conv => whnf) | (refine z_pickg ?_; (conv => whnf); refine And.intro ?_ ?_; (focus exact rfl); conv => whnf) | (refine zs_ops ?_ ?_; (focus exact rfl)) | (refine zs_quiet ?_ ?_; (focus exact rfl)) | (refine z_nil fun vals => ?_; conv => whnf) | (refine z_eff ?_; conv => whnf) | (refine z_callg0 ?_; (conv => whnf); refine And.intro ?_ ?_; (focus exact rfl)) | (refine RC.of (spec_Desired _ hp) ?_ ?_; (focus exact rfl); conv => whnf) | (refine g_op ?_; conv => whnf) | (refine And.intro ?_ ?_; (focus (first | exact rfl | exact Nat.le_of_ble_eq_true rfl | decide | omega | fail)); conv => whnf) | (refine g_seq ?_) | (refine XS.go ?_) | (refine g_ops ?_) | (refine g_nil ?_; conv => whnf) | (refine g_cond ?_; conv => whnf) | (refine g_skip ?_; conv => whnf) | (refine g_ret ?_; conv => whnf) | (refine g_block ?_) | (refine r_t ?_; conv => whnf) | (refine r_nil ?_; conv => whnf) | (refine fun _ => ?_; conv => whnf) | (refine Br.mk (fun hb => ?_) (fun hb => ?_) <;> conv => whnf) | fail)
      all_goals
        first
        | (refine ⟨(), hbad ?_, ⟨?_, True.intro⟩⟩
           · clear hbad hgood hw hV hR
             first | (first | (refine (Bool.eq_false_iff.mpr fun h => ?_).symm; simp_all [dF, sv]; done) | (refine Bool.eq_false_iff.mpr fun h => ?_; simp_all [dF, sv]; done) | (simp_all [dF, sv]; done) | (simp_all [dF, sv]; omega) | (refine (Bool.eq_false_iff.mpr fun h => ?_).symm; simp_all [dF, sv]; omega) | (refine Bool.eq_false_iff.mpr fun h => ?_; simp_all [dF, sv]; omega) | (rw [Bool.eq_iff_iff]; constructor <;> intro h <;> simp_all [dF, sv] <;> omega) | fail) | (rcases Nat.eq_zero_or_pos i with h0 | h0 <;> simp_all [dF, sv] <;> omega) | (fail) | fail
           · repeat' (first | exact True.intro | refine And.intro rfl ?_))
        | (conv => lhs; whnf
           refine congrArg D.bool (hbad ?_)
           clear hbad hgood hw hV hR
           first | (first | (refine (Bool.eq_false_iff.mpr fun h => ?_).symm; simp_all [dF, sv]; done) | (refine Bool.eq_false_iff.mpr fun h => ?_; simp_all [dF, sv]; done) | (simp_all [dF, sv]; done) | (simp_all [dF, sv]; omega) | (refine (Bool.eq_false_iff.mpr fun h => ?_).symm; simp_all [dF, sv]; omega) | (refine Bool.eq_false_iff.mpr fun h => ?_; simp_all [dF, sv]; omega) | (rw [Bool.eq_iff_iff]; constructor <;> intro h <;> simp_all [dF, sv] <;> omega) | fail) | (rcases Nat.eq_zero_or_pos i with h0 | h0 <;> simp_all [dF, sv] <;> omega) | (fail) | fail)
        | (refine ⟨i + 1, ⟨by omega, ?_⟩, by omega, ?_, ?_⟩
           · refine hgood ?_
             clear hbad hgood hw hV hR
             first | (first | (refine (Bool.eq_false_iff.mpr fun h => ?_).symm; simp_all [dF, sv]; done) | (refine Bool.eq_false_iff.mpr fun h => ?_; simp_all [dF, sv]; done) | (simp_all [dF, sv]; done) | (simp_all [dF, sv]; omega) | (refine (Bool.eq_false_iff.mpr fun h => ?_).symm; simp_all [dF, sv]; omega) | (refine Bool.eq_false_iff.mpr fun h => ?_; simp_all [dF, sv]; omega) | (rw [Bool.eq_iff_iff]; constructor <;> intro h <;> simp_all [dF, sv] <;> omega) | fail) | (rcases Nat.eq_zero_or_pos i with h0 | h0 <;> simp_all [dF, sv] <;> omega) | (fail) | fail
           · repeat' (first | exact True.intro | refine And.intro (congrArg (D.int .i64) hw) ?_ | refine And.intro rfl ?_)
           · repeat' (first | exact True.intro | refine And.intro rfl ?_))
    have hge : ¬ i < b.fServices.length := by simpa using hb
    have hend : doneP b = true := by rw [hN, allN_end hge, Bool.true_and]
    clear hN
    conv => whnf
    repeat' (first | (refine g_op ?_; conv => whnf) | (refine And.intro ?_ ?_; (focus (first | exact rfl | exact Nat.le_of_ble_eq_true rfl | decide | omega | fail)); conv => whnf) | (refine g_seq ?_) | (refine XS.go ?_) | (refine g_ops ?_) | (refine g_nil ?_; conv => whnf) | (refine g_ret ?_; conv => whnf) | (refine g_exit ?_; conv => whnf) | (refine r_t ?_; conv => whnf) | (refine r_nil ?_; conv => whnf) | fail)
    (conv => lhs; whnf)
    rw [hend]
set_option maxHeartbeats 8000000 in
theorem impl_Done (b : StewBook) (h1 : b.fServices.length ≤ 1048576) (h2 : b.fBerths.length ≤ 1048576) (h3 : b.fCopies.length ≤ 1048576) : Rdr Try.prog 36 [b.D] (.bool (doneP b)) := by
  refine Rdr.intro' hm c36 (Nat.le_of_ble_eq_true rfl) ?_
  conv => whnf
  repeat' (first | (refine g_op ?_; conv => whnf) | (refine And.intro ?_ ?_; (focus (first | exact rfl | exact Nat.le_of_ble_eq_true rfl | decide | omega | fail)); conv => whnf) | (refine g_seq ?_) | (refine g_ops ?_) | (refine g_nil ?_; conv => whnf) | (refine fun _ => ?_; conv => whnf) | fail)
  refine XS.freezeB 1 rfl ?_
  have hV := impl_Valid b h1 h2 h3
  have hR := impl_Rank b h1 h2 h3
  have hlen := rankL_len b
  cases hv : valid b with
  | false =>
    rw [hv] at hV
    repeat' (first | (refine z_ld1 ?_; first | (refine z_ld rfl rfl rfl rfl (by first | (simp only [List.length_set]; assumption) | assumption | omega) (by first | exact elt_set (by first | assumption | (simp only [List.length_set]; assumption)) | assumption) ?_; conv => whnf) | (refine z_ld0 rfl ?_; conv => whnf)) | (refine z_op ?_ ?_; (focus exact rfl); conv => whnf) | (refine zs_ops ?_ ?_; (focus exact rfl)) | (refine z_nil fun vals => ?_; conv => whnf) | (refine z_call ?_ ?_; (focus exact rfl)) | (refine RC.of (hV) ?_ ?_; (focus exact rfl); conv => whnf) | (refine g_op ?_; conv => whnf) | (refine And.intro ?_ ?_; (focus (first | exact rfl | exact Nat.le_of_ble_eq_true rfl | decide | omega | fail)); conv => whnf) | (refine g_seq ?_) | (refine XS.go ?_) | (refine g_ops ?_) | (refine g_nil ?_; conv => whnf) | (refine Br.t ?_ ?_; (focus (first | assumption | exact rfl)); conv => whnf) | (refine g_cond ?_; conv => whnf) | (refine g_ret ?_; conv => whnf) | (refine r_t ?_; conv => whnf) | (refine r_nil ?_; conv => whnf) | fail)
    (conv => lhs; whnf)
    rw [doneP, hv]
    rfl
  | true =>
    rw [hv] at hV
    have hv2 : doneP b = (allN (rF b) (rankL b).length 0 && (allN (dF b) b.fServices.length 0 && true)) := by rw [doneP, hv]; rfl
    repeat' (first | (refine z_ld1 ?_; first | (refine z_ld rfl rfl rfl rfl (by first | (simp only [List.length_set]; assumption) | assumption | omega) (by first | exact elt_set (by first | assumption | (simp only [List.length_set]; assumption)) | assumption) ?_; conv => whnf) | (refine z_ld0 rfl ?_; conv => whnf)) | (refine z_op ?_ ?_; (focus exact rfl); conv => whnf) | (refine zs_ops ?_ ?_; (focus exact rfl)) | (refine z_nil fun vals => ?_; conv => whnf) | (refine z_call ?_ ?_; (focus exact rfl)) | (refine RC.of (hV) ?_ ?_; (focus exact rfl); conv => whnf) | (refine RC.of (hR) ?_ ?_; (focus exact rfl); conv => whnf) | (refine And.intro ?_ ?_; (focus (first | exact rfl | exact Nat.le_of_ble_eq_true rfl | decide | omega | fail)); conv => whnf) | (refine g_seq ?_) | (refine XS.go ?_) | (refine g_loop ?_) | (refine Br.f ?_ ?_; (focus (first | assumption | exact rfl)); conv => whnf) | (refine g_cond ?_; conv => whnf) | (refine g_skip ?_; conv => whnf) | (refine g_block ?_) | fail)
    refine XLc.mkL (α := Nat) (fun i => i ≤ (rankL b).length ∧ doneP b = (allN (rF b) ((rankL b).length - i) i && (allN (dF b) b.fServices.length 0 && true))) (fun i => (rankL b).length - i) (fun i gs => [.any, .cref b.D, .any, .any, .any, .any, .any, .any, .any, .any, .any, .ro 1 ((rankL b).map (D.int .i64)), .int .i64 (((rankL b).map (D.int .i64)).length : Int), .int .i64 (i : Int)]) (fun i gs => []) 0 ⟨Nat.zero_le _, hv2⟩ ?_ ?_
    · refine ⟨?_, ?_⟩
      · repeat' (first | exact True.intro | refine And.intro rfl ?_)
      · repeat' (first | exact True.intro | refine And.intro rfl ?_)
    intro i gs hI
    obtain ⟨hi, hN⟩ := hI
    repeat' (first | (refine g_op ?_; conv => whnf) | (refine And.intro ?_ ?_; (focus (first | exact rfl | exact Nat.le_of_ble_eq_true rfl | decide | omega | fail)); conv => whnf) | (refine g_seq ?_) | (refine XS.go ?_) | (refine g_ops ?_) | (refine g_nil ?_; conv => whnf) | (refine g_cond ?_; conv => whnf) | fail)
    refine Br.mk (fun hb => ?_) (fun hb => ?_)
    · have hlt : i < (rankL b).length := by simpa using hb
      have hw : IntKind.wrap .i64 ((i : Int) + 1) = ((i + 1 : Nat) : Int) := by rw [wrap_ok (by omega) (by omega)]; rfl
      have hw1 : IntKind.wrap .i64 ((i : Int) - 1) = (i : Int) - 1 := wrap_ok (by omega) (by omega)
      have hbad := fun h => allN_bad (f := rF b) hlt hN h
      have hgood := fun h => allN_good (f := rF b) hlt hN h
      clear hN hb
      all_goals conv => whnf
      repeat' (first | (refine z_ld1 ?_; first | (refine z_ld rfl rfl rfl rfl (by first | (simp only [List.length_set]; assumption) | assumption | omega) (by first | exact elt_set (by first | assumption | (simp only [List.length_set]; assumption)) | assumption) ?_; conv => whnf) | (refine z_ld0 rfl ?_; conv => whnf)) | (refine z_ix1 ?_; first | (refine z_ix rfl rfl rfl rfl rfl ⟨by first | omega | (simp only [decide_eq_true_eq, Bool.not_eq_true', Bool.or_eq_false_iff, decide_eq_false_iff_not, Bool.and_eq_true, Bool.not_eq_false'] at *; omega), by first | omega | (simp only [decide_eq_true_eq, Bool.not_eq_true', Bool.or_eq_false_iff, decide_eq_false_iff_not, Bool.and_eq_true, Bool.not_eq_false'] at *; omega)⟩ ?_; conv => whnf) | (refine z_ix0 rfl rfl ?_; conv => whnf)) | (refine z_op ?_ ?_; (focus exact rfl); conv => whnf) | (refine zs_ops ?_ ?_; (focus exact rfl)) | (refine z_nil fun vals => ?_; conv => whnf) | (refine g_op ?_; conv => whnf) | (refine And.intro ?_ ?_; (focus (first | exact rfl | exact Nat.le_of_ble_eq_true rfl | decide | omega | fail)); conv => whnf) | (refine g_seq ?_) | (refine XS.go ?_) | (refine g_ops ?_) | (refine g_nil ?_; conv => whnf) | (refine g_cond ?_; conv => whnf) | (refine g_skip ?_; conv => whnf) | (refine g_ret ?_; conv => whnf) | (refine g_block ?_) | (refine r_t ?_; conv => whnf) | (refine r_nil ?_; conv => whnf) | (refine Br.mk (fun hb => ?_) (fun hb => ?_) <;> conv => whnf) | fail)
      all_goals
        first
        | (refine ⟨(), hbad ?_, ⟨?_, True.intro⟩⟩
           · clear hbad hgood hw hV hR
             first | (first | (refine (Bool.eq_false_iff.mpr fun h => ?_).symm; simp_all [rF]; done) | (refine Bool.eq_false_iff.mpr fun h => ?_; simp_all [rF]; done) | (simp_all [rF]; done) | (simp_all [rF]; omega) | (refine (Bool.eq_false_iff.mpr fun h => ?_).symm; simp_all [rF]; omega) | (refine Bool.eq_false_iff.mpr fun h => ?_; simp_all [rF]; omega) | (rw [Bool.eq_iff_iff]; constructor <;> intro h <;> simp_all [rF] <;> omega) | fail) | (rcases Nat.eq_zero_or_pos i with h0 | h0 <;> simp_all [rF] <;> omega) | (fail) | fail
           · repeat' (first | exact True.intro | refine And.intro rfl ?_))
        | (conv => lhs; whnf
           refine congrArg D.bool (hbad ?_)
           clear hbad hgood hw hV hR
           first | (first | (refine (Bool.eq_false_iff.mpr fun h => ?_).symm; simp_all [rF]; done) | (refine Bool.eq_false_iff.mpr fun h => ?_; simp_all [rF]; done) | (simp_all [rF]; done) | (simp_all [rF]; omega) | (refine (Bool.eq_false_iff.mpr fun h => ?_).symm; simp_all [rF]; omega) | (refine Bool.eq_false_iff.mpr fun h => ?_; simp_all [rF]; omega) | (rw [Bool.eq_iff_iff]; constructor <;> intro h <;> simp_all [rF] <;> omega) | fail) | (rcases Nat.eq_zero_or_pos i with h0 | h0 <;> simp_all [rF] <;> omega) | (fail) | fail)
        | (refine ⟨i + 1, ⟨by omega, ?_⟩, by omega, ?_, ?_⟩
           · refine hgood ?_
             clear hbad hgood hw hV hR
             first | (first | (refine (Bool.eq_false_iff.mpr fun h => ?_).symm; simp_all [rF]; done) | (refine Bool.eq_false_iff.mpr fun h => ?_; simp_all [rF]; done) | (simp_all [rF]; done) | (simp_all [rF]; omega) | (refine (Bool.eq_false_iff.mpr fun h => ?_).symm; simp_all [rF]; omega) | (refine Bool.eq_false_iff.mpr fun h => ?_; simp_all [rF]; omega) | (rw [Bool.eq_iff_iff]; constructor <;> intro h <;> simp_all [rF] <;> omega) | fail) | (rcases Nat.eq_zero_or_pos i with h0 | h0 <;> simp_all [rF] <;> omega) | (fail) | fail
           · repeat' (first | exact True.intro | refine And.intro (congrArg (D.int .i64) hw) ?_ | refine And.intro rfl ?_)
           · repeat' (first | exact True.intro | refine And.intro rfl ?_))
    have hge : ¬ i < (rankL b).length := by simpa using hb
    have hend : doneP b = (allN (dF b) b.fServices.length 0 && true) := by rw [hN, allN_end hge, Bool.true_and]
    clear hN
    conv => whnf
    repeat' (first | (refine z_ld1 ?_; first | (refine z_ld rfl rfl rfl rfl (by first | (simp only [List.length_set]; assumption) | assumption | omega) (by first | exact elt_set (by first | assumption | (simp only [List.length_set]; assumption)) | assumption) ?_; conv => whnf) | (refine z_ld0 rfl ?_; conv => whnf)) | (refine z_op ?_ ?_; (focus exact rfl); conv => whnf) | (refine zs_ops ?_ ?_; (focus exact rfl)) | (refine z_nil fun vals => ?_; conv => whnf) | (refine And.intro ?_ ?_; (focus (first | exact rfl | exact Nat.le_of_ble_eq_true rfl | decide | omega | fail)); conv => whnf) | (refine g_seq ?_) | (refine XS.go ?_) | (refine g_loop ?_) | (refine g_exit ?_; conv => whnf) | (refine g_block ?_) | fail)
    refine XLc.mkL (α := Nat) (fun i => i ≤ b.fServices.length ∧ doneP b = (allN (dF b) (b.fServices.length - i) i && true)) (fun i => b.fServices.length - i) (fun i gs => [.any, .cref b.D, .any, .any, .any, .any, .any, .any, .any, .any, .any, .any, .any, .any, .any, .any, .any, .any, .any, .any, .any, .any, .int .i64 ((b.fServices.map StewService.D).length : Int), .int .i64 (i : Int)]) (fun i gs => []) 0 ⟨Nat.zero_le _, hend⟩ ?_ ?_
    · refine ⟨?_, ?_⟩
      · repeat' (first | exact True.intro | refine And.intro rfl ?_)
      · repeat' (first | exact True.intro | refine And.intro rfl ?_)
    intro i gs hI
    obtain ⟨hi, hN⟩ := hI
    repeat' (first | (refine g_op ?_; conv => whnf) | (refine And.intro ?_ ?_; (focus (first | exact rfl | exact Nat.le_of_ble_eq_true rfl | decide | omega | fail)); conv => whnf) | (refine g_seq ?_) | (refine XS.go ?_) | (refine g_ops ?_) | (refine g_nil ?_; conv => whnf) | (refine g_cond ?_; conv => whnf) | fail)
    refine Br.mk (fun hb => ?_) (fun hb => ?_)
    · have hlt : i < b.fServices.length := by simpa using hb
      have hw : IntKind.wrap .i64 ((i : Int) + 1) = ((i + 1 : Nat) : Int) := by rw [wrap_ok (by omega) (by omega)]; rfl
      have hw1 : IntKind.wrap .i64 ((i : Int) - 1) = (i : Int) - 1 := wrap_ok (by omega) (by omega)
      have hbad := fun h => allN_bad (f := dF b) hlt hN h
      have hgood := fun h => allN_good (f := dF b) hlt hN h
      clear hN hb
      have hp0 : ¬ (sv b i).fPer > 0 → decide ((sv b i).fPer > 0) = false := decide_eq_false
      by_cases hp : (sv b i).fPer > 0
      all_goals conv => whnf
      repeat' (first | ((refine z_skipF (congrArg Go.Ab.D.bool (hp0 hp)) ?_; (conv => whnf); refine And.intro ?_ ?_; (focus exact rfl))) | (refine z_ld1 ?_; first | (refine z_ld rfl rfl rfl rfl (by first | (simp only [List.length_set]; assumption) | assumption | omega) (by first | exact elt_set (by first | assumption | (simp only [List.length_set]; assumption)) | assumption) ?_; conv => whnf) | (refine z_ld0 rfl ?_; conv => whnf)) | (refine z_ld1g ?_; first | (refine z_ldg rfl rfl rfl rfl rfl rfl rfl (by (repeat intro _); exact ⟨(by first | (simp only [List.length_set]; assumption) | assumption | omega), (by first | exact elt_set (by first | assumption | (simp only [List.length_set]; assumption)) | assumption)⟩) rfl rfl rfl rfl ?_; conv => whnf) | (refine z_ld0g ?_; (conv => whnf); refine And.intro ?_ ?_; (focus exact rfl); conv => whnf)) | (refine z_ix1 ?_; first | (refine z_ix rfl rfl rfl rfl rfl ⟨by first | omega | (simp only [decide_eq_true_eq, Bool.not_eq_true', Bool.or_eq_false_iff, decide_eq_false_iff_not, Bool.and_eq_true, Bool.not_eq_false'] at *; omega), by first | omega | (simp only [decide_eq_true_eq, Bool.not_eq_true', Bool.or_eq_false_iff, decide_eq_false_iff_not, Bool.and_eq_true, Bool.not_eq_false'] at *; omega)⟩ ?_; conv => whnf) | (refine z_ix0 rfl rfl ?_; conv => whnf)) | (refine z_op ?_ ?_; (focus exact rfl); conv => whnf) | (refine z_opg0 ?_; (conv => whnf); refine And.intro ?_ ?_; (focus exact rfl); conv => whnf) | (refine z_pick ?_ ?_; (focus exact rfl); conv => whnf) | (refine z_pickg ?_; (conv => whnf); refine And.intro ?_ ?_; (focus exact rfl); conv => whnf) | (refine zs_ops ?_ ?_; (focus exact rfl)) | (refine zs_quiet ?_ ?_; (focus exact rfl)) | (refine z_nil fun vals => ?_; conv => whnf) | (refine z_callg0 ?_; (conv => whnf); refine And.intro ?_ ?_; (focus exact rfl)) | (refine RC.of (impl_demand _ hp) ?_ ?_; (focus exact rfl); conv => whnf) | (refine g_op ?_; conv => whnf) | (refine And.intro ?_ ?_; (focus (first | exact rfl | exact Nat.le_of_ble_eq_true rfl | decide | omega | fail)); conv => whnf) | (refine g_seq ?_) | (refine XS.go ?_) | (refine g_ops ?_) | (refine g_nil ?_; conv => whnf) | (refine g_cond ?_; conv => whnf) | (refine g_skip ?_; conv => whnf) | (refine g_ret ?_; conv => whnf) | (refine g_block ?_) | (refine r_t ?_; conv => whnf) | (refine r_nil ?_; conv => whnf) | (refine Br.mk (fun hb => ?_) (fun hb => ?_) <;> conv => whnf) | fail)
      all_goals
        first
        | (refine ⟨(), hbad ?_, ⟨?_, True.intro⟩⟩
           · clear hbad hgood hw hV hR
             first | (first | (refine (Bool.eq_false_iff.mpr fun h => ?_).symm; simp_all [dF, sv]; done) | (refine Bool.eq_false_iff.mpr fun h => ?_; simp_all [dF, sv]; done) | (simp_all [dF, sv]; done) | (simp_all [dF, sv]; omega) | (refine (Bool.eq_false_iff.mpr fun h => ?_).symm; simp_all [dF, sv]; omega) | (refine Bool.eq_false_iff.mpr fun h => ?_; simp_all [dF, sv]; omega) | (rw [Bool.eq_iff_iff]; constructor <;> intro h <;> simp_all [dF, sv] <;> omega) | fail) | (rcases Nat.eq_zero_or_pos i with h0 | h0 <;> simp_all [dF, sv] <;> omega) | (fail) | fail
           · repeat' (first | exact True.intro | refine And.intro rfl ?_))
        | (conv => lhs; whnf
           refine congrArg D.bool (hbad ?_)
           clear hbad hgood hw hV hR
           first | (first | (refine (Bool.eq_false_iff.mpr fun h => ?_).symm; simp_all [dF, sv]; done) | (refine Bool.eq_false_iff.mpr fun h => ?_; simp_all [dF, sv]; done) | (simp_all [dF, sv]; done) | (simp_all [dF, sv]; omega) | (refine (Bool.eq_false_iff.mpr fun h => ?_).symm; simp_all [dF, sv]; omega) | (refine Bool.eq_false_iff.mpr fun h => ?_; simp_all [dF, sv]; omega) | (rw [Bool.eq_iff_iff]; constructor <;> intro h <;> simp_all [dF, sv] <;> omega) | fail) | (rcases Nat.eq_zero_or_pos i with h0 | h0 <;> simp_all [dF, sv] <;> omega) | (fail) | fail)
        | (refine ⟨i + 1, ⟨by omega, ?_⟩, by omega, ?_, ?_⟩
           · refine hgood ?_
             clear hbad hgood hw hV hR
             first | (first | (refine (Bool.eq_false_iff.mpr fun h => ?_).symm; simp_all [dF, sv]; done) | (refine Bool.eq_false_iff.mpr fun h => ?_; simp_all [dF, sv]; done) | (simp_all [dF, sv]; done) | (simp_all [dF, sv]; omega) | (refine (Bool.eq_false_iff.mpr fun h => ?_).symm; simp_all [dF, sv]; omega) | (refine Bool.eq_false_iff.mpr fun h => ?_; simp_all [dF, sv]; omega) | (rw [Bool.eq_iff_iff]; constructor <;> intro h <;> simp_all [dF, sv] <;> omega) | fail) | (rcases Nat.eq_zero_or_pos i with h0 | h0 <;> simp_all [dF, sv] <;> omega) | (fail) | fail
           · repeat' (first | exact True.intro | refine And.intro (congrArg (D.int .i64) hw) ?_ | refine And.intro rfl ?_)
           · repeat' (first | exact True.intro | refine And.intro rfl ?_))
    have hge : ¬ i < b.fServices.length := by simpa using hb
    have hend : doneP b = true := by rw [hN, allN_end hge, Bool.true_and]
    clear hN
    conv => whnf
    repeat' (first | (refine g_op ?_; conv => whnf) | (refine And.intro ?_ ?_; (focus (first | exact rfl | exact Nat.le_of_ble_eq_true rfl | decide | omega | fail)); conv => whnf) | (refine g_seq ?_) | (refine XS.go ?_) | (refine g_ops ?_) | (refine g_nil ?_; conv => whnf) | (refine g_ret ?_; conv => whnf) | (refine g_exit ?_; conv => whnf) | (refine r_t ?_; conv => whnf) | (refine r_nil ?_; conv => whnf) | fail)
    (conv => lhs; whnf)
    rw [hend]
set_option maxHeartbeats 8000000 in
theorem law_StewDone (x : StewBook) (hw : x.wf) : Rdr Try.prog 8 [x.D] (.bool true) := by
  refine Rdr.intro' hm c8 (Nat.le_of_ble_eq_true rfl) ?_
  conv => whnf
  repeat' (first | (refine g_op ?_; conv => whnf) | (refine And.intro ?_ ?_; (focus (first | exact rfl | exact Nat.le_of_ble_eq_true rfl | decide | omega | fail)); conv => whnf) | (refine g_seq ?_) | (refine g_ops ?_) | (refine g_nil ?_; conv => whnf) | (refine fun _ => ?_; conv => whnf) | fail)
  refine XS.freezeB 1 rfl ?_
  repeat' (first | (refine g_op ?_; conv => whnf) | (refine And.intro ?_ ?_; (focus (first | exact rfl | exact Nat.le_of_ble_eq_true rfl | decide | omega | fail)); conv => whnf) | (refine g_seq ?_) | (refine XS.go ?_) | (refine g_ops ?_) | (refine g_nil ?_; conv => whnf) | fail)
  refine XCL.ask (sz_StewBook x _ hw (by decide) (by decide)) (fun d h => ?_)
  obtain ⟨n, rfl, hn⟩ := h
  conv => whnf
  repeat' (first | (refine g_op ?_; conv => whnf) | (refine And.intro ?_ ?_; (focus (first | exact rfl | exact Nat.le_of_ble_eq_true rfl | decide | omega | fail)); conv => whnf) | (refine g_seq ?_) | (refine XS.go ?_) | (refine g_ops ?_) | (refine g_nil ?_; conv => whnf) | (refine g_cond ?_; conv => whnf) | fail)
  refine Br.mk (fun hb => ?_) (fun hb => ?_)
  · conv => whnf
    repeat' (first | (refine g_op ?_; conv => whnf) | (refine And.intro ?_ ?_; (focus (first | exact rfl | exact Nat.le_of_ble_eq_true rfl | decide | omega | fail)); conv => whnf) | (refine g_seq ?_) | (refine XS.go ?_) | (refine g_ops ?_) | (refine g_nil ?_; conv => whnf) | (refine g_ret ?_; conv => whnf) | (refine r_t ?_; conv => whnf) | (refine r_nil ?_; conv => whnf) | fail)
    rfl
  have hs := (hn (Int.not_lt.1 (of_decide_eq_false hb))).2
  have q1 := spec_Done x hs.fServices.1 hs.fBerths.1 hs.fCopies.1
  have q2 := impl_Done x hs.fServices.1 hs.fBerths.1 hs.fCopies.1
  generalize doneP x = r at *
  conv => whnf
  repeat' (first | (refine g_op ?_; conv => whnf) | (refine And.intro ?_ ?_; (focus (first | exact rfl | exact Nat.le_of_ble_eq_true rfl | decide | omega | fail)); conv => whnf) | (refine g_seq ?_) | (refine XS.go ?_) | (refine g_ops ?_) | (refine g_nil ?_; conv => whnf) | (refine Br.f ?_ ?_; (focus (first | assumption | exact rfl)); conv => whnf) | (refine g_cond ?_; conv => whnf) | (refine g_skip ?_; conv => whnf) | (refine g_ret ?_; conv => whnf) | (refine g_quiet ?_) | (refine q_op ?_; conv => whnf) | (refine q_nil ?_; conv => whnf) | (refine r_t ?_; conv => whnf) | (refine r_nil ?_; conv => whnf) | (refine fun _ => ?_; conv => whnf) | (refine Br.f (by simp) ?_; conv => whnf) | (refine XCL.of_rdr (to_StewBook x hs) ?_; conv => whnf) | (refine XCL.of_rdr (q1) ?_; conv => whnf) | (refine XCL.of_rdr (q2) ?_; conv => whnf) | (refine QC.of_rdr (to_StewBook x hs) ?_; conv => whnf) | (refine QC.of_rdr (eq_StewBook x hs) ?_; conv => whnf) | fail)
  rfl
end Go.Ab
