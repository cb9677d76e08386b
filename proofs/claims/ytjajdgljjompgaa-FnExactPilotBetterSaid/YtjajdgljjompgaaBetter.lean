/- The law FnExactPilotBetter returns true at every input; nothing is asked of the input beyond what the row itself asks. -/
import Derived.Test.YtjajdgljjompgaaAb8
import Derived.Test.YtjajdgljjompgaaRows
set_option linter.unusedSimpArgs false
set_option linter.unusedVariables false
namespace Go.Ab
open Go Go.RowKit Go.Proofs
attribute [local irreducible] XC IntKind.wrap xw xos xqs xr
set_option maxRecDepth 100000
theorem hm : Try.prog.follows .mixedOrders = true := by kernel_rfl

/-- laws.toPilotScore -/
def cf9 : CF := ⟨17, [.c 2 4 true],
  (.seq (.ops [⟨some 1, .bx (.t 0), none⟩,
    ⟨some 2, .al (.agg [.int .i64 0, .int .i64 0, .int .i64 0, .int .i64 0]), none⟩])
  (.seq (.ops [⟨some 3, .al (.agg [.int .i64 0, .int .i64 0, .int .i64 0, .int .i64 0]), none⟩])
  (.seq (.ops [⟨some 4, .fa 0 1 0 (.t 1), none⟩,
    ⟨some 5, .ld 1 false (.t 4), none⟩,
    ⟨some 6, .fa 0 1 0 (.t 3), none⟩,
    ⟨none, .st 1 (.t 6) (.t 5), none⟩])
  (.seq (.ops [⟨some 7, .fa 1 1 1 (.t 1), none⟩,
    ⟨some 8, .ld 1 false (.t 7), none⟩,
    ⟨some 9, .fa 1 1 1 (.t 3), none⟩,
    ⟨none, .st 1 (.t 9) (.t 8), none⟩])
  (.seq (.ops [⟨some 10, .fa 2 1 2 (.t 1), none⟩,
    ⟨some 11, .ld 1 false (.t 10), none⟩,
    ⟨some 12, .fa 2 1 2 (.t 3), none⟩,
    ⟨none, .st 1 (.t 12) (.t 11), none⟩])
  (.seq (.ops [⟨some 13, .fa 3 1 3 (.t 1), none⟩,
    ⟨some 14, .ld 1 false (.t 13), none⟩,
    ⟨some 15, .fa 3 1 3 (.t 3), none⟩,
    ⟨none, .st 1 (.t 15) (.t 14), none⟩])
  (.seq (.ops [⟨some 16, .ld 4 true (.t 3), none⟩,
    ⟨none, .st 4 (.t 2) (.t 16), none⟩])
  .ret)))))))⟩
theorem c9 : compileF Try.prog [] 9 = some cf9 := by kernel_rfl
/-- spec.PilotBetter -/
def cf8 : CF := ⟨48, [.t 6],
  (.seq (.ops [⟨some 3, .bx (.t 0), none⟩,
    ⟨some 4, .bx (.t 1), none⟩,
    ⟨some 6, .mv (.k (.bool false)), none⟩])
  (.seq (.seq (.ops [⟨some 7, .fa 0 1 0 (.t 3), none⟩,
    ⟨some 8, .ld 1 false (.t 7), none⟩,
    ⟨some 9, .fa 0 1 0 (.t 4), none⟩,
    ⟨some 10, .ld 1 false (.t 9), none⟩,
    ⟨some 11, .bin .neq (.t 8) (.t 10), none⟩])
  (.cond (.t 11)
  (.seq (.ops [⟨some 12, .fa 0 1 0 (.t 3), none⟩,
    ⟨some 13, .ld 1 false (.t 12), none⟩,
    ⟨some 14, .fa 0 1 0 (.t 4), none⟩,
    ⟨some 15, .ld 1 false (.t 14), none⟩,
    ⟨some 16, .bin .gtr (.t 13) (.t 15), none⟩,
    ⟨some 6, .mv (.t 16), none⟩])
  .ret)
  .skip))
  (.seq (.seq (.ops [⟨some 17, .fa 1 1 1 (.t 3), none⟩,
    ⟨some 18, .ld 1 false (.t 17), none⟩,
    ⟨some 19, .fa 1 1 1 (.t 4), none⟩,
    ⟨some 20, .ld 1 false (.t 19), none⟩,
    ⟨some 21, .bin .neq (.t 18) (.t 20), none⟩])
  (.cond (.t 21)
  (.seq (.ops [⟨some 22, .fa 1 1 1 (.t 3), none⟩,
    ⟨some 23, .ld 1 false (.t 22), none⟩,
    ⟨some 24, .fa 1 1 1 (.t 4), none⟩,
    ⟨some 25, .ld 1 false (.t 24), none⟩,
    ⟨some 26, .bin .lss (.t 23) (.t 25), none⟩,
    ⟨some 6, .mv (.t 26), none⟩])
  .ret)
  .skip))
  (.seq (.seq (.ops [⟨some 27, .fa 2 1 2 (.t 3), none⟩,
    ⟨some 28, .ld 1 false (.t 27), none⟩,
    ⟨some 29, .fa 2 1 2 (.t 4), none⟩,
    ⟨some 30, .ld 1 false (.t 29), none⟩,
    ⟨some 31, .bin .neq (.t 28) (.t 30), none⟩])
  (.cond (.t 31)
  (.seq (.ops [⟨some 32, .fa 2 1 2 (.t 3), none⟩,
    ⟨some 33, .ld 1 false (.t 32), none⟩,
    ⟨some 34, .fa 2 1 2 (.t 4), none⟩,
    ⟨some 35, .ld 1 false (.t 34), none⟩,
    ⟨some 36, .bin .lss (.t 33) (.t 35), none⟩,
    ⟨some 6, .mv (.t 36), none⟩])
  .ret)
  .skip))
  (.seq (.seq (.ops [⟨some 37, .mv (.t 2), none⟩])
  (.cond (.t 37)
  (.seq (.ops [⟨some 38, .fa 3 1 3 (.t 3), none⟩,
    ⟨some 39, .ld 1 false (.t 38), none⟩,
    ⟨some 40, .fa 3 1 3 (.t 4), none⟩,
    ⟨some 41, .ld 1 false (.t 40), none⟩,
    ⟨some 42, .bin .lss (.t 39) (.t 41), none⟩,
    ⟨some 6, .mv (.t 42), none⟩])
  .ret)
  .skip))
  (.seq (.ops [⟨some 43, .fa 3 1 3 (.t 3), none⟩,
    ⟨some 44, .ld 1 false (.t 43), none⟩,
    ⟨some 45, .fa 3 1 3 (.t 4), none⟩,
    ⟨some 46, .ld 1 false (.t 45), none⟩,
    ⟨some 47, .bin .gtr (.t 44) (.t 46), none⟩,
    ⟨some 6, .mv (.t 47), none⟩])
  .ret))))))⟩
theorem c8 : compileF Try.prog [] 8 = some cf8 := by kernel_rfl
/-- impl.PilotBetter -/
def cf10 : CF := ⟨52, [.t 6],
  (.seq (.ops [⟨some 3, .bx (.t 0), none⟩,
    ⟨some 4, .bx (.t 1), none⟩,
    ⟨some 6, .mv (.k (.bool false)), none⟩])
  (.seq (.block 0 (.seq (.ops [⟨some 8, .fa 0 1 0 (.t 3), none⟩,
    ⟨some 9, .ld 1 false (.t 8), none⟩,
    ⟨some 10, .fa 0 1 0 (.t 4), none⟩,
    ⟨some 11, .ld 1 false (.t 10), none⟩,
    ⟨some 12, .bin .neq (.t 9) (.t 11), none⟩,
    ⟨some 7, .mv (.t 12), none⟩])
  (.cond (.t 7)
  (.seq (.ops [⟨some 13, .fa 0 1 0 (.t 3), none⟩,
    ⟨some 14, .ld 1 false (.t 13), none⟩,
    ⟨some 15, .fa 0 1 0 (.t 4), none⟩,
    ⟨some 16, .ld 1 false (.t 15), none⟩,
    ⟨some 17, .bin .gtr (.t 14) (.t 16), none⟩,
    ⟨some 6, .mv (.t 17), none⟩])
  .ret)
  (.seq (.ops [⟨some 19, .fa 1 1 1 (.t 3), none⟩,
    ⟨some 20, .ld 1 false (.t 19), none⟩,
    ⟨some 21, .fa 1 1 1 (.t 4), none⟩,
    ⟨some 22, .ld 1 false (.t 21), none⟩,
    ⟨some 23, .bin .neq (.t 20) (.t 22), none⟩,
    ⟨some 18, .mv (.t 23), none⟩])
  (.cond (.t 18)
  (.seq (.ops [⟨some 24, .fa 1 1 1 (.t 3), none⟩,
    ⟨some 25, .ld 1 false (.t 24), none⟩,
    ⟨some 26, .fa 1 1 1 (.t 4), none⟩,
    ⟨some 27, .ld 1 false (.t 26), none⟩,
    ⟨some 28, .bin .lss (.t 25) (.t 27), none⟩,
    ⟨some 6, .mv (.t 28), none⟩])
  .ret)
  (.seq (.ops [⟨some 30, .fa 2 1 2 (.t 3), none⟩,
    ⟨some 31, .ld 1 false (.t 30), none⟩,
    ⟨some 32, .fa 2 1 2 (.t 4), none⟩,
    ⟨some 33, .ld 1 false (.t 32), none⟩,
    ⟨some 34, .bin .neq (.t 31) (.t 33), none⟩,
    ⟨some 29, .mv (.t 34), none⟩])
  (.cond (.t 29)
  (.seq (.ops [⟨some 35, .fa 2 1 2 (.t 3), none⟩,
    ⟨some 36, .ld 1 false (.t 35), none⟩,
    ⟨some 37, .fa 2 1 2 (.t 4), none⟩,
    ⟨some 38, .ld 1 false (.t 37), none⟩,
    ⟨some 39, .bin .lss (.t 36) (.t 38), none⟩,
    ⟨some 6, .mv (.t 39), none⟩])
  .ret)
  (.seq (.ops [⟨some 41, .mv (.t 2), none⟩,
    ⟨some 40, .mv (.t 41), none⟩])
  (.cond (.t 40)
  (.seq (.ops [⟨some 42, .fa 3 1 3 (.t 3), none⟩,
    ⟨some 43, .ld 1 false (.t 42), none⟩,
    ⟨some 44, .fa 3 1 3 (.t 4), none⟩,
    ⟨some 45, .ld 1 false (.t 44), none⟩,
    ⟨some 46, .bin .lss (.t 43) (.t 45), none⟩,
    ⟨some 6, .mv (.t 46), none⟩])
  .ret)
  .skip)))))))))
  (.seq (.ops [⟨some 47, .fa 3 1 3 (.t 3), none⟩,
    ⟨some 48, .ld 1 false (.t 47), none⟩,
    ⟨some 49, .fa 3 1 3 (.t 4), none⟩,
    ⟨some 50, .ld 1 false (.t 49), none⟩,
    ⟨some 51, .bin .gtr (.t 48) (.t 50), none⟩,
    ⟨some 6, .mv (.t 51), none⟩])
  .ret)))⟩
theorem c10 : compileF Try.prog [] 10 = some cf10 := by kernel_rfl
/-- laws.FnExactPilotBetter -/
def cf4 : CF := ⟨24, [.t 6],
  (.seq (.ops [⟨some 3, .bx (.t 0), none⟩,
    ⟨some 4, .bx (.t 1), none⟩,
    ⟨some 6, .mv (.k (.bool false)), none⟩])
  (.seq (.quiet [⟨some 9, .ld 4 true (.t 3), none⟩,
    ⟨some 10, .call 9 [(.t 9)], none⟩,
    ⟨some 11, .ld 4 true (.t 4), none⟩,
    ⟨some 12, .call 9 [(.t 11)], none⟩,
    ⟨some 13, .mv (.t 2), none⟩,
    ⟨some 14, .call 8 [(.t 10), (.t 12), (.t 13)], none⟩,
    ⟨some 7, .mv (.t 14), none⟩])
  (.seq (.quiet [⟨some 15, .ld 4 true (.t 3), none⟩,
    ⟨some 16, .call 9 [(.t 15)], none⟩,
    ⟨some 17, .ld 4 true (.t 4), none⟩,
    ⟨some 18, .call 9 [(.t 17)], none⟩,
    ⟨some 19, .mv (.t 2), none⟩,
    ⟨some 20, .call 10 [(.t 16), (.t 18), (.t 19)], none⟩,
    ⟨some 8, .mv (.t 20), none⟩])
  (.seq (.seq (.ops [⟨some 21, .mv (.t 8), none⟩,
    ⟨some 22, .mv (.t 7), none⟩,
    ⟨some 23, .binb true (.t 21) (.t 22), none⟩])
  (.cond (.t 23)
  (.seq (.ops [⟨some 6, .mv (.k (.bool false)), none⟩])
  .ret)
  .skip))
  (.seq (.ops [⟨some 6, .mv (.k (.bool true)), none⟩])
  .ret)))))⟩
theorem c4 : compileF Try.prog [] 4 = some cf4 := by kernel_rfl
structure PScore where
  a : Int
  b : Int
  c : Int
  d : Int
def PScore.D (x : PScore) : D := .agg [.int .i64 x.a, .int .i64 x.b, .int .i64 x.c, .int .i64 x.d]
def better (x y : PScore) (p : Bool) : Bool := if x.a != y.a then decide (x.a > y.a) else if x.b != y.b then decide (x.b < y.b) else if x.c != y.c then decide (x.c < y.c) else if p then decide (x.d < y.d) else decide (x.d > y.d)
theorem to_PilotScore (x : PScore) : Rdr Try.prog 9 [x.D] x.D := by
  refine Rdr.intro' hm c9 (Nat.le_of_ble_eq_true rfl) ?_
  conv => whnf
  repeat' (first
    | (refine g_op ?_; conv => whnf)
    | (refine And.intro rfl ?_; conv => whnf)
    | (refine And.intro (Nat.le_of_ble_eq_true rfl) ?_; conv => whnf)
    | (refine g_seq ?_)
    | (refine g_ops ?_)
    | (refine g_nil ?_; conv => whnf)
    | (refine g_opg ?_; conv => whnf)
    | (refine Br.t (by first | assumption | rfl) ?_; conv => whnf)
    | (refine Br.f (by first | assumption | rfl) ?_; conv => whnf)
    | (refine Br.mk (fun hb => ?_) (fun hb => ?_) <;> conv => whnf)
    | (refine g_cond ?_; conv => whnf)
    | (refine g_skip ?_; conv => whnf)
    | (refine g_ret ?_; conv => whnf)
    | (refine g_exit ?_; conv => whnf)
    | (refine g_block ?_)
    | (refine g_quiet ?_)
    | (refine q_op ?_; conv => whnf)
    | (refine q_nil ?_; conv => whnf)
    | (refine q_opg ?_; conv => whnf)
    | (refine r_t ?_; conv => whnf)
    | (refine r_c ?_; conv => whnf)
    | (refine r_nil ?_; conv => whnf))
  all_goals rfl
theorem spec_PilotBetter (x y : PScore) (p : Bool) : Rdr Try.prog 8 [x.D, y.D, .bool p] (.bool (better x y p)) := by
  refine Rdr.intro' hm c8 (Nat.le_of_ble_eq_true rfl) ?_
  conv => whnf
  repeat' (first
    | (refine g_op ?_; conv => whnf)
    | (refine And.intro rfl ?_; conv => whnf)
    | (refine And.intro (Nat.le_of_ble_eq_true rfl) ?_; conv => whnf)
    | (refine g_seq ?_)
    | (refine g_ops ?_)
    | (refine g_nil ?_; conv => whnf)
    | (refine g_opg ?_; conv => whnf)
    | (refine Br.t (by first | assumption | rfl) ?_; conv => whnf)
    | (refine Br.f (by first | assumption | rfl) ?_; conv => whnf)
    | (refine Br.mk (fun hb => ?_) (fun hb => ?_) <;> conv => whnf)
    | (refine g_cond ?_; conv => whnf)
    | (refine g_skip ?_; conv => whnf)
    | (refine g_ret ?_; conv => whnf)
    | (refine g_exit ?_; conv => whnf)
    | (refine g_block ?_)
    | (refine g_quiet ?_)
    | (refine q_op ?_; conv => whnf)
    | (refine q_nil ?_; conv => whnf)
    | (refine q_opg ?_; conv => whnf)
    | (refine r_t ?_; conv => whnf)
    | (refine r_c ?_; conv => whnf)
    | (refine r_nil ?_; conv => whnf))
  all_goals (conv => lhs; whnf)
  all_goals simp only [better, *, if_true, if_false, Bool.false_eq_true]
theorem impl_PilotBetter (x y : PScore) (p : Bool) : Rdr Try.prog 10 [x.D, y.D, .bool p] (.bool (better x y p)) := by
  refine Rdr.intro' hm c10 (Nat.le_of_ble_eq_true rfl) ?_
  conv => whnf
  repeat' (first
    | (refine g_op ?_; conv => whnf)
    | (refine And.intro rfl ?_; conv => whnf)
    | (refine And.intro (Nat.le_of_ble_eq_true rfl) ?_; conv => whnf)
    | (refine g_seq ?_)
    | (refine g_ops ?_)
    | (refine g_nil ?_; conv => whnf)
    | (refine g_opg ?_; conv => whnf)
    | (refine Br.t (by first | assumption | rfl) ?_; conv => whnf)
    | (refine Br.f (by first | assumption | rfl) ?_; conv => whnf)
    | (refine Br.mk (fun hb => ?_) (fun hb => ?_) <;> conv => whnf)
    | (refine g_cond ?_; conv => whnf)
    | (refine g_skip ?_; conv => whnf)
    | (refine g_ret ?_; conv => whnf)
    | (refine g_exit ?_; conv => whnf)
    | (refine g_block ?_)
    | (refine g_quiet ?_)
    | (refine q_op ?_; conv => whnf)
    | (refine q_nil ?_; conv => whnf)
    | (refine q_opg ?_; conv => whnf)
    | (refine r_t ?_; conv => whnf)
    | (refine r_c ?_; conv => whnf)
    | (refine r_nil ?_; conv => whnf))
  all_goals (conv => lhs; whnf)
  all_goals simp only [better, *, if_true, if_false, Bool.false_eq_true]
theorem law_PilotBetter (x y : PScore) (p : Bool) : Rdr Try.prog 4 [x.D, y.D, .bool p] (.bool true) := by
  refine Rdr.intro' hm c4 (Nat.le_of_ble_eq_true rfl) ?_
  conv => whnf
  repeat' (first
    | (refine g_op ?_; conv => whnf)
    | (refine And.intro rfl ?_; conv => whnf)
    | (refine And.intro (Nat.le_of_ble_eq_true rfl) ?_; conv => whnf)
    | (refine g_seq ?_)
    | (refine g_ops ?_)
    | (refine g_nil ?_; conv => whnf)
    | (refine g_opg ?_; conv => whnf)
    | (refine Br.t (by first | assumption | rfl) ?_; conv => whnf)
    | (refine Br.f (by first | assumption | rfl) ?_; conv => whnf)
    | (refine Br.mk (fun hb => ?_) (fun hb => ?_) <;> conv => whnf)
    | (refine g_cond ?_; conv => whnf)
    | (refine g_skip ?_; conv => whnf)
    | (refine g_ret ?_; conv => whnf)
    | (refine g_exit ?_; conv => whnf)
    | (refine g_block ?_)
    | (refine g_quiet ?_)
    | (refine q_op ?_; conv => whnf)
    | (refine q_nil ?_; conv => whnf)
    | (refine q_opg ?_; conv => whnf)
    | (refine r_t ?_; conv => whnf)
    | (refine r_c ?_; conv => whnf)
    | (refine r_nil ?_; conv => whnf))
  refine QC.of_rdr (to_PilotScore x) rfl ?_
  conv => whnf
  repeat' (first
    | (refine g_op ?_; conv => whnf)
    | (refine And.intro rfl ?_; conv => whnf)
    | (refine And.intro (Nat.le_of_ble_eq_true rfl) ?_; conv => whnf)
    | (refine g_seq ?_)
    | (refine g_ops ?_)
    | (refine g_nil ?_; conv => whnf)
    | (refine g_opg ?_; conv => whnf)
    | (refine Br.t (by first | assumption | rfl) ?_; conv => whnf)
    | (refine Br.f (by first | assumption | rfl) ?_; conv => whnf)
    | (refine Br.mk (fun hb => ?_) (fun hb => ?_) <;> conv => whnf)
    | (refine g_cond ?_; conv => whnf)
    | (refine g_skip ?_; conv => whnf)
    | (refine g_ret ?_; conv => whnf)
    | (refine g_exit ?_; conv => whnf)
    | (refine g_block ?_)
    | (refine g_quiet ?_)
    | (refine q_op ?_; conv => whnf)
    | (refine q_nil ?_; conv => whnf)
    | (refine q_opg ?_; conv => whnf)
    | (refine r_t ?_; conv => whnf)
    | (refine r_c ?_; conv => whnf)
    | (refine r_nil ?_; conv => whnf))
  refine QC.of_rdr (to_PilotScore y) rfl ?_
  conv => whnf
  repeat' (first
    | (refine g_op ?_; conv => whnf)
    | (refine And.intro rfl ?_; conv => whnf)
    | (refine And.intro (Nat.le_of_ble_eq_true rfl) ?_; conv => whnf)
    | (refine g_seq ?_)
    | (refine g_ops ?_)
    | (refine g_nil ?_; conv => whnf)
    | (refine g_opg ?_; conv => whnf)
    | (refine Br.t (by first | assumption | rfl) ?_; conv => whnf)
    | (refine Br.f (by first | assumption | rfl) ?_; conv => whnf)
    | (refine Br.mk (fun hb => ?_) (fun hb => ?_) <;> conv => whnf)
    | (refine g_cond ?_; conv => whnf)
    | (refine g_skip ?_; conv => whnf)
    | (refine g_ret ?_; conv => whnf)
    | (refine g_exit ?_; conv => whnf)
    | (refine g_block ?_)
    | (refine g_quiet ?_)
    | (refine q_op ?_; conv => whnf)
    | (refine q_nil ?_; conv => whnf)
    | (refine q_opg ?_; conv => whnf)
    | (refine r_t ?_; conv => whnf)
    | (refine r_c ?_; conv => whnf)
    | (refine r_nil ?_; conv => whnf))
  refine QC.of_rdr (spec_PilotBetter x y p) rfl ?_
  conv => whnf
  repeat' (first
    | (refine g_op ?_; conv => whnf)
    | (refine And.intro rfl ?_; conv => whnf)
    | (refine And.intro (Nat.le_of_ble_eq_true rfl) ?_; conv => whnf)
    | (refine g_seq ?_)
    | (refine g_ops ?_)
    | (refine g_nil ?_; conv => whnf)
    | (refine g_opg ?_; conv => whnf)
    | (refine Br.t (by first | assumption | rfl) ?_; conv => whnf)
    | (refine Br.f (by first | assumption | rfl) ?_; conv => whnf)
    | (refine Br.mk (fun hb => ?_) (fun hb => ?_) <;> conv => whnf)
    | (refine g_cond ?_; conv => whnf)
    | (refine g_skip ?_; conv => whnf)
    | (refine g_ret ?_; conv => whnf)
    | (refine g_exit ?_; conv => whnf)
    | (refine g_block ?_)
    | (refine g_quiet ?_)
    | (refine q_op ?_; conv => whnf)
    | (refine q_nil ?_; conv => whnf)
    | (refine q_opg ?_; conv => whnf)
    | (refine r_t ?_; conv => whnf)
    | (refine r_c ?_; conv => whnf)
    | (refine r_nil ?_; conv => whnf))
  refine QC.of_rdr (to_PilotScore x) rfl ?_
  conv => whnf
  repeat' (first
    | (refine g_op ?_; conv => whnf)
    | (refine And.intro rfl ?_; conv => whnf)
    | (refine And.intro (Nat.le_of_ble_eq_true rfl) ?_; conv => whnf)
    | (refine g_seq ?_)
    | (refine g_ops ?_)
    | (refine g_nil ?_; conv => whnf)
    | (refine g_opg ?_; conv => whnf)
    | (refine Br.t (by first | assumption | rfl) ?_; conv => whnf)
    | (refine Br.f (by first | assumption | rfl) ?_; conv => whnf)
    | (refine Br.mk (fun hb => ?_) (fun hb => ?_) <;> conv => whnf)
    | (refine g_cond ?_; conv => whnf)
    | (refine g_skip ?_; conv => whnf)
    | (refine g_ret ?_; conv => whnf)
    | (refine g_exit ?_; conv => whnf)
    | (refine g_block ?_)
    | (refine g_quiet ?_)
    | (refine q_op ?_; conv => whnf)
    | (refine q_nil ?_; conv => whnf)
    | (refine q_opg ?_; conv => whnf)
    | (refine r_t ?_; conv => whnf)
    | (refine r_c ?_; conv => whnf)
    | (refine r_nil ?_; conv => whnf))
  refine QC.of_rdr (to_PilotScore y) rfl ?_
  conv => whnf
  repeat' (first
    | (refine g_op ?_; conv => whnf)
    | (refine And.intro rfl ?_; conv => whnf)
    | (refine And.intro (Nat.le_of_ble_eq_true rfl) ?_; conv => whnf)
    | (refine g_seq ?_)
    | (refine g_ops ?_)
    | (refine g_nil ?_; conv => whnf)
    | (refine g_opg ?_; conv => whnf)
    | (refine Br.t (by first | assumption | rfl) ?_; conv => whnf)
    | (refine Br.f (by first | assumption | rfl) ?_; conv => whnf)
    | (refine Br.mk (fun hb => ?_) (fun hb => ?_) <;> conv => whnf)
    | (refine g_cond ?_; conv => whnf)
    | (refine g_skip ?_; conv => whnf)
    | (refine g_ret ?_; conv => whnf)
    | (refine g_exit ?_; conv => whnf)
    | (refine g_block ?_)
    | (refine g_quiet ?_)
    | (refine q_op ?_; conv => whnf)
    | (refine q_nil ?_; conv => whnf)
    | (refine q_opg ?_; conv => whnf)
    | (refine r_t ?_; conv => whnf)
    | (refine r_c ?_; conv => whnf)
    | (refine r_nil ?_; conv => whnf))
  refine QC.of_rdr (impl_PilotBetter x y p) rfl ?_
  conv => whnf
  repeat' (first
    | (refine g_op ?_; conv => whnf)
    | (refine And.intro rfl ?_; conv => whnf)
    | (refine And.intro (Nat.le_of_ble_eq_true rfl) ?_; conv => whnf)
    | (refine g_seq ?_)
    | (refine g_ops ?_)
    | (refine g_nil ?_; conv => whnf)
    | (refine g_opg ?_; conv => whnf)
    | (refine Br.t (by first | assumption | rfl) ?_; conv => whnf)
    | (refine Br.f (by first | assumption | rfl) ?_; conv => whnf)
    | (refine Br.mk (fun hb => ?_) (fun hb => ?_) <;> conv => whnf)
    | (refine g_cond ?_; conv => whnf)
    | (refine g_skip ?_; conv => whnf)
    | (refine g_ret ?_; conv => whnf)
    | (refine g_exit ?_; conv => whnf)
    | (refine g_block ?_)
    | (refine g_quiet ?_)
    | (refine q_op ?_; conv => whnf)
    | (refine q_nil ?_; conv => whnf)
    | (refine q_opg ?_; conv => whnf)
    | (refine r_t ?_; conv => whnf)
    | (refine r_c ?_; conv => whnf)
    | (refine r_nil ?_; conv => whnf))
  · simp at hb
  · rfl
theorem args_PScore {d : D} (h : Has (.st [.int .i64, .int .i64, .int .i64, .int .i64]) d) : ∃ x : PScore, d = x.D := by
  simp only [Has, HasF] at h
  obtain ⟨_, rfl, _, _, rfl, ⟨v, rfl, _⟩, _, _, rfl, ⟨p, rfl, _⟩, _, _, rfl, ⟨s, rfl, _⟩, _, _, rfl, ⟨q, rfl, _⟩, rfl⟩ := h
  exact ⟨⟨v, p, s, q⟩, rfl⟩
end Go.Ab
namespace Go.Proofs.Ytjajdgljjompgaa
open Go Go.RowKit Go.ChangeShapes Go.WideShapes Go.ChangeAt Go.Ab
theorem ownfnExactPilotBetter : ownKnob Try.prog.godebug = none := by kernel_rfl
theorem laidfnExactPilotBetter : laidOutB Try.prog = true := by kernel_rfl
set_option maxRecDepth 100000 in
theorem fnExactPilotBetter_lifted (os : Os) (started : os.Started) (H : Type) (enc : TypeId × Value → H) :
    ReturnsInHanded {} Try.checked os 4 .any (Rows.fnExactPilotBetterSpec.pre6 enc Try.prog Try.f4 Rows.fnExactPilotBetterRow.domain Rows.fnExactPilotBetterRow.apart) (Rows.fnExactPilotBetterSpec.post enc Try.prog Try.f4 Rows.fnExactPilotBetterRow.apart Rows.fnExactPilotBetterRow.fresh Rows.fnExactPilotBetterRow.handsOn Rows.fnExactPilotBetterRow.again) :=
  law_reads (C := Try.checked) (bt := 4) ownfnExactPilotBetter started (by kernel_rfl) Try.func4
    (ChangeSpec.witness6 (enc := enc) (C := Try.checked) false ⟨#[], #[.agg #[.int .i64 0, .int .i64 0, .int .i64 0, .int .i64 0], .agg #[.int .i64 0, .int .i64 0, .int .i64 0, .int .i64 0], .bool false], []⟩ 8 (by kernel_rfl) (by kernel_rfl) (by kernel_rfl) (by kernel_rfl))
    laidfnExactPilotBetter [.st [.int .i64, .int .i64, .int .i64, .int .i64], .st [.int .i64, .int .i64, .int .i64, .int .i64], .bool] (by kernel_rfl) rfl rfl Try.underlying4
    (fun ds hd => match ds, hd with | [d1, d2, d3], _ => rfl)
    (fun ds h => by
      obtain ⟨_, _, rfl, h1, _, _, rfl, h2, _, _, rfl, h3, rfl⟩ := h
      obtain ⟨x, rfl⟩ := args_PScore h1
      obtain ⟨y, rfl⟩ := args_PScore h2
      obtain ⟨p, rfl⟩ := h3
      exact law_PilotBetter x y p
)
theorem fnExactPilotBetter_holds : Rows.FnExactPilotBetterSaid :=
  OpenClaim.holds_of_wide 4 Try.f4 rfl rfl rfl rfl rfl rfl rfl ⟨rfl, rfl, rfl, rfl, rfl⟩ rfl rfl rfl rfl rfl (by kernel_rfl) Try.func4 (by kernel_rfl)
    (of_decide_eq_true (by kernel_rfl)) (by unfold Func.isWrapper; first | (rw [if_pos (by decide +kernel)]; kernel_rfl) | (rw [if_neg (by decide +kernel)]; exact ⟨rfl, rfl⟩))
    (fun os started H enc _ => fnExactPilotBetter_lifted os started H enc)
#print axioms fnExactPilotBetter_holds
end Go.Proofs.Ytjajdgljjompgaa

