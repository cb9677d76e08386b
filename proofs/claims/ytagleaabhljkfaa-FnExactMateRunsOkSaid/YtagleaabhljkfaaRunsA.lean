/- What the functions under MateRunsOk compute, the specification's and the program's names, wants and runs. -/
import Derived.Test.YtagleaabhljkfaaAb8
import Derived.Test.YtagleaabhljkfaaRows
set_option linter.unusedSimpArgs false
set_option linter.unusedVariables false
namespace Go.Ab
open Go Go.RowKit Go.Proofs
attribute [local irreducible] XC IntKind.wrap xw xos xqs xr
set_option maxRecDepth 100000
theorem hm : Try.prog.follows .mixedOrders = true := by kernel_rfl
/-- laws.szMateWant -/
def cf60 : CF := ⟨20, [.t 4],
  (.seq (.ops [⟨some 2, .bx (.t 0), none⟩,
    ⟨some 4, .mv (.k (.int .i64 0)), none⟩])
  (.seq (.ops [⟨some 5, .mv (.t 1), none⟩,
    ⟨some 6, .fa 0 1 0 (.t 2), none⟩,
    ⟨some 7, .ld 1 false (.t 6), none⟩,
    ⟨some 8, .lens (.t 7), none⟩,
    ⟨some 9, .bin .sub (.t 5) (.t 8), none⟩,
    ⟨some 1, .mv (.t 9), none⟩])
  (.seq (.seq (.ops [⟨some 10, .mv (.t 1), none⟩,
    ⟨some 11, .bin .lss (.t 10) (.k (.int .i64 0)), none⟩])
  (.cond (.t 11)
  (.seq (.ops [⟨some 4, .mv (.k (.int .i64 (-1))), none⟩])
  .ret)
  .skip))
  (.seq (.ops [⟨some 12, .mv (.t 1), none⟩,
    ⟨some 13, .fa 2 1 2 (.t 2), none⟩,
    ⟨some 14, .ld 1 false (.t 13), none⟩,
    ⟨some 15, .lens (.t 14), none⟩,
    ⟨some 16, .bin .sub (.t 12) (.t 15), none⟩,
    ⟨some 1, .mv (.t 16), none⟩])
  (.seq (.seq (.ops [⟨some 17, .mv (.t 1), none⟩,
    ⟨some 18, .bin .lss (.t 17) (.k (.int .i64 0)), none⟩])
  (.cond (.t 18)
  (.seq (.ops [⟨some 4, .mv (.k (.int .i64 (-1))), none⟩])
  .ret)
  .skip))
  (.seq (.ops [⟨some 19, .mv (.t 1), none⟩,
    ⟨some 4, .mv (.t 19), none⟩])
  .ret))))))⟩
theorem c60 : compileF Try.prog [] 60 = some cf60 := by kernel_rfl
/-- laws.szMateRun -/
def cf14 : CF := ⟨12, [.t 4],
  (.seq (.ops [⟨some 2, .bx (.t 0), none⟩,
    ⟨some 4, .mv (.k (.int .i64 0)), none⟩])
  (.seq (.ops [⟨some 5, .fa 0 7 0 (.t 2), none⟩,
    ⟨some 6, .ld 7 true (.t 5), none⟩,
    ⟨some 7, .mv (.t 1), none⟩,
    ⟨some 8, .call 60 [(.t 6), (.t 7)], none⟩,
    ⟨some 1, .mv (.t 8), none⟩])
  (.seq (.seq (.ops [⟨some 9, .mv (.t 1), none⟩,
    ⟨some 10, .bin .lss (.t 9) (.k (.int .i64 0)), none⟩])
  (.cond (.t 10)
  (.seq (.ops [⟨some 4, .mv (.k (.int .i64 (-1))), none⟩])
  .ret)
  .skip))
  (.seq (.ops [⟨some 11, .mv (.t 1), none⟩,
    ⟨some 4, .mv (.t 11), none⟩])
  .ret))))⟩
theorem c14 : compileF Try.prog [] 14 = some cf14 := by kernel_rfl
/-- laws.toMateWant -/
def cf61 : CF := ⟨26, [.c 2 7 true],
  (.seq (.ops [⟨some 1, .bx (.t 0), none⟩,
    ⟨some 2, .al (.agg [.str ⟨#[]⟩, .int .i64 0, .str ⟨#[]⟩, .int .i64 0, .int .i64 0, .int .i64 0, .int .i64 0]), none⟩])
  (.seq (.ops [⟨some 3, .al (.agg [.str ⟨#[]⟩, .int .i64 0, .str ⟨#[]⟩, .int .i64 0, .int .i64 0, .int .i64 0, .int .i64 0]), none⟩])
  (.seq (.ops [⟨some 4, .fa 0 1 0 (.t 1), none⟩,
    ⟨some 5, .ld 1 false (.t 4), none⟩,
    ⟨some 6, .fa 0 1 0 (.t 3), none⟩,
    ⟨none, .st 1 (.t 6) (.t 5), none⟩])
  (.seq (.ops [⟨some 7, .fa 1 1 1 (.t 1), none⟩,
    ⟨some 8, .ld 1 false (.t 7), none⟩,
    ⟨some 9, .fa 1 1 1 (.t 3), none⟩,
    ⟨none, .st 1 (.t 9) (.t 8), none⟩])
  (.seq (.ops [⟨some 10, .fa 2 1 2 (.t 1), none⟩,
    ⟨some 11, .ld 1 false (.t 10), none⟩,
    ⟨some 12, .fa 2 1 2 (.t 3), none⟩,
    ⟨none, .st 1 (.t 12) (.t 11), none⟩])
  (.seq (.ops [⟨some 13, .fa 3 1 3 (.t 1), none⟩,
    ⟨some 14, .ld 1 false (.t 13), none⟩,
    ⟨some 15, .fa 3 1 3 (.t 3), none⟩,
    ⟨none, .st 1 (.t 15) (.t 14), none⟩])
  (.seq (.ops [⟨some 16, .fa 4 1 4 (.t 1), none⟩,
    ⟨some 17, .ld 1 false (.t 16), none⟩,
    ⟨some 18, .fa 4 1 4 (.t 3), none⟩,
    ⟨none, .st 1 (.t 18) (.t 17), none⟩])
  (.seq (.ops [⟨some 19, .fa 5 1 5 (.t 1), none⟩,
    ⟨some 20, .ld 1 false (.t 19), none⟩,
    ⟨some 21, .fa 5 1 5 (.t 3), none⟩,
    ⟨none, .st 1 (.t 21) (.t 20), none⟩])
  (.seq (.ops [⟨some 22, .fa 6 1 6 (.t 1), none⟩,
    ⟨some 23, .ld 1 false (.t 22), none⟩,
    ⟨some 24, .fa 6 1 6 (.t 3), none⟩,
    ⟨none, .st 1 (.t 24) (.t 23), none⟩])
  (.seq (.ops [⟨some 25, .ld 7 true (.t 3), none⟩,
    ⟨none, .st 7 (.t 2) (.t 25), none⟩])
  .ret))))))))))⟩
theorem c61 : compileF Try.prog [] 61 = some cf61 := by kernel_rfl
/-- laws.toMateRun -/
def cf16 : CF := ⟨21, [.c 2 11 true],
  (.seq (.ops [⟨some 1, .bx (.t 0), none⟩,
    ⟨some 2, .al (.agg [.agg [.str ⟨#[]⟩, .int .i64 0, .str ⟨#[]⟩, .int .i64 0, .int .i64 0, .int .i64 0, .int .i64 0], .int .i64 0, .int .i64 0, .int .i64 0, .int .i64 0]), none⟩])
  (.seq (.ops [⟨some 3, .al (.agg [.agg [.str ⟨#[]⟩, .int .i64 0, .str ⟨#[]⟩, .int .i64 0, .int .i64 0, .int .i64 0, .int .i64 0], .int .i64 0, .int .i64 0, .int .i64 0, .int .i64 0]), none⟩])
  (.seq (.ops [⟨some 4, .fa 0 7 0 (.t 1), none⟩,
    ⟨some 5, .ld 7 true (.t 4), none⟩,
    ⟨some 6, .call 61 [(.t 5)], none⟩,
    ⟨some 7, .fa 0 7 0 (.t 3), none⟩,
    ⟨none, .st 7 (.t 7) (.t 6), none⟩])
  (.seq (.ops [⟨some 8, .fa 7 1 1 (.t 1), none⟩,
    ⟨some 9, .ld 1 false (.t 8), none⟩,
    ⟨some 10, .fa 7 1 1 (.t 3), none⟩,
    ⟨none, .st 1 (.t 10) (.t 9), none⟩])
  (.seq (.ops [⟨some 11, .fa 8 1 2 (.t 1), none⟩,
    ⟨some 12, .ld 1 false (.t 11), none⟩,
    ⟨some 13, .fa 8 1 2 (.t 3), none⟩,
    ⟨none, .st 1 (.t 13) (.t 12), none⟩])
  (.seq (.ops [⟨some 14, .fa 9 1 3 (.t 1), none⟩,
    ⟨some 15, .ld 1 false (.t 14), none⟩,
    ⟨some 16, .fa 9 1 3 (.t 3), none⟩,
    ⟨none, .st 1 (.t 16) (.t 15), none⟩])
  (.seq (.ops [⟨some 17, .fa 10 1 4 (.t 1), none⟩,
    ⟨some 18, .ld 1 false (.t 17), none⟩,
    ⟨some 19, .fa 10 1 4 (.t 3), none⟩,
    ⟨none, .st 1 (.t 19) (.t 18), none⟩])
  (.seq (.ops [⟨some 20, .ld 11 true (.t 3), none⟩,
    ⟨none, .st 11 (.t 2) (.t 20), none⟩])
  .ret))))))))⟩
theorem c16 : compileF Try.prog [] 16 = some cf16 := by kernel_rfl
/-- spec.MateAlive -/
def cf15 : CF := ⟨16, [.t 2],
  (.seq (.ops [⟨some 1, .bx (.t 0), none⟩,
    ⟨some 2, .mv (.k (.bool false)), none⟩])
  (.seq (.ops [⟨some 3, .fa 7 1 1 (.t 1), none⟩,
    ⟨some 4, .ld 1 false (.t 3), none⟩,
    ⟨some 5, .bin .eql (.t 4) (.k (.int .i64 3)), none⟩,
    ⟨some 6, .mv (.t 5), none⟩,
    ⟨some 7, .fa 7 1 1 (.t 1), some (6, false)⟩,
    ⟨some 8, .ld 1 false (.t 7), some (6, false)⟩,
    ⟨some 9, .bin .eql (.t 8) (.k (.int .i64 4)), some (6, false)⟩,
    ⟨some 10, .pick (.t 6) (.k (.bool true)) (.t 9), none⟩,
    ⟨some 11, .mv (.t 10), none⟩,
    ⟨some 12, .fa 7 1 1 (.t 1), some (11, false)⟩,
    ⟨some 13, .ld 1 false (.t 12), some (11, false)⟩,
    ⟨some 14, .bin .eql (.t 13) (.k (.int .i64 6)), some (11, false)⟩,
    ⟨some 15, .pick (.t 11) (.k (.bool true)) (.t 14), none⟩,
    ⟨some 2, .mv (.t 15), none⟩])
  .ret))⟩
theorem c15 : compileF Try.prog [] 15 = some cf15 := by kernel_rfl
/-- impl.MateAlive -/
def cf17 : CF := ⟨16, [.t 2],
  (.seq (.ops [⟨some 1, .bx (.t 0), none⟩,
    ⟨some 2, .mv (.k (.bool false)), none⟩])
  (.seq (.ops [⟨some 3, .fa 7 1 1 (.t 1), none⟩,
    ⟨some 4, .ld 1 false (.t 3), none⟩,
    ⟨some 5, .bin .eql (.t 4) (.k (.int .i64 3)), none⟩,
    ⟨some 6, .mv (.t 5), none⟩,
    ⟨some 7, .fa 7 1 1 (.t 1), some (6, false)⟩,
    ⟨some 8, .ld 1 false (.t 7), some (6, false)⟩,
    ⟨some 9, .bin .eql (.t 8) (.k (.int .i64 4)), some (6, false)⟩,
    ⟨some 10, .pick (.t 6) (.k (.bool true)) (.t 9), none⟩,
    ⟨some 11, .mv (.t 10), none⟩,
    ⟨some 12, .fa 7 1 1 (.t 1), some (11, false)⟩,
    ⟨some 13, .ld 1 false (.t 12), some (11, false)⟩,
    ⟨some 14, .bin .eql (.t 13) (.k (.int .i64 6)), some (11, false)⟩,
    ⟨some 15, .pick (.t 11) (.k (.bool true)) (.t 14), none⟩,
    ⟨some 2, .mv (.t 15), none⟩])
  .ret))⟩
theorem c17 : compileF Try.prog [] 17 = some cf17 := by kernel_rfl
/-- laws.FnExactMateAlive -/
def cf3 : CF := ⟨20, [.t 2],
  (.seq (.ops [⟨some 1, .bx (.t 0), none⟩,
    ⟨some 2, .mv (.k (.bool false)), none⟩])
  (.seq (.ops [⟨some 3, .mv (.k (.int .i64 1048576)), none⟩])
  (.seq (.ops [⟨some 6, .ld 11 true (.t 1), none⟩,
    ⟨some 7, .mv (.t 3), none⟩,
    ⟨some 8, .call 14 [(.t 6), (.t 7)], none⟩,
    ⟨some 3, .mv (.t 8), none⟩])
  (.seq (.seq (.ops [⟨some 9, .mv (.t 3), none⟩,
    ⟨some 10, .bin .lss (.t 9) (.k (.int .i64 0)), none⟩])
  (.cond (.t 10)
  (.seq (.ops [⟨some 2, .mv (.k (.bool true)), none⟩])
  .ret)
  .skip))
  (.seq (.ops [⟨some 11, .ld 11 true (.t 1), none⟩,
    ⟨some 12, .call 16 [(.t 11)], none⟩,
    ⟨some 13, .call 15 [(.t 12)], none⟩,
    ⟨some 4, .mv (.t 13), none⟩])
  (.seq (.ops [⟨some 14, .ld 11 true (.t 1), none⟩,
    ⟨some 15, .call 16 [(.t 14)], none⟩,
    ⟨some 16, .call 17 [(.t 15)], none⟩,
    ⟨some 5, .mv (.t 16), none⟩])
  (.seq (.seq (.ops [⟨some 17, .mv (.t 5), none⟩,
    ⟨some 18, .mv (.t 4), none⟩,
    ⟨some 19, .binb true (.t 17) (.t 18), none⟩])
  (.cond (.t 19)
  (.seq (.ops [⟨some 2, .mv (.k (.bool false)), none⟩])
  .ret)
  .skip))
  (.seq (.ops [⟨some 2, .mv (.k (.bool true)), none⟩])
  .ret))))))))⟩
theorem c3 : compileF Try.prog [] 3 = some cf3 := by kernel_rfl

structure MWant where
  c : ByteArray
  v : Int
  h : ByteArray
  p : Int
  s : Int
  d : Int
  g : Int
def MWant.D (x : MWant) : D := .agg [.str x.c, .int .i64 x.v, .str x.h, .int .i64 x.p, .int .i64 x.s, .int .i64 x.d, .int .i64 x.g]
structure MRun where
  w : MWant
  s : Int
  l : Int
  f : Int
  u : Int
def MRun.D (x : MRun) : D := .agg [x.w.D, .int .i64 x.s, .int .i64 x.l, .int .i64 x.f, .int .i64 x.u]
def alive (x : MRun) : Bool := x.s == 3 || x.s == 4 || x.s == 6
theorem sz_MateWant (x : MWant) (k : Int) (hp : Nat → Option Row) : XC Try.prog 60 [x.D, .int .i64 k] hp (fun d hp' => hp' = hp ∧ ∃ n, d = .int .i64 n) := by
  refine XC.intro' hm c60 (Nat.le_of_ble_eq_true rfl) ?_
  conv => whnf
  repeat' (first
    | (refine g_op ?_; conv => whnf)
    | (refine And.intro rfl ?_; conv => whnf)
    | (refine And.intro (Nat.le_of_ble_eq_true rfl) ?_; conv => whnf)
    | (refine g_seq ?_)
    | (refine g_ops ?_)
    | (refine g_loop ?_)
    | (refine g_nil ?_; conv => whnf)
    | (refine g_opg ?_; conv => whnf)
    | (refine Br.t (by first | assumption | rfl) ?_; conv => whnf)
    | (refine Br.f (by first | assumption | rfl) ?_; conv => whnf)
    | (refine Br.mk (fun hb => ?_) (fun hb => ?_) <;> conv => whnf)
    | (refine g_cond ?_; conv => whnf)
    | (refine g_skip ?_; conv => whnf)
    | (refine g_ret ?_; conv => whnf)
    | (refine g_exit ?_; conv => whnf)
    | (refine g_block ?_)
    | (refine g_quiet ?_)
    | (refine q_op ?_; conv => whnf)
    | (refine q_nil ?_; conv => whnf)
    | (refine q_opg ?_; conv => whnf)
    | (refine r_t ?_; conv => whnf)
    | (refine r_c ?_; conv => whnf)
    | (refine r_nil ?_; conv => whnf))
  all_goals exact ⟨_, rfl⟩
theorem sz_MateRun (x : MRun) (k : Int) (hp : Nat → Option Row) : XC Try.prog 14 [x.D, .int .i64 k] hp (fun d hp' => hp' = hp ∧ ∃ n, d = .int .i64 n) := by
  refine XC.intro' hm c14 (Nat.le_of_ble_eq_true rfl) ?_
  conv => whnf
  repeat' (first
    | (refine g_op ?_; conv => whnf)
    | (refine And.intro rfl ?_; conv => whnf)
    | (refine And.intro (Nat.le_of_ble_eq_true rfl) ?_; conv => whnf)
    | (refine g_seq ?_)
    | (refine g_ops ?_)
    | (refine g_loop ?_)
    | (refine g_nil ?_; conv => whnf)
    | (refine g_opg ?_; conv => whnf)
    | (refine Br.t (by first | assumption | rfl) ?_; conv => whnf)
    | (refine Br.f (by first | assumption | rfl) ?_; conv => whnf)
    | (refine Br.mk (fun hb => ?_) (fun hb => ?_) <;> conv => whnf)
    | (refine g_cond ?_; conv => whnf)
    | (refine g_skip ?_; conv => whnf)
    | (refine g_ret ?_; conv => whnf)
    | (refine g_exit ?_; conv => whnf)
    | (refine g_block ?_)
    | (refine g_quiet ?_)
    | (refine q_op ?_; conv => whnf)
    | (refine q_nil ?_; conv => whnf)
    | (refine q_opg ?_; conv => whnf)
    | (refine r_t ?_; conv => whnf)
    | (refine r_c ?_; conv => whnf)
    | (refine r_nil ?_; conv => whnf))
  refine XC.mono (fun d hp' h => ?_) (sz_MateWant x.w k hp)
  obtain ⟨rfl, n, rfl⟩ := h
  conv => whnf
  repeat' (first
    | (refine g_op ?_; conv => whnf)
    | (refine And.intro rfl ?_; conv => whnf)
    | (refine And.intro (Nat.le_of_ble_eq_true rfl) ?_; conv => whnf)
    | (refine g_seq ?_)
    | (refine g_ops ?_)
    | (refine g_loop ?_)
    | (refine g_nil ?_; conv => whnf)
    | (refine g_opg ?_; conv => whnf)
    | (refine Br.t (by first | assumption | rfl) ?_; conv => whnf)
    | (refine Br.f (by first | assumption | rfl) ?_; conv => whnf)
    | (refine Br.mk (fun hb => ?_) (fun hb => ?_) <;> conv => whnf)
    | (refine g_cond ?_; conv => whnf)
    | (refine g_skip ?_; conv => whnf)
    | (refine g_ret ?_; conv => whnf)
    | (refine g_exit ?_; conv => whnf)
    | (refine g_block ?_)
    | (refine g_quiet ?_)
    | (refine q_op ?_; conv => whnf)
    | (refine q_nil ?_; conv => whnf)
    | (refine q_opg ?_; conv => whnf)
    | (refine r_t ?_; conv => whnf)
    | (refine r_c ?_; conv => whnf)
    | (refine r_nil ?_; conv => whnf))
  all_goals exact ⟨_, rfl⟩
theorem to_MateWant (x : MWant) : Rdr Try.prog 61 [x.D] x.D := by
  refine Rdr.intro' hm c61 (Nat.le_of_ble_eq_true rfl) ?_
  conv => whnf
  repeat' (first
    | (refine g_op ?_; conv => whnf)
    | (refine And.intro rfl ?_; conv => whnf)
    | (refine And.intro (Nat.le_of_ble_eq_true rfl) ?_; conv => whnf)
    | (refine g_seq ?_)
    | (refine g_ops ?_)
    | (refine g_loop ?_)
    | (refine g_nil ?_; conv => whnf)
    | (refine g_opg ?_; conv => whnf)
    | (refine Br.t (by first | assumption | rfl) ?_; conv => whnf)
    | (refine Br.f (by first | assumption | rfl) ?_; conv => whnf)
    | (refine Br.mk (fun hb => ?_) (fun hb => ?_) <;> conv => whnf)
    | (refine g_cond ?_; conv => whnf)
    | (refine g_skip ?_; conv => whnf)
    | (refine g_ret ?_; conv => whnf)
    | (refine g_exit ?_; conv => whnf)
    | (refine g_block ?_)
    | (refine g_quiet ?_)
    | (refine q_op ?_; conv => whnf)
    | (refine q_nil ?_; conv => whnf)
    | (refine q_opg ?_; conv => whnf)
    | (refine r_t ?_; conv => whnf)
    | (refine r_c ?_; conv => whnf)
    | (refine r_nil ?_; conv => whnf))
  all_goals rfl
theorem to_MateRun (x : MRun) : Rdr Try.prog 16 [x.D] x.D := by
  refine Rdr.intro' hm c16 (Nat.le_of_ble_eq_true rfl) ?_
  conv => whnf
  repeat' (first
    | (refine g_op ?_; conv => whnf)
    | (refine And.intro rfl ?_; conv => whnf)
    | (refine And.intro (Nat.le_of_ble_eq_true rfl) ?_; conv => whnf)
    | (refine g_seq ?_)
    | (refine g_ops ?_)
    | (refine g_loop ?_)
    | (refine g_nil ?_; conv => whnf)
    | (refine g_opg ?_; conv => whnf)
    | (refine Br.t (by first | assumption | rfl) ?_; conv => whnf)
    | (refine Br.f (by first | assumption | rfl) ?_; conv => whnf)
    | (refine Br.mk (fun hb => ?_) (fun hb => ?_) <;> conv => whnf)
    | (refine g_cond ?_; conv => whnf)
    | (refine g_skip ?_; conv => whnf)
    | (refine g_ret ?_; conv => whnf)
    | (refine g_exit ?_; conv => whnf)
    | (refine g_block ?_)
    | (refine g_quiet ?_)
    | (refine q_op ?_; conv => whnf)
    | (refine q_nil ?_; conv => whnf)
    | (refine q_opg ?_; conv => whnf)
    | (refine r_t ?_; conv => whnf)
    | (refine r_c ?_; conv => whnf)
    | (refine r_nil ?_; conv => whnf))
  refine XC.of_rdr (to_MateWant x.w) ?_
  conv => whnf
  repeat' (first
    | (refine g_op ?_; conv => whnf)
    | (refine And.intro rfl ?_; conv => whnf)
    | (refine And.intro (Nat.le_of_ble_eq_true rfl) ?_; conv => whnf)
    | (refine g_seq ?_)
    | (refine g_ops ?_)
    | (refine g_loop ?_)
    | (refine g_nil ?_; conv => whnf)
    | (refine g_opg ?_; conv => whnf)
    | (refine Br.t (by first | assumption | rfl) ?_; conv => whnf)
    | (refine Br.f (by first | assumption | rfl) ?_; conv => whnf)
    | (refine Br.mk (fun hb => ?_) (fun hb => ?_) <;> conv => whnf)
    | (refine g_cond ?_; conv => whnf)
    | (refine g_skip ?_; conv => whnf)
    | (refine g_ret ?_; conv => whnf)
    | (refine g_exit ?_; conv => whnf)
    | (refine g_block ?_)
    | (refine g_quiet ?_)
    | (refine q_op ?_; conv => whnf)
    | (refine q_nil ?_; conv => whnf)
    | (refine q_opg ?_; conv => whnf)
    | (refine r_t ?_; conv => whnf)
    | (refine r_c ?_; conv => whnf)
    | (refine r_nil ?_; conv => whnf))
  all_goals rfl
theorem spec_MateAlive (x : MRun) : Rdr Try.prog 15 [x.D] (.bool (alive x)) := by
  refine Rdr.intro' hm c15 (Nat.le_of_ble_eq_true rfl) ?_
  conv => whnf
  repeat' (first
    | (refine g_op ?_; conv => whnf)
    | (refine And.intro rfl ?_; conv => whnf)
    | (refine And.intro (Nat.le_of_ble_eq_true rfl) ?_; conv => whnf)
    | (refine g_seq ?_)
    | (refine g_ops ?_)
    | (refine g_loop ?_)
    | (refine g_nil ?_; conv => whnf)
    | (refine g_opg ?_; conv => whnf)
    | (refine Br.t (by first | assumption | rfl) ?_; conv => whnf)
    | (refine Br.f (by first | assumption | rfl) ?_; conv => whnf)
    | (refine Br.mk (fun hb => ?_) (fun hb => ?_) <;> conv => whnf)
    | (refine g_cond ?_; conv => whnf)
    | (refine g_skip ?_; conv => whnf)
    | (refine g_ret ?_; conv => whnf)
    | (refine g_exit ?_; conv => whnf)
    | (refine g_block ?_)
    | (refine g_quiet ?_)
    | (refine q_op ?_; conv => whnf)
    | (refine q_nil ?_; conv => whnf)
    | (refine q_opg ?_; conv => whnf)
    | (refine r_t ?_; conv => whnf)
    | (refine r_c ?_; conv => whnf)
    | (refine r_nil ?_; conv => whnf))
  all_goals (conv => lhs; whnf)
  all_goals simp only [alive, *, Bool.true_or, Bool.or_true, Bool.false_or, Bool.or_false]
theorem impl_MateAlive (x : MRun) : Rdr Try.prog 17 [x.D] (.bool (alive x)) := by
  refine Rdr.intro' hm c17 (Nat.le_of_ble_eq_true rfl) ?_
  conv => whnf
  repeat' (first
    | (refine g_op ?_; conv => whnf)
    | (refine And.intro rfl ?_; conv => whnf)
    | (refine And.intro (Nat.le_of_ble_eq_true rfl) ?_; conv => whnf)
    | (refine g_seq ?_)
    | (refine g_ops ?_)
    | (refine g_loop ?_)
    | (refine g_nil ?_; conv => whnf)
    | (refine g_opg ?_; conv => whnf)
    | (refine Br.t (by first | assumption | rfl) ?_; conv => whnf)
    | (refine Br.f (by first | assumption | rfl) ?_; conv => whnf)
    | (refine Br.mk (fun hb => ?_) (fun hb => ?_) <;> conv => whnf)
    | (refine g_cond ?_; conv => whnf)
    | (refine g_skip ?_; conv => whnf)
    | (refine g_ret ?_; conv => whnf)
    | (refine g_exit ?_; conv => whnf)
    | (refine g_block ?_)
    | (refine g_quiet ?_)
    | (refine q_op ?_; conv => whnf)
    | (refine q_nil ?_; conv => whnf)
    | (refine q_opg ?_; conv => whnf)
    | (refine r_t ?_; conv => whnf)
    | (refine r_c ?_; conv => whnf)
    | (refine r_nil ?_; conv => whnf))
  all_goals (conv => lhs; whnf)
  all_goals simp only [alive, *, Bool.true_or, Bool.or_true, Bool.false_or, Bool.or_false]
theorem law_MateAlive (x : MRun) : Rdr Try.prog 3 [x.D] (.bool true) := by
  refine Rdr.intro' hm c3 (Nat.le_of_ble_eq_true rfl) ?_
  conv => whnf
  repeat' (first
    | (refine g_op ?_; conv => whnf)
    | (refine And.intro rfl ?_; conv => whnf)
    | (refine And.intro (Nat.le_of_ble_eq_true rfl) ?_; conv => whnf)
    | (refine g_seq ?_)
    | (refine g_ops ?_)
    | (refine g_loop ?_)
    | (refine g_nil ?_; conv => whnf)
    | (refine g_opg ?_; conv => whnf)
    | (refine Br.t (by first | assumption | rfl) ?_; conv => whnf)
    | (refine Br.f (by first | assumption | rfl) ?_; conv => whnf)
    | (refine Br.mk (fun hb => ?_) (fun hb => ?_) <;> conv => whnf)
    | (refine g_cond ?_; conv => whnf)
    | (refine g_skip ?_; conv => whnf)
    | (refine g_ret ?_; conv => whnf)
    | (refine g_exit ?_; conv => whnf)
    | (refine g_block ?_)
    | (refine g_quiet ?_)
    | (refine q_op ?_; conv => whnf)
    | (refine q_nil ?_; conv => whnf)
    | (refine q_opg ?_; conv => whnf)
    | (refine r_t ?_; conv => whnf)
    | (refine r_c ?_; conv => whnf)
    | (refine r_nil ?_; conv => whnf))
  refine XC.mono (fun d hp' h => ?_) (sz_MateRun x _ _)
  obtain ⟨rfl, n, rfl⟩ := h
  conv => whnf
  repeat' (first
    | (refine g_op ?_; conv => whnf)
    | (refine And.intro rfl ?_; conv => whnf)
    | (refine And.intro (Nat.le_of_ble_eq_true rfl) ?_; conv => whnf)
    | (refine g_seq ?_)
    | (refine g_ops ?_)
    | (refine g_loop ?_)
    | (refine g_nil ?_; conv => whnf)
    | (refine g_opg ?_; conv => whnf)
    | (refine Br.t (by first | assumption | rfl) ?_; conv => whnf)
    | (refine Br.f (by first | assumption | rfl) ?_; conv => whnf)
    | (refine Br.mk (fun hb => ?_) (fun hb => ?_) <;> conv => whnf)
    | (refine g_cond ?_; conv => whnf)
    | (refine g_skip ?_; conv => whnf)
    | (refine g_ret ?_; conv => whnf)
    | (refine g_exit ?_; conv => whnf)
    | (refine g_block ?_)
    | (refine g_quiet ?_)
    | (refine q_op ?_; conv => whnf)
    | (refine q_nil ?_; conv => whnf)
    | (refine q_opg ?_; conv => whnf)
    | (refine r_t ?_; conv => whnf)
    | (refine r_c ?_; conv => whnf)
    | (refine r_nil ?_; conv => whnf))
  · rfl
  refine XC.of_rdr (to_MateRun x) ?_
  conv => whnf
  repeat' (first
    | (refine g_op ?_; conv => whnf)
    | (refine And.intro rfl ?_; conv => whnf)
    | (refine And.intro (Nat.le_of_ble_eq_true rfl) ?_; conv => whnf)
    | (refine g_seq ?_)
    | (refine g_ops ?_)
    | (refine g_loop ?_)
    | (refine g_nil ?_; conv => whnf)
    | (refine g_opg ?_; conv => whnf)
    | (refine Br.t (by first | assumption | rfl) ?_; conv => whnf)
    | (refine Br.f (by first | assumption | rfl) ?_; conv => whnf)
    | (refine Br.mk (fun hb => ?_) (fun hb => ?_) <;> conv => whnf)
    | (refine g_cond ?_; conv => whnf)
    | (refine g_skip ?_; conv => whnf)
    | (refine g_ret ?_; conv => whnf)
    | (refine g_exit ?_; conv => whnf)
    | (refine g_block ?_)
    | (refine g_quiet ?_)
    | (refine q_op ?_; conv => whnf)
    | (refine q_nil ?_; conv => whnf)
    | (refine q_opg ?_; conv => whnf)
    | (refine r_t ?_; conv => whnf)
    | (refine r_c ?_; conv => whnf)
    | (refine r_nil ?_; conv => whnf))
  refine XC.of_rdr (spec_MateAlive x) ?_
  conv => whnf
  repeat' (first
    | (refine g_op ?_; conv => whnf)
    | (refine And.intro rfl ?_; conv => whnf)
    | (refine And.intro (Nat.le_of_ble_eq_true rfl) ?_; conv => whnf)
    | (refine g_seq ?_)
    | (refine g_ops ?_)
    | (refine g_loop ?_)
    | (refine g_nil ?_; conv => whnf)
    | (refine g_opg ?_; conv => whnf)
    | (refine Br.t (by first | assumption | rfl) ?_; conv => whnf)
    | (refine Br.f (by first | assumption | rfl) ?_; conv => whnf)
    | (refine Br.mk (fun hb => ?_) (fun hb => ?_) <;> conv => whnf)
    | (refine g_cond ?_; conv => whnf)
    | (refine g_skip ?_; conv => whnf)
    | (refine g_ret ?_; conv => whnf)
    | (refine g_exit ?_; conv => whnf)
    | (refine g_block ?_)
    | (refine g_quiet ?_)
    | (refine q_op ?_; conv => whnf)
    | (refine q_nil ?_; conv => whnf)
    | (refine q_opg ?_; conv => whnf)
    | (refine r_t ?_; conv => whnf)
    | (refine r_c ?_; conv => whnf)
    | (refine r_nil ?_; conv => whnf))
  refine XC.of_rdr (to_MateRun x) ?_
  conv => whnf
  repeat' (first
    | (refine g_op ?_; conv => whnf)
    | (refine And.intro rfl ?_; conv => whnf)
    | (refine And.intro (Nat.le_of_ble_eq_true rfl) ?_; conv => whnf)
    | (refine g_seq ?_)
    | (refine g_ops ?_)
    | (refine g_loop ?_)
    | (refine g_nil ?_; conv => whnf)
    | (refine g_opg ?_; conv => whnf)
    | (refine Br.t (by first | assumption | rfl) ?_; conv => whnf)
    | (refine Br.f (by first | assumption | rfl) ?_; conv => whnf)
    | (refine Br.mk (fun hb => ?_) (fun hb => ?_) <;> conv => whnf)
    | (refine g_cond ?_; conv => whnf)
    | (refine g_skip ?_; conv => whnf)
    | (refine g_ret ?_; conv => whnf)
    | (refine g_exit ?_; conv => whnf)
    | (refine g_block ?_)
    | (refine g_quiet ?_)
    | (refine q_op ?_; conv => whnf)
    | (refine q_nil ?_; conv => whnf)
    | (refine q_opg ?_; conv => whnf)
    | (refine r_t ?_; conv => whnf)
    | (refine r_c ?_; conv => whnf)
    | (refine r_nil ?_; conv => whnf))
  refine XC.of_rdr (impl_MateAlive x) ?_
  conv => whnf
  repeat' (first
    | (refine g_op ?_; conv => whnf)
    | (refine And.intro rfl ?_; conv => whnf)
    | (refine And.intro (Nat.le_of_ble_eq_true rfl) ?_; conv => whnf)
    | (refine g_seq ?_)
    | (refine g_ops ?_)
    | (refine g_loop ?_)
    | (refine g_nil ?_; conv => whnf)
    | (refine g_opg ?_; conv => whnf)
    | (refine Br.t (by first | assumption | rfl) ?_; conv => whnf)
    | (refine Br.f (by first | assumption | rfl) ?_; conv => whnf)
    | (refine Br.mk (fun hb => ?_) (fun hb => ?_) <;> conv => whnf)
    | (refine g_cond ?_; conv => whnf)
    | (refine g_skip ?_; conv => whnf)
    | (refine g_ret ?_; conv => whnf)
    | (refine g_exit ?_; conv => whnf)
    | (refine g_block ?_)
    | (refine g_quiet ?_)
    | (refine q_op ?_; conv => whnf)
    | (refine q_nil ?_; conv => whnf)
    | (refine q_opg ?_; conv => whnf)
    | (refine r_t ?_; conv => whnf)
    | (refine r_c ?_; conv => whnf)
    | (refine r_nil ?_; conv => whnf))
  · simp at hb
  · rfl
theorem args_MWant {d : D} (h : Has (.st [.str, .int .i64, .str, .int .i64, .int .i64, .int .i64, .int .i64]) d) : ∃ x : MWant, d = x.D := by
  simp only [Has, HasF] at h
  obtain ⟨_, rfl, _, _, rfl, ⟨c, rfl, _⟩, _, _, rfl, ⟨v, rfl, _⟩, _, _, rfl, ⟨hh, rfl, _⟩, _, _, rfl, ⟨p, rfl, _⟩, _, _, rfl, ⟨s, rfl, _⟩, _, _, rfl, ⟨q, rfl, _⟩, _, _, rfl, ⟨g, rfl, _⟩, rfl⟩ := h
  exact ⟨⟨c, v, hh, p, s, q, g⟩, rfl⟩
theorem args_MRun {d : D} (h : Has (.st [.st [.str, .int .i64, .str, .int .i64, .int .i64, .int .i64, .int .i64], .int .i64, .int .i64, .int .i64, .int .i64]) d) : ∃ x : MRun, d = x.D := by
  rw [Has] at h
  obtain ⟨ds, rfl, h⟩ := h
  simp only [HasF] at h
  obtain ⟨_, _, rfl, hw, h⟩ := h
  obtain ⟨w, rfl⟩ := args_MWant hw
  simp only [Has] at h
  obtain ⟨_, _, rfl, ⟨s, rfl, _⟩, _, _, rfl, ⟨l, rfl, _⟩, _, _, rfl, ⟨f, rfl, _⟩, _, _, rfl, ⟨u, rfl, _⟩, rfl⟩ := h
  exact ⟨⟨w, s, l, f, u⟩, rfl⟩

/-- laws.szMateRunS -/
def cf23 : CF := ⟨27, [.t 4],
  (.seq (.ops [⟨some 4, .mv (.k (.int .i64 0)), none⟩])
  (.seq (.ops [⟨some 6, .mv (.t 1), none⟩,
    ⟨some 7, .mv (.t 0), none⟩,
    ⟨some 8, .lenl (.t 7), none⟩,
    ⟨some 9, .bin .sub (.t 6) (.t 8), none⟩,
    ⟨some 1, .mv (.t 9), none⟩])
  (.seq (.seq (.ops [⟨some 10, .mv (.t 1), none⟩,
    ⟨some 11, .bin .lss (.t 10) (.k (.int .i64 0)), none⟩])
  (.cond (.t 11)
  (.seq (.ops [⟨some 4, .mv (.k (.int .i64 (-1))), none⟩])
  .ret)
  .skip))
  (.seq (.seq (.ops [⟨some 5, .mv (.k (.int .i64 0)), none⟩])
  (.block 0 (.loop (.seq (.seq (.ops [⟨some 12, .mv (.t 5), none⟩,
    ⟨some 13, .mv (.t 0), none⟩,
    ⟨some 14, .lenl (.t 13), none⟩,
    ⟨some 15, .bin .lss (.t 12) (.t 14), none⟩])
  (.cond (.t 15)
  .skip
  (.exit 0)))
  (.seq (.block 1 (.seq (.ops [⟨some 18, .mv (.t 0), none⟩,
    ⟨some 19, .mv (.t 5), none⟩,
    ⟨some 20, .ix 11 (.t 18) (.t 19), none⟩,
    ⟨some 21, .ld 11 true (.t 20), none⟩,
    ⟨some 22, .mv (.t 1), none⟩,
    ⟨some 23, .call 14 [(.t 21), (.t 22)], none⟩,
    ⟨some 1, .mv (.t 23), none⟩])
  (.seq (.ops [⟨some 24, .mv (.t 1), none⟩,
    ⟨some 25, .bin .lss (.t 24) (.k (.int .i64 0)), none⟩])
  (.cond (.t 25)
  (.seq (.ops [⟨some 4, .mv (.k (.int .i64 (-1))), none⟩])
  .ret)
  .skip))))
  (.ops [⟨some 16, .mv (.t 5), none⟩,
    ⟨some 17, .bin .add (.t 16) (.k (.int .i64 1)), none⟩,
    ⟨some 5, .mv (.t 17), none⟩]))))))
  (.seq (.ops [⟨some 26, .mv (.t 1), none⟩,
    ⟨some 4, .mv (.t 26), none⟩])
  .ret)))))⟩
theorem c23 : compileF Try.prog [] 23 = some cf23 := by kernel_rfl
/-- laws.toMateRunS -/
def cf25 : CF := ⟨23, [.t 2],
  (.seq (.ops [⟨some 2, .mv (.k (.nil)), none⟩])
  (.seq (.ops [⟨some 5, .mv (.t 0), none⟩,
    ⟨some 6, .lenl (.t 5), none⟩,
    ⟨some 7, .mk (.agg [.agg [.str ⟨#[]⟩, .int .i64 0, .str ⟨#[]⟩, .int .i64 0, .int .i64 0, .int .i64 0, .int .i64 0], .int .i64 0, .int .i64 0, .int .i64 0, .int .i64 0]) 104 (.t 6) (.t 6), none⟩,
    ⟨some 3, .mv (.t 7), none⟩])
  (.seq (.seq (.ops [⟨some 4, .mv (.k (.int .i64 0)), none⟩])
  (.block 0 (.loop (.seq (.seq (.ops [⟨some 8, .mv (.t 4), none⟩,
    ⟨some 9, .mv (.t 0), none⟩,
    ⟨some 10, .lenl (.t 9), none⟩,
    ⟨some 11, .bin .lss (.t 8) (.t 10), none⟩])
  (.cond (.t 11)
  .skip
  (.exit 0)))
  (.seq (.block 1 (.ops [⟨some 14, .mv (.t 3), none⟩,
    ⟨some 15, .mv (.t 4), none⟩,
    ⟨some 16, .mv (.t 0), none⟩,
    ⟨some 17, .mv (.t 4), none⟩,
    ⟨some 18, .ix 11 (.t 16) (.t 17), none⟩,
    ⟨some 19, .ld 11 true (.t 18), none⟩,
    ⟨some 20, .call 16 [(.t 19)], none⟩,
    ⟨some 21, .ix 11 (.t 14) (.t 15), none⟩,
    ⟨none, .st 11 (.t 21) (.t 20), none⟩]))
  (.ops [⟨some 12, .mv (.t 4), none⟩,
    ⟨some 13, .bin .add (.t 12) (.k (.int .i64 1)), none⟩,
    ⟨some 4, .mv (.t 13), none⟩]))))))
  (.seq (.ops [⟨some 22, .mv (.t 3), none⟩,
    ⟨some 2, .mv (.t 22), none⟩])
  .ret))))⟩
theorem c25 : compileF Try.prog [] 25 = some cf25 := by kernel_rfl
/-- laws.eqMateRunS -/
def cf27 : CF := ⟨27, [.t 4],
  (.seq (.ops [⟨some 4, .mv (.k (.bool false)), none⟩])
  (.seq (.seq (.ops [⟨some 6, .mv (.t 0), none⟩,
    ⟨some 7, .lenl (.t 6), none⟩,
    ⟨some 8, .mv (.t 1), none⟩,
    ⟨some 9, .lenl (.t 8), none⟩,
    ⟨some 10, .bin .neq (.t 7) (.t 9), none⟩])
  (.cond (.t 10)
  (.seq (.ops [⟨some 4, .mv (.k (.bool false)), none⟩])
  .ret)
  .skip))
  (.seq (.seq (.ops [⟨some 5, .mv (.k (.int .i64 0)), none⟩])
  (.block 0 (.loop (.seq (.seq (.ops [⟨some 11, .mv (.t 5), none⟩,
    ⟨some 12, .mv (.t 0), none⟩,
    ⟨some 13, .lenl (.t 12), none⟩,
    ⟨some 14, .bin .lss (.t 11) (.t 13), none⟩])
  (.cond (.t 14)
  .skip
  (.exit 0)))
  (.seq (.block 1 (.seq (.quiet [⟨some 17, .mv (.t 0), none⟩,
    ⟨some 18, .mv (.t 5), none⟩,
    ⟨some 19, .ix 11 (.t 17) (.t 18), none⟩,
    ⟨some 20, .ld 11 true (.t 19), none⟩,
    ⟨some 21, .mv (.t 1), none⟩,
    ⟨some 22, .mv (.t 5), none⟩,
    ⟨some 23, .ix 11 (.t 21) (.t 22), none⟩,
    ⟨some 24, .ld 11 true (.t 23), none⟩,
    ⟨some 25, .call 67 [(.t 20), (.t 24)], none⟩,
    ⟨some 26, .not (.t 25), none⟩])
  (.cond (.t 26)
  (.seq (.ops [⟨some 4, .mv (.k (.bool false)), none⟩])
  .ret)
  .skip)))
  (.ops [⟨some 15, .mv (.t 5), none⟩,
    ⟨some 16, .bin .add (.t 15) (.k (.int .i64 1)), none⟩,
    ⟨some 5, .mv (.t 16), none⟩]))))))
  (.seq (.ops [⟨some 4, .mv (.k (.bool true)), none⟩])
  .ret))))⟩
theorem c27 : compileF Try.prog [] 27 = some cf27 := by kernel_rfl
/-- laws.eqMateRun -/
def cf67 : CF := ⟨31, [.t 4],
  (.seq (.ops [⟨some 2, .bx (.t 0), none⟩,
    ⟨some 3, .bx (.t 1), none⟩,
    ⟨some 4, .mv (.k (.bool false)), none⟩])
  (.seq (.seq (.ops [⟨some 5, .fa 0 7 0 (.t 2), none⟩,
    ⟨some 6, .ld 7 true (.t 5), none⟩,
    ⟨some 7, .fa 0 7 0 (.t 3), none⟩,
    ⟨some 8, .ld 7 true (.t 7), none⟩,
    ⟨some 9, .call 64 [(.t 6), (.t 8)], none⟩,
    ⟨some 10, .not (.t 9), none⟩])
  (.cond (.t 10)
  (.seq (.ops [⟨some 4, .mv (.k (.bool false)), none⟩])
  .ret)
  .skip))
  (.seq (.seq (.ops [⟨some 11, .fa 7 1 1 (.t 2), none⟩,
    ⟨some 12, .ld 1 false (.t 11), none⟩,
    ⟨some 13, .fa 7 1 1 (.t 3), none⟩,
    ⟨some 14, .ld 1 false (.t 13), none⟩,
    ⟨some 15, .bin .neq (.t 12) (.t 14), none⟩])
  (.cond (.t 15)
  (.seq (.ops [⟨some 4, .mv (.k (.bool false)), none⟩])
  .ret)
  .skip))
  (.seq (.seq (.ops [⟨some 16, .fa 8 1 2 (.t 2), none⟩,
    ⟨some 17, .ld 1 false (.t 16), none⟩,
    ⟨some 18, .fa 8 1 2 (.t 3), none⟩,
    ⟨some 19, .ld 1 false (.t 18), none⟩,
    ⟨some 20, .bin .neq (.t 17) (.t 19), none⟩])
  (.cond (.t 20)
  (.seq (.ops [⟨some 4, .mv (.k (.bool false)), none⟩])
  .ret)
  .skip))
  (.seq (.seq (.ops [⟨some 21, .fa 9 1 3 (.t 2), none⟩,
    ⟨some 22, .ld 1 false (.t 21), none⟩,
    ⟨some 23, .fa 9 1 3 (.t 3), none⟩,
    ⟨some 24, .ld 1 false (.t 23), none⟩,
    ⟨some 25, .bin .neq (.t 22) (.t 24), none⟩])
  (.cond (.t 25)
  (.seq (.ops [⟨some 4, .mv (.k (.bool false)), none⟩])
  .ret)
  .skip))
  (.seq (.seq (.ops [⟨some 26, .fa 10 1 4 (.t 2), none⟩,
    ⟨some 27, .ld 1 false (.t 26), none⟩,
    ⟨some 28, .fa 10 1 4 (.t 3), none⟩,
    ⟨some 29, .ld 1 false (.t 28), none⟩,
    ⟨some 30, .bin .neq (.t 27) (.t 29), none⟩])
  (.cond (.t 30)
  (.seq (.ops [⟨some 4, .mv (.k (.bool false)), none⟩])
  .ret)
  .skip))
  (.seq (.ops [⟨some 4, .mv (.k (.bool true)), none⟩])
  .ret)))))))⟩
theorem c67 : compileF Try.prog [] 67 = some cf67 := by kernel_rfl
/-- laws.eqMateWant -/
def cf64 : CF := ⟨40, [.t 4],
  (.seq (.ops [⟨some 2, .bx (.t 0), none⟩,
    ⟨some 3, .bx (.t 1), none⟩,
    ⟨some 4, .mv (.k (.bool false)), none⟩])
  (.seq (.seq (.ops [⟨some 5, .fa 0 1 0 (.t 2), none⟩,
    ⟨some 6, .ld 1 false (.t 5), none⟩,
    ⟨some 7, .fa 0 1 0 (.t 3), none⟩,
    ⟨some 8, .ld 1 false (.t 7), none⟩,
    ⟨some 9, .bin .neq (.t 6) (.t 8), none⟩])
  (.cond (.t 9)
  (.seq (.ops [⟨some 4, .mv (.k (.bool false)), none⟩])
  .ret)
  .skip))
  (.seq (.seq (.ops [⟨some 10, .fa 1 1 1 (.t 2), none⟩,
    ⟨some 11, .ld 1 false (.t 10), none⟩,
    ⟨some 12, .fa 1 1 1 (.t 3), none⟩,
    ⟨some 13, .ld 1 false (.t 12), none⟩,
    ⟨some 14, .bin .neq (.t 11) (.t 13), none⟩])
  (.cond (.t 14)
  (.seq (.ops [⟨some 4, .mv (.k (.bool false)), none⟩])
  .ret)
  .skip))
  (.seq (.seq (.ops [⟨some 15, .fa 2 1 2 (.t 2), none⟩,
    ⟨some 16, .ld 1 false (.t 15), none⟩,
    ⟨some 17, .fa 2 1 2 (.t 3), none⟩,
    ⟨some 18, .ld 1 false (.t 17), none⟩,
    ⟨some 19, .bin .neq (.t 16) (.t 18), none⟩])
  (.cond (.t 19)
  (.seq (.ops [⟨some 4, .mv (.k (.bool false)), none⟩])
  .ret)
  .skip))
  (.seq (.seq (.ops [⟨some 20, .fa 3 1 3 (.t 2), none⟩,
    ⟨some 21, .ld 1 false (.t 20), none⟩,
    ⟨some 22, .fa 3 1 3 (.t 3), none⟩,
    ⟨some 23, .ld 1 false (.t 22), none⟩,
    ⟨some 24, .bin .neq (.t 21) (.t 23), none⟩])
  (.cond (.t 24)
  (.seq (.ops [⟨some 4, .mv (.k (.bool false)), none⟩])
  .ret)
  .skip))
  (.seq (.seq (.ops [⟨some 25, .fa 4 1 4 (.t 2), none⟩,
    ⟨some 26, .ld 1 false (.t 25), none⟩,
    ⟨some 27, .fa 4 1 4 (.t 3), none⟩,
    ⟨some 28, .ld 1 false (.t 27), none⟩,
    ⟨some 29, .bin .neq (.t 26) (.t 28), none⟩])
  (.cond (.t 29)
  (.seq (.ops [⟨some 4, .mv (.k (.bool false)), none⟩])
  .ret)
  .skip))
  (.seq (.seq (.ops [⟨some 30, .fa 5 1 5 (.t 2), none⟩,
    ⟨some 31, .ld 1 false (.t 30), none⟩,
    ⟨some 32, .fa 5 1 5 (.t 3), none⟩,
    ⟨some 33, .ld 1 false (.t 32), none⟩,
    ⟨some 34, .bin .neq (.t 31) (.t 33), none⟩])
  (.cond (.t 34)
  (.seq (.ops [⟨some 4, .mv (.k (.bool false)), none⟩])
  .ret)
  .skip))
  (.seq (.seq (.ops [⟨some 35, .fa 6 1 6 (.t 2), none⟩,
    ⟨some 36, .ld 1 false (.t 35), none⟩,
    ⟨some 37, .fa 6 1 6 (.t 3), none⟩,
    ⟨some 38, .ld 1 false (.t 37), none⟩,
    ⟨some 39, .bin .neq (.t 36) (.t 38), none⟩])
  (.cond (.t 39)
  (.seq (.ops [⟨some 4, .mv (.k (.bool false)), none⟩])
  .ret)
  .skip))
  (.seq (.ops [⟨some 4, .mv (.k (.bool true)), none⟩])
  .ret)))))))))⟩
theorem c64 : compileF Try.prog [] 64 = some cf64 := by kernel_rfl
/-- spec.MateRunsOk -/
def cf24 : CF := ⟨42, [.t 4],
  (.seq (.ops [⟨some 4, .mv (.k (.bool false)), none⟩])
  (.seq (.seq (.ops [⟨some 6, .mv (.t 0), none⟩,
    ⟨some 7, .lenl (.t 6), none⟩,
    ⟨some 8, .bin .gtr (.t 7) (.k (.int .i64 20)), none⟩])
  (.cond (.t 8)
  (.seq (.ops [⟨some 4, .mv (.k (.bool false)), none⟩])
  .ret)
  .skip))
  (.seq (.seq (.ops [⟨some 5, .mv (.k (.int .i64 0)), none⟩])
  (.block 0 (.loop (.seq (.seq (.ops [⟨some 9, .mv (.t 5), none⟩,
    ⟨some 10, .mv (.t 0), none⟩,
    ⟨some 11, .lenl (.t 10), none⟩,
    ⟨some 12, .bin .lss (.t 9) (.t 11), none⟩])
  (.cond (.t 12)
  .skip
  (.exit 0)))
  (.seq (.block 1 (.seq (.quiet [⟨some 15, .mv (.t 0), none⟩,
    ⟨some 16, .mv (.t 5), none⟩,
    ⟨some 17, .ix 11 (.t 15) (.t 16), none⟩,
    ⟨some 18, .ld 11 true (.t 17), none⟩,
    ⟨some 19, .mv (.t 1), none⟩,
    ⟨some 20, .call 65 [(.t 18), (.t 19)], none⟩,
    ⟨some 21, .not (.t 20), none⟩,
    ⟨some 22, .mv (.t 21), none⟩,
    ⟨some 23, .mv (.t 5), some (22, false)⟩,
    ⟨some 24, .bin .gtr (.t 23) (.k (.int .i64 0)), some (22, false)⟩,
    ⟨some 25, .mv (.t 24), some (22, false)⟩,
    ⟨some 26, .mv (.t 0), some (25, true)⟩,
    ⟨some 27, .mv (.t 5), some (25, true)⟩,
    ⟨some 28, .bin .sub (.t 27) (.k (.int .i64 1)), some (25, true)⟩,
    ⟨some 29, .ix 11 (.t 26) (.t 28), some (25, true)⟩,
    ⟨some 30, .fa 0 7 0 (.t 29), some (25, true)⟩,
    ⟨some 31, .fa 0 1 0 (.t 30), some (25, true)⟩,
    ⟨some 32, .ld 1 false (.t 31), some (25, true)⟩,
    ⟨some 33, .mv (.t 0), some (25, true)⟩,
    ⟨some 34, .mv (.t 5), some (25, true)⟩,
    ⟨some 35, .ix 11 (.t 33) (.t 34), some (25, true)⟩,
    ⟨some 36, .fa 0 7 0 (.t 35), some (25, true)⟩,
    ⟨some 37, .fa 0 1 0 (.t 36), some (25, true)⟩,
    ⟨some 38, .ld 1 false (.t 37), some (25, true)⟩,
    ⟨some 39, .bin .geq (.t 32) (.t 38), some (25, true)⟩,
    ⟨some 40, .pick (.t 25) (.t 39) (.k (.bool false)), some (22, false)⟩,
    ⟨some 41, .pick (.t 22) (.k (.bool true)) (.t 40), none⟩])
  (.cond (.t 41)
  (.seq (.ops [⟨some 4, .mv (.k (.bool false)), none⟩])
  .ret)
  .skip)))
  (.ops [⟨some 13, .mv (.t 5), none⟩,
    ⟨some 14, .bin .add (.t 13) (.k (.int .i64 1)), none⟩,
    ⟨some 5, .mv (.t 14), none⟩]))))))
  (.seq (.ops [⟨some 4, .mv (.k (.bool true)), none⟩])
  .ret))))⟩
theorem c24 : compileF Try.prog [] 24 = some cf24 := by kernel_rfl
/-- impl.MateRunsOk -/
def cf26 : CF := ⟨99, [.t 4],
  (.seq (.ops [⟨some 4, .mv (.k (.bool false)), none⟩])
  (.seq (.seq (.ops [⟨some 7, .mv (.t 0), none⟩,
    ⟨some 8, .lenl (.t 7), none⟩,
    ⟨some 9, .bin .gtr (.t 8) (.k (.int .i64 20)), none⟩])
  (.cond (.t 9)
  (.seq (.ops [⟨some 4, .mv (.k (.bool false)), none⟩])
  .ret)
  .skip))
  (.seq (.seq (.ops [⟨some 10, .mv (.t 0), none⟩,
    ⟨some 11, .lenl (.t 10), none⟩,
    ⟨some 12, .mv (.k (.int .i64 0)), none⟩])
  (.block 0 (.loop (.seq (.ops [⟨some 13, .bin .lss (.t 12) (.t 11), none⟩])
  (.seq (.cond (.t 13)
  .skip
  (.exit 0))
  (.seq (.block 1 (.seq (.ops [⟨some 14, .mv (.t 12), none⟩,
    ⟨some 15, .ix 11 (.t 10) (.t 12), none⟩,
    ⟨some 16, .ld 11 true (.t 15), none⟩,
    ⟨some 6, .al (.agg [.agg [.str ⟨#[]⟩, .int .i64 0, .str ⟨#[]⟩, .int .i64 0, .int .i64 0, .int .i64 0, .int .i64 0], .int .i64 0, .int .i64 0, .int .i64 0, .int .i64 0]), none⟩,
    ⟨some 5, .mv (.t 14), none⟩,
    ⟨none, .st 11 (.t 6) (.t 16), none⟩])
  (.seq (.seq (.quiet [⟨some 17, .fa 0 7 0 (.t 6), none⟩,
    ⟨some 18, .ld 7 true (.t 17), none⟩,
    ⟨some 19, .call 63 [(.t 18)], none⟩,
    ⟨some 20, .not (.t 19), none⟩,
    ⟨some 21, .mv (.t 20), none⟩,
    ⟨some 22, .mv (.t 5), some (21, false)⟩,
    ⟨some 23, .bin .gtr (.t 22) (.k (.int .i64 0)), some (21, false)⟩,
    ⟨some 24, .mv (.t 23), some (21, false)⟩,
    ⟨some 25, .fa 0 7 0 (.t 6), some (24, true)⟩,
    ⟨some 26, .fa 0 1 0 (.t 25), some (24, true)⟩,
    ⟨some 27, .ld 1 false (.t 26), some (24, true)⟩,
    ⟨some 28, .mv (.t 0), some (24, true)⟩,
    ⟨some 29, .mv (.t 5), some (24, true)⟩,
    ⟨some 30, .bin .sub (.t 29) (.k (.int .i64 1)), some (24, true)⟩,
    ⟨some 31, .ix 11 (.t 28) (.t 30), some (24, true)⟩,
    ⟨some 32, .fa 0 7 0 (.t 31), some (24, true)⟩,
    ⟨some 33, .fa 0 1 0 (.t 32), some (24, true)⟩,
    ⟨some 34, .ld 1 false (.t 33), some (24, true)⟩,
    ⟨some 35, .bin .leq (.t 27) (.t 34), some (24, true)⟩,
    ⟨some 36, .pick (.t 24) (.t 35) (.k (.bool false)), some (21, false)⟩,
    ⟨some 37, .pick (.t 21) (.k (.bool true)) (.t 36), none⟩,
    ⟨some 38, .mv (.t 37), none⟩,
    ⟨some 39, .fa 7 1 1 (.t 6), some (38, false)⟩,
    ⟨some 40, .ld 1 false (.t 39), some (38, false)⟩,
    ⟨some 41, .call 66 [(.t 40), (.k (.int .i64 1)), (.k (.int .i64 6))], some (38, false)⟩,
    ⟨some 42, .not (.t 41), some (38, false)⟩,
    ⟨some 43, .pick (.t 38) (.k (.bool true)) (.t 42), none⟩,
    ⟨some 44, .mv (.t 43), none⟩,
    ⟨some 45, .fa 8 1 2 (.t 6), some (44, false)⟩,
    ⟨some 46, .ld 1 false (.t 45), some (44, false)⟩,
    ⟨some 47, .call 66 [(.t 46), (.k (.int .i64 0)), (.k (.int .i64 100))], some (44, false)⟩,
    ⟨some 48, .not (.t 47), some (44, false)⟩,
    ⟨some 49, .pick (.t 44) (.k (.bool true)) (.t 48), none⟩,
    ⟨some 50, .mv (.t 49), none⟩,
    ⟨some 51, .fa 7 1 1 (.t 6), some (50, false)⟩,
    ⟨some 52, .ld 1 false (.t 51), some (50, false)⟩,
    ⟨some 53, .bin .eql (.t 52) (.k (.int .i64 2)), some (50, false)⟩,
    ⟨some 54, .mv (.t 53), some (50, false)⟩,
    ⟨some 55, .fa 8 1 2 (.t 6), some (54, true)⟩,
    ⟨some 56, .ld 1 false (.t 55), some (54, true)⟩,
    ⟨some 57, .bin .neq (.t 56) (.k (.int .i64 0)), some (54, true)⟩,
    ⟨some 58, .pick (.t 54) (.t 57) (.k (.bool false)), some (50, false)⟩,
    ⟨some 59, .pick (.t 50) (.k (.bool true)) (.t 58), none⟩,
    ⟨some 60, .mv (.t 59), none⟩,
    ⟨some 61, .fa 9 1 3 (.t 6), some (60, false)⟩,
    ⟨some 62, .ld 1 false (.t 61), some (60, false)⟩,
    ⟨some 63, .call 66 [(.t 62), (.k (.int .i64 0)), (.k (.int .i64 1000))], some (60, false)⟩,
    ⟨some 64, .not (.t 63), some (60, false)⟩,
    ⟨some 65, .pick (.t 60) (.k (.bool true)) (.t 64), none⟩,
    ⟨some 66, .mv (.t 65), none⟩,
    ⟨some 67, .fa 10 1 4 (.t 6), some (66, false)⟩,
    ⟨some 68, .ld 1 false (.t 67), some (66, false)⟩,
    ⟨some 69, .call 66 [(.t 68), (.k (.int .i64 0)), (.k (.int .i64 1000016))], some (66, false)⟩,
    ⟨some 70, .not (.t 69), some (66, false)⟩,
    ⟨some 71, .pick (.t 66) (.k (.bool true)) (.t 70), none⟩])
  (.cond (.t 71)
  (.seq (.ops [⟨some 4, .mv (.k (.bool false)), none⟩])
  .ret)
  .skip))
  (.seq (.ops [⟨some 72, .fa 0 7 0 (.t 6), none⟩,
    ⟨some 73, .fa 2 1 2 (.t 72), none⟩,
    ⟨some 74, .ld 1 false (.t 73), none⟩,
    ⟨some 75, .bin .eql (.t 74) (.k (.str ⟨#[]⟩)), none⟩,
    ⟨some 76, .mv (.t 75), none⟩,
    ⟨some 77, .fa 10 1 4 (.t 6), some (76, true)⟩,
    ⟨some 78, .ld 1 false (.t 77), some (76, true)⟩,
    ⟨some 79, .bin .neq (.t 78) (.k (.int .i64 0)), some (76, true)⟩,
    ⟨some 80, .pick (.t 76) (.t 79) (.k (.bool false)), none⟩,
    ⟨some 81, .mv (.t 80), none⟩,
    ⟨some 82, .fa 0 7 0 (.t 6), some (81, false)⟩,
    ⟨some 83, .fa 2 1 2 (.t 82), some (81, false)⟩,
    ⟨some 84, .ld 1 false (.t 83), some (81, false)⟩,
    ⟨some 85, .bin .neq (.t 84) (.k (.str ⟨#[]⟩)), some (81, false)⟩,
    ⟨some 86, .mv (.t 85), some (81, false)⟩,
    ⟨some 87, .ld 11 true (.t 6), some (86, true)⟩,
    ⟨some 88, .call 17 [(.t 87)], some (86, true)⟩,
    ⟨some 89, .pick (.t 86) (.t 88) (.k (.bool false)), some (81, false)⟩,
    ⟨some 90, .mv (.t 89), some (81, false)⟩,
    ⟨some 91, .fa 10 1 4 (.t 6), some (90, true)⟩,
    ⟨some 92, .ld 1 false (.t 91), some (90, true)⟩,
    ⟨some 93, .mv (.t 1), some (90, true)⟩,
    ⟨some 94, .bin .add (.t 93) (.k (.int .i64 4)), some (90, true)⟩,
    ⟨some 95, .bin .lss (.t 92) (.t 94), some (90, true)⟩,
    ⟨some 96, .pick (.t 90) (.t 95) (.k (.bool false)), some (81, false)⟩,
    ⟨some 97, .pick (.t 81) (.k (.bool true)) (.t 96), none⟩])
  (.cond (.t 97)
  (.seq (.ops [⟨some 4, .mv (.k (.bool false)), none⟩])
  .ret)
  .skip)))))
  (.ops [⟨some 98, .bin .add (.t 12) (.k (.int .i64 1)), none⟩,
    ⟨some 12, .mv (.t 98), none⟩])))))))
  (.seq (.ops [⟨some 4, .mv (.k (.bool true)), none⟩])
  .ret))))⟩
theorem c26 : compileF Try.prog [] 26 = some cf26 := by kernel_rfl
/-- laws.FnExactMateRunsOk -/
def cf5 : CF := ⟨31, [.t 4],
  (.seq (.ops [⟨some 4, .mv (.k (.bool false)), none⟩])
  (.seq (.ops [⟨some 5, .mv (.k (.int .i64 1048576)), none⟩])
  (.seq (.ops [⟨some 9, .mv (.t 0), none⟩,
    ⟨some 10, .mv (.t 5), none⟩,
    ⟨some 11, .call 23 [(.t 9), (.t 10)], none⟩,
    ⟨some 5, .mv (.t 11), none⟩])
  (.seq (.seq (.ops [⟨some 12, .mv (.t 5), none⟩,
    ⟨some 13, .bin .lss (.t 12) (.k (.int .i64 0)), none⟩])
  (.cond (.t 13)
  (.seq (.ops [⟨some 4, .mv (.k (.bool true)), none⟩])
  .ret)
  .skip))
  (.seq (.ops [⟨some 14, .mv (.t 0), none⟩,
    ⟨some 15, .call 25 [(.t 14)], none⟩,
    ⟨some 16, .mv (.t 1), none⟩,
    ⟨some 17, .call 24 [(.t 15), (.t 16)], none⟩,
    ⟨some 6, .mv (.t 17), none⟩])
  (.seq (.ops [⟨some 18, .mv (.t 0), none⟩,
    ⟨some 19, .call 25 [(.t 18)], none⟩,
    ⟨some 7, .mv (.t 19), none⟩])
  (.seq (.ops [⟨some 20, .mv (.t 7), none⟩,
    ⟨some 21, .mv (.t 1), none⟩,
    ⟨some 22, .call 26 [(.t 20), (.t 21)], none⟩,
    ⟨some 8, .mv (.t 22), none⟩])
  (.seq (.seq (.ops [⟨some 23, .mv (.t 8), none⟩,
    ⟨some 24, .mv (.t 6), none⟩,
    ⟨some 25, .binb true (.t 23) (.t 24), none⟩])
  (.cond (.t 25)
  (.seq (.ops [⟨some 4, .mv (.k (.bool false)), none⟩])
  .ret)
  .skip))
  (.seq (.seq (.ops [⟨some 26, .mv (.t 7), none⟩,
    ⟨some 27, .mv (.t 0), none⟩,
    ⟨some 28, .call 25 [(.t 27)], none⟩,
    ⟨some 29, .call 27 [(.t 26), (.t 28)], none⟩,
    ⟨some 30, .not (.t 29), none⟩])
  (.cond (.t 30)
  (.seq (.ops [⟨some 4, .mv (.k (.bool false)), none⟩])
  .ret)
  .skip))
  (.seq (.ops [⟨some 4, .mv (.k (.bool true)), none⟩])
  .ret))))))))))⟩
theorem c5 : compileF Try.prog [] 5 = some cf5 := by kernel_rfl
/-- spec.l11Leased -/
def cf76 : CF := ⟨16, [.t 4],
  (.seq (.ops [⟨some 2, .bx (.t 0), none⟩,
    ⟨some 4, .mv (.k (.bool false)), none⟩])
  (.seq (.ops [⟨some 5, .fa 0 7 0 (.t 2), none⟩,
    ⟨some 6, .fa 2 1 2 (.t 5), none⟩,
    ⟨some 7, .ld 1 false (.t 6), none⟩,
    ⟨some 8, .bin .eql (.t 7) (.k (.str ⟨#[]⟩)), none⟩,
    ⟨some 9, .mv (.t 8), none⟩,
    ⟨some 10, .fa 10 1 4 (.t 2), some (9, false)⟩,
    ⟨some 11, .ld 1 false (.t 10), some (9, false)⟩,
    ⟨some 12, .mv (.t 1), some (9, false)⟩,
    ⟨some 13, .bin .add (.t 12) (.k (.int .i64 4)), some (9, false)⟩,
    ⟨some 14, .bin .geq (.t 11) (.t 13), some (9, false)⟩,
    ⟨some 15, .pick (.t 9) (.k (.bool true)) (.t 14), none⟩,
    ⟨some 4, .mv (.t 15), none⟩])
  .ret))⟩
theorem c76 : compileF Try.prog [] 76 = some cf76 := by kernel_rfl
/-- spec.l11RunOk -/
def cf65 : CF := ⟨60, [.t 4],
  (.seq (.ops [⟨some 2, .bx (.t 0), none⟩,
    ⟨some 4, .mv (.k (.bool false)), none⟩])
  (.seq (.seq (.ops [⟨some 5, .fa 0 7 0 (.t 2), none⟩,
    ⟨some 6, .ld 7 true (.t 5), none⟩,
    ⟨some 7, .call 62 [(.t 6)], none⟩,
    ⟨some 8, .not (.t 7), none⟩,
    ⟨some 9, .mv (.t 8), none⟩,
    ⟨some 10, .fa 7 1 1 (.t 2), some (9, false)⟩,
    ⟨some 11, .ld 1 false (.t 10), some (9, false)⟩,
    ⟨some 12, .call 80 [(.t 11), (.k (.int .i64 1)), (.k (.int .i64 6))], some (9, false)⟩,
    ⟨some 13, .not (.t 12), some (9, false)⟩,
    ⟨some 14, .pick (.t 9) (.k (.bool true)) (.t 13), none⟩,
    ⟨some 15, .mv (.t 14), none⟩,
    ⟨some 16, .fa 8 1 2 (.t 2), some (15, false)⟩,
    ⟨some 17, .ld 1 false (.t 16), some (15, false)⟩,
    ⟨some 18, .call 80 [(.t 17), (.k (.int .i64 0)), (.k (.int .i64 100))], some (15, false)⟩,
    ⟨some 19, .not (.t 18), some (15, false)⟩,
    ⟨some 20, .pick (.t 15) (.k (.bool true)) (.t 19), none⟩,
    ⟨some 21, .mv (.t 20), none⟩,
    ⟨some 22, .fa 7 1 1 (.t 2), some (21, false)⟩,
    ⟨some 23, .ld 1 false (.t 22), some (21, false)⟩,
    ⟨some 24, .bin .eql (.t 23) (.k (.int .i64 2)), some (21, false)⟩,
    ⟨some 25, .mv (.t 24), some (21, false)⟩,
    ⟨some 26, .fa 8 1 2 (.t 2), some (25, true)⟩,
    ⟨some 27, .ld 1 false (.t 26), some (25, true)⟩,
    ⟨some 28, .bin .neq (.t 27) (.k (.int .i64 0)), some (25, true)⟩,
    ⟨some 29, .pick (.t 25) (.t 28) (.k (.bool false)), some (21, false)⟩,
    ⟨some 30, .pick (.t 21) (.k (.bool true)) (.t 29), none⟩,
    ⟨some 31, .mv (.t 30), none⟩,
    ⟨some 32, .fa 9 1 3 (.t 2), some (31, false)⟩,
    ⟨some 33, .ld 1 false (.t 32), some (31, false)⟩,
    ⟨some 34, .call 80 [(.t 33), (.k (.int .i64 0)), (.k (.int .i64 1000))], some (31, false)⟩,
    ⟨some 35, .not (.t 34), some (31, false)⟩,
    ⟨some 36, .pick (.t 31) (.k (.bool true)) (.t 35), none⟩])
  (.cond (.t 36)
  (.seq (.ops [⟨some 4, .mv (.k (.bool false)), none⟩])
  .ret)
  .skip))
  (.seq (.seq (.ops [⟨some 37, .fa 10 1 4 (.t 2), none⟩,
    ⟨some 38, .ld 1 false (.t 37), none⟩,
    ⟨some 39, .call 80 [(.t 38), (.k (.int .i64 0)), (.k (.int .i64 1000016))], none⟩,
    ⟨some 40, .not (.t 39), none⟩,
    ⟨some 41, .mv (.t 40), none⟩,
    ⟨some 42, .fa 0 7 0 (.t 2), some (41, false)⟩,
    ⟨some 43, .fa 2 1 2 (.t 42), some (41, false)⟩,
    ⟨some 44, .ld 1 false (.t 43), some (41, false)⟩,
    ⟨some 45, .bin .eql (.t 44) (.k (.str ⟨#[]⟩)), some (41, false)⟩,
    ⟨some 46, .mv (.t 45), some (41, false)⟩,
    ⟨some 47, .fa 10 1 4 (.t 2), some (46, true)⟩,
    ⟨some 48, .ld 1 false (.t 47), some (46, true)⟩,
    ⟨some 49, .bin .neq (.t 48) (.k (.int .i64 0)), some (46, true)⟩,
    ⟨some 50, .pick (.t 46) (.t 49) (.k (.bool false)), some (41, false)⟩,
    ⟨some 51, .pick (.t 41) (.k (.bool true)) (.t 50), none⟩])
  (.cond (.t 51)
  (.seq (.ops [⟨some 4, .mv (.k (.bool false)), none⟩])
  .ret)
  .skip))
  (.seq (.ops [⟨some 52, .ld 11 true (.t 2), none⟩,
    ⟨some 53, .call 15 [(.t 52)], none⟩,
    ⟨some 54, .not (.t 53), none⟩,
    ⟨some 55, .mv (.t 54), none⟩,
    ⟨some 56, .ld 11 true (.t 2), some (55, false)⟩,
    ⟨some 57, .mv (.t 1), some (55, false)⟩,
    ⟨some 58, .call 76 [(.t 56), (.t 57)], some (55, false)⟩,
    ⟨some 59, .pick (.t 55) (.k (.bool true)) (.t 58), none⟩,
    ⟨some 4, .mv (.t 59), none⟩])
  .ret))))⟩
theorem c65 : compileF Try.prog [] 65 = some cf65 := by kernel_rfl
/-- impl.within -/
def cf66 : CF := ⟨15, [.t 6],
  (.seq (.ops [⟨some 6, .mv (.k (.bool false)), none⟩])
  (.seq (.ops [⟨some 7, .mv (.t 0), none⟩,
    ⟨some 8, .mv (.t 1), none⟩,
    ⟨some 9, .bin .geq (.t 7) (.t 8), none⟩,
    ⟨some 10, .mv (.t 9), none⟩,
    ⟨some 11, .mv (.t 0), some (10, true)⟩,
    ⟨some 12, .mv (.t 2), some (10, true)⟩,
    ⟨some 13, .bin .leq (.t 11) (.t 12), some (10, true)⟩,
    ⟨some 14, .pick (.t 10) (.t 13) (.k (.bool false)), none⟩,
    ⟨some 6, .mv (.t 14), none⟩])
  .ret))⟩
theorem c66 : compileF Try.prog [] 66 = some cf66 := by kernel_rfl
/-- spec.l10In -/
def cf80 : CF := ⟨15, [.t 6],
  (.seq (.ops [⟨some 6, .mv (.k (.bool false)), none⟩])
  (.seq (.ops [⟨some 7, .mv (.t 0), none⟩,
    ⟨some 8, .mv (.t 1), none⟩,
    ⟨some 9, .bin .geq (.t 7) (.t 8), none⟩,
    ⟨some 10, .mv (.t 9), none⟩,
    ⟨some 11, .mv (.t 0), some (10, true)⟩,
    ⟨some 12, .mv (.t 2), some (10, true)⟩,
    ⟨some 13, .bin .leq (.t 11) (.t 12), some (10, true)⟩,
    ⟨some 14, .pick (.t 10) (.t 13) (.k (.bool false)), none⟩,
    ⟨some 6, .mv (.t 14), none⟩])
  .ret))⟩
theorem c80 : compileF Try.prog [] 80 = some cf80 := by kernel_rfl
/-- impl.mName -/
def cf94 : CF := ⟨28, [.t 2],
  (.seq (.ops [⟨some 2, .mv (.k (.bool false)), none⟩])
  (.seq (.seq (.ops [⟨some 4, .mv (.t 0), none⟩,
    ⟨some 5, .lens (.t 4), none⟩,
    ⟨some 6, .bin .lss (.t 5) (.k (.int .i64 1)), none⟩,
    ⟨some 7, .mv (.t 6), none⟩,
    ⟨some 8, .mv (.t 0), some (7, false)⟩,
    ⟨some 9, .lens (.t 8), some (7, false)⟩,
    ⟨some 10, .bin .gtr (.t 9) (.k (.int .i64 20)), some (7, false)⟩,
    ⟨some 11, .pick (.t 7) (.k (.bool true)) (.t 10), none⟩])
  (.cond (.t 11)
  (.seq (.ops [⟨some 2, .mv (.k (.bool false)), none⟩])
  .ret)
  .skip))
  (.seq (.seq (.ops [⟨some 12, .mv (.t 0), none⟩,
    ⟨some 13, .lens (.t 12), none⟩,
    ⟨some 14, .mv (.k (.int .i64 0)), none⟩])
  (.block 0 (.loop (.seq (.ops [⟨some 15, .bin .lss (.t 14) (.t 13), none⟩])
  (.seq (.cond (.t 15)
  .skip
  (.exit 0))
  (.seq (.block 1 (.seq (.ops [⟨some 16, .mv (.t 14), none⟩,
    ⟨some 3, .mv (.t 16), none⟩])
  (.seq (.ops [⟨some 17, .mv (.t 0), none⟩,
    ⟨some 18, .mv (.t 3), none⟩,
    ⟨some 19, .sx (.t 17) (.t 18), none⟩,
    ⟨some 20, .bin .lss (.t 19) (.k (.int .u8 33)), none⟩,
    ⟨some 21, .mv (.t 20), none⟩,
    ⟨some 22, .mv (.t 0), some (21, false)⟩,
    ⟨some 23, .mv (.t 3), some (21, false)⟩,
    ⟨some 24, .sx (.t 22) (.t 23), some (21, false)⟩,
    ⟨some 25, .bin .gtr (.t 24) (.k (.int .u8 126)), some (21, false)⟩,
    ⟨some 26, .pick (.t 21) (.k (.bool true)) (.t 25), none⟩])
  (.cond (.t 26)
  (.seq (.ops [⟨some 2, .mv (.k (.bool false)), none⟩])
  .ret)
  .skip))))
  (.ops [⟨some 27, .bin .add (.t 14) (.k (.int .i64 1)), none⟩,
    ⟨some 14, .mv (.t 27), none⟩])))))))
  (.seq (.ops [⟨some 2, .mv (.k (.bool true)), none⟩])
  .ret))))⟩
theorem c94 : compileF Try.prog [] 94 = some cf94 := by kernel_rfl
/-- spec.l10NameOk -/
def cf91 : CF := ⟨24, [.t 2],
  (.seq (.ops [⟨some 2, .mv (.k (.bool false)), none⟩])
  (.seq (.seq (.ops [⟨some 4, .mv (.t 0), none⟩,
    ⟨some 5, .lens (.t 4), none⟩,
    ⟨some 6, .call 80 [(.t 5), (.k (.int .i64 1)), (.k (.int .i64 20))], none⟩,
    ⟨some 7, .not (.t 6), none⟩])
  (.cond (.t 7)
  (.seq (.ops [⟨some 2, .mv (.k (.bool false)), none⟩])
  .ret)
  .skip))
  (.seq (.seq (.ops [⟨some 3, .mv (.k (.int .i64 0)), none⟩])
  (.block 0 (.loop (.seq (.seq (.ops [⟨some 8, .mv (.t 3), none⟩,
    ⟨some 9, .mv (.t 0), none⟩,
    ⟨some 10, .lens (.t 9), none⟩,
    ⟨some 11, .bin .lss (.t 8) (.t 10), none⟩])
  (.cond (.t 11)
  .skip
  (.exit 0)))
  (.seq (.block 1 (.seq (.ops [⟨some 14, .mv (.t 0), none⟩,
    ⟨some 15, .mv (.t 3), none⟩,
    ⟨some 16, .sx (.t 14) (.t 15), none⟩,
    ⟨some 17, .bin .lss (.t 16) (.k (.int .u8 33)), none⟩,
    ⟨some 18, .mv (.t 17), none⟩,
    ⟨some 19, .mv (.t 0), some (18, false)⟩,
    ⟨some 20, .mv (.t 3), some (18, false)⟩,
    ⟨some 21, .sx (.t 19) (.t 20), some (18, false)⟩,
    ⟨some 22, .bin .gtr (.t 21) (.k (.int .u8 126)), some (18, false)⟩,
    ⟨some 23, .pick (.t 18) (.k (.bool true)) (.t 22), none⟩])
  (.cond (.t 23)
  (.seq (.ops [⟨some 2, .mv (.k (.bool false)), none⟩])
  .ret)
  .skip)))
  (.ops [⟨some 12, .mv (.t 3), none⟩,
    ⟨some 13, .bin .add (.t 12) (.k (.int .i64 1)), none⟩,
    ⟨some 3, .mv (.t 13), none⟩]))))))
  (.seq (.ops [⟨some 2, .mv (.k (.bool true)), none⟩])
  .ret))))⟩
theorem c91 : compileF Try.prog [] 91 = some cf91 := by kernel_rfl
/-- impl.mHold -/
def cf105 : CF := ⟨9, [.t 2],
  (.seq (.ops [⟨some 2, .mv (.k (.bool false)), none⟩])
  (.seq (.ops [⟨some 3, .mv (.t 0), none⟩,
    ⟨some 4, .call 94 [(.t 3)], none⟩,
    ⟨some 5, .mv (.t 4), none⟩,
    ⟨some 6, .mv (.t 0), some (5, true)⟩,
    ⟨some 7, .bin .neq (.t 6) (.k (.str ⟨#[42]⟩)), some (5, true)⟩,
    ⟨some 8, .pick (.t 5) (.t 7) (.k (.bool false)), none⟩,
    ⟨some 2, .mv (.t 8), none⟩])
  .ret))⟩
theorem c105 : compileF Try.prog [] 105 = some cf105 := by kernel_rfl
/-- spec.l10HoldOk -/
def cf104 : CF := ⟨9, [.t 2],
  (.seq (.ops [⟨some 2, .mv (.k (.bool false)), none⟩])
  (.seq (.ops [⟨some 3, .mv (.t 0), none⟩,
    ⟨some 4, .call 91 [(.t 3)], none⟩,
    ⟨some 5, .mv (.t 4), none⟩,
    ⟨some 6, .mv (.t 0), some (5, true)⟩,
    ⟨some 7, .bin .neq (.t 6) (.k (.str ⟨#[42]⟩)), some (5, true)⟩,
    ⟨some 8, .pick (.t 5) (.t 7) (.k (.bool false)), none⟩,
    ⟨some 2, .mv (.t 8), none⟩])
  .ret))⟩
theorem c104 : compileF Try.prog [] 104 = some cf104 := by kernel_rfl
/-- impl.mWantOk -/
def cf63 : CF := ⟨41, [.t 2],
  (.seq (.ops [⟨some 1, .bx (.t 0), none⟩,
    ⟨some 2, .mv (.k (.bool false)), none⟩])
  (.seq (.ops [⟨some 3, .fa 0 1 0 (.t 1), none⟩,
    ⟨some 4, .ld 1 false (.t 3), none⟩,
    ⟨some 5, .call 94 [(.t 4)], none⟩,
    ⟨some 6, .mv (.t 5), none⟩,
    ⟨some 7, .fa 1 1 1 (.t 1), some (6, true)⟩,
    ⟨some 8, .ld 1 false (.t 7), some (6, true)⟩,
    ⟨some 9, .call 66 [(.t 8), (.k (.int .i64 1)), (.k (.int .i64 1000000))], some (6, true)⟩,
    ⟨some 10, .pick (.t 6) (.t 9) (.k (.bool false)), none⟩,
    ⟨some 11, .mv (.t 10), none⟩,
    ⟨some 12, .fa 2 1 2 (.t 1), some (11, true)⟩,
    ⟨some 13, .ld 1 false (.t 12), some (11, true)⟩,
    ⟨some 14, .bin .eql (.t 13) (.k (.str ⟨#[]⟩)), some (11, true)⟩,
    ⟨some 15, .mv (.t 14), some (11, true)⟩,
    ⟨some 16, .fa 2 1 2 (.t 1), some (15, false)⟩,
    ⟨some 17, .ld 1 false (.t 16), some (15, false)⟩,
    ⟨some 18, .call 105 [(.t 17)], some (15, false)⟩,
    ⟨some 19, .pick (.t 15) (.k (.bool true)) (.t 18), some (11, true)⟩,
    ⟨some 20, .pick (.t 11) (.t 19) (.k (.bool false)), none⟩,
    ⟨some 21, .mv (.t 20), none⟩,
    ⟨some 22, .fa 3 1 3 (.t 1), some (21, true)⟩,
    ⟨some 23, .ld 1 false (.t 22), some (21, true)⟩,
    ⟨some 24, .call 66 [(.t 23), (.k (.int .i64 0)), (.k (.int .i64 100))], some (21, true)⟩,
    ⟨some 25, .pick (.t 21) (.t 24) (.k (.bool false)), none⟩,
    ⟨some 26, .mv (.t 25), none⟩,
    ⟨some 27, .fa 4 1 4 (.t 1), some (26, true)⟩,
    ⟨some 28, .ld 1 false (.t 27), some (26, true)⟩,
    ⟨some 29, .call 66 [(.t 28), (.k (.int .i64 0)), (.k (.int .i64 100))], some (26, true)⟩,
    ⟨some 30, .pick (.t 26) (.t 29) (.k (.bool false)), none⟩,
    ⟨some 31, .mv (.t 30), none⟩,
    ⟨some 32, .fa 5 1 5 (.t 1), some (31, true)⟩,
    ⟨some 33, .ld 1 false (.t 32), some (31, true)⟩,
    ⟨some 34, .call 66 [(.t 33), (.k (.int .i64 0)), (.k (.int .i64 100))], some (31, true)⟩,
    ⟨some 35, .pick (.t 31) (.t 34) (.k (.bool false)), none⟩,
    ⟨some 36, .mv (.t 35), none⟩,
    ⟨some 37, .fa 6 1 6 (.t 1), some (36, true)⟩,
    ⟨some 38, .ld 1 false (.t 37), some (36, true)⟩,
    ⟨some 39, .call 66 [(.t 38), (.k (.int .i64 0)), (.k (.int .i64 100))], some (36, true)⟩,
    ⟨some 40, .pick (.t 36) (.t 39) (.k (.bool false)), none⟩,
    ⟨some 2, .mv (.t 40), none⟩])
  .ret))⟩
theorem c63 : compileF Try.prog [] 63 = some cf63 := by kernel_rfl
/-- spec.l10WantOk -/
def cf62 : CF := ⟨41, [.t 2],
  (.seq (.ops [⟨some 1, .bx (.t 0), none⟩,
    ⟨some 2, .mv (.k (.bool false)), none⟩])
  (.seq (.ops [⟨some 3, .fa 0 1 0 (.t 1), none⟩,
    ⟨some 4, .ld 1 false (.t 3), none⟩,
    ⟨some 5, .call 91 [(.t 4)], none⟩,
    ⟨some 6, .mv (.t 5), none⟩,
    ⟨some 7, .fa 1 1 1 (.t 1), some (6, true)⟩,
    ⟨some 8, .ld 1 false (.t 7), some (6, true)⟩,
    ⟨some 9, .call 80 [(.t 8), (.k (.int .i64 1)), (.k (.int .i64 1000000))], some (6, true)⟩,
    ⟨some 10, .pick (.t 6) (.t 9) (.k (.bool false)), none⟩,
    ⟨some 11, .mv (.t 10), none⟩,
    ⟨some 12, .fa 2 1 2 (.t 1), some (11, true)⟩,
    ⟨some 13, .ld 1 false (.t 12), some (11, true)⟩,
    ⟨some 14, .bin .eql (.t 13) (.k (.str ⟨#[]⟩)), some (11, true)⟩,
    ⟨some 15, .mv (.t 14), some (11, true)⟩,
    ⟨some 16, .fa 2 1 2 (.t 1), some (15, false)⟩,
    ⟨some 17, .ld 1 false (.t 16), some (15, false)⟩,
    ⟨some 18, .call 104 [(.t 17)], some (15, false)⟩,
    ⟨some 19, .pick (.t 15) (.k (.bool true)) (.t 18), some (11, true)⟩,
    ⟨some 20, .pick (.t 11) (.t 19) (.k (.bool false)), none⟩,
    ⟨some 21, .mv (.t 20), none⟩,
    ⟨some 22, .fa 3 1 3 (.t 1), some (21, true)⟩,
    ⟨some 23, .ld 1 false (.t 22), some (21, true)⟩,
    ⟨some 24, .call 80 [(.t 23), (.k (.int .i64 0)), (.k (.int .i64 100))], some (21, true)⟩,
    ⟨some 25, .pick (.t 21) (.t 24) (.k (.bool false)), none⟩,
    ⟨some 26, .mv (.t 25), none⟩,
    ⟨some 27, .fa 4 1 4 (.t 1), some (26, true)⟩,
    ⟨some 28, .ld 1 false (.t 27), some (26, true)⟩,
    ⟨some 29, .call 80 [(.t 28), (.k (.int .i64 0)), (.k (.int .i64 100))], some (26, true)⟩,
    ⟨some 30, .pick (.t 26) (.t 29) (.k (.bool false)), none⟩,
    ⟨some 31, .mv (.t 30), none⟩,
    ⟨some 32, .fa 5 1 5 (.t 1), some (31, true)⟩,
    ⟨some 33, .ld 1 false (.t 32), some (31, true)⟩,
    ⟨some 34, .call 80 [(.t 33), (.k (.int .i64 0)), (.k (.int .i64 100))], some (31, true)⟩,
    ⟨some 35, .pick (.t 31) (.t 34) (.k (.bool false)), none⟩,
    ⟨some 36, .mv (.t 35), none⟩,
    ⟨some 37, .fa 6 1 6 (.t 1), some (36, true)⟩,
    ⟨some 38, .ld 1 false (.t 37), some (36, true)⟩,
    ⟨some 39, .call 80 [(.t 38), (.k (.int .i64 0)), (.k (.int .i64 100))], some (36, true)⟩,
    ⟨some 40, .pick (.t 36) (.t 39) (.k (.bool false)), none⟩,
    ⟨some 2, .mv (.t 40), none⟩])
  .ret))⟩
theorem c62 : compileF Try.prog [] 62 = some cf62 := by kernel_rfl
def inR (n lo hi : Int) : Bool := decide (n ≥ lo) && decide (n ≤ hi)
def okFrom (s : ByteArray) : Nat → Nat → Bool
  | 0, _ => true
  | k + 1, i => !(decide (byteAt s i < 33) || decide (byteAt s i > 126)) && okFrom s k (i + 1)
def nameOk (s : ByteArray) : Bool := inR s.size 1 20 && okFrom s s.size 0
def sameT (a b : ByteArray) : Bool := a.toList == b.toList
def holdOk (s : ByteArray) : Bool := nameOk s && !(s.toList == (ByteArray.mk #[42]).toList)
def wantOk (w : MWant) : Bool := nameOk w.c && inR w.v 1 1000000 && ((w.h.toList == (ByteArray.mk #[]).toList) || holdOk w.h) && inR w.p 0 100 && inR w.s 0 100 && inR w.d 0 100 && inR w.g 0 100
theorem impl_within (n lo hi : Int) : Rdr Try.prog 66 [.int .i64 n, .int .i64 lo, .int .i64 hi] (.bool (inR n lo hi)) := by
  refine Rdr.intro' hm c66 (Nat.le_of_ble_eq_true rfl) ?_
  conv => whnf
  repeat' (first
    | (refine g_op ?_; conv => whnf)
    | (refine And.intro rfl ?_; conv => whnf)
    | (refine And.intro (Nat.le_of_ble_eq_true rfl) ?_; conv => whnf)
    | (refine g_seq ?_)
    | (refine g_ops ?_)
    | (refine g_loop ?_)
    | (refine g_nil ?_; conv => whnf)
    | (refine g_opg ?_; conv => whnf)
    | (refine Br.t (by first | assumption | rfl) ?_; conv => whnf)
    | (refine Br.f (by first | assumption | rfl) ?_; conv => whnf)
    | (refine Br.mk (fun hb => ?_) (fun hb => ?_) <;> conv => whnf)
    | (refine g_cond ?_; conv => whnf)
    | (refine g_skip ?_; conv => whnf)
    | (refine g_ret ?_; conv => whnf)
    | (refine g_exit ?_; conv => whnf)
    | (refine g_block ?_)
    | (refine g_quiet ?_)
    | (refine q_op ?_; conv => whnf)
    | (refine q_nil ?_; conv => whnf)
    | (refine q_opg ?_; conv => whnf)
    | (refine r_t ?_; conv => whnf)
    | (refine r_c ?_; conv => whnf)
    | (refine r_nil ?_; conv => whnf))
  all_goals (conv => lhs; whnf)
  all_goals simp only [*, Bool.true_and, Bool.false_and, Bool.and_true, Bool.and_false, Bool.true_or, Bool.false_or, Bool.or_true, Bool.or_false, Bool.not_true, Bool.not_false, inR]
theorem spec_l10In (n lo hi : Int) : Rdr Try.prog 80 [.int .i64 n, .int .i64 lo, .int .i64 hi] (.bool (inR n lo hi)) := by
  refine Rdr.intro' hm c80 (Nat.le_of_ble_eq_true rfl) ?_
  conv => whnf
  repeat' (first
    | (refine g_op ?_; conv => whnf)
    | (refine And.intro rfl ?_; conv => whnf)
    | (refine And.intro (Nat.le_of_ble_eq_true rfl) ?_; conv => whnf)
    | (refine g_seq ?_)
    | (refine g_ops ?_)
    | (refine g_loop ?_)
    | (refine g_nil ?_; conv => whnf)
    | (refine g_opg ?_; conv => whnf)
    | (refine Br.t (by first | assumption | rfl) ?_; conv => whnf)
    | (refine Br.f (by first | assumption | rfl) ?_; conv => whnf)
    | (refine Br.mk (fun hb => ?_) (fun hb => ?_) <;> conv => whnf)
    | (refine g_cond ?_; conv => whnf)
    | (refine g_skip ?_; conv => whnf)
    | (refine g_ret ?_; conv => whnf)
    | (refine g_exit ?_; conv => whnf)
    | (refine g_block ?_)
    | (refine g_quiet ?_)
    | (refine q_op ?_; conv => whnf)
    | (refine q_nil ?_; conv => whnf)
    | (refine q_opg ?_; conv => whnf)
    | (refine r_t ?_; conv => whnf)
    | (refine r_c ?_; conv => whnf)
    | (refine r_nil ?_; conv => whnf))
  all_goals (conv => lhs; whnf)
  all_goals simp only [*, Bool.true_and, Bool.false_and, Bool.and_true, Bool.and_false, Bool.true_or, Bool.false_or, Bool.or_true, Bool.or_false, Bool.not_true, Bool.not_false, inR]
theorem okFrom_step {s : ByteArray} {i : Nat} (h : i < s.size) : okFrom s (s.size - i) i = (!(decide (byteAt s i < 33) || decide (byteAt s i > 126)) && okFrom s (s.size - (i + 1)) (i + 1)) := by
  have e : s.size - i = (s.size - (i + 1)) + 1 := by omega
  rw [e, okFrom]
theorem spec_l10NameOk (s : ByteArray) : Rdr Try.prog 91 [.str s] (.bool (nameOk s)) := by
  refine Rdr.intro' hm c91 (Nat.le_of_ble_eq_true rfl) ?_
  conv => whnf
  repeat' (first
    | (refine g_op ?_; conv => whnf)
    | (refine And.intro rfl ?_; conv => whnf)
    | (refine And.intro (Nat.le_of_ble_eq_true rfl) ?_; conv => whnf)
    | (refine g_seq ?_)
    | (refine g_ops ?_)
    | (refine g_loop ?_)
    | (refine g_nil ?_; conv => whnf)
    | (refine g_opg ?_; conv => whnf)
    | (refine Br.t (by first | assumption | rfl) ?_; conv => whnf)
    | (refine Br.f (by first | assumption | rfl) ?_; conv => whnf)
    | (refine g_cond ?_; conv => whnf)
    | (refine g_skip ?_; conv => whnf)
    | (refine g_ret ?_; conv => whnf)
    | (refine g_exit ?_; conv => whnf)
    | (refine g_block ?_)
    | (refine g_quiet ?_)
    | (refine q_op ?_; conv => whnf)
    | (refine q_nil ?_; conv => whnf)
    | (refine q_opg ?_; conv => whnf)
    | (refine r_t ?_; conv => whnf)
    | (refine r_c ?_; conv => whnf)
    | (refine r_nil ?_; conv => whnf)
    | (refine And.intro (by decide) ?_; conv => whnf)
    | (refine And.intro (by omega) ?_; conv => whnf)
    | fail)
  refine XC.of_rdr (spec_l10In _ _ _) ?_
  conv => whnf
  repeat' (first
    | (refine g_op ?_; conv => whnf)
    | (refine And.intro rfl ?_; conv => whnf)
    | (refine And.intro (Nat.le_of_ble_eq_true rfl) ?_; conv => whnf)
    | (refine g_seq ?_)
    | (refine g_ops ?_)
    | (refine g_loop ?_)
    | (refine g_nil ?_; conv => whnf)
    | (refine g_opg ?_; conv => whnf)
    | (refine Br.t (by first | assumption | rfl) ?_; conv => whnf)
    | (refine Br.f (by first | assumption | rfl) ?_; conv => whnf)
    | (refine g_cond ?_; conv => whnf)
    | (refine g_skip ?_; conv => whnf)
    | (refine g_ret ?_; conv => whnf)
    | (refine g_exit ?_; conv => whnf)
    | (refine g_block ?_)
    | (refine g_quiet ?_)
    | (refine q_op ?_; conv => whnf)
    | (refine q_nil ?_; conv => whnf)
    | (refine q_opg ?_; conv => whnf)
    | (refine r_t ?_; conv => whnf)
    | (refine r_c ?_; conv => whnf)
    | (refine r_nil ?_; conv => whnf)
    | (refine And.intro (by decide) ?_; conv => whnf)
    | (refine And.intro (by omega) ?_; conv => whnf)
    | fail)
  refine Br.mk (fun hb => ?_) (fun hb => ?_)
  · have hn : inR s.size 1 20 = false := by simpa using hb
    conv => whnf
    repeat' (first
      | (refine g_op ?_; conv => whnf)
      | (refine And.intro rfl ?_; conv => whnf)
      | (refine And.intro (Nat.le_of_ble_eq_true rfl) ?_; conv => whnf)
      | (refine g_seq ?_)
      | (refine g_ops ?_)
      | (refine g_loop ?_)
      | (refine g_nil ?_; conv => whnf)
      | (refine g_opg ?_; conv => whnf)
      | (refine Br.t (by first | assumption | rfl) ?_; conv => whnf)
      | (refine Br.f (by first | assumption | rfl) ?_; conv => whnf)
      | (refine g_cond ?_; conv => whnf)
      | (refine g_skip ?_; conv => whnf)
      | (refine g_ret ?_; conv => whnf)
      | (refine g_exit ?_; conv => whnf)
      | (refine g_block ?_)
      | (refine g_quiet ?_)
      | (refine q_op ?_; conv => whnf)
      | (refine q_nil ?_; conv => whnf)
      | (refine q_opg ?_; conv => whnf)
      | (refine r_t ?_; conv => whnf)
      | (refine r_c ?_; conv => whnf)
      | (refine r_nil ?_; conv => whnf)
      | (refine And.intro (by decide) ?_; conv => whnf)
      | (refine And.intro (by omega) ?_; conv => whnf)
      | fail)
    conv => lhs; whnf
    simp only [nameOk, hn, Bool.false_and]
  have hn : inR s.size 1 20 = true := by simpa using hb
  have hsz : s.size ≤ 20 := by simp [inR] at hn; omega
  conv => whnf
  repeat' (first
    | (refine g_op ?_; conv => whnf)
    | (refine And.intro rfl ?_; conv => whnf)
    | (refine And.intro (Nat.le_of_ble_eq_true rfl) ?_; conv => whnf)
    | (refine g_seq ?_)
    | (refine g_ops ?_)
    | (refine g_loop ?_)
    | (refine g_nil ?_; conv => whnf)
    | (refine g_opg ?_; conv => whnf)
    | (refine Br.t (by first | assumption | rfl) ?_; conv => whnf)
    | (refine Br.f (by first | assumption | rfl) ?_; conv => whnf)
    | (refine g_cond ?_; conv => whnf)
    | (refine g_skip ?_; conv => whnf)
    | (refine g_ret ?_; conv => whnf)
    | (refine g_exit ?_; conv => whnf)
    | (refine g_block ?_)
    | (refine g_quiet ?_)
    | (refine q_op ?_; conv => whnf)
    | (refine q_nil ?_; conv => whnf)
    | (refine q_opg ?_; conv => whnf)
    | (refine r_t ?_; conv => whnf)
    | (refine r_c ?_; conv => whnf)
    | (refine r_nil ?_; conv => whnf)
    | (refine And.intro (by decide) ?_; conv => whnf)
    | (refine And.intro (by omega) ?_; conv => whnf)
    | fail)
  refine XLc.mkL (α := Nat) (fun i => i ≤ s.size ∧ nameOk s = okFrom s (s.size - i) i) (fun i => s.size - i) (fun i gs => [.str s, .any, .bool false, .int .i64 (i : Int)]) (fun i gs => []) (fun _ => none) 0 ⟨Nat.zero_le _, by simp [nameOk, hn]⟩ ?_ ?_
  · refine ⟨?_, True.intro, rfl⟩
    repeat' (first | exact True.intro | refine And.intro rfl ?_)
  intro i gs hI
  obtain ⟨hi, hN⟩ := hI
  repeat' (first
    | (refine g_op ?_; conv => whnf)
    | (refine And.intro rfl ?_; conv => whnf)
    | (refine And.intro (Nat.le_of_ble_eq_true rfl) ?_; conv => whnf)
    | (refine g_seq ?_)
    | (refine g_ops ?_)
    | (refine g_loop ?_)
    | (refine g_nil ?_; conv => whnf)
    | (refine g_opg ?_; conv => whnf)
    | (refine Br.t (by first | assumption | rfl) ?_; conv => whnf)
    | (refine Br.f (by first | assumption | rfl) ?_; conv => whnf)
    | (refine g_cond ?_; conv => whnf)
    | (refine g_skip ?_; conv => whnf)
    | (refine g_ret ?_; conv => whnf)
    | (refine g_exit ?_; conv => whnf)
    | (refine g_block ?_)
    | (refine g_quiet ?_)
    | (refine q_op ?_; conv => whnf)
    | (refine q_nil ?_; conv => whnf)
    | (refine q_opg ?_; conv => whnf)
    | (refine r_t ?_; conv => whnf)
    | (refine r_c ?_; conv => whnf)
    | (refine r_nil ?_; conv => whnf)
    | (refine And.intro (by decide) ?_; conv => whnf)
    | (refine And.intro (by omega) ?_; conv => whnf)
    | fail)
  refine Br.mk (fun hb => ?_) (fun hb => ?_)
  · have hlt : i < s.size := by simpa using hb
    have e1 : (i : Int) < (s.size : Int) := by omega
    have hstep := okFrom_step hlt
    conv => whnf
    repeat' (first
      | (refine g_op ?_; conv => whnf)
      | (refine And.intro rfl ?_; conv => whnf)
      | (refine And.intro (Nat.le_of_ble_eq_true rfl) ?_; conv => whnf)
      | (refine g_seq ?_)
      | (refine g_ops ?_)
      | (refine g_loop ?_)
      | (refine g_nil ?_; conv => whnf)
      | (refine g_opg ?_; conv => whnf)
      | (refine Br.t (by first | assumption | rfl) ?_; conv => whnf)
      | (refine Br.f (by first | assumption | rfl) ?_; conv => whnf)
      | (refine g_cond ?_; conv => whnf)
      | (refine g_skip ?_; conv => whnf)
      | (refine g_ret ?_; conv => whnf)
      | (refine g_exit ?_; conv => whnf)
      | (refine g_block ?_)
      | (refine g_quiet ?_)
      | (refine q_op ?_; conv => whnf)
      | (refine q_nil ?_; conv => whnf)
      | (refine q_opg ?_; conv => whnf)
      | (refine r_t ?_; conv => whnf)
      | (refine r_c ?_; conv => whnf)
      | (refine r_nil ?_; conv => whnf)
      | (refine And.intro (by decide) ?_; conv => whnf)
      | (refine And.intro (by omega) ?_; conv => whnf)
      | fail)
    all_goals
      refine Br.mk (fun hc => ?_) (fun hc => ?_)
      · conv => whnf
        repeat' (first
          | (refine g_op ?_; conv => whnf)
          | (refine And.intro rfl ?_; conv => whnf)
          | (refine And.intro (Nat.le_of_ble_eq_true rfl) ?_; conv => whnf)
          | (refine g_seq ?_)
          | (refine g_ops ?_)
          | (refine g_loop ?_)
          | (refine g_nil ?_; conv => whnf)
          | (refine g_opg ?_; conv => whnf)
          | (refine Br.t (by first | assumption | rfl) ?_; conv => whnf)
          | (refine Br.f (by first | assumption | rfl) ?_; conv => whnf)
          | (refine g_cond ?_; conv => whnf)
          | (refine g_skip ?_; conv => whnf)
          | (refine g_ret ?_; conv => whnf)
          | (refine g_exit ?_; conv => whnf)
          | (refine g_block ?_)
          | (refine g_quiet ?_)
          | (refine q_op ?_; conv => whnf)
          | (refine q_nil ?_; conv => whnf)
          | (refine q_opg ?_; conv => whnf)
          | (refine r_t ?_; conv => whnf)
          | (refine r_c ?_; conv => whnf)
          | (refine r_nil ?_; conv => whnf)
          | (refine And.intro (by decide) ?_; conv => whnf)
          | (refine And.intro (by omega) ?_; conv => whnf)
          | fail)
        conv => lhs; whnf
        have hc' : decide (byteAt s i < 33) = true := hc
        rw [hN, hstep, hc']
        rfl
      conv => whnf
      repeat' (first
        | (refine g_op ?_; conv => whnf)
        | (refine And.intro rfl ?_; conv => whnf)
        | (refine And.intro (Nat.le_of_ble_eq_true rfl) ?_; conv => whnf)
        | (refine g_seq ?_)
        | (refine g_ops ?_)
        | (refine g_loop ?_)
        | (refine g_nil ?_; conv => whnf)
        | (refine g_opg ?_; conv => whnf)
        | (refine Br.t (by first | assumption | rfl) ?_; conv => whnf)
        | (refine Br.f (by first | assumption | rfl) ?_; conv => whnf)
        | (refine g_cond ?_; conv => whnf)
        | (refine g_skip ?_; conv => whnf)
        | (refine g_ret ?_; conv => whnf)
        | (refine g_exit ?_; conv => whnf)
        | (refine g_block ?_)
        | (refine g_quiet ?_)
        | (refine q_op ?_; conv => whnf)
        | (refine q_nil ?_; conv => whnf)
        | (refine q_opg ?_; conv => whnf)
        | (refine r_t ?_; conv => whnf)
        | (refine r_c ?_; conv => whnf)
        | (refine r_nil ?_; conv => whnf)
        | (refine And.intro (by decide) ?_; conv => whnf)
        | (refine And.intro (by omega) ?_; conv => whnf)
        | fail)
      refine Br.mk (fun hd => ?_) (fun hd => ?_)
      · conv => whnf
        repeat' (first
          | (refine g_op ?_; conv => whnf)
          | (refine And.intro rfl ?_; conv => whnf)
          | (refine And.intro (Nat.le_of_ble_eq_true rfl) ?_; conv => whnf)
          | (refine g_seq ?_)
          | (refine g_ops ?_)
          | (refine g_loop ?_)
          | (refine g_nil ?_; conv => whnf)
          | (refine g_opg ?_; conv => whnf)
          | (refine Br.t (by first | assumption | rfl) ?_; conv => whnf)
          | (refine Br.f (by first | assumption | rfl) ?_; conv => whnf)
          | (refine g_cond ?_; conv => whnf)
          | (refine g_skip ?_; conv => whnf)
          | (refine g_ret ?_; conv => whnf)
          | (refine g_exit ?_; conv => whnf)
          | (refine g_block ?_)
          | (refine g_quiet ?_)
          | (refine q_op ?_; conv => whnf)
          | (refine q_nil ?_; conv => whnf)
          | (refine q_opg ?_; conv => whnf)
          | (refine r_t ?_; conv => whnf)
          | (refine r_c ?_; conv => whnf)
          | (refine r_nil ?_; conv => whnf)
          | (refine And.intro (by decide) ?_; conv => whnf)
          | (refine And.intro (by omega) ?_; conv => whnf)
          | fail)
        conv => lhs; whnf
        have hd' : decide (byteAt s i > 126) = true := hd
        rw [hN, hstep, hd', Bool.or_true]
        rfl
      conv => whnf
      repeat' (first
        | (refine g_op ?_; conv => whnf)
        | (refine And.intro rfl ?_; conv => whnf)
        | (refine And.intro (Nat.le_of_ble_eq_true rfl) ?_; conv => whnf)
        | (refine g_seq ?_)
        | (refine g_ops ?_)
        | (refine g_loop ?_)
        | (refine g_nil ?_; conv => whnf)
        | (refine g_opg ?_; conv => whnf)
        | (refine Br.t (by first | assumption | rfl) ?_; conv => whnf)
        | (refine Br.f (by first | assumption | rfl) ?_; conv => whnf)
        | (refine g_cond ?_; conv => whnf)
        | (refine g_skip ?_; conv => whnf)
        | (refine g_ret ?_; conv => whnf)
        | (refine g_exit ?_; conv => whnf)
        | (refine g_block ?_)
        | (refine g_quiet ?_)
        | (refine q_op ?_; conv => whnf)
        | (refine q_nil ?_; conv => whnf)
        | (refine q_opg ?_; conv => whnf)
        | (refine r_t ?_; conv => whnf)
        | (refine r_c ?_; conv => whnf)
        | (refine r_nil ?_; conv => whnf)
        | (refine And.intro (by decide) ?_; conv => whnf)
        | (refine And.intro (by omega) ?_; conv => whnf)
        | fail)
      have hc' : decide (byteAt s i < 33) = false := hc
      have hd' : decide (byteAt s i > 126) = false := hd
      have hw : IntKind.wrap .i64 ((i : Int) + 1) = ((i + 1 : Nat) : Int) := by rw [wrap_ok (by omega) (by omega)]; rfl
      refine ⟨i + 1, ⟨by omega, ?_⟩, by omega, ?_, True.intro, rfl⟩
      · rw [hN, hstep, hc', hd']
        rfl
      refine And.intro rfl ?_
      refine And.intro rfl ?_
      exact And.intro (congrArg (D.int .i64) hw) True.intro
  · have hge : ¬ i < s.size := by simpa using hb
    conv => whnf
    repeat' (first
      | (refine g_op ?_; conv => whnf)
      | (refine And.intro rfl ?_; conv => whnf)
      | (refine And.intro (Nat.le_of_ble_eq_true rfl) ?_; conv => whnf)
      | (refine g_seq ?_)
      | (refine g_ops ?_)
      | (refine g_loop ?_)
      | (refine g_nil ?_; conv => whnf)
      | (refine g_opg ?_; conv => whnf)
      | (refine Br.t (by first | assumption | rfl) ?_; conv => whnf)
      | (refine Br.f (by first | assumption | rfl) ?_; conv => whnf)
      | (refine g_cond ?_; conv => whnf)
      | (refine g_skip ?_; conv => whnf)
      | (refine g_ret ?_; conv => whnf)
      | (refine g_exit ?_; conv => whnf)
      | (refine g_block ?_)
      | (refine g_quiet ?_)
      | (refine q_op ?_; conv => whnf)
      | (refine q_nil ?_; conv => whnf)
      | (refine q_opg ?_; conv => whnf)
      | (refine r_t ?_; conv => whnf)
      | (refine r_c ?_; conv => whnf)
      | (refine r_nil ?_; conv => whnf)
      | (refine And.intro (by decide) ?_; conv => whnf)
      | (refine And.intro (by omega) ?_; conv => whnf)
      | fail)
    conv => lhs; whnf
    have e : s.size - i = 0 := by omega
    rw [hN, e]
    rfl
theorem impl_mName (s : ByteArray) : Rdr Try.prog 94 [.str s] (.bool (nameOk s)) := by
  refine Rdr.intro' hm c94 (Nat.le_of_ble_eq_true rfl) ?_
  conv => whnf
  repeat' (first
    | (refine g_op ?_; conv => whnf)
    | (refine And.intro rfl ?_; conv => whnf)
    | (refine And.intro (Nat.le_of_ble_eq_true rfl) ?_; conv => whnf)
    | (refine g_seq ?_)
    | (refine g_ops ?_)
    | (refine g_loop ?_)
    | (refine g_nil ?_; conv => whnf)
    | (refine g_opg ?_; conv => whnf)
    | (refine Br.t (by first | assumption | rfl) ?_; conv => whnf)
    | (refine Br.f (by first | assumption | rfl) ?_; conv => whnf)
    | (refine g_cond ?_; conv => whnf)
    | (refine g_skip ?_; conv => whnf)
    | (refine g_ret ?_; conv => whnf)
    | (refine g_exit ?_; conv => whnf)
    | (refine g_block ?_)
    | (refine g_quiet ?_)
    | (refine q_op ?_; conv => whnf)
    | (refine q_nil ?_; conv => whnf)
    | (refine q_opg ?_; conv => whnf)
    | (refine r_t ?_; conv => whnf)
    | (refine r_c ?_; conv => whnf)
    | (refine r_nil ?_; conv => whnf)
    | (refine And.intro (by decide) ?_; conv => whnf)
    | (refine And.intro (by omega) ?_; conv => whnf)
    | fail)
  refine Br.mk (fun hb => ?_) (fun hb => ?_)
  · have hn : inR s.size 1 20 = false := by simp at hb; simp [inR]; omega
    conv => whnf
    repeat' (first
      | (refine g_op ?_; conv => whnf)
      | (refine And.intro rfl ?_; conv => whnf)
      | (refine And.intro (Nat.le_of_ble_eq_true rfl) ?_; conv => whnf)
      | (refine g_seq ?_)
      | (refine g_ops ?_)
      | (refine g_loop ?_)
      | (refine g_nil ?_; conv => whnf)
      | (refine g_opg ?_; conv => whnf)
      | (refine Br.t (by first | assumption | rfl) ?_; conv => whnf)
      | (refine Br.f (by first | assumption | rfl) ?_; conv => whnf)
      | (refine g_cond ?_; conv => whnf)
      | (refine g_skip ?_; conv => whnf)
      | (refine g_ret ?_; conv => whnf)
      | (refine g_exit ?_; conv => whnf)
      | (refine g_block ?_)
      | (refine g_quiet ?_)
      | (refine q_op ?_; conv => whnf)
      | (refine q_nil ?_; conv => whnf)
      | (refine q_opg ?_; conv => whnf)
      | (refine r_t ?_; conv => whnf)
      | (refine r_c ?_; conv => whnf)
      | (refine r_nil ?_; conv => whnf)
      | (refine And.intro (by decide) ?_; conv => whnf)
      | (refine And.intro (by omega) ?_; conv => whnf)
      | fail)
    conv => lhs; whnf
    simp only [nameOk, hn, Bool.false_and]
  conv => whnf
  repeat' (first
    | (refine g_op ?_; conv => whnf)
    | (refine And.intro rfl ?_; conv => whnf)
    | (refine And.intro (Nat.le_of_ble_eq_true rfl) ?_; conv => whnf)
    | (refine g_seq ?_)
    | (refine g_ops ?_)
    | (refine g_loop ?_)
    | (refine g_nil ?_; conv => whnf)
    | (refine g_opg ?_; conv => whnf)
    | (refine Br.t (by first | assumption | rfl) ?_; conv => whnf)
    | (refine Br.f (by first | assumption | rfl) ?_; conv => whnf)
    | (refine g_cond ?_; conv => whnf)
    | (refine g_skip ?_; conv => whnf)
    | (refine g_ret ?_; conv => whnf)
    | (refine g_exit ?_; conv => whnf)
    | (refine g_block ?_)
    | (refine g_quiet ?_)
    | (refine q_op ?_; conv => whnf)
    | (refine q_nil ?_; conv => whnf)
    | (refine q_opg ?_; conv => whnf)
    | (refine r_t ?_; conv => whnf)
    | (refine r_c ?_; conv => whnf)
    | (refine r_nil ?_; conv => whnf)
    | (refine And.intro (by decide) ?_; conv => whnf)
    | (refine And.intro (by omega) ?_; conv => whnf)
    | fail)
  refine Br.mk (fun hc => ?_) (fun hc => ?_)
  · have hn : inR s.size 1 20 = false := by simp at hc; simp [inR]; omega
    conv => whnf
    repeat' (first
      | (refine g_op ?_; conv => whnf)
      | (refine And.intro rfl ?_; conv => whnf)
      | (refine And.intro (Nat.le_of_ble_eq_true rfl) ?_; conv => whnf)
      | (refine g_seq ?_)
      | (refine g_ops ?_)
      | (refine g_loop ?_)
      | (refine g_nil ?_; conv => whnf)
      | (refine g_opg ?_; conv => whnf)
      | (refine Br.t (by first | assumption | rfl) ?_; conv => whnf)
      | (refine Br.f (by first | assumption | rfl) ?_; conv => whnf)
      | (refine g_cond ?_; conv => whnf)
      | (refine g_skip ?_; conv => whnf)
      | (refine g_ret ?_; conv => whnf)
      | (refine g_exit ?_; conv => whnf)
      | (refine g_block ?_)
      | (refine g_quiet ?_)
      | (refine q_op ?_; conv => whnf)
      | (refine q_nil ?_; conv => whnf)
      | (refine q_opg ?_; conv => whnf)
      | (refine r_t ?_; conv => whnf)
      | (refine r_c ?_; conv => whnf)
      | (refine r_nil ?_; conv => whnf)
      | (refine And.intro (by decide) ?_; conv => whnf)
      | (refine And.intro (by omega) ?_; conv => whnf)
      | fail)
    conv => lhs; whnf
    simp only [nameOk, hn, Bool.false_and]
  have hn : inR s.size 1 20 = true := by simp at hb hc; simp [inR]; omega
  have hsz : s.size ≤ 20 := by simp [inR] at hn; omega
  conv => whnf
  repeat' (first
    | (refine g_op ?_; conv => whnf)
    | (refine And.intro rfl ?_; conv => whnf)
    | (refine And.intro (Nat.le_of_ble_eq_true rfl) ?_; conv => whnf)
    | (refine g_seq ?_)
    | (refine g_ops ?_)
    | (refine g_loop ?_)
    | (refine g_nil ?_; conv => whnf)
    | (refine g_opg ?_; conv => whnf)
    | (refine Br.t (by first | assumption | rfl) ?_; conv => whnf)
    | (refine Br.f (by first | assumption | rfl) ?_; conv => whnf)
    | (refine g_cond ?_; conv => whnf)
    | (refine g_skip ?_; conv => whnf)
    | (refine g_ret ?_; conv => whnf)
    | (refine g_exit ?_; conv => whnf)
    | (refine g_block ?_)
    | (refine g_quiet ?_)
    | (refine q_op ?_; conv => whnf)
    | (refine q_nil ?_; conv => whnf)
    | (refine q_opg ?_; conv => whnf)
    | (refine r_t ?_; conv => whnf)
    | (refine r_c ?_; conv => whnf)
    | (refine r_nil ?_; conv => whnf)
    | (refine And.intro (by decide) ?_; conv => whnf)
    | (refine And.intro (by omega) ?_; conv => whnf)
    | fail)
  refine XLc.mkL (α := Nat) (fun i => i ≤ s.size ∧ nameOk s = okFrom s (s.size - i) i) (fun i => s.size - i) (fun i gs => [.str s, .any, .bool false, .any, .any, .any, .any, .any, .any, .any, .any, .any, .any, .int .i64 (s.size : Int), .int .i64 (i : Int)]) (fun i gs => []) (fun _ => none) 0 ⟨Nat.zero_le _, by simp [nameOk, hn]⟩ ?_ ?_
  · refine ⟨?_, True.intro, rfl⟩
    repeat' (first | exact True.intro | refine And.intro rfl ?_)
  intro i gs hI
  obtain ⟨hi, hN⟩ := hI
  repeat' (first
    | (refine g_op ?_; conv => whnf)
    | (refine And.intro rfl ?_; conv => whnf)
    | (refine And.intro (Nat.le_of_ble_eq_true rfl) ?_; conv => whnf)
    | (refine g_seq ?_)
    | (refine g_ops ?_)
    | (refine g_loop ?_)
    | (refine g_nil ?_; conv => whnf)
    | (refine g_opg ?_; conv => whnf)
    | (refine Br.t (by first | assumption | rfl) ?_; conv => whnf)
    | (refine Br.f (by first | assumption | rfl) ?_; conv => whnf)
    | (refine g_cond ?_; conv => whnf)
    | (refine g_skip ?_; conv => whnf)
    | (refine g_ret ?_; conv => whnf)
    | (refine g_exit ?_; conv => whnf)
    | (refine g_block ?_)
    | (refine g_quiet ?_)
    | (refine q_op ?_; conv => whnf)
    | (refine q_nil ?_; conv => whnf)
    | (refine q_opg ?_; conv => whnf)
    | (refine r_t ?_; conv => whnf)
    | (refine r_c ?_; conv => whnf)
    | (refine r_nil ?_; conv => whnf)
    | (refine And.intro (by decide) ?_; conv => whnf)
    | (refine And.intro (by omega) ?_; conv => whnf)
    | fail)
  refine Br.mk (fun hb => ?_) (fun hb => ?_)
  · have hlt : i < s.size := by simpa using hb
    have e1 : (i : Int) < (s.size : Int) := by omega
    have hstep := okFrom_step hlt
    conv => whnf
    repeat' (first
      | (refine g_op ?_; conv => whnf)
      | (refine And.intro rfl ?_; conv => whnf)
      | (refine And.intro (Nat.le_of_ble_eq_true rfl) ?_; conv => whnf)
      | (refine g_seq ?_)
      | (refine g_ops ?_)
      | (refine g_loop ?_)
      | (refine g_nil ?_; conv => whnf)
      | (refine g_opg ?_; conv => whnf)
      | (refine Br.t (by first | assumption | rfl) ?_; conv => whnf)
      | (refine Br.f (by first | assumption | rfl) ?_; conv => whnf)
      | (refine g_cond ?_; conv => whnf)
      | (refine g_skip ?_; conv => whnf)
      | (refine g_ret ?_; conv => whnf)
      | (refine g_exit ?_; conv => whnf)
      | (refine g_block ?_)
      | (refine g_quiet ?_)
      | (refine q_op ?_; conv => whnf)
      | (refine q_nil ?_; conv => whnf)
      | (refine q_opg ?_; conv => whnf)
      | (refine r_t ?_; conv => whnf)
      | (refine r_c ?_; conv => whnf)
      | (refine r_nil ?_; conv => whnf)
      | (refine And.intro (by decide) ?_; conv => whnf)
      | (refine And.intro (by omega) ?_; conv => whnf)
      | fail)
    refine Br.mk (fun hc => ?_) (fun hc => ?_)
    · conv => whnf
      repeat' (first
        | (refine g_op ?_; conv => whnf)
        | (refine And.intro rfl ?_; conv => whnf)
        | (refine And.intro (Nat.le_of_ble_eq_true rfl) ?_; conv => whnf)
        | (refine g_seq ?_)
        | (refine g_ops ?_)
        | (refine g_loop ?_)
        | (refine g_nil ?_; conv => whnf)
        | (refine g_opg ?_; conv => whnf)
        | (refine Br.t (by first | assumption | rfl) ?_; conv => whnf)
        | (refine Br.f (by first | assumption | rfl) ?_; conv => whnf)
        | (refine g_cond ?_; conv => whnf)
        | (refine g_skip ?_; conv => whnf)
        | (refine g_ret ?_; conv => whnf)
        | (refine g_exit ?_; conv => whnf)
        | (refine g_block ?_)
        | (refine g_quiet ?_)
        | (refine q_op ?_; conv => whnf)
        | (refine q_nil ?_; conv => whnf)
        | (refine q_opg ?_; conv => whnf)
        | (refine r_t ?_; conv => whnf)
        | (refine r_c ?_; conv => whnf)
        | (refine r_nil ?_; conv => whnf)
        | (refine And.intro (by decide) ?_; conv => whnf)
        | (refine And.intro (by omega) ?_; conv => whnf)
        | fail)
      conv => lhs; whnf
      have hc' : decide (byteAt s i < 33) = true := hc
      rw [hN, hstep, hc']
      rfl
    conv => whnf
    repeat' (first
      | (refine g_op ?_; conv => whnf)
      | (refine And.intro rfl ?_; conv => whnf)
      | (refine And.intro (Nat.le_of_ble_eq_true rfl) ?_; conv => whnf)
      | (refine g_seq ?_)
      | (refine g_ops ?_)
      | (refine g_loop ?_)
      | (refine g_nil ?_; conv => whnf)
      | (refine g_opg ?_; conv => whnf)
      | (refine Br.t (by first | assumption | rfl) ?_; conv => whnf)
      | (refine Br.f (by first | assumption | rfl) ?_; conv => whnf)
      | (refine g_cond ?_; conv => whnf)
      | (refine g_skip ?_; conv => whnf)
      | (refine g_ret ?_; conv => whnf)
      | (refine g_exit ?_; conv => whnf)
      | (refine g_block ?_)
      | (refine g_quiet ?_)
      | (refine q_op ?_; conv => whnf)
      | (refine q_nil ?_; conv => whnf)
      | (refine q_opg ?_; conv => whnf)
      | (refine r_t ?_; conv => whnf)
      | (refine r_c ?_; conv => whnf)
      | (refine r_nil ?_; conv => whnf)
      | (refine And.intro (by decide) ?_; conv => whnf)
      | (refine And.intro (by omega) ?_; conv => whnf)
      | fail)
    refine Br.mk (fun hd => ?_) (fun hd => ?_)
    · conv => whnf
      repeat' (first
        | (refine g_op ?_; conv => whnf)
        | (refine And.intro rfl ?_; conv => whnf)
        | (refine And.intro (Nat.le_of_ble_eq_true rfl) ?_; conv => whnf)
        | (refine g_seq ?_)
        | (refine g_ops ?_)
        | (refine g_loop ?_)
        | (refine g_nil ?_; conv => whnf)
        | (refine g_opg ?_; conv => whnf)
        | (refine Br.t (by first | assumption | rfl) ?_; conv => whnf)
        | (refine Br.f (by first | assumption | rfl) ?_; conv => whnf)
        | (refine g_cond ?_; conv => whnf)
        | (refine g_skip ?_; conv => whnf)
        | (refine g_ret ?_; conv => whnf)
        | (refine g_exit ?_; conv => whnf)
        | (refine g_block ?_)
        | (refine g_quiet ?_)
        | (refine q_op ?_; conv => whnf)
        | (refine q_nil ?_; conv => whnf)
        | (refine q_opg ?_; conv => whnf)
        | (refine r_t ?_; conv => whnf)
        | (refine r_c ?_; conv => whnf)
        | (refine r_nil ?_; conv => whnf)
        | (refine And.intro (by decide) ?_; conv => whnf)
        | (refine And.intro (by omega) ?_; conv => whnf)
        | fail)
      conv => lhs; whnf
      have hd' : decide (byteAt s i > 126) = true := hd
      rw [hN, hstep, hd', Bool.or_true]
      rfl
    conv => whnf
    repeat' (first
      | (refine g_op ?_; conv => whnf)
      | (refine And.intro rfl ?_; conv => whnf)
      | (refine And.intro (Nat.le_of_ble_eq_true rfl) ?_; conv => whnf)
      | (refine g_seq ?_)
      | (refine g_ops ?_)
      | (refine g_loop ?_)
      | (refine g_nil ?_; conv => whnf)
      | (refine g_opg ?_; conv => whnf)
      | (refine Br.t (by first | assumption | rfl) ?_; conv => whnf)
      | (refine Br.f (by first | assumption | rfl) ?_; conv => whnf)
      | (refine g_cond ?_; conv => whnf)
      | (refine g_skip ?_; conv => whnf)
      | (refine g_ret ?_; conv => whnf)
      | (refine g_exit ?_; conv => whnf)
      | (refine g_block ?_)
      | (refine g_quiet ?_)
      | (refine q_op ?_; conv => whnf)
      | (refine q_nil ?_; conv => whnf)
      | (refine q_opg ?_; conv => whnf)
      | (refine r_t ?_; conv => whnf)
      | (refine r_c ?_; conv => whnf)
      | (refine r_nil ?_; conv => whnf)
      | (refine And.intro (by decide) ?_; conv => whnf)
      | (refine And.intro (by omega) ?_; conv => whnf)
      | fail)
    have hc' : decide (byteAt s i < 33) = false := hc
    have hd' : decide (byteAt s i > 126) = false := hd
    have hw : IntKind.wrap .i64 ((i : Int) + 1) = ((i + 1 : Nat) : Int) := by rw [wrap_ok (by omega) (by omega)]; rfl
    refine ⟨i + 1, ⟨by omega, ?_⟩, by omega, ?_, True.intro, rfl⟩
    · rw [hN, hstep, hc', hd']
      rfl
    refine And.intro rfl ?_
    refine And.intro rfl ?_
    refine And.intro rfl ?_
    exact And.intro (congrArg (D.int .i64) hw) True.intro
  · have hge : ¬ i < s.size := by simpa using hb
    conv => whnf
    repeat' (first
      | (refine g_op ?_; conv => whnf)
      | (refine And.intro rfl ?_; conv => whnf)
      | (refine And.intro (Nat.le_of_ble_eq_true rfl) ?_; conv => whnf)
      | (refine g_seq ?_)
      | (refine g_ops ?_)
      | (refine g_loop ?_)
      | (refine g_nil ?_; conv => whnf)
      | (refine g_opg ?_; conv => whnf)
      | (refine Br.t (by first | assumption | rfl) ?_; conv => whnf)
      | (refine Br.f (by first | assumption | rfl) ?_; conv => whnf)
      | (refine g_cond ?_; conv => whnf)
      | (refine g_skip ?_; conv => whnf)
      | (refine g_ret ?_; conv => whnf)
      | (refine g_exit ?_; conv => whnf)
      | (refine g_block ?_)
      | (refine g_quiet ?_)
      | (refine q_op ?_; conv => whnf)
      | (refine q_nil ?_; conv => whnf)
      | (refine q_opg ?_; conv => whnf)
      | (refine r_t ?_; conv => whnf)
      | (refine r_c ?_; conv => whnf)
      | (refine r_nil ?_; conv => whnf)
      | (refine And.intro (by decide) ?_; conv => whnf)
      | (refine And.intro (by omega) ?_; conv => whnf)
      | fail)
    conv => lhs; whnf
    have e : s.size - i = 0 := by omega
    rw [hN, e]
    rfl
theorem impl_mHold (s : ByteArray) : Rdr Try.prog 105 [.str s] (.bool (holdOk s)) := by
  refine Rdr.intro' hm c105 (Nat.le_of_ble_eq_true rfl) ?_
  conv => whnf
  repeat' (first
    | (refine g_op ?_; conv => whnf)
    | (refine And.intro rfl ?_; conv => whnf)
    | (refine And.intro (Nat.le_of_ble_eq_true rfl) ?_; conv => whnf)
    | (refine g_seq ?_)
    | (refine g_ops ?_)
    | (refine g_loop ?_)
    | (refine g_nil ?_; conv => whnf)
    | (refine g_opg ?_; conv => whnf)
    | (refine Br.t (by first | assumption | rfl) ?_; conv => whnf)
    | (refine Br.f (by first | assumption | rfl) ?_; conv => whnf)
    | (refine Br.mk (fun hb => ?_) (fun hb => ?_) <;> conv => whnf)
    | (refine g_cond ?_; conv => whnf)
    | (refine g_skip ?_; conv => whnf)
    | (refine g_ret ?_; conv => whnf)
    | (refine g_exit ?_; conv => whnf)
    | (refine g_block ?_)
    | (refine g_quiet ?_)
    | (refine q_op ?_; conv => whnf)
    | (refine q_nil ?_; conv => whnf)
    | (refine q_opg ?_; conv => whnf)
    | (refine r_t ?_; conv => whnf)
    | (refine r_c ?_; conv => whnf)
    | (refine r_nil ?_; conv => whnf)
    | (refine XC.of_rdr (impl_mName _) ?_; conv => whnf)
    | (refine QC.of_rdr (impl_mName _) rfl ?_; conv => whnf)
    | fail)
  all_goals (conv => lhs; whnf)
  all_goals simp only [*, Bool.true_and, Bool.false_and, Bool.and_true, Bool.and_false, Bool.true_or, Bool.false_or, Bool.or_true, Bool.or_false, Bool.not_true, Bool.not_false, holdOk]
theorem spec_l10HoldOk (s : ByteArray) : Rdr Try.prog 104 [.str s] (.bool (holdOk s)) := by
  refine Rdr.intro' hm c104 (Nat.le_of_ble_eq_true rfl) ?_
  conv => whnf
  repeat' (first
    | (refine g_op ?_; conv => whnf)
    | (refine And.intro rfl ?_; conv => whnf)
    | (refine And.intro (Nat.le_of_ble_eq_true rfl) ?_; conv => whnf)
    | (refine g_seq ?_)
    | (refine g_ops ?_)
    | (refine g_loop ?_)
    | (refine g_nil ?_; conv => whnf)
    | (refine g_opg ?_; conv => whnf)
    | (refine Br.t (by first | assumption | rfl) ?_; conv => whnf)
    | (refine Br.f (by first | assumption | rfl) ?_; conv => whnf)
    | (refine Br.mk (fun hb => ?_) (fun hb => ?_) <;> conv => whnf)
    | (refine g_cond ?_; conv => whnf)
    | (refine g_skip ?_; conv => whnf)
    | (refine g_ret ?_; conv => whnf)
    | (refine g_exit ?_; conv => whnf)
    | (refine g_block ?_)
    | (refine g_quiet ?_)
    | (refine q_op ?_; conv => whnf)
    | (refine q_nil ?_; conv => whnf)
    | (refine q_opg ?_; conv => whnf)
    | (refine r_t ?_; conv => whnf)
    | (refine r_c ?_; conv => whnf)
    | (refine r_nil ?_; conv => whnf)
    | (refine XC.of_rdr (spec_l10NameOk _) ?_; conv => whnf)
    | (refine QC.of_rdr (spec_l10NameOk _) rfl ?_; conv => whnf)
    | fail)
  all_goals (conv => lhs; whnf)
  all_goals simp only [*, Bool.true_and, Bool.false_and, Bool.and_true, Bool.and_false, Bool.true_or, Bool.false_or, Bool.or_true, Bool.or_false, Bool.not_true, Bool.not_false, holdOk]
theorem impl_mWantOk (w : MWant) : Rdr Try.prog 63 [w.D] (.bool (wantOk w)) := by
  refine Rdr.intro' hm c63 (Nat.le_of_ble_eq_true rfl) ?_
  conv => whnf
  repeat' (first
    | (refine g_op ?_; conv => whnf)
    | (refine And.intro rfl ?_; conv => whnf)
    | (refine And.intro (Nat.le_of_ble_eq_true rfl) ?_; conv => whnf)
    | (refine g_seq ?_)
    | (refine g_ops ?_)
    | (refine g_loop ?_)
    | (refine g_nil ?_; conv => whnf)
    | (refine g_opg ?_; conv => whnf)
    | (refine Br.t (by first | assumption | rfl) ?_; conv => whnf)
    | (refine Br.f (by first | assumption | rfl) ?_; conv => whnf)
    | (refine Br.mk (fun hb => ?_) (fun hb => ?_) <;> conv => whnf)
    | (refine g_cond ?_; conv => whnf)
    | (refine g_skip ?_; conv => whnf)
    | (refine g_ret ?_; conv => whnf)
    | (refine g_exit ?_; conv => whnf)
    | (refine g_block ?_)
    | (refine g_quiet ?_)
    | (refine q_op ?_; conv => whnf)
    | (refine q_nil ?_; conv => whnf)
    | (refine q_opg ?_; conv => whnf)
    | (refine r_t ?_; conv => whnf)
    | (refine r_c ?_; conv => whnf)
    | (refine r_nil ?_; conv => whnf)
    | (refine XC.of_rdr (impl_mName _) ?_; conv => whnf)
    | (refine XC.of_rdr (impl_within _ _ _) ?_; conv => whnf)
    | (refine XC.of_rdr (impl_mHold _) ?_; conv => whnf)
    | (refine QC.of_rdr (impl_mName _) rfl ?_; conv => whnf)
    | (refine QC.of_rdr (impl_within _ _ _) rfl ?_; conv => whnf)
    | (refine QC.of_rdr (impl_mHold _) rfl ?_; conv => whnf)
    | fail)
  all_goals (conv => lhs; whnf)
  all_goals simp only [*, Bool.true_and, Bool.false_and, Bool.and_true, Bool.and_false, Bool.true_or, Bool.false_or, Bool.or_true, Bool.or_false, Bool.not_true, Bool.not_false, wantOk]
theorem spec_l10WantOk (w : MWant) : Rdr Try.prog 62 [w.D] (.bool (wantOk w)) := by
  refine Rdr.intro' hm c62 (Nat.le_of_ble_eq_true rfl) ?_
  conv => whnf
  repeat' (first
    | (refine g_op ?_; conv => whnf)
    | (refine And.intro rfl ?_; conv => whnf)
    | (refine And.intro (Nat.le_of_ble_eq_true rfl) ?_; conv => whnf)
    | (refine g_seq ?_)
    | (refine g_ops ?_)
    | (refine g_loop ?_)
    | (refine g_nil ?_; conv => whnf)
    | (refine g_opg ?_; conv => whnf)
    | (refine Br.t (by first | assumption | rfl) ?_; conv => whnf)
    | (refine Br.f (by first | assumption | rfl) ?_; conv => whnf)
    | (refine Br.mk (fun hb => ?_) (fun hb => ?_) <;> conv => whnf)
    | (refine g_cond ?_; conv => whnf)
    | (refine g_skip ?_; conv => whnf)
    | (refine g_ret ?_; conv => whnf)
    | (refine g_exit ?_; conv => whnf)
    | (refine g_block ?_)
    | (refine g_quiet ?_)
    | (refine q_op ?_; conv => whnf)
    | (refine q_nil ?_; conv => whnf)
    | (refine q_opg ?_; conv => whnf)
    | (refine r_t ?_; conv => whnf)
    | (refine r_c ?_; conv => whnf)
    | (refine r_nil ?_; conv => whnf)
    | (refine XC.of_rdr (spec_l10NameOk _) ?_; conv => whnf)
    | (refine XC.of_rdr (spec_l10In _ _ _) ?_; conv => whnf)
    | (refine XC.of_rdr (spec_l10HoldOk _) ?_; conv => whnf)
    | (refine QC.of_rdr (spec_l10NameOk _) rfl ?_; conv => whnf)
    | (refine QC.of_rdr (spec_l10In _ _ _) rfl ?_; conv => whnf)
    | (refine QC.of_rdr (spec_l10HoldOk _) rfl ?_; conv => whnf)
    | fail)
  all_goals (conv => lhs; whnf)
  all_goals simp only [*, Bool.true_and, Bool.false_and, Bool.and_true, Bool.and_false, Bool.true_or, Bool.false_or, Bool.or_true, Bool.or_false, Bool.not_true, Bool.not_false, wantOk]
def leased (x : MRun) (c : Int) : Bool := (x.w.h.toList == (ByteArray.mk #[]).toList) || decide (x.u ≥ IntKind.wrap .i64 (c + 4))
def runOk (x : MRun) (c : Int) : Bool := wantOk x.w && inR x.s 1 6 && inR x.l 0 100 && !((x.s == 2) && (x.l != 0)) && inR x.f 0 1000 && inR x.u 0 1000016 && !((x.w.h.toList == (ByteArray.mk #[]).toList) && (x.u != 0)) && (!alive x || leased x c)
theorem spec_l11Leased (x : MRun) (c : Int) : Rdr Try.prog 76 [x.D, .int .i64 c] (.bool (leased x c)) := by
  refine Rdr.intro' hm c76 (Nat.le_of_ble_eq_true rfl) ?_
  conv => whnf
  repeat' (first
    | (refine g_op ?_; conv => whnf)
    | (refine And.intro rfl ?_; conv => whnf)
    | (refine And.intro (Nat.le_of_ble_eq_true rfl) ?_; conv => whnf)
    | (refine g_seq ?_)
    | (refine g_ops ?_)
    | (refine g_loop ?_)
    | (refine g_nil ?_; conv => whnf)
    | (refine g_opg ?_; conv => whnf)
    | (refine Br.t (by first | assumption | rfl) ?_; conv => whnf)
    | (refine Br.f (by first | assumption | rfl) ?_; conv => whnf)
    | (refine Br.mk (fun hb => ?_) (fun hb => ?_) <;> conv => whnf)
    | (refine g_cond ?_; conv => whnf)
    | (refine g_skip ?_; conv => whnf)
    | (refine g_ret ?_; conv => whnf)
    | (refine g_exit ?_; conv => whnf)
    | (refine g_block ?_)
    | (refine g_quiet ?_)
    | (refine q_op ?_; conv => whnf)
    | (refine q_nil ?_; conv => whnf)
    | (refine q_opg ?_; conv => whnf)
    | (refine r_t ?_; conv => whnf)
    | (refine r_c ?_; conv => whnf)
    | (refine r_nil ?_; conv => whnf))
  all_goals (conv => lhs; whnf)
  all_goals simp only [*, Bool.true_and, Bool.false_and, Bool.and_true, Bool.and_false, Bool.true_or, Bool.false_or, Bool.or_true, Bool.or_false, Bool.not_true, Bool.not_false, leased]
theorem spec_l11RunOk (x : MRun) (c : Int) : Rdr Try.prog 65 [x.D, .int .i64 c] (.bool (runOk x c)) := by
  refine Rdr.intro' hm c65 (Nat.le_of_ble_eq_true rfl) ?_
  conv => whnf
  repeat' (first
    | (refine g_op ?_; conv => whnf)
    | (refine And.intro rfl ?_; conv => whnf)
    | (refine And.intro (Nat.le_of_ble_eq_true rfl) ?_; conv => whnf)
    | (refine g_seq ?_)
    | (refine g_ops ?_)
    | (refine g_loop ?_)
    | (refine g_nil ?_; conv => whnf)
    | (refine g_opg ?_; conv => whnf)
    | (refine Br.t (by first | assumption | rfl) ?_; conv => whnf)
    | (refine Br.f (by first | assumption | rfl) ?_; conv => whnf)
    | (refine Br.mk (fun hb => ?_) (fun hb => ?_) <;> conv => whnf)
    | (refine g_cond ?_; conv => whnf)
    | (refine g_skip ?_; conv => whnf)
    | (refine g_ret ?_; conv => whnf)
    | (refine g_exit ?_; conv => whnf)
    | (refine g_block ?_)
    | (refine g_quiet ?_)
    | (refine q_op ?_; conv => whnf)
    | (refine q_nil ?_; conv => whnf)
    | (refine q_opg ?_; conv => whnf)
    | (refine r_t ?_; conv => whnf)
    | (refine r_c ?_; conv => whnf)
    | (refine r_nil ?_; conv => whnf)
    | (refine XC.of_rdr (spec_l10WantOk x.w) ?_; conv => whnf)
    | (refine XC.of_rdr (spec_l10In _ _ _) ?_; conv => whnf)
    | (refine XC.of_rdr (spec_MateAlive x) ?_; conv => whnf)
    | (refine XC.of_rdr (spec_l11Leased x _) ?_; conv => whnf)
    | (refine QC.of_rdr (spec_l10WantOk x.w) rfl ?_; conv => whnf)
    | (refine QC.of_rdr (spec_l10In _ _ _) rfl ?_; conv => whnf)
    | (refine QC.of_rdr (spec_MateAlive x) rfl ?_; conv => whnf)
    | (refine QC.of_rdr (spec_l11Leased x _) rfl ?_; conv => whnf)
    | fail)
  all_goals (conv => lhs; whnf)
  all_goals simp_all [runOk]
def dR : MRun := ⟨⟨⟨#[]⟩, 0, ⟨#[]⟩, 0, 0, 0, 0⟩, 0, 0, 0, 0⟩
def runs (xs : List MRun) : D := .ro 11 (xs.map MRun.D)
theorem runs_get {xs : List MRun} {i : Nat} (h : i < xs.length) : (xs.map MRun.D).getD (i : Int).toNat .any = (xs.getD i dR).D := by simp [h]
def ordOk (xs : List MRun) (i : Nat) : Bool := decide (i = 0) || Op.bytesLess (xs.getD (i - 1) dR).w.c.toList (xs.getD i dR).w.c.toList
def stepR (xs : List MRun) (c : Int) (i : Nat) : Bool := runOk (xs.getD i dR) c && ordOk xs i
def okR (xs : List MRun) (c : Int) : Nat → Nat → Bool
  | 0, _ => true
  | k + 1, i => stepR xs c i && okR xs c k (i + 1)
def runsOk (xs : List MRun) (c : Int) : Bool := !decide ((xs.length : Int) > 20) && okR xs c xs.length 0
theorem okR_step {xs : List MRun} {c : Int} {i : Nat} (h : i < xs.length) : okR xs c (xs.length - i) i = (stepR xs c i && okR xs c (xs.length - (i + 1)) (i + 1)) := by
  have e : xs.length - i = (xs.length - (i + 1)) + 1 := by omega
  rw [e, okR]
theorem runs_len {xs : List MRun} : ((xs.map MRun.D).length : Int) = (xs.length : Int) := by simp
theorem spec_MateRunsOk (xs : List MRun) (c : Int) : Rdr Try.prog 24 [runs xs, .int .i64 c] (.bool (runsOk xs c)) := by
  refine Rdr.intro' hm c24 (Nat.le_of_ble_eq_true rfl) ?_
  conv => whnf
  repeat' (first
    | (refine g_op ?_; conv => whnf)
    | (refine And.intro rfl ?_; conv => whnf)
    | (refine And.intro (Nat.le_of_ble_eq_true rfl) ?_; conv => whnf)
    | (refine g_seq ?_)
    | (refine g_ops ?_)
    | (refine g_loop ?_)
    | (refine g_nil ?_; conv => whnf)
    | (refine g_opg ?_; conv => whnf)
    | (refine Br.t (by first | assumption | rfl) ?_; conv => whnf)
    | (refine Br.f (by first | assumption | rfl) ?_; conv => whnf)
    | (refine g_cond ?_; conv => whnf)
    | (refine g_skip ?_; conv => whnf)
    | (refine g_ret ?_; conv => whnf)
    | (refine g_exit ?_; conv => whnf)
    | (refine g_block ?_)
    | (refine g_quiet ?_)
    | (refine q_op ?_; conv => whnf)
    | (refine q_nil ?_; conv => whnf)
    | (refine q_opg ?_; conv => whnf)
    | (refine r_t ?_; conv => whnf)
    | (refine r_c ?_; conv => whnf)
    | (refine r_nil ?_; conv => whnf)
    | (refine And.intro (by decide) ?_; conv => whnf)
    | (refine And.intro (by omega) ?_; conv => whnf)
    | fail)
  refine Br.mk (fun hb => ?_) (fun hb => ?_)
  · rw [runs_len] at hb
    conv => whnf
    repeat' (first
      | (refine g_op ?_; conv => whnf)
      | (refine And.intro rfl ?_; conv => whnf)
      | (refine And.intro (Nat.le_of_ble_eq_true rfl) ?_; conv => whnf)
      | (refine g_seq ?_)
      | (refine g_ops ?_)
      | (refine g_loop ?_)
      | (refine g_nil ?_; conv => whnf)
      | (refine g_opg ?_; conv => whnf)
      | (refine Br.t (by first | assumption | rfl) ?_; conv => whnf)
      | (refine Br.f (by first | assumption | rfl) ?_; conv => whnf)
      | (refine g_cond ?_; conv => whnf)
      | (refine g_skip ?_; conv => whnf)
      | (refine g_ret ?_; conv => whnf)
      | (refine g_exit ?_; conv => whnf)
      | (refine g_block ?_)
      | (refine g_quiet ?_)
      | (refine q_op ?_; conv => whnf)
      | (refine q_nil ?_; conv => whnf)
      | (refine q_opg ?_; conv => whnf)
      | (refine r_t ?_; conv => whnf)
      | (refine r_c ?_; conv => whnf)
      | (refine r_nil ?_; conv => whnf)
      | (refine And.intro (by decide) ?_; conv => whnf)
      | (refine And.intro (by omega) ?_; conv => whnf)
      | fail)
    conv => lhs; whnf
    simp only [runsOk, hb, Bool.not_true, Bool.false_and]
  rw [runs_len] at hb
  have hsz : xs.length ≤ 20 := by simp at hb; omega
  conv => whnf
  repeat' (first
    | (refine g_op ?_; conv => whnf)
    | (refine And.intro rfl ?_; conv => whnf)
    | (refine And.intro (Nat.le_of_ble_eq_true rfl) ?_; conv => whnf)
    | (refine g_seq ?_)
    | (refine g_ops ?_)
    | (refine g_loop ?_)
    | (refine g_nil ?_; conv => whnf)
    | (refine g_opg ?_; conv => whnf)
    | (refine Br.t (by first | assumption | rfl) ?_; conv => whnf)
    | (refine Br.f (by first | assumption | rfl) ?_; conv => whnf)
    | (refine g_cond ?_; conv => whnf)
    | (refine g_skip ?_; conv => whnf)
    | (refine g_ret ?_; conv => whnf)
    | (refine g_exit ?_; conv => whnf)
    | (refine g_block ?_)
    | (refine g_quiet ?_)
    | (refine q_op ?_; conv => whnf)
    | (refine q_nil ?_; conv => whnf)
    | (refine q_opg ?_; conv => whnf)
    | (refine r_t ?_; conv => whnf)
    | (refine r_c ?_; conv => whnf)
    | (refine r_nil ?_; conv => whnf)
    | (refine And.intro (by decide) ?_; conv => whnf)
    | (refine And.intro (by omega) ?_; conv => whnf)
    | fail)
  refine XLc.mkL (α := Nat) (fun i => i ≤ xs.length ∧ runsOk xs c = okR xs c (xs.length - i) i) (fun i => xs.length - i) (fun i gs => [runs xs, .int .i64 c, .any, .any, .bool false, .int .i64 (i : Int)]) (fun i gs => []) (fun _ => none) 0 ⟨Nat.zero_le _, by simp only [runsOk, hb, Bool.not_false, Bool.true_and, Nat.sub_zero]⟩ ?_ ?_
  · refine ⟨?_, True.intro, rfl⟩
    repeat' (first | exact True.intro | refine And.intro rfl ?_)
  intro i gs hI
  obtain ⟨hi, hN⟩ := hI
  repeat' (first
    | (refine g_op ?_; conv => whnf)
    | (refine And.intro rfl ?_; conv => whnf)
    | (refine And.intro (Nat.le_of_ble_eq_true rfl) ?_; conv => whnf)
    | (refine g_seq ?_)
    | (refine g_ops ?_)
    | (refine g_loop ?_)
    | (refine g_nil ?_; conv => whnf)
    | (refine g_opg ?_; conv => whnf)
    | (refine Br.t (by first | assumption | rfl) ?_; conv => whnf)
    | (refine Br.f (by first | assumption | rfl) ?_; conv => whnf)
    | (refine g_cond ?_; conv => whnf)
    | (refine g_skip ?_; conv => whnf)
    | (refine g_ret ?_; conv => whnf)
    | (refine g_exit ?_; conv => whnf)
    | (refine g_block ?_)
    | (refine g_quiet ?_)
    | (refine q_op ?_; conv => whnf)
    | (refine q_nil ?_; conv => whnf)
    | (refine q_opg ?_; conv => whnf)
    | (refine r_t ?_; conv => whnf)
    | (refine r_c ?_; conv => whnf)
    | (refine r_nil ?_; conv => whnf)
    | (refine And.intro (by decide) ?_; conv => whnf)
    | (refine And.intro (by omega) ?_; conv => whnf)
    | fail)
  refine Br.mk (fun hb => ?_) (fun hb => ?_)
  · have hlt : i < xs.length := by simpa using hb
    have e1 : (i : Int) < ((xs.map MRun.D).length : Int) := by simpa using hlt
    have hstep := okR_step (c := c) hlt
    have hw : IntKind.wrap .i64 ((i : Int) + 1) = ((i + 1 : Nat) : Int) := by rw [wrap_ok (by omega) (by omega)]; rfl
    conv => whnf
    repeat' (first
      | (refine g_op ?_; conv => whnf)
      | (refine And.intro rfl ?_; conv => whnf)
      | (refine And.intro (Nat.le_of_ble_eq_true rfl) ?_; conv => whnf)
      | (refine g_seq ?_)
      | (refine g_ops ?_)
      | (refine g_loop ?_)
      | (refine g_nil ?_; conv => whnf)
      | (refine g_opg ?_; conv => whnf)
      | (refine Br.t (by first | assumption | rfl) ?_; conv => whnf)
      | (refine Br.f (by first | assumption | rfl) ?_; conv => whnf)
      | (refine g_cond ?_; conv => whnf)
      | (refine g_skip ?_; conv => whnf)
      | (refine g_ret ?_; conv => whnf)
      | (refine g_exit ?_; conv => whnf)
      | (refine g_block ?_)
      | (refine g_quiet ?_)
      | (refine q_op ?_; conv => whnf)
      | (refine q_nil ?_; conv => whnf)
      | (refine q_opg ?_; conv => whnf)
      | (refine r_t ?_; conv => whnf)
      | (refine r_c ?_; conv => whnf)
      | (refine r_nil ?_; conv => whnf)
      | (refine And.intro (by decide) ?_; conv => whnf)
      | (refine And.intro (by omega) ?_; conv => whnf)
      | fail)
    rw [runs_get hlt]
    repeat' (first
      | (refine g_op ?_; conv => whnf)
      | (refine And.intro rfl ?_; conv => whnf)
      | (refine And.intro (Nat.le_of_ble_eq_true rfl) ?_; conv => whnf)
      | (refine g_seq ?_)
      | (refine g_ops ?_)
      | (refine g_loop ?_)
      | (refine g_nil ?_; conv => whnf)
      | (refine g_opg ?_; conv => whnf)
      | (refine Br.t (by first | assumption | rfl) ?_; conv => whnf)
      | (refine Br.f (by first | assumption | rfl) ?_; conv => whnf)
      | (refine g_cond ?_; conv => whnf)
      | (refine g_skip ?_; conv => whnf)
      | (refine g_ret ?_; conv => whnf)
      | (refine g_exit ?_; conv => whnf)
      | (refine g_block ?_)
      | (refine g_quiet ?_)
      | (refine q_op ?_; conv => whnf)
      | (refine q_nil ?_; conv => whnf)
      | (refine q_opg ?_; conv => whnf)
      | (refine r_t ?_; conv => whnf)
      | (refine r_c ?_; conv => whnf)
      | (refine r_nil ?_; conv => whnf)
      | (refine And.intro (by decide) ?_; conv => whnf)
      | (refine And.intro (by omega) ?_; conv => whnf)
      | fail)
    refine QC.of_rdr (spec_l11RunOk (xs.getD i dR) c) rfl ?_
    conv => whnf
    repeat' (first
      | (refine g_op ?_; conv => whnf)
      | (refine And.intro rfl ?_; conv => whnf)
      | (refine And.intro (Nat.le_of_ble_eq_true rfl) ?_; conv => whnf)
      | (refine g_seq ?_)
      | (refine g_ops ?_)
      | (refine g_loop ?_)
      | (refine g_nil ?_; conv => whnf)
      | (refine g_opg ?_; conv => whnf)
      | (refine Br.t (by first | assumption | rfl) ?_; conv => whnf)
      | (refine Br.f (by first | assumption | rfl) ?_; conv => whnf)
      | (refine g_cond ?_; conv => whnf)
      | (refine g_skip ?_; conv => whnf)
      | (refine g_ret ?_; conv => whnf)
      | (refine g_exit ?_; conv => whnf)
      | (refine g_block ?_)
      | (refine g_quiet ?_)
      | (refine q_op ?_; conv => whnf)
      | (refine q_nil ?_; conv => whnf)
      | (refine q_opg ?_; conv => whnf)
      | (refine r_t ?_; conv => whnf)
      | (refine r_c ?_; conv => whnf)
      | (refine r_nil ?_; conv => whnf)
      | (refine And.intro (by decide) ?_; conv => whnf)
      | (refine And.intro (by omega) ?_; conv => whnf)
      | fail)
    refine Br.mk (fun hc => ?_) (fun hc => ?_)
    · have hc' : runOk (xs.getD i dR) c = false := by simpa using hc
      conv => whnf
      repeat' (first
        | (refine g_op ?_; conv => whnf)
        | (refine And.intro rfl ?_; conv => whnf)
        | (refine And.intro (Nat.le_of_ble_eq_true rfl) ?_; conv => whnf)
        | (refine g_seq ?_)
        | (refine g_ops ?_)
        | (refine g_loop ?_)
        | (refine g_nil ?_; conv => whnf)
        | (refine g_opg ?_; conv => whnf)
        | (refine Br.t (by first | assumption | rfl) ?_; conv => whnf)
        | (refine Br.f (by first | assumption | rfl) ?_; conv => whnf)
        | (refine g_cond ?_; conv => whnf)
        | (refine g_skip ?_; conv => whnf)
        | (refine g_ret ?_; conv => whnf)
        | (refine g_exit ?_; conv => whnf)
        | (refine g_block ?_)
        | (refine g_quiet ?_)
        | (refine q_op ?_; conv => whnf)
        | (refine q_nil ?_; conv => whnf)
        | (refine q_opg ?_; conv => whnf)
        | (refine r_t ?_; conv => whnf)
        | (refine r_c ?_; conv => whnf)
        | (refine r_nil ?_; conv => whnf)
        | (refine And.intro (by decide) ?_; conv => whnf)
        | (refine And.intro (by omega) ?_; conv => whnf)
        | fail)
      conv => lhs; whnf
      rw [hN, hstep, stepR, hc']
      rfl
    have hc' : runOk (xs.getD i dR) c = true := by simpa using hc
    conv => whnf
    repeat' (first
      | (refine g_op ?_; conv => whnf)
      | (refine And.intro rfl ?_; conv => whnf)
      | (refine And.intro (Nat.le_of_ble_eq_true rfl) ?_; conv => whnf)
      | (refine g_seq ?_)
      | (refine g_ops ?_)
      | (refine g_loop ?_)
      | (refine g_nil ?_; conv => whnf)
      | (refine g_opg ?_; conv => whnf)
      | (refine Br.t (by first | assumption | rfl) ?_; conv => whnf)
      | (refine Br.f (by first | assumption | rfl) ?_; conv => whnf)
      | (refine g_cond ?_; conv => whnf)
      | (refine g_skip ?_; conv => whnf)
      | (refine g_ret ?_; conv => whnf)
      | (refine g_exit ?_; conv => whnf)
      | (refine g_block ?_)
      | (refine g_quiet ?_)
      | (refine q_op ?_; conv => whnf)
      | (refine q_nil ?_; conv => whnf)
      | (refine q_opg ?_; conv => whnf)
      | (refine r_t ?_; conv => whnf)
      | (refine r_c ?_; conv => whnf)
      | (refine r_nil ?_; conv => whnf)
      | (refine And.intro (by decide) ?_; conv => whnf)
      | (refine And.intro (by omega) ?_; conv => whnf)
      | fail)
    refine Br.mk (fun hd => ?_) (fun hd => ?_)
    · have hi0 : 0 < i := by simpa using hd
      have hw1 : IntKind.wrap .i64 ((i : Int) - 1) = ((i - 1 : Nat) : Int) := by rw [wrap_ok (by omega) (by omega)]; omega
      have hlt1 : i - 1 < xs.length := by omega
      have e2 : ((i - 1 : Nat) : Int) < ((xs.map MRun.D).length : Int) := by simp; omega
      conv => whnf
      repeat' (first
        | (refine g_op ?_; conv => whnf)
        | (refine And.intro rfl ?_; conv => whnf)
        | (refine And.intro (Nat.le_of_ble_eq_true rfl) ?_; conv => whnf)
        | (refine g_seq ?_)
        | (refine g_ops ?_)
        | (refine g_loop ?_)
        | (refine g_nil ?_; conv => whnf)
        | (refine g_opg ?_; conv => whnf)
        | (refine Br.t (by first | assumption | rfl) ?_; conv => whnf)
        | (refine Br.f (by first | assumption | rfl) ?_; conv => whnf)
        | (refine g_cond ?_; conv => whnf)
        | (refine g_skip ?_; conv => whnf)
        | (refine g_ret ?_; conv => whnf)
        | (refine g_exit ?_; conv => whnf)
        | (refine g_block ?_)
        | (refine g_quiet ?_)
        | (refine q_op ?_; conv => whnf)
        | (refine q_nil ?_; conv => whnf)
        | (refine q_opg ?_; conv => whnf)
        | (refine r_t ?_; conv => whnf)
        | (refine r_c ?_; conv => whnf)
        | (refine r_nil ?_; conv => whnf)
        | (refine And.intro (by decide) ?_; conv => whnf)
        | (refine And.intro (by omega) ?_; conv => whnf)
        | fail)
      rw [hw1]
      repeat' (first
        | (refine g_op ?_; conv => whnf)
        | (refine And.intro rfl ?_; conv => whnf)
        | (refine And.intro (Nat.le_of_ble_eq_true rfl) ?_; conv => whnf)
        | (refine g_seq ?_)
        | (refine g_ops ?_)
        | (refine g_loop ?_)
        | (refine g_nil ?_; conv => whnf)
        | (refine g_opg ?_; conv => whnf)
        | (refine Br.t (by first | assumption | rfl) ?_; conv => whnf)
        | (refine Br.f (by first | assumption | rfl) ?_; conv => whnf)
        | (refine g_cond ?_; conv => whnf)
        | (refine g_skip ?_; conv => whnf)
        | (refine g_ret ?_; conv => whnf)
        | (refine g_exit ?_; conv => whnf)
        | (refine g_block ?_)
        | (refine g_quiet ?_)
        | (refine q_op ?_; conv => whnf)
        | (refine q_nil ?_; conv => whnf)
        | (refine q_opg ?_; conv => whnf)
        | (refine r_t ?_; conv => whnf)
        | (refine r_c ?_; conv => whnf)
        | (refine r_nil ?_; conv => whnf)
        | (refine And.intro (by decide) ?_; conv => whnf)
        | (refine And.intro (by omega) ?_; conv => whnf)
        | fail)
      rw [runs_get hlt1]
      repeat' (first
        | (refine g_op ?_; conv => whnf)
        | (refine And.intro rfl ?_; conv => whnf)
        | (refine And.intro (Nat.le_of_ble_eq_true rfl) ?_; conv => whnf)
        | (refine g_seq ?_)
        | (refine g_ops ?_)
        | (refine g_loop ?_)
        | (refine g_nil ?_; conv => whnf)
        | (refine g_opg ?_; conv => whnf)
        | (refine Br.t (by first | assumption | rfl) ?_; conv => whnf)
        | (refine Br.f (by first | assumption | rfl) ?_; conv => whnf)
        | (refine g_cond ?_; conv => whnf)
        | (refine g_skip ?_; conv => whnf)
        | (refine g_ret ?_; conv => whnf)
        | (refine g_exit ?_; conv => whnf)
        | (refine g_block ?_)
        | (refine g_quiet ?_)
        | (refine q_op ?_; conv => whnf)
        | (refine q_nil ?_; conv => whnf)
        | (refine q_opg ?_; conv => whnf)
        | (refine r_t ?_; conv => whnf)
        | (refine r_c ?_; conv => whnf)
        | (refine r_nil ?_; conv => whnf)
        | (refine And.intro (by decide) ?_; conv => whnf)
        | (refine And.intro (by omega) ?_; conv => whnf)
        | fail)
      rw [runs_get hlt]
      repeat' (first
        | (refine g_op ?_; conv => whnf)
        | (refine And.intro rfl ?_; conv => whnf)
        | (refine And.intro (Nat.le_of_ble_eq_true rfl) ?_; conv => whnf)
        | (refine g_seq ?_)
        | (refine g_ops ?_)
        | (refine g_loop ?_)
        | (refine g_nil ?_; conv => whnf)
        | (refine g_opg ?_; conv => whnf)
        | (refine Br.t (by first | assumption | rfl) ?_; conv => whnf)
        | (refine Br.f (by first | assumption | rfl) ?_; conv => whnf)
        | (refine g_cond ?_; conv => whnf)
        | (refine g_skip ?_; conv => whnf)
        | (refine g_ret ?_; conv => whnf)
        | (refine g_exit ?_; conv => whnf)
        | (refine g_block ?_)
        | (refine g_quiet ?_)
        | (refine q_op ?_; conv => whnf)
        | (refine q_nil ?_; conv => whnf)
        | (refine q_opg ?_; conv => whnf)
        | (refine r_t ?_; conv => whnf)
        | (refine r_c ?_; conv => whnf)
        | (refine r_nil ?_; conv => whnf)
        | (refine And.intro (by decide) ?_; conv => whnf)
        | (refine And.intro (by omega) ?_; conv => whnf)
        | fail)
      have hne : decide (i = 0) = false := by simp; omega
      refine Br.mk (fun he => ?_) (fun he => ?_)
      · have he' : Op.bytesLess (xs.getD (i - 1) dR).w.c.toList (xs.getD i dR).w.c.toList = false := by simpa using he
        conv => whnf
        repeat' (first
          | (refine g_op ?_; conv => whnf)
          | (refine And.intro rfl ?_; conv => whnf)
          | (refine And.intro (Nat.le_of_ble_eq_true rfl) ?_; conv => whnf)
          | (refine g_seq ?_)
          | (refine g_ops ?_)
          | (refine g_loop ?_)
          | (refine g_nil ?_; conv => whnf)
          | (refine g_opg ?_; conv => whnf)
          | (refine Br.t (by first | assumption | rfl) ?_; conv => whnf)
          | (refine Br.f (by first | assumption | rfl) ?_; conv => whnf)
          | (refine g_cond ?_; conv => whnf)
          | (refine g_skip ?_; conv => whnf)
          | (refine g_ret ?_; conv => whnf)
          | (refine g_exit ?_; conv => whnf)
          | (refine g_block ?_)
          | (refine g_quiet ?_)
          | (refine q_op ?_; conv => whnf)
          | (refine q_nil ?_; conv => whnf)
          | (refine q_opg ?_; conv => whnf)
          | (refine r_t ?_; conv => whnf)
          | (refine r_c ?_; conv => whnf)
          | (refine r_nil ?_; conv => whnf)
          | (refine And.intro (by decide) ?_; conv => whnf)
          | (refine And.intro (by omega) ?_; conv => whnf)
          | fail)
        conv => lhs; whnf
        rw [hN, hstep, stepR, hc', ordOk, hne, he']
        rfl
      have he' : Op.bytesLess (xs.getD (i - 1) dR).w.c.toList (xs.getD i dR).w.c.toList = true := by simpa using he
      conv => whnf
      repeat' (first
        | (refine g_op ?_; conv => whnf)
        | (refine And.intro rfl ?_; conv => whnf)
        | (refine And.intro (Nat.le_of_ble_eq_true rfl) ?_; conv => whnf)
        | (refine g_seq ?_)
        | (refine g_ops ?_)
        | (refine g_loop ?_)
        | (refine g_nil ?_; conv => whnf)
        | (refine g_opg ?_; conv => whnf)
        | (refine Br.t (by first | assumption | rfl) ?_; conv => whnf)
        | (refine Br.f (by first | assumption | rfl) ?_; conv => whnf)
        | (refine g_cond ?_; conv => whnf)
        | (refine g_skip ?_; conv => whnf)
        | (refine g_ret ?_; conv => whnf)
        | (refine g_exit ?_; conv => whnf)
        | (refine g_block ?_)
        | (refine g_quiet ?_)
        | (refine q_op ?_; conv => whnf)
        | (refine q_nil ?_; conv => whnf)
        | (refine q_opg ?_; conv => whnf)
        | (refine r_t ?_; conv => whnf)
        | (refine r_c ?_; conv => whnf)
        | (refine r_nil ?_; conv => whnf)
        | (refine And.intro (by decide) ?_; conv => whnf)
        | (refine And.intro (by omega) ?_; conv => whnf)
        | fail)
      refine ⟨i + 1, ⟨by omega, ?_⟩, by omega, ?_, True.intro, rfl⟩
      · rw [hN, hstep, stepR, hc', ordOk, hne, he']
        rfl
      refine And.intro rfl ?_
      refine And.intro rfl ?_
      refine And.intro rfl ?_
      exact And.intro (congrArg (D.int .i64) hw) True.intro
    have hi0 : i = 0 := by have : ¬ 0 < i := by simpa using hd
                           omega
    conv => whnf
    repeat' (first
      | (refine g_op ?_; conv => whnf)
      | (refine And.intro rfl ?_; conv => whnf)
      | (refine And.intro (Nat.le_of_ble_eq_true rfl) ?_; conv => whnf)
      | (refine g_seq ?_)
      | (refine g_ops ?_)
      | (refine g_loop ?_)
      | (refine g_nil ?_; conv => whnf)
      | (refine g_opg ?_; conv => whnf)
      | (refine Br.t (by first | assumption | rfl) ?_; conv => whnf)
      | (refine Br.f (by first | assumption | rfl) ?_; conv => whnf)
      | (refine g_cond ?_; conv => whnf)
      | (refine g_skip ?_; conv => whnf)
      | (refine g_ret ?_; conv => whnf)
      | (refine g_exit ?_; conv => whnf)
      | (refine g_block ?_)
      | (refine g_quiet ?_)
      | (refine q_op ?_; conv => whnf)
      | (refine q_nil ?_; conv => whnf)
      | (refine q_opg ?_; conv => whnf)
      | (refine r_t ?_; conv => whnf)
      | (refine r_c ?_; conv => whnf)
      | (refine r_nil ?_; conv => whnf)
      | (refine And.intro (by decide) ?_; conv => whnf)
      | (refine And.intro (by omega) ?_; conv => whnf)
      | fail)
    refine ⟨i + 1, ⟨by omega, ?_⟩, by omega, ?_, True.intro, rfl⟩
    · have e0 : ordOk xs i = true := by simp [ordOk, hi0]
      rw [hN, hstep, stepR, hc', e0]
      rfl
    refine And.intro rfl ?_
    refine And.intro rfl ?_
    refine And.intro rfl ?_
    exact And.intro (congrArg (D.int .i64) hw) True.intro
  · have hge : ¬ i < xs.length := by simpa using hb
    conv => whnf
    repeat' (first
      | (refine g_op ?_; conv => whnf)
      | (refine And.intro rfl ?_; conv => whnf)
      | (refine And.intro (Nat.le_of_ble_eq_true rfl) ?_; conv => whnf)
      | (refine g_seq ?_)
      | (refine g_ops ?_)
      | (refine g_loop ?_)
      | (refine g_nil ?_; conv => whnf)
      | (refine g_opg ?_; conv => whnf)
      | (refine Br.t (by first | assumption | rfl) ?_; conv => whnf)
      | (refine Br.f (by first | assumption | rfl) ?_; conv => whnf)
      | (refine g_cond ?_; conv => whnf)
      | (refine g_skip ?_; conv => whnf)
      | (refine g_ret ?_; conv => whnf)
      | (refine g_exit ?_; conv => whnf)
      | (refine g_block ?_)
      | (refine g_quiet ?_)
      | (refine q_op ?_; conv => whnf)
      | (refine q_nil ?_; conv => whnf)
      | (refine q_opg ?_; conv => whnf)
      | (refine r_t ?_; conv => whnf)
      | (refine r_c ?_; conv => whnf)
      | (refine r_nil ?_; conv => whnf)
      | (refine And.intro (by decide) ?_; conv => whnf)
      | (refine And.intro (by omega) ?_; conv => whnf)
      | fail)
    conv => lhs; whnf
    have e : xs.length - i = 0 := by omega
    rw [hN, e]
    rfl
end Go.Ab
