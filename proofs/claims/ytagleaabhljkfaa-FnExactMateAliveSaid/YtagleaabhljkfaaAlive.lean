/- The law FnExactMateAlive returns true for every run; nothing is asked of the input beyond what the row itself asks. -/
import Derived.Test.YtagleaabhljkfaaAb8
import Derived.Test.YtagleaabhljkfaaRows
set_option linter.unusedSimpArgs false
set_option linter.unusedVariables false
namespace Go.Ab
open Go Go.RowKit Go.Proofs
attribute [local irreducible] XC IntKind.wrap xw xos xqs xr
set_option maxRecDepth 100000
theorem hm : Try.prog.follows .mixedOrders = true := by kernel_rfl
/-- laws.szMateWant -/
def cf60 : CF := ⟨20, [.t 4],
  (.seq (.ops [⟨some 2, .bx (.t 0), none⟩,
    ⟨some 4, .mv (.k (.int .i64 0)), none⟩])
  (.seq (.ops [⟨some 5, .mv (.t 1), none⟩,
    ⟨some 6, .fa 0 1 0 (.t 2), none⟩,
    ⟨some 7, .ld 1 false (.t 6), none⟩,
    ⟨some 8, .lens (.t 7), none⟩,
    ⟨some 9, .bin .sub (.t 5) (.t 8), none⟩,
    ⟨some 1, .mv (.t 9), none⟩])
  (.seq (.seq (.ops [⟨some 10, .mv (.t 1), none⟩,
    ⟨some 11, .bin .lss (.t 10) (.k (.int .i64 0)), none⟩])
  (.cond (.t 11)
  (.seq (.ops [⟨some 4, .mv (.k (.int .i64 (-1))), none⟩])
  .ret)
  .skip))
  (.seq (.ops [⟨some 12, .mv (.t 1), none⟩,
    ⟨some 13, .fa 2 1 2 (.t 2), none⟩,
    ⟨some 14, .ld 1 false (.t 13), none⟩,
    ⟨some 15, .lens (.t 14), none⟩,
    ⟨some 16, .bin .sub (.t 12) (.t 15), none⟩,
    ⟨some 1, .mv (.t 16), none⟩])
  (.seq (.seq (.ops [⟨some 17, .mv (.t 1), none⟩,
    ⟨some 18, .bin .lss (.t 17) (.k (.int .i64 0)), none⟩])
  (.cond (.t 18)
  (.seq (.ops [⟨some 4, .mv (.k (.int .i64 (-1))), none⟩])
  .ret)
  .skip))
  (.seq (.ops [⟨some 19, .mv (.t 1), none⟩,
    ⟨some 4, .mv (.t 19), none⟩])
  .ret))))))⟩
theorem c60 : compileF Try.prog [] 60 = some cf60 := by kernel_rfl
/-- laws.szMateRun -/
def cf14 : CF := ⟨12, [.t 4],
  (.seq (.ops [⟨some 2, .bx (.t 0), none⟩,
    ⟨some 4, .mv (.k (.int .i64 0)), none⟩])
  (.seq (.ops [⟨some 5, .fa 0 7 0 (.t 2), none⟩,
    ⟨some 6, .ld 7 true (.t 5), none⟩,
    ⟨some 7, .mv (.t 1), none⟩,
    ⟨some 8, .call 60 [(.t 6), (.t 7)], none⟩,
    ⟨some 1, .mv (.t 8), none⟩])
  (.seq (.seq (.ops [⟨some 9, .mv (.t 1), none⟩,
    ⟨some 10, .bin .lss (.t 9) (.k (.int .i64 0)), none⟩])
  (.cond (.t 10)
  (.seq (.ops [⟨some 4, .mv (.k (.int .i64 (-1))), none⟩])
  .ret)
  .skip))
  (.seq (.ops [⟨some 11, .mv (.t 1), none⟩,
    ⟨some 4, .mv (.t 11), none⟩])
  .ret))))⟩
theorem c14 : compileF Try.prog [] 14 = some cf14 := by kernel_rfl
/-- laws.toMateWant -/
def cf61 : CF := ⟨26, [.c 2 7 true],
  (.seq (.ops [⟨some 1, .bx (.t 0), none⟩,
    ⟨some 2, .al (.agg [.str ⟨#[]⟩, .int .i64 0, .str ⟨#[]⟩, .int .i64 0, .int .i64 0, .int .i64 0, .int .i64 0]), none⟩])
  (.seq (.ops [⟨some 3, .al (.agg [.str ⟨#[]⟩, .int .i64 0, .str ⟨#[]⟩, .int .i64 0, .int .i64 0, .int .i64 0, .int .i64 0]), none⟩])
  (.seq (.ops [⟨some 4, .fa 0 1 0 (.t 1), none⟩,
    ⟨some 5, .ld 1 false (.t 4), none⟩,
    ⟨some 6, .fa 0 1 0 (.t 3), none⟩,
    ⟨none, .st 1 (.t 6) (.t 5), none⟩])
  (.seq (.ops [⟨some 7, .fa 1 1 1 (.t 1), none⟩,
    ⟨some 8, .ld 1 false (.t 7), none⟩,
    ⟨some 9, .fa 1 1 1 (.t 3), none⟩,
    ⟨none, .st 1 (.t 9) (.t 8), none⟩])
  (.seq (.ops [⟨some 10, .fa 2 1 2 (.t 1), none⟩,
    ⟨some 11, .ld 1 false (.t 10), none⟩,
    ⟨some 12, .fa 2 1 2 (.t 3), none⟩,
    ⟨none, .st 1 (.t 12) (.t 11), none⟩])
  (.seq (.ops [⟨some 13, .fa 3 1 3 (.t 1), none⟩,
    ⟨some 14, .ld 1 false (.t 13), none⟩,
    ⟨some 15, .fa 3 1 3 (.t 3), none⟩,
    ⟨none, .st 1 (.t 15) (.t 14), none⟩])
  (.seq (.ops [⟨some 16, .fa 4 1 4 (.t 1), none⟩,
    ⟨some 17, .ld 1 false (.t 16), none⟩,
    ⟨some 18, .fa 4 1 4 (.t 3), none⟩,
    ⟨none, .st 1 (.t 18) (.t 17), none⟩])
  (.seq (.ops [⟨some 19, .fa 5 1 5 (.t 1), none⟩,
    ⟨some 20, .ld 1 false (.t 19), none⟩,
    ⟨some 21, .fa 5 1 5 (.t 3), none⟩,
    ⟨none, .st 1 (.t 21) (.t 20), none⟩])
  (.seq (.ops [⟨some 22, .fa 6 1 6 (.t 1), none⟩,
    ⟨some 23, .ld 1 false (.t 22), none⟩,
    ⟨some 24, .fa 6 1 6 (.t 3), none⟩,
    ⟨none, .st 1 (.t 24) (.t 23), none⟩])
  (.seq (.ops [⟨some 25, .ld 7 true (.t 3), none⟩,
    ⟨none, .st 7 (.t 2) (.t 25), none⟩])
  .ret))))))))))⟩
theorem c61 : compileF Try.prog [] 61 = some cf61 := by kernel_rfl
/-- laws.toMateRun -/
def cf16 : CF := ⟨21, [.c 2 11 true],
  (.seq (.ops [⟨some 1, .bx (.t 0), none⟩,
    ⟨some 2, .al (.agg [.agg [.str ⟨#[]⟩, .int .i64 0, .str ⟨#[]⟩, .int .i64 0, .int .i64 0, .int .i64 0, .int .i64 0], .int .i64 0, .int .i64 0, .int .i64 0, .int .i64 0]), none⟩])
  (.seq (.ops [⟨some 3, .al (.agg [.agg [.str ⟨#[]⟩, .int .i64 0, .str ⟨#[]⟩, .int .i64 0, .int .i64 0, .int .i64 0, .int .i64 0], .int .i64 0, .int .i64 0, .int .i64 0, .int .i64 0]), none⟩])
  (.seq (.ops [⟨some 4, .fa 0 7 0 (.t 1), none⟩,
    ⟨some 5, .ld 7 true (.t 4), none⟩,
    ⟨some 6, .call 61 [(.t 5)], none⟩,
    ⟨some 7, .fa 0 7 0 (.t 3), none⟩,
    ⟨none, .st 7 (.t 7) (.t 6), none⟩])
  (.seq (.ops [⟨some 8, .fa 7 1 1 (.t 1), none⟩,
    ⟨some 9, .ld 1 false (.t 8), none⟩,
    ⟨some 10, .fa 7 1 1 (.t 3), none⟩,
    ⟨none, .st 1 (.t 10) (.t 9), none⟩])
  (.seq (.ops [⟨some 11, .fa 8 1 2 (.t 1), none⟩,
    ⟨some 12, .ld 1 false (.t 11), none⟩,
    ⟨some 13, .fa 8 1 2 (.t 3), none⟩,
    ⟨none, .st 1 (.t 13) (.t 12), none⟩])
  (.seq (.ops [⟨some 14, .fa 9 1 3 (.t 1), none⟩,
    ⟨some 15, .ld 1 false (.t 14), none⟩,
    ⟨some 16, .fa 9 1 3 (.t 3), none⟩,
    ⟨none, .st 1 (.t 16) (.t 15), none⟩])
  (.seq (.ops [⟨some 17, .fa 10 1 4 (.t 1), none⟩,
    ⟨some 18, .ld 1 false (.t 17), none⟩,
    ⟨some 19, .fa 10 1 4 (.t 3), none⟩,
    ⟨none, .st 1 (.t 19) (.t 18), none⟩])
  (.seq (.ops [⟨some 20, .ld 11 true (.t 3), none⟩,
    ⟨none, .st 11 (.t 2) (.t 20), none⟩])
  .ret))))))))⟩
theorem c16 : compileF Try.prog [] 16 = some cf16 := by kernel_rfl
/-- spec.MateAlive -/
def cf15 : CF := ⟨16, [.t 2],
  (.seq (.ops [⟨some 1, .bx (.t 0), none⟩,
    ⟨some 2, .mv (.k (.bool false)), none⟩])
  (.seq (.ops [⟨some 3, .fa 7 1 1 (.t 1), none⟩,
    ⟨some 4, .ld 1 false (.t 3), none⟩,
    ⟨some 5, .bin .eql (.t 4) (.k (.int .i64 3)), none⟩,
    ⟨some 6, .mv (.t 5), none⟩,
    ⟨some 7, .fa 7 1 1 (.t 1), some (6, false)⟩,
    ⟨some 8, .ld 1 false (.t 7), some (6, false)⟩,
    ⟨some 9, .bin .eql (.t 8) (.k (.int .i64 4)), some (6, false)⟩,
    ⟨some 10, .pick (.t 6) (.k (.bool true)) (.t 9), none⟩,
    ⟨some 11, .mv (.t 10), none⟩,
    ⟨some 12, .fa 7 1 1 (.t 1), some (11, false)⟩,
    ⟨some 13, .ld 1 false (.t 12), some (11, false)⟩,
    ⟨some 14, .bin .eql (.t 13) (.k (.int .i64 6)), some (11, false)⟩,
    ⟨some 15, .pick (.t 11) (.k (.bool true)) (.t 14), none⟩,
    ⟨some 2, .mv (.t 15), none⟩])
  .ret))⟩
theorem c15 : compileF Try.prog [] 15 = some cf15 := by kernel_rfl
/-- impl.MateAlive -/
def cf17 : CF := ⟨16, [.t 2],
  (.seq (.ops [⟨some 1, .bx (.t 0), none⟩,
    ⟨some 2, .mv (.k (.bool false)), none⟩])
  (.seq (.ops [⟨some 3, .fa 7 1 1 (.t 1), none⟩,
    ⟨some 4, .ld 1 false (.t 3), none⟩,
    ⟨some 5, .bin .eql (.t 4) (.k (.int .i64 3)), none⟩,
    ⟨some 6, .mv (.t 5), none⟩,
    ⟨some 7, .fa 7 1 1 (.t 1), some (6, false)⟩,
    ⟨some 8, .ld 1 false (.t 7), some (6, false)⟩,
    ⟨some 9, .bin .eql (.t 8) (.k (.int .i64 4)), some (6, false)⟩,
    ⟨some 10, .pick (.t 6) (.k (.bool true)) (.t 9), none⟩,
    ⟨some 11, .mv (.t 10), none⟩,
    ⟨some 12, .fa 7 1 1 (.t 1), some (11, false)⟩,
    ⟨some 13, .ld 1 false (.t 12), some (11, false)⟩,
    ⟨some 14, .bin .eql (.t 13) (.k (.int .i64 6)), some (11, false)⟩,
    ⟨some 15, .pick (.t 11) (.k (.bool true)) (.t 14), none⟩,
    ⟨some 2, .mv (.t 15), none⟩])
  .ret))⟩
theorem c17 : compileF Try.prog [] 17 = some cf17 := by kernel_rfl
/-- laws.FnExactMateAlive -/
def cf3 : CF := ⟨20, [.t 2],
  (.seq (.ops [⟨some 1, .bx (.t 0), none⟩,
    ⟨some 2, .mv (.k (.bool false)), none⟩])
  (.seq (.ops [⟨some 3, .mv (.k (.int .i64 1048576)), none⟩])
  (.seq (.ops [⟨some 6, .ld 11 true (.t 1), none⟩,
    ⟨some 7, .mv (.t 3), none⟩,
    ⟨some 8, .call 14 [(.t 6), (.t 7)], none⟩,
    ⟨some 3, .mv (.t 8), none⟩])
  (.seq (.seq (.ops [⟨some 9, .mv (.t 3), none⟩,
    ⟨some 10, .bin .lss (.t 9) (.k (.int .i64 0)), none⟩])
  (.cond (.t 10)
  (.seq (.ops [⟨some 2, .mv (.k (.bool true)), none⟩])
  .ret)
  .skip))
  (.seq (.ops [⟨some 11, .ld 11 true (.t 1), none⟩,
    ⟨some 12, .call 16 [(.t 11)], none⟩,
    ⟨some 13, .call 15 [(.t 12)], none⟩,
    ⟨some 4, .mv (.t 13), none⟩])
  (.seq (.ops [⟨some 14, .ld 11 true (.t 1), none⟩,
    ⟨some 15, .call 16 [(.t 14)], none⟩,
    ⟨some 16, .call 17 [(.t 15)], none⟩,
    ⟨some 5, .mv (.t 16), none⟩])
  (.seq (.seq (.ops [⟨some 17, .mv (.t 5), none⟩,
    ⟨some 18, .mv (.t 4), none⟩,
    ⟨some 19, .binb true (.t 17) (.t 18), none⟩])
  (.cond (.t 19)
  (.seq (.ops [⟨some 2, .mv (.k (.bool false)), none⟩])
  .ret)
  .skip))
  (.seq (.ops [⟨some 2, .mv (.k (.bool true)), none⟩])
  .ret))))))))⟩
theorem c3 : compileF Try.prog [] 3 = some cf3 := by kernel_rfl

structure MWant where
  c : ByteArray
  v : Int
  h : ByteArray
  p : Int
  s : Int
  d : Int
  g : Int
def MWant.D (x : MWant) : D := .agg [.str x.c, .int .i64 x.v, .str x.h, .int .i64 x.p, .int .i64 x.s, .int .i64 x.d, .int .i64 x.g]
structure MRun where
  w : MWant
  s : Int
  l : Int
  f : Int
  u : Int
def MRun.D (x : MRun) : D := .agg [x.w.D, .int .i64 x.s, .int .i64 x.l, .int .i64 x.f, .int .i64 x.u]
def alive (x : MRun) : Bool := x.s == 3 || x.s == 4 || x.s == 6
theorem sz_MateWant (x : MWant) (k : Int) (hp : Nat → Option Row) : XC Try.prog 60 [x.D, .int .i64 k] hp (fun d hp' => hp' = hp ∧ ∃ n, d = .int .i64 n) := by
  refine XC.intro' hm c60 (Nat.le_of_ble_eq_true rfl) ?_
  conv => whnf
  repeat' (first
    | (refine g_op ?_; conv => whnf)
    | (refine And.intro rfl ?_; conv => whnf)
    | (refine And.intro (Nat.le_of_ble_eq_true rfl) ?_; conv => whnf)
    | (refine g_seq ?_)
    | (refine g_ops ?_)
    | (refine g_nil ?_; conv => whnf)
    | (refine g_opg ?_; conv => whnf)
    | (refine Br.t (by first | assumption | rfl) ?_; conv => whnf)
    | (refine Br.f (by first | assumption | rfl) ?_; conv => whnf)
    | (refine Br.mk (fun hb => ?_) (fun hb => ?_) <;> conv => whnf)
    | (refine g_cond ?_; conv => whnf)
    | (refine g_skip ?_; conv => whnf)
    | (refine g_ret ?_; conv => whnf)
    | (refine g_exit ?_; conv => whnf)
    | (refine g_block ?_)
    | (refine g_quiet ?_)
    | (refine q_op ?_; conv => whnf)
    | (refine q_nil ?_; conv => whnf)
    | (refine q_opg ?_; conv => whnf)
    | (refine r_t ?_; conv => whnf)
    | (refine r_c ?_; conv => whnf)
    | (refine r_nil ?_; conv => whnf))
  all_goals exact ⟨_, rfl⟩
theorem sz_MateRun (x : MRun) (k : Int) (hp : Nat → Option Row) : XC Try.prog 14 [x.D, .int .i64 k] hp (fun d hp' => hp' = hp ∧ ∃ n, d = .int .i64 n) := by
  refine XC.intro' hm c14 (Nat.le_of_ble_eq_true rfl) ?_
  conv => whnf
  repeat' (first
    | (refine g_op ?_; conv => whnf)
    | (refine And.intro rfl ?_; conv => whnf)
    | (refine And.intro (Nat.le_of_ble_eq_true rfl) ?_; conv => whnf)
    | (refine g_seq ?_)
    | (refine g_ops ?_)
    | (refine g_nil ?_; conv => whnf)
    | (refine g_opg ?_; conv => whnf)
    | (refine Br.t (by first | assumption | rfl) ?_; conv => whnf)
    | (refine Br.f (by first | assumption | rfl) ?_; conv => whnf)
    | (refine Br.mk (fun hb => ?_) (fun hb => ?_) <;> conv => whnf)
    | (refine g_cond ?_; conv => whnf)
    | (refine g_skip ?_; conv => whnf)
    | (refine g_ret ?_; conv => whnf)
    | (refine g_exit ?_; conv => whnf)
    | (refine g_block ?_)
    | (refine g_quiet ?_)
    | (refine q_op ?_; conv => whnf)
    | (refine q_nil ?_; conv => whnf)
    | (refine q_opg ?_; conv => whnf)
    | (refine r_t ?_; conv => whnf)
    | (refine r_c ?_; conv => whnf)
    | (refine r_nil ?_; conv => whnf))
  refine XC.mono (fun d hp' h => ?_) (sz_MateWant x.w k hp)
  obtain ⟨rfl, n, rfl⟩ := h
  conv => whnf
  repeat' (first
    | (refine g_op ?_; conv => whnf)
    | (refine And.intro rfl ?_; conv => whnf)
    | (refine And.intro (Nat.le_of_ble_eq_true rfl) ?_; conv => whnf)
    | (refine g_seq ?_)
    | (refine g_ops ?_)
    | (refine g_nil ?_; conv => whnf)
    | (refine g_opg ?_; conv => whnf)
    | (refine Br.t (by first | assumption | rfl) ?_; conv => whnf)
    | (refine Br.f (by first | assumption | rfl) ?_; conv => whnf)
    | (refine Br.mk (fun hb => ?_) (fun hb => ?_) <;> conv => whnf)
    | (refine g_cond ?_; conv => whnf)
    | (refine g_skip ?_; conv => whnf)
    | (refine g_ret ?_; conv => whnf)
    | (refine g_exit ?_; conv => whnf)
    | (refine g_block ?_)
    | (refine g_quiet ?_)
    | (refine q_op ?_; conv => whnf)
    | (refine q_nil ?_; conv => whnf)
    | (refine q_opg ?_; conv => whnf)
    | (refine r_t ?_; conv => whnf)
    | (refine r_c ?_; conv => whnf)
    | (refine r_nil ?_; conv => whnf))
  all_goals exact ⟨_, rfl⟩
theorem to_MateWant (x : MWant) : Rdr Try.prog 61 [x.D] x.D := by
  refine Rdr.intro' hm c61 (Nat.le_of_ble_eq_true rfl) ?_
  conv => whnf
  repeat' (first
    | (refine g_op ?_; conv => whnf)
    | (refine And.intro rfl ?_; conv => whnf)
    | (refine And.intro (Nat.le_of_ble_eq_true rfl) ?_; conv => whnf)
    | (refine g_seq ?_)
    | (refine g_ops ?_)
    | (refine g_nil ?_; conv => whnf)
    | (refine g_opg ?_; conv => whnf)
    | (refine Br.t (by first | assumption | rfl) ?_; conv => whnf)
    | (refine Br.f (by first | assumption | rfl) ?_; conv => whnf)
    | (refine Br.mk (fun hb => ?_) (fun hb => ?_) <;> conv => whnf)
    | (refine g_cond ?_; conv => whnf)
    | (refine g_skip ?_; conv => whnf)
    | (refine g_ret ?_; conv => whnf)
    | (refine g_exit ?_; conv => whnf)
    | (refine g_block ?_)
    | (refine g_quiet ?_)
    | (refine q_op ?_; conv => whnf)
    | (refine q_nil ?_; conv => whnf)
    | (refine q_opg ?_; conv => whnf)
    | (refine r_t ?_; conv => whnf)
    | (refine r_c ?_; conv => whnf)
    | (refine r_nil ?_; conv => whnf))
  all_goals rfl
theorem to_MateRun (x : MRun) : Rdr Try.prog 16 [x.D] x.D := by
  refine Rdr.intro' hm c16 (Nat.le_of_ble_eq_true rfl) ?_
  conv => whnf
  repeat' (first
    | (refine g_op ?_; conv => whnf)
    | (refine And.intro rfl ?_; conv => whnf)
    | (refine And.intro (Nat.le_of_ble_eq_true rfl) ?_; conv => whnf)
    | (refine g_seq ?_)
    | (refine g_ops ?_)
    | (refine g_nil ?_; conv => whnf)
    | (refine g_opg ?_; conv => whnf)
    | (refine Br.t (by first | assumption | rfl) ?_; conv => whnf)
    | (refine Br.f (by first | assumption | rfl) ?_; conv => whnf)
    | (refine Br.mk (fun hb => ?_) (fun hb => ?_) <;> conv => whnf)
    | (refine g_cond ?_; conv => whnf)
    | (refine g_skip ?_; conv => whnf)
    | (refine g_ret ?_; conv => whnf)
    | (refine g_exit ?_; conv => whnf)
    | (refine g_block ?_)
    | (refine g_quiet ?_)
    | (refine q_op ?_; conv => whnf)
    | (refine q_nil ?_; conv => whnf)
    | (refine q_opg ?_; conv => whnf)
    | (refine r_t ?_; conv => whnf)
    | (refine r_c ?_; conv => whnf)
    | (refine r_nil ?_; conv => whnf))
  refine XC.of_rdr (to_MateWant x.w) ?_
  conv => whnf
  repeat' (first
    | (refine g_op ?_; conv => whnf)
    | (refine And.intro rfl ?_; conv => whnf)
    | (refine And.intro (Nat.le_of_ble_eq_true rfl) ?_; conv => whnf)
    | (refine g_seq ?_)
    | (refine g_ops ?_)
    | (refine g_nil ?_; conv => whnf)
    | (refine g_opg ?_; conv => whnf)
    | (refine Br.t (by first | assumption | rfl) ?_; conv => whnf)
    | (refine Br.f (by first | assumption | rfl) ?_; conv => whnf)
    | (refine Br.mk (fun hb => ?_) (fun hb => ?_) <;> conv => whnf)
    | (refine g_cond ?_; conv => whnf)
    | (refine g_skip ?_; conv => whnf)
    | (refine g_ret ?_; conv => whnf)
    | (refine g_exit ?_; conv => whnf)
    | (refine g_block ?_)
    | (refine g_quiet ?_)
    | (refine q_op ?_; conv => whnf)
    | (refine q_nil ?_; conv => whnf)
    | (refine q_opg ?_; conv => whnf)
    | (refine r_t ?_; conv => whnf)
    | (refine r_c ?_; conv => whnf)
    | (refine r_nil ?_; conv => whnf))
  all_goals rfl
theorem spec_MateAlive (x : MRun) : Rdr Try.prog 15 [x.D] (.bool (alive x)) := by
  refine Rdr.intro' hm c15 (Nat.le_of_ble_eq_true rfl) ?_
  conv => whnf
  repeat' (first
    | (refine g_op ?_; conv => whnf)
    | (refine And.intro rfl ?_; conv => whnf)
    | (refine And.intro (Nat.le_of_ble_eq_true rfl) ?_; conv => whnf)
    | (refine g_seq ?_)
    | (refine g_ops ?_)
    | (refine g_nil ?_; conv => whnf)
    | (refine g_opg ?_; conv => whnf)
    | (refine Br.t (by first | assumption | rfl) ?_; conv => whnf)
    | (refine Br.f (by first | assumption | rfl) ?_; conv => whnf)
    | (refine Br.mk (fun hb => ?_) (fun hb => ?_) <;> conv => whnf)
    | (refine g_cond ?_; conv => whnf)
    | (refine g_skip ?_; conv => whnf)
    | (refine g_ret ?_; conv => whnf)
    | (refine g_exit ?_; conv => whnf)
    | (refine g_block ?_)
    | (refine g_quiet ?_)
    | (refine q_op ?_; conv => whnf)
    | (refine q_nil ?_; conv => whnf)
    | (refine q_opg ?_; conv => whnf)
    | (refine r_t ?_; conv => whnf)
    | (refine r_c ?_; conv => whnf)
    | (refine r_nil ?_; conv => whnf))
  all_goals (conv => lhs; whnf)
  all_goals simp only [alive, *, Bool.true_or, Bool.or_true, Bool.false_or, Bool.or_false]
theorem impl_MateAlive (x : MRun) : Rdr Try.prog 17 [x.D] (.bool (alive x)) := by
  refine Rdr.intro' hm c17 (Nat.le_of_ble_eq_true rfl) ?_
  conv => whnf
  repeat' (first
    | (refine g_op ?_; conv => whnf)
    | (refine And.intro rfl ?_; conv => whnf)
    | (refine And.intro (Nat.le_of_ble_eq_true rfl) ?_; conv => whnf)
    | (refine g_seq ?_)
    | (refine g_ops ?_)
    | (refine g_nil ?_; conv => whnf)
    | (refine g_opg ?_; conv => whnf)
    | (refine Br.t (by first | assumption | rfl) ?_; conv => whnf)
    | (refine Br.f (by first | assumption | rfl) ?_; conv => whnf)
    | (refine Br.mk (fun hb => ?_) (fun hb => ?_) <;> conv => whnf)
    | (refine g_cond ?_; conv => whnf)
    | (refine g_skip ?_; conv => whnf)
    | (refine g_ret ?_; conv => whnf)
    | (refine g_exit ?_; conv => whnf)
    | (refine g_block ?_)
    | (refine g_quiet ?_)
    | (refine q_op ?_; conv => whnf)
    | (refine q_nil ?_; conv => whnf)
    | (refine q_opg ?_; conv => whnf)
    | (refine r_t ?_; conv => whnf)
    | (refine r_c ?_; conv => whnf)
    | (refine r_nil ?_; conv => whnf))
  all_goals (conv => lhs; whnf)
  all_goals simp only [alive, *, Bool.true_or, Bool.or_true, Bool.false_or, Bool.or_false]
theorem law_MateAlive (x : MRun) : Rdr Try.prog 3 [x.D] (.bool true) := by
  refine Rdr.intro' hm c3 (Nat.le_of_ble_eq_true rfl) ?_
  conv => whnf
  repeat' (first
    | (refine g_op ?_; conv => whnf)
    | (refine And.intro rfl ?_; conv => whnf)
    | (refine And.intro (Nat.le_of_ble_eq_true rfl) ?_; conv => whnf)
    | (refine g_seq ?_)
    | (refine g_ops ?_)
    | (refine g_nil ?_; conv => whnf)
    | (refine g_opg ?_; conv => whnf)
    | (refine Br.t (by first | assumption | rfl) ?_; conv => whnf)
    | (refine Br.f (by first | assumption | rfl) ?_; conv => whnf)
    | (refine Br.mk (fun hb => ?_) (fun hb => ?_) <;> conv => whnf)
    | (refine g_cond ?_; conv => whnf)
    | (refine g_skip ?_; conv => whnf)
    | (refine g_ret ?_; conv => whnf)
    | (refine g_exit ?_; conv => whnf)
    | (refine g_block ?_)
    | (refine g_quiet ?_)
    | (refine q_op ?_; conv => whnf)
    | (refine q_nil ?_; conv => whnf)
    | (refine q_opg ?_; conv => whnf)
    | (refine r_t ?_; conv => whnf)
    | (refine r_c ?_; conv => whnf)
    | (refine r_nil ?_; conv => whnf))
  refine XC.mono (fun d hp' h => ?_) (sz_MateRun x _ _)
  obtain ⟨rfl, n, rfl⟩ := h
  conv => whnf
  repeat' (first
    | (refine g_op ?_; conv => whnf)
    | (refine And.intro rfl ?_; conv => whnf)
    | (refine And.intro (Nat.le_of_ble_eq_true rfl) ?_; conv => whnf)
    | (refine g_seq ?_)
    | (refine g_ops ?_)
    | (refine g_nil ?_; conv => whnf)
    | (refine g_opg ?_; conv => whnf)
    | (refine Br.t (by first | assumption | rfl) ?_; conv => whnf)
    | (refine Br.f (by first | assumption | rfl) ?_; conv => whnf)
    | (refine Br.mk (fun hb => ?_) (fun hb => ?_) <;> conv => whnf)
    | (refine g_cond ?_; conv => whnf)
    | (refine g_skip ?_; conv => whnf)
    | (refine g_ret ?_; conv => whnf)
    | (refine g_exit ?_; conv => whnf)
    | (refine g_block ?_)
    | (refine g_quiet ?_)
    | (refine q_op ?_; conv => whnf)
    | (refine q_nil ?_; conv => whnf)
    | (refine q_opg ?_; conv => whnf)
    | (refine r_t ?_; conv => whnf)
    | (refine r_c ?_; conv => whnf)
    | (refine r_nil ?_; conv => whnf))
  · rfl
  refine XC.of_rdr (to_MateRun x) ?_
  conv => whnf
  repeat' (first
    | (refine g_op ?_; conv => whnf)
    | (refine And.intro rfl ?_; conv => whnf)
    | (refine And.intro (Nat.le_of_ble_eq_true rfl) ?_; conv => whnf)
    | (refine g_seq ?_)
    | (refine g_ops ?_)
    | (refine g_nil ?_; conv => whnf)
    | (refine g_opg ?_; conv => whnf)
    | (refine Br.t (by first | assumption | rfl) ?_; conv => whnf)
    | (refine Br.f (by first | assumption | rfl) ?_; conv => whnf)
    | (refine Br.mk (fun hb => ?_) (fun hb => ?_) <;> conv => whnf)
    | (refine g_cond ?_; conv => whnf)
    | (refine g_skip ?_; conv => whnf)
    | (refine g_ret ?_; conv => whnf)
    | (refine g_exit ?_; conv => whnf)
    | (refine g_block ?_)
    | (refine g_quiet ?_)
    | (refine q_op ?_; conv => whnf)
    | (refine q_nil ?_; conv => whnf)
    | (refine q_opg ?_; conv => whnf)
    | (refine r_t ?_; conv => whnf)
    | (refine r_c ?_; conv => whnf)
    | (refine r_nil ?_; conv => whnf))
  refine XC.of_rdr (spec_MateAlive x) ?_
  conv => whnf
  repeat' (first
    | (refine g_op ?_; conv => whnf)
    | (refine And.intro rfl ?_; conv => whnf)
    | (refine And.intro (Nat.le_of_ble_eq_true rfl) ?_; conv => whnf)
    | (refine g_seq ?_)
    | (refine g_ops ?_)
    | (refine g_nil ?_; conv => whnf)
    | (refine g_opg ?_; conv => whnf)
    | (refine Br.t (by first | assumption | rfl) ?_; conv => whnf)
    | (refine Br.f (by first | assumption | rfl) ?_; conv => whnf)
    | (refine Br.mk (fun hb => ?_) (fun hb => ?_) <;> conv => whnf)
    | (refine g_cond ?_; conv => whnf)
    | (refine g_skip ?_; conv => whnf)
    | (refine g_ret ?_; conv => whnf)
    | (refine g_exit ?_; conv => whnf)
    | (refine g_block ?_)
    | (refine g_quiet ?_)
    | (refine q_op ?_; conv => whnf)
    | (refine q_nil ?_; conv => whnf)
    | (refine q_opg ?_; conv => whnf)
    | (refine r_t ?_; conv => whnf)
    | (refine r_c ?_; conv => whnf)
    | (refine r_nil ?_; conv => whnf))
  refine XC.of_rdr (to_MateRun x) ?_
  conv => whnf
  repeat' (first
    | (refine g_op ?_; conv => whnf)
    | (refine And.intro rfl ?_; conv => whnf)
    | (refine And.intro (Nat.le_of_ble_eq_true rfl) ?_; conv => whnf)
    | (refine g_seq ?_)
    | (refine g_ops ?_)
    | (refine g_nil ?_; conv => whnf)
    | (refine g_opg ?_; conv => whnf)
    | (refine Br.t (by first | assumption | rfl) ?_; conv => whnf)
    | (refine Br.f (by first | assumption | rfl) ?_; conv => whnf)
    | (refine Br.mk (fun hb => ?_) (fun hb => ?_) <;> conv => whnf)
    | (refine g_cond ?_; conv => whnf)
    | (refine g_skip ?_; conv => whnf)
    | (refine g_ret ?_; conv => whnf)
    | (refine g_exit ?_; conv => whnf)
    | (refine g_block ?_)
    | (refine g_quiet ?_)
    | (refine q_op ?_; conv => whnf)
    | (refine q_nil ?_; conv => whnf)
    | (refine q_opg ?_; conv => whnf)
    | (refine r_t ?_; conv => whnf)
    | (refine r_c ?_; conv => whnf)
    | (refine r_nil ?_; conv => whnf))
  refine XC.of_rdr (impl_MateAlive x) ?_
  conv => whnf
  repeat' (first
    | (refine g_op ?_; conv => whnf)
    | (refine And.intro rfl ?_; conv => whnf)
    | (refine And.intro (Nat.le_of_ble_eq_true rfl) ?_; conv => whnf)
    | (refine g_seq ?_)
    | (refine g_ops ?_)
    | (refine g_nil ?_; conv => whnf)
    | (refine g_opg ?_; conv => whnf)
    | (refine Br.t (by first | assumption | rfl) ?_; conv => whnf)
    | (refine Br.f (by first | assumption | rfl) ?_; conv => whnf)
    | (refine Br.mk (fun hb => ?_) (fun hb => ?_) <;> conv => whnf)
    | (refine g_cond ?_; conv => whnf)
    | (refine g_skip ?_; conv => whnf)
    | (refine g_ret ?_; conv => whnf)
    | (refine g_exit ?_; conv => whnf)
    | (refine g_block ?_)
    | (refine g_quiet ?_)
    | (refine q_op ?_; conv => whnf)
    | (refine q_nil ?_; conv => whnf)
    | (refine q_opg ?_; conv => whnf)
    | (refine r_t ?_; conv => whnf)
    | (refine r_c ?_; conv => whnf)
    | (refine r_nil ?_; conv => whnf))
  · simp at hb
  · rfl
theorem args_MWant {d : D} (h : Has (.st [.str, .int .i64, .str, .int .i64, .int .i64, .int .i64, .int .i64]) d) : ∃ x : MWant, d = x.D := by
  simp only [Has, HasF] at h
  obtain ⟨_, rfl, _, _, rfl, ⟨c, rfl, _⟩, _, _, rfl, ⟨v, rfl, _⟩, _, _, rfl, ⟨hh, rfl, _⟩, _, _, rfl, ⟨p, rfl, _⟩, _, _, rfl, ⟨s, rfl, _⟩, _, _, rfl, ⟨q, rfl, _⟩, _, _, rfl, ⟨g, rfl, _⟩, rfl⟩ := h
  exact ⟨⟨c, v, hh, p, s, q, g⟩, rfl⟩
theorem args_MRun {d : D} (h : Has (.st [.st [.str, .int .i64, .str, .int .i64, .int .i64, .int .i64, .int .i64], .int .i64, .int .i64, .int .i64, .int .i64]) d) : ∃ x : MRun, d = x.D := by
  rw [Has] at h
  obtain ⟨ds, rfl, h⟩ := h
  simp only [HasF] at h
  obtain ⟨_, _, rfl, hw, h⟩ := h
  obtain ⟨w, rfl⟩ := args_MWant hw
  simp only [Has] at h
  obtain ⟨_, _, rfl, ⟨s, rfl, _⟩, _, _, rfl, ⟨l, rfl, _⟩, _, _, rfl, ⟨f, rfl, _⟩, _, _, rfl, ⟨u, rfl, _⟩, rfl⟩ := h
  exact ⟨⟨w, s, l, f, u⟩, rfl⟩
end Go.Ab
namespace Go.Proofs.Ytagleaabhljkfaa
open Go Go.RowKit Go.ChangeShapes Go.WideShapes Go.ChangeAt Go.Ab
theorem own : ownKnob Try.prog.godebug = none := by kernel_rfl
theorem laid : laidOutB Try.prog = true := by kernel_rfl
set_option maxRecDepth 100000 in
theorem fnExactMateAlive_lifted (os : Os) (started : os.Started) (H : Type) (enc : TypeId × Value → H) :
    ReturnsInHanded {} Try.checked os 3 .any (Rows.fnExactMateAliveSpec.pre6 enc Try.prog Try.f3 Rows.fnExactMateAliveRow.domain Rows.fnExactMateAliveRow.apart) (Rows.fnExactMateAliveSpec.post enc Try.prog Try.f3 Rows.fnExactMateAliveRow.apart Rows.fnExactMateAliveRow.fresh Rows.fnExactMateAliveRow.handsOn Rows.fnExactMateAliveRow.again) :=
  law_reads (C := Try.checked) (bt := 4) own started (by kernel_rfl) Try.func3
    (ChangeSpec.witness6 (enc := enc) (C := Try.checked) false ⟨#[], #[.agg #[.string ⟨#[]⟩, .int .i64 0, .string ⟨#[]⟩, .int .i64 0, .int .i64 0, .int .i64 0, .int .i64 0, .int .i64 0, .int .i64 0, .int .i64 0, .int .i64 0]], []⟩ 8 (by kernel_rfl) (by kernel_rfl) (by kernel_rfl) (by kernel_rfl))
    laid [.st [.st [.str, .int .i64, .str, .int .i64, .int .i64, .int .i64, .int .i64], .int .i64, .int .i64, .int .i64, .int .i64]] (by kernel_rfl) rfl rfl Try.underlying4
    (fun ds hd => match ds, hd with | [d], _ => rfl)
    (fun ds h => by
      obtain ⟨d, _, rfl, hd, rfl⟩ := h
      obtain ⟨x, rfl⟩ := args_MRun hd
      exact law_MateAlive x)
theorem fnExactMateAlive_holds : Rows.FnExactMateAliveSaid :=
  OpenClaim.holds_of_wide 3 Try.f3 rfl rfl rfl rfl rfl rfl rfl ⟨rfl, rfl, rfl, rfl, rfl⟩ rfl rfl rfl rfl rfl (by kernel_rfl) Try.func3 (by kernel_rfl)
    (of_decide_eq_true (by kernel_rfl)) (by unfold Func.isWrapper; first | (rw [if_pos (by decide +kernel)]; kernel_rfl) | (rw [if_neg (by decide +kernel)]; exact ⟨rfl, rfl⟩))
    (fun os started H enc _ => fnExactMateAlive_lifted os started H enc)
#print axioms fnExactMateAlive_holds
end Go.Proofs.Ytagleaabhljkfaa
