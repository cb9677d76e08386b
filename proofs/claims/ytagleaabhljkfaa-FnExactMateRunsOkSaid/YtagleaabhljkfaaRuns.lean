/- The law FnExactMateRunsOk returns true at every input; nothing is asked of the input beyond what the row itself asks. -/
import Derived.Test.YtagleaabhljkfaaRunsB
import Derived.Test.YtagleaabhljkfaaRunsC
import Derived.Test.YtagleaabhljkfaaRows
set_option linter.unusedSimpArgs false
set_option linter.unusedVariables false
namespace Go.Ab
open Go Go.RowKit Go.Proofs
attribute [local irreducible] XC IntKind.wrap xw xos xqs xr
set_option maxRecDepth 100000
def IsRuns (l : List MRun) (d : D) : Prop := (d = .nil ∧ l = []) ∨ d = runs l
theorem to_runs {l : List MRun} {d : D} (h : IsRuns l d) (hl : l.length ≤ 1048576) : Rdr Try.prog 25 [d] (runs l) := by
  rcases h with ⟨rfl, rfl⟩ | rfl
  · exact to_MateRunS_nil
  · exact to_MateRunS _ (fun d hd => by obtain ⟨v, _, rfl⟩ := List.mem_map.1 hd; exact ⟨v, rfl⟩) (by simpa using hl)
theorem sz_MateRunS_nil (k : Int) : XC Try.prog 23 [.nil, .int .i64 k] (fun _ => none) (fun d hp' => hp' = (fun _ => none) ∧ ∃ n, d = .int .i64 n ∧ (0 ≤ n → 0 ≤ IntKind.wrap .i64 (k - (([] : List MRun).length : Int)))) := by
  refine XC.intro' hm c23 (Nat.le_of_ble_eq_true rfl) ?_
  conv => whnf
  repeat' (first
    | (refine g_op ?_; conv => whnf)
    | (refine And.intro rfl ?_; conv => whnf)
    | (refine And.intro (Nat.le_of_ble_eq_true rfl) ?_; conv => whnf)
    | (refine g_seq ?_)
    | (refine g_ops ?_)
    | (refine g_loop ?_)
    | (refine g_nil ?_; conv => whnf)
    | (refine g_opg ?_; conv => whnf)
    | (refine Br.t (by first | assumption | rfl) ?_; conv => whnf)
    | (refine Br.f (by first | assumption | rfl) ?_; conv => whnf)
    | (refine g_cond ?_; conv => whnf)
    | (refine g_skip ?_; conv => whnf)
    | (refine g_ret ?_; conv => whnf)
    | (refine g_exit ?_; conv => whnf)
    | (refine g_block ?_)
    | (refine g_quiet ?_)
    | (refine q_op ?_; conv => whnf)
    | (refine q_nil ?_; conv => whnf)
    | (refine q_opg ?_; conv => whnf)
    | (refine r_t ?_; conv => whnf)
    | (refine r_c ?_; conv => whnf)
    | (refine r_nil ?_; conv => whnf)
    | (refine And.intro (by decide) ?_; conv => whnf)
    | (refine And.intro (by omega) ?_; conv => whnf)
    | fail)
  refine Br.mk (fun hb => ?_) (fun hb => ?_)
  · conv => whnf
    repeat' (first
      | (refine g_op ?_; conv => whnf)
      | (refine And.intro rfl ?_; conv => whnf)
      | (refine And.intro (Nat.le_of_ble_eq_true rfl) ?_; conv => whnf)
      | (refine g_seq ?_)
      | (refine g_ops ?_)
      | (refine g_loop ?_)
      | (refine g_nil ?_; conv => whnf)
      | (refine g_opg ?_; conv => whnf)
      | (refine Br.t (by first | assumption | rfl) ?_; conv => whnf)
      | (refine Br.f (by first | assumption | rfl) ?_; conv => whnf)
      | (refine g_cond ?_; conv => whnf)
      | (refine g_skip ?_; conv => whnf)
      | (refine g_ret ?_; conv => whnf)
      | (refine g_exit ?_; conv => whnf)
      | (refine g_block ?_)
      | (refine g_quiet ?_)
      | (refine q_op ?_; conv => whnf)
      | (refine q_nil ?_; conv => whnf)
      | (refine q_opg ?_; conv => whnf)
      | (refine r_t ?_; conv => whnf)
      | (refine r_c ?_; conv => whnf)
      | (refine r_nil ?_; conv => whnf)
      | (refine And.intro (by decide) ?_; conv => whnf)
      | (refine And.intro (by omega) ?_; conv => whnf)
      | fail)
    exact ⟨_, rfl, fun h => absurd h (by decide)⟩
  have hb' : 0 ≤ IntKind.wrap .i64 (k - (([] : List MRun).length : Int)) := by simpa using hb
  conv => whnf
  repeat' (first
    | (refine g_op ?_; conv => whnf)
    | (refine And.intro rfl ?_; conv => whnf)
    | (refine And.intro (Nat.le_of_ble_eq_true rfl) ?_; conv => whnf)
    | (refine g_seq ?_)
    | (refine g_ops ?_)
    | (refine g_loop ?_)
    | (refine g_nil ?_; conv => whnf)
    | (refine g_opg ?_; conv => whnf)
    | (refine Br.t (by first | assumption | rfl) ?_; conv => whnf)
    | (refine Br.f (by first | assumption | rfl) ?_; conv => whnf)
    | (refine g_cond ?_; conv => whnf)
    | (refine g_skip ?_; conv => whnf)
    | (refine g_ret ?_; conv => whnf)
    | (refine g_exit ?_; conv => whnf)
    | (refine g_block ?_)
    | (refine g_quiet ?_)
    | (refine q_op ?_; conv => whnf)
    | (refine q_nil ?_; conv => whnf)
    | (refine q_opg ?_; conv => whnf)
    | (refine r_t ?_; conv => whnf)
    | (refine r_c ?_; conv => whnf)
    | (refine r_nil ?_; conv => whnf)
    | (refine And.intro (by decide) ?_; conv => whnf)
    | (refine And.intro (by omega) ?_; conv => whnf)
    | fail)
  refine XLc.mkL (α := Unit) (fun _ => True) (fun _ => 0) (fun _ gs => [.nil, .int .i64 (IntKind.wrap .i64 (k - 0)), .any, .any, .int .i64 0, .int .i64 0]) (fun _ gs => []) (fun _ => none) () trivial ?_ ?_
  · refine ⟨?_, True.intro, rfl⟩
    repeat' (first | exact True.intro | refine And.intro rfl ?_)
  intro i gs hi
  repeat' (first
    | (refine g_op ?_; conv => whnf)
    | (refine And.intro rfl ?_; conv => whnf)
    | (refine And.intro (Nat.le_of_ble_eq_true rfl) ?_; conv => whnf)
    | (refine g_seq ?_)
    | (refine g_ops ?_)
    | (refine g_loop ?_)
    | (refine g_nil ?_; conv => whnf)
    | (refine g_opg ?_; conv => whnf)
    | (refine Br.t (by first | assumption | rfl) ?_; conv => whnf)
    | (refine Br.f (by first | assumption | rfl) ?_; conv => whnf)
    | (refine g_cond ?_; conv => whnf)
    | (refine g_skip ?_; conv => whnf)
    | (refine g_ret ?_; conv => whnf)
    | (refine g_exit ?_; conv => whnf)
    | (refine g_block ?_)
    | (refine g_quiet ?_)
    | (refine q_op ?_; conv => whnf)
    | (refine q_nil ?_; conv => whnf)
    | (refine q_opg ?_; conv => whnf)
    | (refine r_t ?_; conv => whnf)
    | (refine r_c ?_; conv => whnf)
    | (refine r_nil ?_; conv => whnf)
    | (refine And.intro (by decide) ?_; conv => whnf)
    | (refine And.intro (by omega) ?_; conv => whnf)
    | fail)
  exact ⟨_, rfl, fun _ => hb'⟩
theorem sz_runs {l : List MRun} {d : D} (h : IsRuns l d) (hl : (l.length : Int) ≤ 9223372036854775807) (k : Int) : XC Try.prog 23 [d, .int .i64 k] (fun _ => none) (fun d hp' => hp' = (fun _ => none) ∧ ∃ n, d = .int .i64 n ∧ (0 ≤ n → 0 ≤ IntKind.wrap .i64 (k - (l.length : Int)))) := by
  rcases h with ⟨rfl, rfl⟩ | rfl
  · exact sz_MateRunS_nil k
  · exact sz_MateRunS l k hl
theorem law_MateRunsOk (xs : List MRun) (d : D) (c : Int) (hx : IsRuns xs d) (hl : (xs.length : Int) ≤ 9223372036854775807) : Rdr Try.prog 5 [d, .int .i64 c] (.bool true) := by
  refine Rdr.intro' hm c5 (Nat.le_of_ble_eq_true rfl) ?_
  have sz := sz_runs hx hl
  have key : 0 ≤ IntKind.wrap .i64 (1048576 - (xs.length : Int)) → xs.length ≤ 1048576 := fun h => by
    rw [wrap_ok (by omega) (by omega)] at h
    omega
  have tx := to_runs hx
  rcases hx with ⟨rfl, rfl⟩ | rfl
  all_goals
    conv => whnf
    repeat' (first
      | (refine g_op ?_; conv => whnf)
      | (refine And.intro rfl ?_; conv => whnf)
      | (refine And.intro (Nat.le_of_ble_eq_true rfl) ?_; conv => whnf)
      | (refine g_seq ?_)
      | (refine g_ops ?_)
      | (refine g_loop ?_)
      | (refine g_nil ?_; conv => whnf)
      | (refine g_opg ?_; conv => whnf)
      | (refine Br.t (by first | assumption | rfl) ?_; conv => whnf)
      | (refine Br.f (by first | assumption | rfl) ?_; conv => whnf)
      | (refine g_cond ?_; conv => whnf)
      | (refine g_skip ?_; conv => whnf)
      | (refine g_ret ?_; conv => whnf)
      | (refine g_exit ?_; conv => whnf)
      | (refine g_block ?_)
      | (refine g_quiet ?_)
      | (refine q_op ?_; conv => whnf)
      | (refine q_nil ?_; conv => whnf)
      | (refine q_opg ?_; conv => whnf)
      | (refine r_t ?_; conv => whnf)
      | (refine r_c ?_; conv => whnf)
      | (refine r_nil ?_; conv => whnf)
      | (refine And.intro (by decide) ?_; conv => whnf)
      | (refine And.intro (by omega) ?_; conv => whnf)
      | fail)
    refine XC.mono (fun d hp' h => ?_) (sz _)
    obtain ⟨rfl, n, rfl, hn⟩ := h
    conv => whnf
    repeat' (first
      | (refine g_op ?_; conv => whnf)
      | (refine And.intro rfl ?_; conv => whnf)
      | (refine And.intro (Nat.le_of_ble_eq_true rfl) ?_; conv => whnf)
      | (refine g_seq ?_)
      | (refine g_ops ?_)
      | (refine g_loop ?_)
      | (refine g_nil ?_; conv => whnf)
      | (refine g_opg ?_; conv => whnf)
      | (refine Br.t (by first | assumption | rfl) ?_; conv => whnf)
      | (refine Br.f (by first | assumption | rfl) ?_; conv => whnf)
      | (refine g_cond ?_; conv => whnf)
      | (refine g_skip ?_; conv => whnf)
      | (refine g_ret ?_; conv => whnf)
      | (refine g_exit ?_; conv => whnf)
      | (refine g_block ?_)
      | (refine g_quiet ?_)
      | (refine q_op ?_; conv => whnf)
      | (refine q_nil ?_; conv => whnf)
      | (refine q_opg ?_; conv => whnf)
      | (refine r_t ?_; conv => whnf)
      | (refine r_c ?_; conv => whnf)
      | (refine r_nil ?_; conv => whnf)
      | (refine And.intro (by decide) ?_; conv => whnf)
      | (refine And.intro (by omega) ?_; conv => whnf)
      | fail)
    refine Br.mk (fun hb => ?_) (fun hb => ?_)
    · conv => whnf
      repeat' (first
        | (refine g_op ?_; conv => whnf)
        | (refine And.intro rfl ?_; conv => whnf)
        | (refine And.intro (Nat.le_of_ble_eq_true rfl) ?_; conv => whnf)
        | (refine g_seq ?_)
        | (refine g_ops ?_)
        | (refine g_loop ?_)
        | (refine g_nil ?_; conv => whnf)
        | (refine g_opg ?_; conv => whnf)
        | (refine Br.t (by first | assumption | rfl) ?_; conv => whnf)
        | (refine Br.f (by first | assumption | rfl) ?_; conv => whnf)
        | (refine g_cond ?_; conv => whnf)
        | (refine g_skip ?_; conv => whnf)
        | (refine g_ret ?_; conv => whnf)
        | (refine g_exit ?_; conv => whnf)
        | (refine g_block ?_)
        | (refine g_quiet ?_)
        | (refine q_op ?_; conv => whnf)
        | (refine q_nil ?_; conv => whnf)
        | (refine q_opg ?_; conv => whnf)
        | (refine r_t ?_; conv => whnf)
        | (refine r_c ?_; conv => whnf)
        | (refine r_nil ?_; conv => whnf)
        | (refine And.intro (by decide) ?_; conv => whnf)
        | (refine And.intro (by omega) ?_; conv => whnf)
        | fail)
      rfl
    have hn0 : 0 ≤ n := by simpa using hb
    have h1 := key (hn hn0)
    have tx := tx h1
    conv => whnf
    repeat' (first
      | (refine g_op ?_; conv => whnf)
      | (refine And.intro rfl ?_; conv => whnf)
      | (refine And.intro (Nat.le_of_ble_eq_true rfl) ?_; conv => whnf)
      | (refine g_seq ?_)
      | (refine g_ops ?_)
      | (refine g_loop ?_)
      | (refine g_nil ?_; conv => whnf)
      | (refine g_opg ?_; conv => whnf)
      | (refine Br.t (by first | assumption | rfl) ?_; conv => whnf)
      | (refine Br.f (by first | assumption | rfl) ?_; conv => whnf)
      | (refine g_cond ?_; conv => whnf)
      | (refine g_skip ?_; conv => whnf)
      | (refine g_ret ?_; conv => whnf)
      | (refine g_exit ?_; conv => whnf)
      | (refine g_block ?_)
      | (refine g_quiet ?_)
      | (refine q_op ?_; conv => whnf)
      | (refine q_nil ?_; conv => whnf)
      | (refine q_opg ?_; conv => whnf)
      | (refine r_t ?_; conv => whnf)
      | (refine r_c ?_; conv => whnf)
      | (refine r_nil ?_; conv => whnf)
      | (refine And.intro (by decide) ?_; conv => whnf)
      | (refine And.intro (by omega) ?_; conv => whnf)
      | fail)
    refine XC.of_rdr tx ?_
    conv => whnf
    repeat' (first
      | (refine g_op ?_; conv => whnf)
      | (refine And.intro rfl ?_; conv => whnf)
      | (refine And.intro (Nat.le_of_ble_eq_true rfl) ?_; conv => whnf)
      | (refine g_seq ?_)
      | (refine g_ops ?_)
      | (refine g_loop ?_)
      | (refine g_nil ?_; conv => whnf)
      | (refine g_opg ?_; conv => whnf)
      | (refine Br.t (by first | assumption | rfl) ?_; conv => whnf)
      | (refine Br.f (by first | assumption | rfl) ?_; conv => whnf)
      | (refine g_cond ?_; conv => whnf)
      | (refine g_skip ?_; conv => whnf)
      | (refine g_ret ?_; conv => whnf)
      | (refine g_exit ?_; conv => whnf)
      | (refine g_block ?_)
      | (refine g_quiet ?_)
      | (refine q_op ?_; conv => whnf)
      | (refine q_nil ?_; conv => whnf)
      | (refine q_opg ?_; conv => whnf)
      | (refine r_t ?_; conv => whnf)
      | (refine r_c ?_; conv => whnf)
      | (refine r_nil ?_; conv => whnf)
      | (refine And.intro (by decide) ?_; conv => whnf)
      | (refine And.intro (by omega) ?_; conv => whnf)
      | fail)
    refine XC.of_rdr (spec_MateRunsOk _ c) ?_
    conv => whnf
    repeat' (first
      | (refine g_op ?_; conv => whnf)
      | (refine And.intro rfl ?_; conv => whnf)
      | (refine And.intro (Nat.le_of_ble_eq_true rfl) ?_; conv => whnf)
      | (refine g_seq ?_)
      | (refine g_ops ?_)
      | (refine g_loop ?_)
      | (refine g_nil ?_; conv => whnf)
      | (refine g_opg ?_; conv => whnf)
      | (refine Br.t (by first | assumption | rfl) ?_; conv => whnf)
      | (refine Br.f (by first | assumption | rfl) ?_; conv => whnf)
      | (refine g_cond ?_; conv => whnf)
      | (refine g_skip ?_; conv => whnf)
      | (refine g_ret ?_; conv => whnf)
      | (refine g_exit ?_; conv => whnf)
      | (refine g_block ?_)
      | (refine g_quiet ?_)
      | (refine q_op ?_; conv => whnf)
      | (refine q_nil ?_; conv => whnf)
      | (refine q_opg ?_; conv => whnf)
      | (refine r_t ?_; conv => whnf)
      | (refine r_c ?_; conv => whnf)
      | (refine r_nil ?_; conv => whnf)
      | (refine And.intro (by decide) ?_; conv => whnf)
      | (refine And.intro (by omega) ?_; conv => whnf)
      | fail)
    refine XC.of_rdr tx ?_
    conv => whnf
    repeat' (first
      | (refine g_op ?_; conv => whnf)
      | (refine And.intro rfl ?_; conv => whnf)
      | (refine And.intro (Nat.le_of_ble_eq_true rfl) ?_; conv => whnf)
      | (refine g_seq ?_)
      | (refine g_ops ?_)
      | (refine g_loop ?_)
      | (refine g_nil ?_; conv => whnf)
      | (refine g_opg ?_; conv => whnf)
      | (refine Br.t (by first | assumption | rfl) ?_; conv => whnf)
      | (refine Br.f (by first | assumption | rfl) ?_; conv => whnf)
      | (refine g_cond ?_; conv => whnf)
      | (refine g_skip ?_; conv => whnf)
      | (refine g_ret ?_; conv => whnf)
      | (refine g_exit ?_; conv => whnf)
      | (refine g_block ?_)
      | (refine g_quiet ?_)
      | (refine q_op ?_; conv => whnf)
      | (refine q_nil ?_; conv => whnf)
      | (refine q_opg ?_; conv => whnf)
      | (refine r_t ?_; conv => whnf)
      | (refine r_c ?_; conv => whnf)
      | (refine r_nil ?_; conv => whnf)
      | (refine And.intro (by decide) ?_; conv => whnf)
      | (refine And.intro (by omega) ?_; conv => whnf)
      | fail)
    refine XC.of_rdr (impl_MateRunsOk _ c) ?_
    conv => whnf
    repeat' (first
      | (refine g_op ?_; conv => whnf)
      | (refine And.intro rfl ?_; conv => whnf)
      | (refine And.intro (Nat.le_of_ble_eq_true rfl) ?_; conv => whnf)
      | (refine g_seq ?_)
      | (refine g_ops ?_)
      | (refine g_loop ?_)
      | (refine g_nil ?_; conv => whnf)
      | (refine g_opg ?_; conv => whnf)
      | (refine Br.t (by first | assumption | rfl) ?_; conv => whnf)
      | (refine Br.f (by first | assumption | rfl) ?_; conv => whnf)
      | (refine g_cond ?_; conv => whnf)
      | (refine g_skip ?_; conv => whnf)
      | (refine g_ret ?_; conv => whnf)
      | (refine g_exit ?_; conv => whnf)
      | (refine g_block ?_)
      | (refine g_quiet ?_)
      | (refine q_op ?_; conv => whnf)
      | (refine q_nil ?_; conv => whnf)
      | (refine q_opg ?_; conv => whnf)
      | (refine r_t ?_; conv => whnf)
      | (refine r_c ?_; conv => whnf)
      | (refine r_nil ?_; conv => whnf)
      | (refine And.intro (by decide) ?_; conv => whnf)
      | (refine And.intro (by omega) ?_; conv => whnf)
      | fail)
    try
      refine Br.f (by simp) ?_
      conv => whnf
      repeat' (first
        | (refine g_op ?_; conv => whnf)
        | (refine And.intro rfl ?_; conv => whnf)
        | (refine And.intro (Nat.le_of_ble_eq_true rfl) ?_; conv => whnf)
        | (refine g_seq ?_)
        | (refine g_ops ?_)
        | (refine g_loop ?_)
        | (refine g_nil ?_; conv => whnf)
        | (refine g_opg ?_; conv => whnf)
        | (refine Br.t (by first | assumption | rfl) ?_; conv => whnf)
        | (refine Br.f (by first | assumption | rfl) ?_; conv => whnf)
        | (refine g_cond ?_; conv => whnf)
        | (refine g_skip ?_; conv => whnf)
        | (refine g_ret ?_; conv => whnf)
        | (refine g_exit ?_; conv => whnf)
        | (refine g_block ?_)
        | (refine g_quiet ?_)
        | (refine q_op ?_; conv => whnf)
        | (refine q_nil ?_; conv => whnf)
        | (refine q_opg ?_; conv => whnf)
        | (refine r_t ?_; conv => whnf)
        | (refine r_c ?_; conv => whnf)
        | (refine r_nil ?_; conv => whnf)
        | (refine And.intro (by decide) ?_; conv => whnf)
        | (refine And.intro (by omega) ?_; conv => whnf)
        | fail)
    refine XC.of_rdr tx ?_
    conv => whnf
    repeat' (first
      | (refine g_op ?_; conv => whnf)
      | (refine And.intro rfl ?_; conv => whnf)
      | (refine And.intro (Nat.le_of_ble_eq_true rfl) ?_; conv => whnf)
      | (refine g_seq ?_)
      | (refine g_ops ?_)
      | (refine g_loop ?_)
      | (refine g_nil ?_; conv => whnf)
      | (refine g_opg ?_; conv => whnf)
      | (refine Br.t (by first | assumption | rfl) ?_; conv => whnf)
      | (refine Br.f (by first | assumption | rfl) ?_; conv => whnf)
      | (refine g_cond ?_; conv => whnf)
      | (refine g_skip ?_; conv => whnf)
      | (refine g_ret ?_; conv => whnf)
      | (refine g_exit ?_; conv => whnf)
      | (refine g_block ?_)
      | (refine g_quiet ?_)
      | (refine q_op ?_; conv => whnf)
      | (refine q_nil ?_; conv => whnf)
      | (refine q_opg ?_; conv => whnf)
      | (refine r_t ?_; conv => whnf)
      | (refine r_c ?_; conv => whnf)
      | (refine r_nil ?_; conv => whnf)
      | (refine And.intro (by decide) ?_; conv => whnf)
      | (refine And.intro (by omega) ?_; conv => whnf)
      | fail)
    refine XC.of_rdr (eq_MateRunS _ h1) ?_
    conv => whnf
    repeat' (first
      | (refine g_op ?_; conv => whnf)
      | (refine And.intro rfl ?_; conv => whnf)
      | (refine And.intro (Nat.le_of_ble_eq_true rfl) ?_; conv => whnf)
      | (refine g_seq ?_)
      | (refine g_ops ?_)
      | (refine g_loop ?_)
      | (refine g_nil ?_; conv => whnf)
      | (refine g_opg ?_; conv => whnf)
      | (refine Br.t (by first | assumption | rfl) ?_; conv => whnf)
      | (refine Br.f (by first | assumption | rfl) ?_; conv => whnf)
      | (refine g_cond ?_; conv => whnf)
      | (refine g_skip ?_; conv => whnf)
      | (refine g_ret ?_; conv => whnf)
      | (refine g_exit ?_; conv => whnf)
      | (refine g_block ?_)
      | (refine g_quiet ?_)
      | (refine q_op ?_; conv => whnf)
      | (refine q_nil ?_; conv => whnf)
      | (refine q_opg ?_; conv => whnf)
      | (refine r_t ?_; conv => whnf)
      | (refine r_c ?_; conv => whnf)
      | (refine r_nil ?_; conv => whnf)
      | (refine And.intro (by decide) ?_; conv => whnf)
      | (refine And.intro (by omega) ?_; conv => whnf)
      | fail)
    rfl
theorem args_runs {d : D} (h : Has (.sl 11 (.st [.st [.str, .int .i64, .str, .int .i64, .int .i64, .int .i64, .int .i64], .int .i64, .int .i64, .int .i64, .int .i64])) d) : ∃ l, IsRuns l d ∧ l.length ≤ maxLen := by
  rw [Has] at h
  rcases h with rfl | ⟨ds, rfl, hm, hd⟩
  · exact ⟨[], .inl ⟨rfl, rfl⟩, Nat.zero_le _⟩
  · have : ∀ ds : List D, (∀ x ∈ ds, Has (.st [.st [.str, .int .i64, .str, .int .i64, .int .i64, .int .i64, .int .i64], .int .i64, .int .i64, .int .i64, .int .i64]) x) → ∃ l : List MRun, ds = l.map MRun.D := by
      intro ds
      induction ds with
      | nil => intro _; exact ⟨[], rfl⟩
      | cons d ds ih =>
        intro hd
        obtain ⟨l, rfl⟩ := ih (fun x hx => hd x (by simp [hx]))
        obtain ⟨v, rfl⟩ := args_MRun (hd d (by simp))
        exact ⟨v :: l, rfl⟩
    obtain ⟨l, rfl⟩ := this ds hd
    exact ⟨l, .inr rfl, by simpa using hm⟩
end Go.Ab
namespace Go.Proofs.Ytagleaabhljkfaa
open Go Go.RowKit Go.ChangeShapes Go.WideShapes Go.ChangeAt Go.Ab
theorem ownfnExactMateRunsOk : ownKnob Try.prog.godebug = none := by kernel_rfl
theorem laidfnExactMateRunsOk : laidOutB Try.prog = true := by kernel_rfl
set_option maxRecDepth 100000 in
theorem fnExactMateRunsOk_lifted (os : Os) (started : os.Started) (H : Type) (enc : TypeId × Value → H) :
    ReturnsInHanded {} Try.checked os 5 .any (Rows.fnExactMateRunsOkSpec.pre6 enc Try.prog Try.f5 Rows.fnExactMateRunsOkRow.domain Rows.fnExactMateRunsOkRow.apart) (Rows.fnExactMateRunsOkSpec.post enc Try.prog Try.f5 Rows.fnExactMateRunsOkRow.apart Rows.fnExactMateRunsOkRow.fresh Rows.fnExactMateRunsOkRow.handsOn Rows.fnExactMateRunsOkRow.again) :=
  law_reads (C := Try.checked) (bt := 4) ownfnExactMateRunsOk started (by kernel_rfl) Try.func5
    (ChangeSpec.witness6 (enc := enc) (C := Try.checked) false ⟨#[], #[.slice none 0 0, .int .i64 0], []⟩ 8 (by kernel_rfl) (by kernel_rfl) (by kernel_rfl) (by kernel_rfl))
    laidfnExactMateRunsOk [.sl 11 (.st [.st [.str, .int .i64, .str, .int .i64, .int .i64, .int .i64, .int .i64], .int .i64, .int .i64, .int .i64, .int .i64]), .int .i64] (by kernel_rfl) rfl rfl Try.underlying4
    (fun ds hd => match ds, hd with | [d1, d2], _ => rfl)
    (fun ds h => by
      obtain ⟨_, _, rfl, h1, _, _, rfl, h2, rfl⟩ := h
      obtain ⟨xs, hx, hl⟩ := args_runs h1
      rw [Has] at h2
      obtain ⟨c, rfl, _⟩ := h2
      exact law_MateRunsOk xs _ c hx (by have e : maxLen = 9223372036854775807 := rfl; rw [e] at hl; omega)
)
theorem fnExactMateRunsOk_holds : Rows.FnExactMateRunsOkSaid :=
  OpenClaim.holds_of_wide 5 Try.f5 rfl rfl rfl rfl rfl rfl rfl ⟨rfl, rfl, rfl, rfl, rfl⟩ rfl rfl rfl rfl rfl (by kernel_rfl) Try.func5 (by kernel_rfl)
    (of_decide_eq_true (by kernel_rfl)) (by unfold Func.isWrapper; first | (rw [if_pos (by decide +kernel)]; kernel_rfl) | (rw [if_neg (by decide +kernel)]; exact ⟨rfl, rfl⟩))
    (fun os started H enc _ => fnExactMateRunsOk_lifted os started H enc)
#print axioms fnExactMateRunsOk_holds
end Go.Proofs.Ytagleaabhljkfaa

