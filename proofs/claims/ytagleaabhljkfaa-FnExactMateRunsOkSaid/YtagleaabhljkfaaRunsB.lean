/- The program's MateRunsOk computes what the specification's computes. -/
import Derived.Test.YtagleaabhljkfaaRunsA
import Derived.Test.YtagleaabhljkfaaRows
set_option linter.unusedSimpArgs false
set_option linter.unusedVariables false
namespace Go.Ab
open Go Go.RowKit Go.Proofs
attribute [local irreducible] XC IntKind.wrap xw xos xqs xr
set_option maxRecDepth 100000
theorem le_eq : ∀ a b : List UInt8, (Op.bytesLess a b || a == b) = !Op.bytesLess b a
  | [], [] => rfl
  | [], _ :: _ => rfl
  | _ :: _, [] => rfl
  | a :: x, b :: y => by
    have ih := le_eq x y
    simp only [Op.bytesLess, List.cons_beq_cons]
    by_cases h1 : a < b
    · have h2 : ¬ b < a := fun h => absurd (UInt8.lt_trans h1 h) (UInt8.lt_irrefl _)
      have h3 : (b == a) = false := by simpa using fun e : b = a => absurd (e ▸ h1) (UInt8.lt_irrefl _)
      simp [h1, h2, h3]
    · by_cases h2 : b < a
      · have h3 : (a == b) = false := by simpa using fun e : a = b => absurd (e ▸ h2) (UInt8.lt_irrefl _)
        simp [h1, h2, h3]
      · have h3 : a = b := by
          rcases UInt8.lt_or_lt_of_ne (a := a) (b := b) |> fun f => Decidable.em (a = b) with h | h
          · exact h
          · rcases UInt8.lt_or_lt_of_ne h with h | h
            · exact absurd h h1
            · exact absurd h h2
        subst h3
        simp [h1]
        simpa using ih
set_option maxHeartbeats 4000000 in
theorem impl_MateRunsOk (xs : List MRun) (c : Int) : Rdr Try.prog 26 [runs xs, .int .i64 c] (.bool (runsOk xs c)) := by
  refine Rdr.intro' hm c26 (Nat.le_of_ble_eq_true rfl) ?_
  conv => whnf
  repeat' (first
    | (refine g_op ?_; conv => whnf)
    | (refine And.intro rfl ?_; conv => whnf)
    | (refine And.intro (Nat.le_of_ble_eq_true rfl) ?_; conv => whnf)
    | (refine g_seq ?_)
    | (refine g_ops ?_)
    | (refine g_loop ?_)
    | (refine g_nil ?_; conv => whnf)
    | (refine g_opg ?_; conv => whnf)
    | (refine Br.t (by first | assumption | rfl) ?_; conv => whnf)
    | (refine Br.f (by first | assumption | rfl) ?_; conv => whnf)
    | (refine g_cond ?_; conv => whnf)
    | (refine g_skip ?_; conv => whnf)
    | (refine g_ret ?_; conv => whnf)
    | (refine g_exit ?_; conv => whnf)
    | (refine g_block ?_)
    | (refine g_quiet ?_)
    | (refine q_op ?_; conv => whnf)
    | (refine q_nil ?_; conv => whnf)
    | (refine q_opg ?_; conv => whnf)
    | (refine r_t ?_; conv => whnf)
    | (refine r_c ?_; conv => whnf)
    | (refine r_nil ?_; conv => whnf)
    | (refine And.intro (by decide) ?_; conv => whnf)
    | (refine And.intro (by omega) ?_; conv => whnf)
    | fail)
  refine Br.mk (fun hb => ?_) (fun hb => ?_)
  · rw [runs_len] at hb
    conv => whnf
    repeat' (first
      | (refine g_op ?_; conv => whnf)
      | (refine And.intro rfl ?_; conv => whnf)
      | (refine And.intro (Nat.le_of_ble_eq_true rfl) ?_; conv => whnf)
      | (refine g_seq ?_)
      | (refine g_ops ?_)
      | (refine g_loop ?_)
      | (refine g_nil ?_; conv => whnf)
      | (refine g_opg ?_; conv => whnf)
      | (refine Br.t (by first | assumption | rfl) ?_; conv => whnf)
      | (refine Br.f (by first | assumption | rfl) ?_; conv => whnf)
      | (refine g_cond ?_; conv => whnf)
      | (refine g_skip ?_; conv => whnf)
      | (refine g_ret ?_; conv => whnf)
      | (refine g_exit ?_; conv => whnf)
      | (refine g_block ?_)
      | (refine g_quiet ?_)
      | (refine q_op ?_; conv => whnf)
      | (refine q_nil ?_; conv => whnf)
      | (refine q_opg ?_; conv => whnf)
      | (refine r_t ?_; conv => whnf)
      | (refine r_c ?_; conv => whnf)
      | (refine r_nil ?_; conv => whnf)
      | (refine And.intro (by decide) ?_; conv => whnf)
      | (refine And.intro (by omega) ?_; conv => whnf)
      | fail)
    conv => lhs; whnf
    simp only [runsOk, hb, Bool.not_true, Bool.false_and]
  rw [runs_len] at hb
  have hsz : xs.length ≤ 20 := by simp at hb; omega
  conv => whnf
  repeat' (first
    | (refine g_op ?_; conv => whnf)
    | (refine And.intro rfl ?_; conv => whnf)
    | (refine And.intro (Nat.le_of_ble_eq_true rfl) ?_; conv => whnf)
    | (refine g_seq ?_)
    | (refine g_ops ?_)
    | (refine g_loop ?_)
    | (refine g_nil ?_; conv => whnf)
    | (refine g_opg ?_; conv => whnf)
    | (refine Br.t (by first | assumption | rfl) ?_; conv => whnf)
    | (refine Br.f (by first | assumption | rfl) ?_; conv => whnf)
    | (refine g_cond ?_; conv => whnf)
    | (refine g_skip ?_; conv => whnf)
    | (refine g_ret ?_; conv => whnf)
    | (refine g_exit ?_; conv => whnf)
    | (refine g_block ?_)
    | (refine g_quiet ?_)
    | (refine q_op ?_; conv => whnf)
    | (refine q_nil ?_; conv => whnf)
    | (refine q_opg ?_; conv => whnf)
    | (refine r_t ?_; conv => whnf)
    | (refine r_c ?_; conv => whnf)
    | (refine r_nil ?_; conv => whnf)
    | (refine And.intro (by decide) ?_; conv => whnf)
    | (refine And.intro (by omega) ?_; conv => whnf)
    | fail)
  refine XLc.mkL (α := Nat) (fun i => i ≤ xs.length ∧ runsOk xs c = okR xs c (xs.length - i) i) (fun i => xs.length - i) (fun i gs => [runs xs, .int .i64 c, .any, .any, .bool false, .any, .any, .any, .any, .any, runs xs, .int .i64 ((xs.map MRun.D).length : Int), .int .i64 (i : Int)]) (fun i gs => []) (fun _ => none) 0 ⟨Nat.zero_le _, by simp only [runsOk, hb, Bool.not_false, Bool.true_and, Nat.sub_zero]⟩ ?_ ?_
  · refine ⟨?_, True.intro, rfl⟩
    repeat' (first | exact True.intro | refine And.intro rfl ?_)
  intro i gs hI
  obtain ⟨hi, hN⟩ := hI
  repeat' (first
    | (refine g_op ?_; conv => whnf)
    | (refine And.intro rfl ?_; conv => whnf)
    | (refine And.intro (Nat.le_of_ble_eq_true rfl) ?_; conv => whnf)
    | (refine g_seq ?_)
    | (refine g_ops ?_)
    | (refine g_loop ?_)
    | (refine g_nil ?_; conv => whnf)
    | (refine g_opg ?_; conv => whnf)
    | (refine Br.t (by first | assumption | rfl) ?_; conv => whnf)
    | (refine Br.f (by first | assumption | rfl) ?_; conv => whnf)
    | (refine g_cond ?_; conv => whnf)
    | (refine g_skip ?_; conv => whnf)
    | (refine g_ret ?_; conv => whnf)
    | (refine g_exit ?_; conv => whnf)
    | (refine g_block ?_)
    | (refine g_quiet ?_)
    | (refine q_op ?_; conv => whnf)
    | (refine q_nil ?_; conv => whnf)
    | (refine q_opg ?_; conv => whnf)
    | (refine r_t ?_; conv => whnf)
    | (refine r_c ?_; conv => whnf)
    | (refine r_nil ?_; conv => whnf)
    | (refine And.intro (by decide) ?_; conv => whnf)
    | (refine And.intro (by omega) ?_; conv => whnf)
    | fail)
  refine Br.mk (fun hb => ?_) (fun hb => ?_)
  · have hlt : i < xs.length := by simpa using hb
    have e1 : (i : Int) < ((xs.map MRun.D).length : Int) := by simpa using hlt
    have hstep := okR_step (c := c) hlt
    have hw : IntKind.wrap .i64 ((i : Int) + 1) = ((i + 1 : Nat) : Int) := by rw [wrap_ok (by omega) (by omega)]; rfl
    have hbad : stepR xs c i = false → D.bool false = D.bool (runsOk xs c) := fun h => by rw [hN, hstep, h]; rfl
    have hgood : stepR xs c i = true → runsOk xs c = okR xs c (xs.length - (i + 1)) (i + 1) := fun h => by rw [hN, hstep, h]; rfl
    generalize hq : xs.getD i dR = x at *
    conv => whnf
    repeat' (first
      | (refine g_op ?_; conv => whnf)
      | (refine And.intro rfl ?_; conv => whnf)
      | (refine And.intro (Nat.le_of_ble_eq_true rfl) ?_; conv => whnf)
      | (refine g_seq ?_)
      | (refine g_ops ?_)
      | (refine g_loop ?_)
      | (refine g_nil ?_; conv => whnf)
      | (refine g_opg ?_; conv => whnf)
      | (refine Br.t (by first | assumption | rfl) ?_; conv => whnf)
      | (refine Br.f (by first | assumption | rfl) ?_; conv => whnf)
      | (refine g_cond ?_; conv => whnf)
      | (refine g_skip ?_; conv => whnf)
      | (refine g_ret ?_; conv => whnf)
      | (refine g_exit ?_; conv => whnf)
      | (refine g_block ?_)
      | (refine g_quiet ?_)
      | (refine q_op ?_; conv => whnf)
      | (refine q_nil ?_; conv => whnf)
      | (refine q_opg ?_; conv => whnf)
      | (refine r_t ?_; conv => whnf)
      | (refine r_c ?_; conv => whnf)
      | (refine r_nil ?_; conv => whnf)
      | (refine And.intro (by decide) ?_; conv => whnf)
      | (refine And.intro (by omega) ?_; conv => whnf)
      | fail)
    rw [runs_get hlt, hq]
    repeat' (first
      | (refine g_op ?_; conv => whnf)
      | (refine And.intro rfl ?_; conv => whnf)
      | (refine And.intro (Nat.le_of_ble_eq_true rfl) ?_; conv => whnf)
      | (refine g_seq ?_)
      | (refine g_ops ?_)
      | (refine g_loop ?_)
      | (refine g_nil ?_; conv => whnf)
      | (refine g_opg ?_; conv => whnf)
      | (refine Br.t (by first | assumption | rfl) ?_; conv => whnf)
      | (refine Br.f (by first | assumption | rfl) ?_; conv => whnf)
      | (refine g_cond ?_; conv => whnf)
      | (refine g_skip ?_; conv => whnf)
      | (refine g_ret ?_; conv => whnf)
      | (refine g_exit ?_; conv => whnf)
      | (refine g_block ?_)
      | (refine g_quiet ?_)
      | (refine q_op ?_; conv => whnf)
      | (refine q_nil ?_; conv => whnf)
      | (refine q_opg ?_; conv => whnf)
      | (refine r_t ?_; conv => whnf)
      | (refine r_c ?_; conv => whnf)
      | (refine r_nil ?_; conv => whnf)
      | (refine And.intro (by decide) ?_; conv => whnf)
      | (refine And.intro (by omega) ?_; conv => whnf)
      | fail)
    refine QC.of_rdr (impl_mWantOk x.w) rfl ?_
    conv => whnf
    repeat' (first
      | (refine g_op ?_; conv => whnf)
      | (refine And.intro rfl ?_; conv => whnf)
      | (refine And.intro (Nat.le_of_ble_eq_true rfl) ?_; conv => whnf)
      | (refine g_seq ?_)
      | (refine g_ops ?_)
      | (refine g_loop ?_)
      | (refine g_nil ?_; conv => whnf)
      | (refine g_opg ?_; conv => whnf)
      | (refine Br.t (by first | assumption | rfl) ?_; conv => whnf)
      | (refine Br.f (by first | assumption | rfl) ?_; conv => whnf)
      | (refine g_cond ?_; conv => whnf)
      | (refine g_skip ?_; conv => whnf)
      | (refine g_ret ?_; conv => whnf)
      | (refine g_exit ?_; conv => whnf)
      | (refine g_block ?_)
      | (refine g_quiet ?_)
      | (refine q_op ?_; conv => whnf)
      | (refine q_nil ?_; conv => whnf)
      | (refine q_opg ?_; conv => whnf)
      | (refine r_t ?_; conv => whnf)
      | (refine r_c ?_; conv => whnf)
      | (refine r_nil ?_; conv => whnf)
      | (refine And.intro (by decide) ?_; conv => whnf)
      | (refine And.intro (by omega) ?_; conv => whnf)
      | fail)
    refine Br.mk (fun hc => ?_) (fun hc => ?_)
    · have hc' : wantOk x.w = false := by simpa using hc
      conv => whnf
      repeat' (first
        | (refine g_op ?_; conv => whnf)
        | (refine And.intro rfl ?_; conv => whnf)
        | (refine And.intro (Nat.le_of_ble_eq_true rfl) ?_; conv => whnf)
        | (refine g_seq ?_)
        | (refine g_ops ?_)
        | (refine g_loop ?_)
        | (refine g_nil ?_; conv => whnf)
        | (refine g_opg ?_; conv => whnf)
        | (refine Br.t (by first | assumption | rfl) ?_; conv => whnf)
        | (refine Br.f (by first | assumption | rfl) ?_; conv => whnf)
        | (refine g_cond ?_; conv => whnf)
        | (refine g_skip ?_; conv => whnf)
        | (refine g_ret ?_; conv => whnf)
        | (refine g_exit ?_; conv => whnf)
        | (refine g_block ?_)
        | (refine g_quiet ?_)
        | (refine q_op ?_; conv => whnf)
        | (refine q_nil ?_; conv => whnf)
        | (refine q_opg ?_; conv => whnf)
        | (refine r_t ?_; conv => whnf)
        | (refine r_c ?_; conv => whnf)
        | (refine r_nil ?_; conv => whnf)
        | (refine And.intro (by decide) ?_; conv => whnf)
        | (refine And.intro (by omega) ?_; conv => whnf)
        | fail)
      conv => lhs; whnf
      exact hbad (by simp only [stepR, hq, runOk, hc', Bool.false_and])
    have hc' : wantOk x.w = true := by simpa using hc
    conv => whnf
    repeat' (first
      | (refine g_op ?_; conv => whnf)
      | (refine And.intro rfl ?_; conv => whnf)
      | (refine And.intro (Nat.le_of_ble_eq_true rfl) ?_; conv => whnf)
      | (refine g_seq ?_)
      | (refine g_ops ?_)
      | (refine g_loop ?_)
      | (refine g_nil ?_; conv => whnf)
      | (refine g_opg ?_; conv => whnf)
      | (refine Br.t (by first | assumption | rfl) ?_; conv => whnf)
      | (refine Br.f (by first | assumption | rfl) ?_; conv => whnf)
      | (refine g_cond ?_; conv => whnf)
      | (refine g_skip ?_; conv => whnf)
      | (refine g_ret ?_; conv => whnf)
      | (refine g_exit ?_; conv => whnf)
      | (refine g_block ?_)
      | (refine g_quiet ?_)
      | (refine q_op ?_; conv => whnf)
      | (refine q_nil ?_; conv => whnf)
      | (refine q_opg ?_; conv => whnf)
      | (refine r_t ?_; conv => whnf)
      | (refine r_c ?_; conv => whnf)
      | (refine r_nil ?_; conv => whnf)
      | (refine And.intro (by decide) ?_; conv => whnf)
      | (refine And.intro (by omega) ?_; conv => whnf)
      | fail)
    refine Br.mk (fun hd => ?_) (fun hd => ?_)
    · have hi0 : 0 < i := by simpa using hd
      have hw1 : IntKind.wrap .i64 ((i : Int) - 1) = ((i - 1 : Nat) : Int) := by rw [wrap_ok (by omega) (by omega)]; omega
      have hlt1 : i - 1 < xs.length := by omega
      have e2 : ((i - 1 : Nat) : Int) < ((xs.map MRun.D).length : Int) := by simp; omega
      have hne : decide (i = 0) = false := by simp; omega
      conv => whnf
      repeat' (first
        | (refine g_op ?_; conv => whnf)
        | (refine And.intro rfl ?_; conv => whnf)
        | (refine And.intro (Nat.le_of_ble_eq_true rfl) ?_; conv => whnf)
        | (refine g_seq ?_)
        | (refine g_ops ?_)
        | (refine g_loop ?_)
        | (refine g_nil ?_; conv => whnf)
        | (refine g_opg ?_; conv => whnf)
        | (refine Br.t (by first | assumption | rfl) ?_; conv => whnf)
        | (refine Br.f (by first | assumption | rfl) ?_; conv => whnf)
        | (refine g_cond ?_; conv => whnf)
        | (refine g_skip ?_; conv => whnf)
        | (refine g_ret ?_; conv => whnf)
        | (refine g_exit ?_; conv => whnf)
        | (refine g_block ?_)
        | (refine g_quiet ?_)
        | (refine q_op ?_; conv => whnf)
        | (refine q_nil ?_; conv => whnf)
        | (refine q_opg ?_; conv => whnf)
        | (refine r_t ?_; conv => whnf)
        | (refine r_c ?_; conv => whnf)
        | (refine r_nil ?_; conv => whnf)
        | (refine And.intro (by decide) ?_; conv => whnf)
        | (refine And.intro (by omega) ?_; conv => whnf)
        | fail)
      rw [hw1]
      repeat' (first
        | (refine g_op ?_; conv => whnf)
        | (refine And.intro rfl ?_; conv => whnf)
        | (refine And.intro (Nat.le_of_ble_eq_true rfl) ?_; conv => whnf)
        | (refine g_seq ?_)
        | (refine g_ops ?_)
        | (refine g_loop ?_)
        | (refine g_nil ?_; conv => whnf)
        | (refine g_opg ?_; conv => whnf)
        | (refine Br.t (by first | assumption | rfl) ?_; conv => whnf)
        | (refine Br.f (by first | assumption | rfl) ?_; conv => whnf)
        | (refine g_cond ?_; conv => whnf)
        | (refine g_skip ?_; conv => whnf)
        | (refine g_ret ?_; conv => whnf)
        | (refine g_exit ?_; conv => whnf)
        | (refine g_block ?_)
        | (refine g_quiet ?_)
        | (refine q_op ?_; conv => whnf)
        | (refine q_nil ?_; conv => whnf)
        | (refine q_opg ?_; conv => whnf)
        | (refine r_t ?_; conv => whnf)
        | (refine r_c ?_; conv => whnf)
        | (refine r_nil ?_; conv => whnf)
        | (refine And.intro (by decide) ?_; conv => whnf)
        | (refine And.intro (by omega) ?_; conv => whnf)
        | fail)
      rw [runs_get hlt1]
      have hord : ordOk xs i = !(Op.bytesLess x.w.c.toList (xs.getD (i - 1) dR).w.c.toList || x.w.c.toList == (xs.getD (i - 1) dR).w.c.toList) := by
        rw [le_eq, Bool.not_not, ordOk, hq, hne, Bool.false_or]
      generalize xs.getD (i - 1) dR = y at *
      repeat' (first
        | (refine g_op ?_; conv => whnf)
        | (refine And.intro rfl ?_; conv => whnf)
        | (refine And.intro (Nat.le_of_ble_eq_true rfl) ?_; conv => whnf)
        | (refine g_seq ?_)
        | (refine g_ops ?_)
        | (refine g_loop ?_)
        | (refine g_nil ?_; conv => whnf)
        | (refine g_opg ?_; conv => whnf)
        | (refine Br.t (by first | assumption | rfl) ?_; conv => whnf)
        | (refine Br.f (by first | assumption | rfl) ?_; conv => whnf)
        | (refine Br.mk (fun hb => ?_) (fun hb => ?_) <;> conv => whnf)
        | (refine g_cond ?_; conv => whnf)
        | (refine g_skip ?_; conv => whnf)
        | (refine g_ret ?_; conv => whnf)
        | (refine g_exit ?_; conv => whnf)
        | (refine g_block ?_)
        | (refine g_quiet ?_)
        | (refine q_op ?_; conv => whnf)
        | (refine q_nil ?_; conv => whnf)
        | (refine q_opg ?_; conv => whnf)
        | (refine r_t ?_; conv => whnf)
        | (refine r_c ?_; conv => whnf)
        | (refine r_nil ?_; conv => whnf)
        | (refine XC.of_rdr (impl_within _ _ _) ?_; conv => whnf)
        | (refine XC.of_rdr (impl_MateAlive x) ?_; conv => whnf)
        | (refine QC.of_rdr (impl_within _ _ _) rfl ?_; conv => whnf)
        | (refine QC.of_rdr (impl_MateAlive x) rfl ?_; conv => whnf)
        | fail)
      all_goals
        clear hw1 e2
        first
        | (conv => lhs; whnf
           refine hbad ?_
           clear hbad hgood hN hstep hw e1
           simp_all [stepR, runOk, leased])
        | (refine ⟨i + 1, ⟨by omega, ?_⟩, by omega, ?_, True.intro, rfl⟩
           · refine hgood ?_
             clear hbad hgood hN hstep hw e1
             simp_all [stepR, runOk, leased]
           refine And.intro rfl ?_
           refine And.intro rfl ?_
           refine And.intro rfl ?_
           refine And.intro rfl ?_
           refine And.intro rfl ?_
           exact And.intro (congrArg (D.int .i64) hw) True.intro)
    · have hi0 : i = 0 := by have : ¬ 0 < i := by simpa using hd
                             omega
      have hord : ordOk xs i = true := by simp [ordOk, hi0]
      conv => whnf
      repeat' (first
        | (refine g_op ?_; conv => whnf)
        | (refine And.intro rfl ?_; conv => whnf)
        | (refine And.intro (Nat.le_of_ble_eq_true rfl) ?_; conv => whnf)
        | (refine g_seq ?_)
        | (refine g_ops ?_)
        | (refine g_loop ?_)
        | (refine g_nil ?_; conv => whnf)
        | (refine g_opg ?_; conv => whnf)
        | (refine Br.t (by first | assumption | rfl) ?_; conv => whnf)
        | (refine Br.f (by first | assumption | rfl) ?_; conv => whnf)
        | (refine Br.mk (fun hb => ?_) (fun hb => ?_) <;> conv => whnf)
        | (refine g_cond ?_; conv => whnf)
        | (refine g_skip ?_; conv => whnf)
        | (refine g_ret ?_; conv => whnf)
        | (refine g_exit ?_; conv => whnf)
        | (refine g_block ?_)
        | (refine g_quiet ?_)
        | (refine q_op ?_; conv => whnf)
        | (refine q_nil ?_; conv => whnf)
        | (refine q_opg ?_; conv => whnf)
        | (refine r_t ?_; conv => whnf)
        | (refine r_c ?_; conv => whnf)
        | (refine r_nil ?_; conv => whnf)
        | (refine XC.of_rdr (impl_within _ _ _) ?_; conv => whnf)
        | (refine XC.of_rdr (impl_MateAlive x) ?_; conv => whnf)
        | (refine QC.of_rdr (impl_within _ _ _) rfl ?_; conv => whnf)
        | (refine QC.of_rdr (impl_MateAlive x) rfl ?_; conv => whnf)
        | fail)
      all_goals
        clear hi0
        first
        | (conv => lhs; whnf
           refine hbad ?_
           clear hbad hgood hN hstep hw e1
           simp_all [stepR, runOk, leased])
        | (refine ⟨i + 1, ⟨by omega, ?_⟩, by omega, ?_, True.intro, rfl⟩
           · refine hgood ?_
             clear hbad hgood hN hstep hw e1
             simp_all [stepR, runOk, leased]
           refine And.intro rfl ?_
           refine And.intro rfl ?_
           refine And.intro rfl ?_
           refine And.intro rfl ?_
           refine And.intro rfl ?_
           exact And.intro (congrArg (D.int .i64) hw) True.intro)
  · have hge : ¬ i < xs.length := by simpa using hb
    conv => whnf
    repeat' (first
      | (refine g_op ?_; conv => whnf)
      | (refine And.intro rfl ?_; conv => whnf)
      | (refine And.intro (Nat.le_of_ble_eq_true rfl) ?_; conv => whnf)
      | (refine g_seq ?_)
      | (refine g_ops ?_)
      | (refine g_loop ?_)
      | (refine g_nil ?_; conv => whnf)
      | (refine g_opg ?_; conv => whnf)
      | (refine Br.t (by first | assumption | rfl) ?_; conv => whnf)
      | (refine Br.f (by first | assumption | rfl) ?_; conv => whnf)
      | (refine g_cond ?_; conv => whnf)
      | (refine g_skip ?_; conv => whnf)
      | (refine g_ret ?_; conv => whnf)
      | (refine g_exit ?_; conv => whnf)
      | (refine g_block ?_)
      | (refine g_quiet ?_)
      | (refine q_op ?_; conv => whnf)
      | (refine q_nil ?_; conv => whnf)
      | (refine q_opg ?_; conv => whnf)
      | (refine r_t ?_; conv => whnf)
      | (refine r_c ?_; conv => whnf)
      | (refine r_nil ?_; conv => whnf)
      | (refine And.intro (by decide) ?_; conv => whnf)
      | (refine And.intro (by omega) ?_; conv => whnf)
      | fail)
    conv => lhs; whnf
    have e : xs.length - i = 0 := by omega
    rw [hN, e]
    rfl
end Go.Ab
