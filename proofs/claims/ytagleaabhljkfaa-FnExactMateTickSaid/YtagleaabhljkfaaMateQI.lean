/- Steps towards the law: the machine, contracts of functions and facts of lists. -/
import Derived.Test.YtagleaabhljkfaaMateQ
import Derived.Test.YtagleaabhljkfaaRows
set_option linter.unusedSimpArgs false
set_option linter.unusedVariables false
namespace Go.Ab
open Go Go.RowKit Go.Proofs
attribute [local irreducible] XC Rdr IntKind.wrap xw xos xqs xr xd
set_option maxRecDepth 100000
set_option maxHeartbeats 16000000
theorem shl_ok {f : Int} (h0 : 0 ≤ f) (h4 : f < 4) : IntKind.wrap .i64 (shlI .i64 1 f) = 2 ^ f.toNat := by
 have h : f = 0 ∨ f = 1 ∨ f = 2 ∨ f = 3 := by omega
 rcases h with rfl | rfl | rfl | rfl <;> (rw [wrap_ok (by decide) (by decide)]; rfl)
theorem dies_D {r : MateRun} {X F : Int} (hF : fallsR r = F) (hX : bo F = X) : D.tup [.agg [r.fWant.D, .int .i64 5, .int .i64 X, .int .i64 F, .int .i64 r.fUntil], .bool true] = D.tup [(diesR r).D, .bool true] := by
 subst hF
 subst hX
 rfl
theorem bo_neg {F : Int} (h : F < 0) : bo F = 1 := if_pos h
theorem bo_shl {F : Int} (h0 : ¬ F < 0) (h : F < 4) : bo F = IntKind.wrap .i64 (shlI .i64 1 F) := by rw [bo, if_neg h0, if_pos h, shl_ok (by omega) h]
theorem bo_big {F : Int} (h0 : ¬ F < 4) : bo F = 16 := by rw [bo, if_neg (by omega), if_neg h0]
theorem impl_Live (r : MateRun) (w : MateWant) (wanted : Bool) (c : Int) : Rdr Try.prog 29 [r.D, w.D, .bool wanted, .int .i64 c] (.tup [(liveR r w wanted c).1.D, .bool (liveR r w wanted c).2]) := by
 have ha := impl_Alive r
 have hg := impl_Begin r c
 refine Rdr.intro' hm c29 (Nat.le_of_ble_eq_true rfl) ?_
 conv => whnf
 repeat' (first | (refine z_ld1g ?_; first | (refine z_ldg rfl rfl rfl rfl rfl rfl rfl (by (repeat intro _); exact ⟨au1, au2⟩) rfl rfl rfl rfl ?_; conv => whnf) | (refine z_ld0g ?_; (conv => whnf); refine And.intro ?_ ?_; (focus exact rfl); conv => whnf)) | (refine z_op ?_ ?_; (focus exact rfl); conv => whnf) | (refine z_opg0 ?_; (conv => whnf); refine And.intro ?_ ?_; (focus exact rfl); conv => whnf) | (refine z_pick ?_ ?_; (focus exact rfl); conv => whnf) | (refine zs_ops ?_ ?_; (focus exact rfl)) | ((first | refine z_nil fun vals => ?_ | refine g_op ?_); conv => whnf) | (refine And.intro ?_ ?_; (focus exact au0); conv => whnf) | (refine g_seq ?_) | (refine XS.go ?_) | (refine g_ops ?_) | ((first | refine g_nil ?_ | refine g_cond ?_ | refine fun _ => ?_); conv => whnf) | fail)
 refine Br.mk (fun hb => ?_) (fun hb => ?_)
 ·have h1 : lc1 r w wanted = true := hb
  clear hb
  cases hal : alive r with
  | true =>
   have e : liveR r w wanted c = ({ r with fState := 6, fLeft := r.fWant.fGrace }, true) := by rw [liveR, if_pos h1, if_pos hal]
   rw [e]
   rw [hal] at ha
   conv => whnf
   repeat' (first | (refine z_ld1 ?_; first | (refine z_ld rfl rfl rfl rfl au1 au2 ?_; conv => whnf) | (refine z_ld0 rfl ?_; conv => whnf)) | (refine z_st1 ?_; first | (refine z_st rfl rfl rfl au1 au2 rfl rfl ?_; conv => whnf) | (refine z_st0 ?_; conv => whnf)) | (refine z_op ?_ ?_; (focus exact rfl); conv => whnf) | (refine zs_ops ?_ ?_; (focus exact rfl)) | (refine z_nil fun vals => ?_; conv => whnf) | (refine z_call ?_ ?_; (focus exact rfl)) | (refine RC.of (ha) ?_ ?_; (focus exact rfl); conv => whnf) | (refine And.intro ?_ ?_; (focus exact au0); conv => whnf) | (refine g_seq ?_) | (refine XS.go ?_) | (refine Br.f ?_ ?_; (focus (first | assumption | exact rfl)); conv => whnf) | ((first | refine g_cond ?_ | refine g_skip ?_ | refine g_ret ?_ | refine r_t ?_ | refine r_c ?_ | refine r_nil ?_); conv => whnf) | fail)
   rfl
  | false =>
   have e : liveR r w wanted c = (default, false) := by rw [liveR, if_pos h1, if_neg (by rw [hal]; exact Bool.false_ne_true)]
   rw [e]
   rw [hal] at ha
   conv => whnf
   repeat' (first | (refine z_ld1 ?_; first | (refine z_ld rfl rfl rfl rfl au1 au2 ?_; conv => whnf) | (refine z_ld0 rfl ?_; conv => whnf)) | (refine z_st1 ?_; first | (refine z_st rfl rfl rfl au1 au2 rfl rfl ?_; conv => whnf) | (refine z_st0 ?_; conv => whnf)) | (refine z_op ?_ ?_; (focus exact rfl); conv => whnf) | (refine zs_ops ?_ ?_; (focus exact rfl)) | (refine z_nil fun vals => ?_; conv => whnf) | (refine z_call ?_ ?_; (focus exact rfl)) | (refine RC.of (ha) ?_ ?_; (focus exact rfl); conv => whnf) | (refine And.intro ?_ ?_; (focus exact au0); conv => whnf) | (refine g_seq ?_) | (refine XS.go ?_) | (refine Br.t ?_ ?_; (focus (first | assumption | exact rfl)); conv => whnf) | ((first | refine g_cond ?_ | refine g_ret ?_ | refine r_t ?_ | refine r_c ?_ | refine r_nil ?_); conv => whnf) | fail)
   rfl
 have h1 : lc1 r w wanted = false := hb
 clear hb
 have e1 : liveR r w wanted c = if lc2 r = true then ({ r with fLeft := IntKind.wrap .i64 (r.fLeft - 1) }, true) else liveS r c := by rw [liveR, if_neg (by rw [h1]; exact Bool.false_ne_true)]
 rw [e1]
 clear e1
 conv => whnf
 repeat' (first | (refine z_ld1 ?_; first | (refine z_ld rfl rfl rfl rfl au1 au2 ?_; conv => whnf) | (refine z_ld0 rfl ?_; conv => whnf)) | (refine z_ld1g ?_; first | (refine z_ldg rfl rfl rfl rfl rfl rfl rfl (by (repeat intro _); exact ⟨au1, au2⟩) rfl rfl rfl rfl ?_; conv => whnf) | (refine z_ld0g ?_; (conv => whnf); refine And.intro ?_ ?_; (focus exact rfl); conv => whnf)) | (refine z_op ?_ ?_; (focus exact rfl); conv => whnf) | (refine z_opg0 ?_; (conv => whnf); refine And.intro ?_ ?_; (focus exact rfl); conv => whnf) | (refine z_pick ?_ ?_; (focus exact rfl); conv => whnf) | (refine zs_ops ?_ ?_; (focus exact rfl)) | (refine z_nil fun vals => ?_; conv => whnf) | (refine And.intro ?_ ?_; (focus exact au0); conv => whnf) | (refine g_seq ?_) | (refine XS.go ?_) | ((first | refine g_cond ?_ | refine g_skip ?_); conv => whnf) | fail)
 refine Br.mk (fun hb => ?_) (fun hb => ?_)
 ·have h2 : lc2 r = true := by rw [lc2, Bool.and_comm]; exact hb
  rw [if_pos h2]
  conv => whnf
  repeat' (first | (refine z_ld1 ?_; first | (refine z_ld rfl rfl rfl rfl au1 au2 ?_; conv => whnf) | (refine z_ld0 rfl ?_; conv => whnf)) | (refine z_st1 ?_; first | (refine z_st rfl rfl rfl au1 au2 rfl rfl ?_; conv => whnf) | (refine z_st0 ?_; conv => whnf)) | (refine z_op ?_ ?_; (focus exact rfl); conv => whnf) | (refine zs_ops ?_ ?_; (focus exact rfl)) | (refine z_nil fun vals => ?_; conv => whnf) | (refine And.intro ?_ ?_; (focus exact au0); conv => whnf) | (refine g_seq ?_) | (refine XS.go ?_) | ((first | refine g_ret ?_ | refine r_t ?_ | refine r_c ?_ | refine r_nil ?_); conv => whnf) | fail)
  rfl
 have h2 : lc2 r = false := by rw [lc2, Bool.and_comm]; exact hb
 rw [if_neg (by rw [h2]; exact Bool.false_ne_true)]
 clear hb
 conv => whnf
 repeat' (first | ((refine And.intro (Int.not_lt.1 (of_decide_eq_false (by assumption))) ?_; conv => whnf)) | (refine z_ld1 ?_; first | (refine z_ld rfl rfl rfl rfl au1 au2 ?_; conv => whnf) | (refine z_ld0 rfl ?_; conv => whnf)) | (refine z_st1 ?_; first | (refine z_st rfl rfl rfl au1 au2 rfl rfl ?_; conv => whnf) | (refine z_st0 ?_; conv => whnf)) | (refine z_op ?_ ?_; (focus exact rfl); conv => whnf) | (refine zs_ops ?_ ?_; (focus exact rfl)) | (refine z_nil fun vals => ?_; conv => whnf) | (refine z_call ?_ ?_; (focus exact rfl)) | (refine RC.of (hg) ?_ ?_; (focus exact rfl); conv => whnf) | (refine g_op ?_; conv => whnf) | (refine And.intro ?_ ?_; (focus exact au0); conv => whnf) | (refine g_seq ?_) | (refine XS.go ?_) | (refine g_ops ?_) | (refine g_nil ?_; conv => whnf) | (refine Br.t ?_ ?_; (focus (first | assumption | exact rfl)); conv => whnf) | ((first | refine g_cond ?_ | refine g_skip ?_ | refine g_ret ?_); conv => whnf) | (refine g_block ?_) | ((first | refine r_t ?_ | refine r_c ?_ | refine r_nil ?_); conv => whnf) | (refine Br.mk (fun hb => ?_) (fun hb => ?_) <;> conv => whnf) | fail)
 all_goals (conv => lhs; whnf)
 all_goals first
  | (have hx : r.fState = 3 := by simp_all); (rw [liveS, if_pos hx]; rfl)
  | (have hx : r.fState = 4 := by simp_all); (have hy : ¬ r.fLeft = 1 := by simp_all); (rw [liveS, if_neg (by omega), if_pos hx, if_neg hy]; rfl)
  | (have hx : r.fState = 4 := by simp_all); (have hy : r.fLeft = 1 := by simp_all); (rw [liveS, if_neg (by omega), if_pos hx, if_pos hy]); (simp only [decide_eq_true_eq, decide_eq_false_iff_not] at *); (refine dies_D (by unfold fallsR; first | exact if_pos (by assumption) | exact if_neg (by assumption)) ?_); (first | exact bo_neg (by assumption) | exact bo_shl (by assumption) (by assumption) | exact bo_big (by assumption) | (exfalso; omega))
  | (have hx : r.fState = 6 := by simp_all); (rw [liveS, if_neg (by omega), if_neg (by omega), if_pos hx]; rfl)
  | (have hx : r.fState = 1 ∨ r.fState = 2 ∨ r.fState = 5 := by simp_all); (rw [liveS, if_neg (by omega), if_neg (by omega), if_neg (by omega), if_pos hx]; rfl)
  | (have h3 : ¬ r.fState = 3 := by simp_all); (have h4 : ¬ r.fState = 4 := by simp_all); (have h6 : ¬ r.fState = 6 := by simp_all); (have hx : ¬ (r.fState = 1 ∨ r.fState = 2 ∨ r.fState = 5) := by simp_all); (rw [liveS, if_neg h3, if_neg h4, if_neg h6, if_neg hx]; rfl)
  | fail
end Go.Ab
