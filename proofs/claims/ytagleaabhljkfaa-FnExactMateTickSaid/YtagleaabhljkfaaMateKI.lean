/- Steps towards the law: the machine, contracts of functions and facts of lists. -/
import Derived.Test.YtagleaabhljkfaaMateKH
import Derived.Test.YtagleaabhljkfaaMateKC
import Derived.Test.YtagleaabhljkfaaRows
set_option linter.unusedSimpArgs false
set_option linter.unusedVariables false
namespace Go.Ab
open Go Go.RowKit Go.Proofs
attribute [local irreducible] XC Rdr IntKind.wrap xw xos xqs xr xd
set_option maxRecDepth 100000
set_option maxHeartbeats 16000000
def cf123 : CF := ⟨19,[.t 4],(.seq (.ops [Ok 4 (.int .i64 0)]) (.seq (.seq (.ops [Om 6 0,Og 7 6,Ok 8 (.int .i64 0)]) (.block 0 (.loop (.seq (.ops [Ob 9 .lss 8 7]) (.seq (.cond (.t 9) .skip (.exit 0)) (.seq (.block 1 (.seq (.ops [Om 10 8,Om 5 10]) (.seq (.ops [Om 11 1,Om 12 0,Om 13 5,Ox 14 11 12 13,Od 15 11 14,Oo 16 (.callv (.t 11) [(.t 15)])]) (.cond (.t 16) (.seq (.ops [Om 17 5,Om 4 17]) .ret) .skip)))) (.ops [Oi 18 8,Om 8 18]))))))) (.seq (.ops [Ok 4 (.int .i64 (-1))]) .ret)))⟩
theorem c123 : compileF Try.prog [] 123 = some cf123 := by kernel_rfl
def cf124 : CF := ⟨10,[.t 3],(.seq (.ops [Oo 2 (.bx (.t 0)),Ok 3 (.bool false)]) (.seq (.ops [Oo 4 (.fa 0 7 0 (.t 2)),Of 5 0 4,Ol 6 5,Of 7 0 1,Ol 8 7,Ob 9 .geq 6 8,Om 3 9]) .ret))⟩
theorem c124 : compileF Try.prog [] 124 = some cf124 := by kernel_rfl
theorem indexF_MateRun (f : Nat) (caps : List Go.Ab.D) (q : MateRun → Bool) (hn : caps.all D.noL = true) (hq : ∀ a : MateRun, Rdr Try.prog f (a.D :: caps) (.bool (q a))) (xs : List MateRun) (hl : xs.length ≤ 1048576) : Rdr Try.prog 123 [.ro 11 (xs.map MateRun.D), .fn f caps] (.int .i64 (idxN (fun i => q (xs.getD i default)) xs.length 0)) := by
 refine Rdr.intro' hm c123 (Nat.le_of_ble_eq_true rfl) ?_
 conv => whnf
 repeat' (first | (refine g_op ?_; conv => whnf) | (refine And.intro ?_ ?_; (focus exact au0); conv => whnf) | (refine g_seq ?_) | (refine XS.go ?_) | (refine g_ops ?_) | (refine g_loop ?_) | (refine g_nil ?_; conv => whnf) | (refine g_block ?_) | fail)
 refine XLc.mkL (α := Nat) (fun i => i ≤ xs.length ∧ idxN (fun i => q (xs.getD i default)) xs.length 0 = idxN (fun i => q (xs.getD i default)) (xs.length - i) i) (fun i => xs.length - i) (fun i gs => [.ro 11 (xs.map MateRun.D), .fn f caps, .any, .any, .any, .any, .any, .int .i64 ((xs.map MateRun.D).length : Int), .int .i64 (i : Int)]) (fun i gs => []) 0 ⟨Nat.zero_le _, rfl⟩ ?_ ?_
 ·refine ⟨?_, ?_⟩
  ·repeat' (first | exact True.intro | refine And.intro rfl ?_)
  ·repeat' (first | exact True.intro | refine And.intro rfl ?_)
 intro i gs hI
 obtain ⟨hi, hN⟩ := hI
 repeat' (first | (refine g_op ?_; conv => whnf) | (refine And.intro ?_ ?_; (focus exact au0); conv => whnf) | (refine g_seq ?_) | (refine XS.go ?_) | (refine g_ops ?_) | ((first | refine g_nil ?_ | refine g_cond ?_); conv => whnf) | fail)
 refine Br.mk (fun hb => ?_) (fun hb => ?_)
 ·have hlt : i < xs.length := by simpa using hb
  have hw : IntKind.wrap .i64 ((i : Int) + 1) = ((i + 1 : Nat) : Int) := by rw [wrap_ok (by omega) (by omega)]; rfl
  have hit := fun h => idxN_hit (f := fun i => q (xs.getD i default)) hlt hN h
  have miss := fun h => idxN_miss (f := fun i => q (xs.getD i default)) hlt hN h
  clear hN hb
  conv => whnf
  repeat' (first | ((refine And.intro (noL_app rfl hn) ?_; conv => whnf)) | (refine z_ld1 ?_; first | (refine z_ld rfl rfl rfl rfl au1 au2 ?_; conv => whnf) | (refine z_ld0 rfl ?_; conv => whnf)) | (refine z_ix1 ?_; first | (refine z_ix rfl rfl rfl rfl rfl ⟨by first | omega | (simp only [decide_eq_true_eq, Bool.not_eq_true', Bool.or_eq_false_iff, decide_eq_false_iff_not, Bool.and_eq_true, Bool.not_eq_false'] at *; omega), by first | omega | (simp only [decide_eq_true_eq, Bool.not_eq_true', Bool.or_eq_false_iff, decide_eq_false_iff_not, Bool.and_eq_true, Bool.not_eq_false'] at *; omega)⟩ ?_; conv => whnf) | (refine z_ix0 rfl rfl ?_; conv => whnf)) | (refine z_op ?_ ?_; (focus exact rfl); conv => whnf) | (refine zs_ops ?_ ?_; (focus exact rfl)) | ((first | refine z_nil fun vals => ?_ | refine z_eff ?_ | refine g_op ?_); conv => whnf) | (refine And.intro ?_ ?_; (focus exact au0); conv => whnf) | (refine g_seq ?_) | (refine XS.go ?_) | (refine g_ops ?_) | ((first | refine g_nil ?_ | refine g_cond ?_ | refine g_skip ?_ | refine g_ret ?_); conv => whnf) | (refine g_block ?_) | ((first | refine r_t ?_ | refine r_nil ?_); conv => whnf) | (refine Br.mk (fun hb => ?_) (fun hb => ?_) <;> conv => whnf) | (refine XCL.of_rdr (hq (xs.getD (i : Int).toNat default)) ?_; conv => whnf) | fail)
  all_goals
   first
   | ((conv => lhs; whnf); first | (rw [hit hb]; done) | (rw [hit hb]; rfl) | fail)
   |(refine ⟨i + 1, ⟨by omega, miss hb⟩, by omega, ?_, ?_⟩
     ·repeat' (first | exact True.intro | refine And.intro (congrArg (D.int .i64) hw) ?_ | refine And.intro rfl ?_)
     ·repeat' (first | exact True.intro | refine And.intro rfl ?_))
 have hge : ¬ i < xs.length := by simpa using hb
 have hend : idxN (fun i => q (xs.getD i default)) xs.length 0 = -1 := by rw [hN, idxN_end hge]
 clear hN
 conv => whnf
 repeat' (first | (refine g_op ?_; conv => whnf) | (refine And.intro ?_ ?_; (focus exact au0); conv => whnf) | (refine g_seq ?_) | (refine XS.go ?_) | (refine g_ops ?_) | ((first | refine g_nil ?_ | refine g_ret ?_ | refine g_exit ?_ | refine r_t ?_ | refine r_nil ?_); conv => whnf) | fail)
 ((conv => lhs; whnf); first | (rw [hend]; done) | (rw [hend]; rfl))
theorem impl_runsCl (x : MateRun) (w : MateWant) : Rdr Try.prog 124 [x.D, .cref w.D] (.bool (!Op.bytesLess x.fWant.fCopy.toList w.fCopy.toList)) := by
 refine Rdr.intro' hm c124 (Nat.le_of_ble_eq_true rfl) ?_
 conv => whnf
 repeat' (first | (refine z_ld1 ?_; first | (refine z_ld rfl rfl rfl rfl au1 au2 ?_; conv => whnf) | (refine z_ld0 rfl ?_; conv => whnf)) | (refine z_op ?_ ?_; (focus exact rfl); conv => whnf) | (refine zs_ops ?_ ?_; (focus exact rfl)) | ((first | refine z_nil fun vals => ?_ | refine g_op ?_); conv => whnf) | (refine And.intro ?_ ?_; (focus exact au0); conv => whnf) | (refine g_seq ?_) | (refine XS.go ?_) | (refine g_ops ?_) | ((first | refine g_nil ?_ | refine g_ret ?_ | refine r_t ?_ | refine r_nil ?_ | refine fun _ => ?_); conv => whnf) | fail)
 first | done | ((conv => lhs; whnf); first | done | rfl | (rw [← le_eq]; done))
/-- Where the hold is not there yet, the reference puts the ask in where the program does. -/
theorem setR_ins (xs : List MateAsk) (a : MateAsk) (h : ∀ x ∈ xs, x.fHold.toList ≠ a.fHold.toList) : setR xs a = insAt xs (putI xs a) a := by
 unfold setR putT insAt
 rw [if_neg]
 intro q
 simp only [Bool.and_eq_true, decide_eq_true_eq, beq_iff_eq] at q
 have e : xs.getD (putI xs a) default = xs[putI xs a]'q.1 := by simp [q.1]
 rw [e] at q
 exact h _ (List.getElem_mem q.1) q.2
/-- The program's insertion of a run is the reference's. -/
theorem addW_ins (rs : List MateRun) (w : MateWant) (h : addQ rs w = false) : addW rs w = insAt rs (runI rs w) (startRun w) := by
 unfold addW insAt
 rw [if_neg (by rw [h]; exact Bool.false_ne_true)]
end Go.Ab
