/- Steps towards the law: the machine, contracts of functions and facts of lists. -/
import Derived.Test.YtagleaabhljkfaaMateS
import Derived.Test.YtagleaabhljkfaaRows
set_option linter.unusedSimpArgs false
set_option linter.unusedVariables false
namespace Go.Ab
open Go Go.RowKit Go.Proofs
attribute [local irreducible] XC Rdr IntKind.wrap xw xos xqs xr xd
set_option maxRecDepth 100000
set_option maxHeartbeats 16000000
theorem noL_app {xs caps : List Go.Ab.D} (h1 : xs.all D.noL = true) (h2 : caps.all D.noL = true) : (xs.all D.noL && caps.all D.noL) = true := by rw [h1, h2]; rfl
theorem idxN_first {f : Nat → Bool} : ∀ {k i j : Nat}, idxN f k i = (j : Int) → ∀ m, i ≤ m → m < j → f m = false
 | 0, i, j, h, m, h1, h2 => by
  have : (-1 : Int) = (j : Int) := h
  omega
 | k + 1, i, j, h, m, h1, h2 => by
  have e : idxN f (k + 1) i = if f i then (i : Int) else idxN f k (i + 1) := rfl
  rw [e] at h
  split at h
  ·omega
  ·rename_i hf
   by_cases hm : m = i
   ·subst hm; simpa using hf
   ·exact idxN_first h m (by omega) h2
theorem take_filter {α : Type} [Inhabited α] (p : α → Bool) {xs : List α} {j : Nat} (h : j < xs.length) : (xs.take (j + 1)).filter p = (xs.take j).filter p ++ if p (xs.getD j default) = true then [xs.getD j default] else [] := by
 have e : xs.getD j default = xs[j] := by simp [h]
 rw [e, List.take_succ_eq_append_getElem h, List.filter_append]
 congr 1
 simp only [List.filter_cons, List.filter_nil]
/-- The rounds of slices.DeleteFunc: i places are written, j are read. -/
structure DelI {α : Type} [Inhabited α] (p : α → Bool) (xs : List α) (i j : Nat) (C : List α) : Prop where
 le : i < j
 ji : j ≤ xs.length
 len : C.length = xs.length
 done : C.take i = (xs.take j).filter p
 rest : C.drop j = xs.drop j
theorem indexF_MateAsk (f : Nat) (caps : List Go.Ab.D) (q : MateAsk → Bool) (hn : caps.all D.noL = true) (hq : ∀ a : MateAsk, Rdr Try.prog f (a.D :: caps) (.bool (q a))) (xs : List MateAsk) (hl : xs.length ≤ 1048576) : Rdr Try.prog 115 [.ro 4 (xs.map MateAsk.D), .fn f caps] (.int .i64 (idxN (fun i => q (xs.getD i default)) xs.length 0)) := by
 refine Rdr.intro' hm c115 (Nat.le_of_ble_eq_true rfl) ?_
 conv => whnf
 repeat' (first | (refine g_op ?_; conv => whnf) | (refine And.intro ?_ ?_; (focus exact au0); conv => whnf) | (refine g_seq ?_) | (refine XS.go ?_) | (refine g_ops ?_) | (refine g_loop ?_) | (refine g_nil ?_; conv => whnf) | (refine g_block ?_) | fail)
 refine XLc.mkL (α := Nat) (fun i => i ≤ xs.length ∧ idxN (fun i => q (xs.getD i default)) xs.length 0 = idxN (fun i => q (xs.getD i default)) (xs.length - i) i) (fun i => xs.length - i) (fun i gs => [.ro 4 (xs.map MateAsk.D), .fn f caps, .any, .any, .any, .any, .any, .int .i64 ((xs.map MateAsk.D).length : Int), .int .i64 (i : Int)]) (fun i gs => []) 0 ⟨Nat.zero_le _, rfl⟩ ?_ ?_
 ·refine ⟨?_, ?_⟩
  ·repeat' (first | exact True.intro | refine And.intro rfl ?_)
  ·repeat' (first | exact True.intro | refine And.intro rfl ?_)
 intro i gs hI
 obtain ⟨hi, hN⟩ := hI
 repeat' (first | (refine g_op ?_; conv => whnf) | (refine And.intro ?_ ?_; (focus exact au0); conv => whnf) | (refine g_seq ?_) | (refine XS.go ?_) | (refine g_ops ?_) | ((first | refine g_nil ?_ | refine g_cond ?_); conv => whnf) | fail)
 refine Br.mk (fun hb => ?_) (fun hb => ?_)
 ·have hlt : i < xs.length := by simpa using hb
  have hw : IntKind.wrap .i64 ((i : Int) + 1) = ((i + 1 : Nat) : Int) := by rw [wrap_ok (by omega) (by omega)]; rfl
  have hit := fun h => idxN_hit (f := fun i => q (xs.getD i default)) hlt hN h
  have miss := fun h => idxN_miss (f := fun i => q (xs.getD i default)) hlt hN h
  clear hN hb
  conv => whnf
  repeat' (first | ((refine And.intro (noL_app rfl hn) ?_; conv => whnf)) | (refine z_ld1 ?_; first | (refine z_ld rfl rfl rfl rfl au1 au2 ?_; conv => whnf) | (refine z_ld0 rfl ?_; conv => whnf)) | (refine z_ix1 ?_; first | (refine z_ix rfl rfl rfl rfl rfl ⟨by first | omega | (simp only [decide_eq_true_eq, Bool.not_eq_true', Bool.or_eq_false_iff, decide_eq_false_iff_not, Bool.and_eq_true, Bool.not_eq_false'] at *; omega), by first | omega | (simp only [decide_eq_true_eq, Bool.not_eq_true', Bool.or_eq_false_iff, decide_eq_false_iff_not, Bool.and_eq_true, Bool.not_eq_false'] at *; omega)⟩ ?_; conv => whnf) | (refine z_ix0 rfl rfl ?_; conv => whnf)) | (refine z_op ?_ ?_; (focus exact rfl); conv => whnf) | (refine zs_ops ?_ ?_; (focus exact rfl)) | ((first | refine z_nil fun vals => ?_ | refine z_eff ?_ | refine g_op ?_); conv => whnf) | (refine And.intro ?_ ?_; (focus exact au0); conv => whnf) | (refine g_seq ?_) | (refine XS.go ?_) | (refine g_ops ?_) | ((first | refine g_nil ?_ | refine g_cond ?_ | refine g_skip ?_ | refine g_ret ?_); conv => whnf) | (refine g_block ?_) | ((first | refine r_t ?_ | refine r_nil ?_); conv => whnf) | (refine Br.mk (fun hb => ?_) (fun hb => ?_) <;> conv => whnf) | (refine XCL.of_rdr (hq (xs.getD (i : Int).toNat default)) ?_; conv => whnf) | fail)
  all_goals
   first
   | ((conv => lhs; whnf); first | (rw [hit hb]; done) | (rw [hit hb]; rfl) | fail)
   |(refine ⟨i + 1, ⟨by omega, miss hb⟩, by omega, ?_, ?_⟩
     ·repeat' (first | exact True.intro | refine And.intro (congrArg (D.int .i64) hw) ?_ | refine And.intro rfl ?_)
     ·repeat' (first | exact True.intro | refine And.intro rfl ?_))
 have hge : ¬ i < xs.length := by simpa using hb
 have hend : idxN (fun i => q (xs.getD i default)) xs.length 0 = -1 := by rw [hN, idxN_end hge]
 clear hN
 conv => whnf
 repeat' (first | (refine g_op ?_; conv => whnf) | (refine And.intro ?_ ?_; (focus exact au0); conv => whnf) | (refine g_seq ?_) | (refine XS.go ?_) | (refine g_ops ?_) | ((first | refine g_nil ?_ | refine g_ret ?_ | refine g_exit ?_ | refine r_t ?_ | refine r_nil ?_); conv => whnf) | fail)
 ((conv => lhs; whnf); first | (rw [hend]; done) | (rw [hend]; rfl))
end Go.Ab
