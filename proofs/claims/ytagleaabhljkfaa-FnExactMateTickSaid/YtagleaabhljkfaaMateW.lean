/- Steps towards the law: the machine, contracts of functions and facts of lists. -/
import Derived.Test.YtagleaabhljkfaaMateD
import Derived.Test.YtagleaabhljkfaaRows
set_option linter.unusedSimpArgs false
set_option linter.unusedVariables false
namespace Go.Ab
open Go Go.RowKit Go.Proofs
attribute [local irreducible] XC Rdr IntKind.wrap xw xos xqs xr xd
set_option maxRecDepth 100000
set_option maxHeartbeats 16000000
def cf77 : CF := ⟨20,[.t 2],(.seq (.ops [Ok 2 (.str ⟨#[]⟩)]) (.seq (.seq (.ops [Om 4 0,Oo 5 (.bin .leq (.t 4) (.k (.int .i64 0)))]) (.cond (.t 5) (.seq (.ops [Ok 2 (.str ⟨#[109,48]⟩)]) .ret) .skip)) (.seq (.ops [Ok 3 (.str ⟨#[]⟩)]) (.seq (.block 0 (.loop (.seq (.seq (.ops [Om 6 0,Oo 7 (.bin .gtr (.t 6) (.k (.int .i64 0)))]) (.cond (.t 7) .skip (.exit 0))) (.block 1 (.seq (.ops [Om 8 0,Oo 9 (.bin .rem (.t 8) (.k (.int .i64 10))),Oo 10 (.bin .add (.k (.int .i64 48)) (.t 9)),Oo 11 (.cvi .u8 (.t 10)),Oo 12 (.bsl (.int .u8 0) 1 [(0,(.t 11))]),Oo 13 (.bst (.t 12)),Om 14 3,Ob 15 .add 13 14,Om 3 15]) (.ops [Om 16 0,Oo 17 (.bin .quo (.t 16) (.k (.int .i64 10))),Om 0 17])))))) (.seq (.ops [Om 18 3,Oo 19 (.bin .add (.k (.str ⟨#[109]⟩)) (.t 18)),Om 2 19]) .ret)))))⟩
theorem c77 : compileF Try.prog [] 77 = some cf77 := by kernel_rfl
def dg (k : Int) : ByteArray := ⟨([D.int .u8 (IntKind.wrap .u8 (IntKind.wrap .i64 (48 + k.tmod 10)))].map byteD).toArray⟩
def digs : Nat → Int → ByteArray → ByteArray
 | 0, _, o => o
 | n + 1, k, o => if k > 0 then digs n (k.tdiv 10) (dg k ++ o) else o
def mtext (k : Int) : ByteArray := ⟨#[109]⟩ ++ digs k.toNat k ⟨#[]⟩
theorem sz_cat (a b : ByteArray) : (a ++ b).size = a.size + b.size := by simp
theorem sz_dg (k : Int) : (dg k).size = 1 := rfl
theorem sz_nil : (ByteArray.mk #[]).size = 0 := rfl
theorem sz_m : (ByteArray.mk #[109]).size = 1 := rfl
theorem mark_text (k : Int) (h1 : 1 ≤ k) (h2 : k ≤ 100000000) : Rdr Try.prog 77 [.int .i64 k] (.str (mtext k)) := by
 refine Rdr.intro' hm c77 (Nat.le_of_ble_eq_true rfl) ?_
 conv => whnf
 repeat' (first | (refine g_op ?_; conv => whnf) | (refine And.intro ?_ ?_; (focus exact au0); conv => whnf) | (refine g_seq ?_) | (refine XS.go ?_) | (refine g_ops ?_) | ((first | refine g_nil ?_ | refine g_cond ?_); conv => whnf) | fail)
 refine Br.f ?_ ?_
 ·simp; omega
 repeat' (first | (refine g_op ?_; conv => whnf) | (refine And.intro ?_ ?_; (focus exact au0); conv => whnf) | (refine g_seq ?_) | (refine XS.go ?_) | (refine g_ops ?_) | (refine g_loop ?_) | ((first | refine g_nil ?_ | refine g_skip ?_); conv => whnf) | (refine g_block ?_) | fail)
 refine XLc.mkL (α := Nat × Int × ByteArray) (fun i => 0 ≤ i.2.1 ∧ i.2.1.toNat ≤ i.1 ∧ i.2.2.size + i.1 ≤ 100000000 ∧ mtext k = ⟨#[109]⟩ ++ digs i.1 i.2.1 i.2.2) (fun i => i.1) (fun i gs => [.int .i64 i.2.1, .any, .any, .str i.2.2]) (fun i gs => []) (k.toNat, k, ⟨#[]⟩) ⟨by simp; omega, by simp, by rw [sz_nil]; omega, rfl⟩ ?_ ?_
 ·refine ⟨?_, ?_⟩
  ·repeat' (first | exact True.intro | refine And.intro rfl ?_)
  ·repeat' (first | exact True.intro | refine And.intro rfl ?_)
 intro i gs hI
 obtain ⟨n, j, o⟩ := i
 obtain ⟨hi0, hi1, hi2, hi3⟩ := hI
 simp only at hi0 hi1 hi2 hi3
 repeat' (first | (refine g_op ?_; conv => whnf) | (refine And.intro ?_ ?_; (focus exact au0); conv => whnf) | (refine g_seq ?_) | (refine XS.go ?_) | (refine g_ops ?_) | ((first | refine g_nil ?_ | refine g_cond ?_); conv => whnf) | fail)
 refine Br.mk (fun hb => ?_) (fun hb => ?_)
 ·have hb : j > 0 := by simpa using hb
  conv => whnf
  repeat' (first | (refine g_op ?_; conv => whnf) | (refine And.intro ?_ ?_; (focus exact au0); conv => whnf) | (refine g_seq ?_) | (refine XS.go ?_) | (refine g_ops ?_) | (refine g_skip ?_; conv => whnf) | (refine g_block ?_) | (refine fun _ => ?_; conv => whnf) | fail)
  refine And.intro ?_ ?_
  ·show ¬ (((dg j).size + o.size : Nat) : Int) > IntKind.i64.max
   have : IntKind.i64.max = 9223372036854775807 := rfl
   rw [sz_dg, this]; omega
  conv => whnf
  repeat' (first | (refine g_op ?_; conv => whnf) | (refine And.intro ?_ ?_; (focus exact au0); conv => whnf) | (refine XS.go ?_) | (refine g_ops ?_) | (refine g_nil ?_; conv => whnf) | fail)
  have hq : IntKind.wrap .i64 (j.tdiv 10) = j / 10 := by
   rw [Int.tdiv_eq_ediv_of_nonneg (by omega)]
   exact wrap_ok (by omega) (by omega)
  cases n with
  | zero => omega
  | succ n =>
  refine ⟨(n, j / 10, dg j ++ o), ⟨by simp only; omega, by simp only; omega, by simp only [sz_cat, sz_dg]; omega, ?_⟩, by simp only; omega, ?_, ?_⟩
  ·rw [hi3]
   simp only [digs]
   rw [if_pos (by simpa using hb), Int.tdiv_eq_ediv_of_nonneg (by omega)]
  ·repeat' (first | exact True.intro | refine And.intro (congrArg (D.int .i64) hq) ?_ | refine And.intro rfl ?_)
  ·repeat' (first | exact True.intro | refine And.intro rfl ?_)
 have hb : ¬ j > 0 := by simpa using hb
 conv => whnf
 repeat' (first | (refine g_op ?_; conv => whnf) | (refine And.intro ?_ ?_; (focus exact au0); conv => whnf) | (refine g_seq ?_) | (refine XS.go ?_) | (refine g_ops ?_) | (refine g_exit ?_; conv => whnf) | fail)
 refine And.intro ?_ ?_
 ·show ¬ (((ByteArray.mk #[109]).size + o.size : Nat) : Int) > IntKind.i64.max
  have : IntKind.i64.max = 9223372036854775807 := rfl
  rw [sz_m, this]; omega
 conv => whnf
 repeat' (first | (refine g_op ?_; conv => whnf) | (refine And.intro ?_ ?_; (focus exact au0); conv => whnf) | (refine XS.go ?_) | ((first | refine g_nil ?_ | refine g_ret ?_ | refine r_t ?_ | refine r_nil ?_); conv => whnf) | fail)
 show D.str (⟨#[109]⟩ ++ o) = _
 rw [hi3]
 cases n with
 | zero => rfl
 | succ n =>
  simp only [digs]
  rw [if_neg (by simpa using hb)]
end Go.Ab
