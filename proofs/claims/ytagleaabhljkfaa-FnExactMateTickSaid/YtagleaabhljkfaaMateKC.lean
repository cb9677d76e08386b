/- Steps towards the law: the machine, contracts of functions and facts of lists. -/
import Derived.Test.YtagleaabhljkfaaMateKB
import Derived.Test.YtagleaabhljkfaaMateI
import Derived.Test.YtagleaabhljkfaaMateTA
import Derived.Test.YtagleaabhljkfaaRows
set_option linter.unusedSimpArgs false
set_option linter.unusedVariables false
namespace Go.Ab
open Go Go.RowKit Go.Proofs
attribute [local irreducible] XC Rdr IntKind.wrap xw xos xqs xr xd
set_option maxRecDepth 100000
set_option maxHeartbeats 16000000
def cf113 : CF := ⟨18,[.t 4],(.seq (.ops [Oo 3 (.bx (.t 1)),Ok 4 (.nil)]) (.seq (.ops [Om 6 0,Oo 7 (.fnm 126 [(.t 3)]),Oc 8 115 [.t 6,.t 7],Om 5 8]) (.seq (.seq (.ops [Om 9 5,Oo 10 (.bin .lss (.t 9) (.k (.int .i64 0)))]) (.cond (.t 10) (.ops [Om 11 0,Og 12 11,Om 5 12]) .skip)) (.seq (.ops [Om 13 0,Om 14 5,Od 15 4 3,Oo 16 (.bsl (.agg [.str ⟨#[]⟩,.str ⟨#[]⟩,.int .i64 0,.int .i64 0]) 1 [(0,(.t 15))]),Oc 17 127 [.t 13,.t 14,.t 16],Om 4 17]) .ret))))⟩
theorem c113 : compileF Try.prog [] 113 = some cf113 := by kernel_rfl
def cf126 : CF := ⟨9,[.t 3],(.seq (.ops [Oo 2 (.bx (.t 0)),Ok 3 (.bool false)]) (.seq (.ops [Of 4 0 2,Ol 5 4,Of 6 0 1,Ol 7 6,Ob 8 .geq 5 7,Om 3 8]) .ret))⟩
theorem c126 : compileF Try.prog [] 126 = some cf126 := by kernel_rfl
theorem impl_putCl (x a : MateAsk) : Rdr Try.prog 126 [x.D, .cref a.D] (.bool (!Op.bytesLess x.fHold.toList a.fHold.toList)) := by
 refine Rdr.intro' hm c126 (Nat.le_of_ble_eq_true rfl) ?_
 conv => whnf
 repeat' (first | (refine z_ld1 ?_; first | (refine z_ld rfl rfl rfl rfl au1 au2 ?_; conv => whnf) | (refine z_ld0 rfl ?_; conv => whnf)) | (refine z_op ?_ ?_; (focus exact rfl); conv => whnf) | (refine zs_ops ?_ ?_; (focus exact rfl)) | ((first | refine z_nil fun vals => ?_ | refine g_op ?_); conv => whnf) | (refine And.intro ?_ ?_; (focus exact au0); conv => whnf) | (refine g_seq ?_) | (refine XS.go ?_) | (refine g_ops ?_) | ((first | refine g_nil ?_ | refine g_ret ?_ | refine r_t ?_ | refine r_nil ?_ | refine fun _ => ?_); conv => whnf) | fail)
 (conv => lhs; whnf)
 first | rfl | (rw [← le_eq]; done) | trace_state
theorem impl_putAsk (xs : List MateAsk) (a : MateAsk) (b c : Nat) (hl : xs.length ≤ 1048576) :
  XC Try.prog 113 [.lsl 0 b xs.length c, a.D] [(0, b, .arr 4 (xs.map MateAsk.D) c)] (fun d ls => ∃ b' c', d = .lsl 17 b' (insAt xs (putI xs a) a).length c' ∧ ls = [(17, b', .arr 4 ((insAt xs (putI xs a) a).map MateAsk.D) c')]) := by
 refine XC.intro' hm [17] rfl c113 (Nat.le_of_ble_eq_true rfl) ?_
 conv => whnf
 repeat' (first | (refine g_op ?_; conv => whnf) | (refine And.intro ?_ ?_; (focus exact au0); conv => whnf) | (refine g_seq ?_) | (refine g_ops ?_) | ((first | refine g_nil ?_ | refine fun _ => ?_); conv => whnf) | fail)
 refine XS.freezeB 3 rfl ?_
 have hix := indexF_MateAsk 126 [.cref a.D] (fun x => !Op.bytesLess x.fHold.toList a.fHold.toList) rfl (fun x => impl_putCl x a) xs hl
 have hle : putI xs a ≤ xs.length := by
  unfold putI
  rcases idxN_cases (f := putF xs a) (k := xs.length) (i := 0) with ⟨h1, _⟩ | ⟨j, h1, _, h3, _⟩
  ·rw [h1, if_pos (by omega)]
   exact Nat.le_refl _
  ·rw [h1, if_neg (by omega)]
   omega
 refine XS.go ?_
 conv => whnf
 repeat' (first | ((refine XCL.of_rdrB hix (.cons (Bor.rowM rfl rfl rfl (fun _ => rfl)) (.cons (Bor.refl _ _) .nil)) rfl ?_; conv => whnf)) | (refine g_op ?_; conv => whnf) | (refine And.intro ?_ ?_; (focus exact au0); conv => whnf) | (refine g_seq ?_) | (refine XS.go ?_) | (refine g_ops ?_) | ((first | refine g_nil ?_ | refine g_cond ?_); conv => whnf) | fail)
 refine Br.mk (fun hb => ?_) (fun hb => ?_)
 ·have hneg : idxN (putF xs a) xs.length 0 < 0 := of_decide_eq_true hb
  have hp : ((xs.length : Nat) : Int) = ((putI xs a : Nat) : Int) := by
   unfold putI
   rw [if_pos hneg]
  clear hb hix
  conv => whnf
  repeat' (first | (refine g_op ?_; conv => whnf) | (refine And.intro ?_ ?_; (focus exact au0); conv => whnf) | (refine g_ops ?_) | (refine g_nil ?_; conv => whnf) | fail)
  refine XS.weakenA (fs := [.lsl 0 b xs.length c, .any, .any, .cref a.D, .any, .int .i64 ((putI xs a : Nat) : Int)]) (ls := [(0, .arr 4 (xs.map MateAsk.D) c)]) ⟨?_, ?_⟩ ?_
  ·repeat' (first | exact True.intro | refine And.intro rfl ?_ | refine And.intro (congrArg (D.int .i64) hp) ?_)
  ·exact ⟨rfl, True.intro⟩
  refine XS.go ?_
  conv => whnf
  repeat' (first | ((refine XCL.of_XC (ls := [(0, b, .arr 4 (xs.map MateAsk.D) c), (16, _, .arr 4 [a.D] 1)]) ⟨rfl, rfl, rfl, rfl, rfl, rfl, True.intro⟩ ((insF_MateAsk 0 16 17 a xs (putI xs a) b c _ 1 hle hl (Nat.le_refl 1)).mono fun d ls hd => ?_); obtain ⟨b3, c3, rfl, rfl⟩ := hd; conv => whnf)) | (refine g_op ?_; conv => whnf) | (refine And.intro ?_ ?_; (focus exact au0); conv => whnf) | (refine g_seq ?_) | (refine XS.go ?_) | (refine g_ops ?_) | ((first | refine g_nil ?_ | refine g_ret ?_ | refine r_t ?_ | refine r_nil ?_ | refine fun _ => ?_); conv => whnf) | fail)
  exact ⟨_, _, rfl, rfl⟩
 ·have hneg : ¬ idxN (putF xs a) xs.length 0 < 0 := of_decide_eq_false hb
  have hp : idxN (putF xs a) xs.length 0 = ((putI xs a : Nat) : Int) := by
   unfold putI
   rw [if_neg hneg]
   omega
  clear hb hix
  conv => whnf
  repeat' (first | (refine g_skip ?_; conv => whnf) | fail)
  refine XS.weakenA (fs := [.lsl 0 b xs.length c, .any, .any, .cref a.D, .any, .int .i64 ((putI xs a : Nat) : Int)]) (ls := [(0, .arr 4 (xs.map MateAsk.D) c)]) ⟨?_, ?_⟩ ?_
  ·repeat' (first | exact True.intro | refine And.intro rfl ?_ | refine And.intro (congrArg (D.int .i64) hp) ?_)
  ·exact ⟨rfl, True.intro⟩
  refine XS.go ?_
  conv => whnf
  repeat' (first | ((refine XCL.of_XC (ls := [(0, b, .arr 4 (xs.map MateAsk.D) c), (16, _, .arr 4 [a.D] 1)]) ⟨rfl, rfl, rfl, rfl, rfl, rfl, True.intro⟩ ((insF_MateAsk 0 16 17 a xs (putI xs a) b c _ 1 hle hl (Nat.le_refl 1)).mono fun d ls hd => ?_); obtain ⟨b3, c3, rfl, rfl⟩ := hd; conv => whnf)) | (refine g_op ?_; conv => whnf) | (refine And.intro ?_ ?_; (focus exact au0); conv => whnf) | (refine g_seq ?_) | (refine XS.go ?_) | (refine g_ops ?_) | ((first | refine g_nil ?_ | refine g_ret ?_ | refine r_t ?_ | refine r_nil ?_ | refine fun _ => ?_); conv => whnf) | fail)
  exact ⟨_, _, rfl, rfl⟩
end Go.Ab
