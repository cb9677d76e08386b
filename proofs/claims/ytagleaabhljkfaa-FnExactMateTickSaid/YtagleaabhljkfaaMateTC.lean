/- Steps towards the law: the machine, contracts of functions and facts of lists. -/
import Derived.Test.YtagleaabhljkfaaMateTB
import Derived.Test.YtagleaabhljkfaaRows
set_option linter.unusedSimpArgs false
set_option linter.unusedVariables false
namespace Go.Ab
open Go Go.RowKit Go.Proofs
attribute [local irreducible] XC Rdr IntKind.wrap xw xos xqs xr xd
set_option maxRecDepth 100000
set_option maxHeartbeats 16000000
theorem impl_CloneF0 (x : Mate) (hs : x.small) : XC Try.prog 84 [x.D] [] (fun d ls => ∃ d1 d2 d3 d4 e1 e2 e3 e4, d = x.O 5 9 13 17 d1 d2 d3 d4 e1 e2 e3 e4 ∧ ls = x.L 5 9 13 17 d1 d2 d3 d4 e1 e2 e3 e4) := by
 refine XC.intro' hm [5, 9, 13, 17] rfl c84 (Nat.le_of_ble_eq_true rfl) ?_
 have l1 := hs.fWants.1
 have l2 := hs.fRuns.1
 have l3 := hs.fAsks.1
 have l4 := hs.fGives.1
 conv => whnf
 repeat' (first | (refine g_op ?_; conv => whnf) | (refine And.intro ?_ ?_; (focus exact au0); conv => whnf) | (refine g_seq ?_) | (refine XS.go ?_) | (refine g_ops ?_) | ((first | refine g_nil ?_ | refine fun _ => ?_); conv => whnf) | fail)
 refine ⟨by show 0 + _ ≤ _; rw [List.length_map]; omega, Nat.le_of_ble_eq_true rfl, by decide, fun n1 d1 e1 hn1 hc1 => ?_⟩
 have hm1 : n1 = x.fWants.length := by rw [hn1]; show 0 + _ = _; simp
 clear hn1
 subst hm1
 conv => whnf
 repeat' (first | (refine g_op ?_; conv => whnf) | (refine And.intro ?_ ?_; (focus exact au0); conv => whnf) | (refine g_seq ?_) | (refine XS.go ?_) | (refine g_ops ?_) | (refine g_nil ?_; conv => whnf) | fail)
 refine ⟨by show 0 + _ ≤ _; rw [List.length_map]; omega, Nat.le_of_ble_eq_true rfl, by decide, fun n2 d2 e2 hn2 hc2 => ?_⟩
 have hm2 : n2 = x.fRuns.length := by rw [hn2]; show 0 + _ = _; simp
 clear hn2
 subst hm2
 conv => whnf
 repeat' (first | (refine g_op ?_; conv => whnf) | (refine And.intro ?_ ?_; (focus exact au0); conv => whnf) | (refine g_seq ?_) | (refine XS.go ?_) | (refine g_ops ?_) | (refine g_nil ?_; conv => whnf) | fail)
 refine ⟨by show 0 + _ ≤ _; rw [List.length_map]; omega, Nat.le_of_ble_eq_true rfl, by decide, fun n3 d3 e3 hn3 hc3 => ?_⟩
 have hm3 : n3 = x.fAsks.length := by rw [hn3]; show 0 + _ = _; simp
 clear hn3
 subst hm3
 conv => whnf
 repeat' (first | (refine g_op ?_; conv => whnf) | (refine And.intro ?_ ?_; (focus exact au0); conv => whnf) | (refine g_seq ?_) | (refine XS.go ?_) | (refine g_ops ?_) | (refine g_nil ?_; conv => whnf) | fail)
 refine ⟨by show 0 + _ ≤ _; rw [List.length_map]; omega, Nat.le_of_ble_eq_true rfl, by decide, fun n4 d4 e4 hn4 hc4 => ?_⟩
 have hm4 : n4 = x.fGives.length := by rw [hn4]; show 0 + _ = _; simp
 clear hn4
 subst hm4
 conv => whnf
 repeat' (first | (refine g_op ?_; conv => whnf) | (refine And.intro ?_ ?_; (focus exact au0); conv => whnf) | (refine g_seq ?_) | (refine XS.go ?_) | (refine g_ops ?_) | ((first | refine g_nil ?_ | refine g_ret ?_ | refine r_c ?_ | refine r_nil ?_); conv => whnf) | fail)
 exact ⟨d1, d2, d3, d4, e1, e2, e3, e4, rfl, rfl⟩
theorem impl_CloneF (x : Mate) (hs : x.small) : XC Try.prog 84 [x.D] [] (fun d ls => ∃ d1 d2 d3 d4 e1 e2 e3 e4, d = x.O 31 32 33 34 d1 d2 d3 d4 e1 e2 e3 e4 ∧ ls = x.L 31 32 33 34 d1 d2 d3 d4 e1 e2 e3 e4) := by
 have h : XC Try.prog 84 [x.D] [] (fun d ls => ∃ d1 d2 d3 d4 e1 e2 e3 e4, d = x.O 5 9 13 17 d1 d2 d3 d4 e1 e2 e3 e4 ∧ ls = x.L 5 9 13 17 d1 d2 d3 d4 e1 e2 e3 e4) := impl_CloneF0 x hs
 refine h.ren (fun _ _ _ h => h) rfl (fun d ls ⟨d1, d2, d3, d4, e1, e2, e3, e4, h1, h2⟩ => ?_)
 subst h1 h2
 exact ⟨_, _, ⟨d1, d2, d3, d4, e1, e2, e3, e4, rfl, rfl⟩, fun _ _ _ h => HolL.ren rfl h, fun _ _ _ h => h⟩
end Go.Ab
