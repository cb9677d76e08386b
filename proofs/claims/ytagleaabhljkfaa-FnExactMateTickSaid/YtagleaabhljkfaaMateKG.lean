/- Steps towards the law: the machine, contracts of functions and facts of lists. -/
import Derived.Test.YtagleaabhljkfaaMateKF
import Derived.Test.YtagleaabhljkfaaMateFS
import Derived.Test.YtagleaabhljkfaaMateX
import Derived.Test.YtagleaabhljkfaaRows
set_option linter.unusedSimpArgs false
set_option linter.unusedVariables false
namespace Go.Ab
open Go Go.RowKit Go.Proofs
attribute [local irreducible] XC Rdr IntKind.wrap xw xos xqs xr xd
set_option maxRecDepth 100000
set_option maxHeartbeats 16000000
def cf36 : CF := ⟨93,[.c 4 9 true,.t 5],(.seq (.ops [Oo 2 (.bx (.t 0)),Oo 4 (.al (.agg [.str ⟨#[]⟩,.bool false,.int .i64 0,.bool false,.int .i64 0,.nil,.nil,.nil,.nil])),Ok 5 (.nil)]) (.seq (.ops [Oo 10 (.bsl (.agg [.int .i64 0,.str ⟨#[]⟩,.int .i64 0,.nil,.str ⟨#[]⟩,.str ⟨#[]⟩,.int .i64 0]) 0 []),Om 6 10]) (.seq (.seq (.ops [Od 11 9 2,Oc 12 45 [.t 11],Oo 13 (.not (.t 12))]) (.cond (.t 13) (.seq (.ops [Oo 14 (.bld (.agg [.str ⟨#[]⟩,.bool false,.int .i64 0,.bool false,.int .i64 0,.nil,.nil,.nil,.nil]) []),Om 15 6,Os 9 4 14,Om 5 15]) .ret) .skip)) (.seq (.ops [Od 16 9 2,Oc 17 79 [.t 16],Oo 7 (.al (.agg [.str ⟨#[]⟩,.bool false,.int .i64 0,.bool false,.int .i64 0,.nil,.nil,.nil,.nil])),Os 9 7 17]) (.seq (.seq (.ops [Om 18 1,Oc 19 80 [.t 18,(.k (.int .i64 1)),(.k (.int .i64 4))],Oo 20 (.not (.t 19))]) (.cond (.t 20) (.seq (.ops [Od 21 9 7,Om 22 6,Os 9 4 21,Om 5 22]) .ret) .skip)) (.seq (.seq (.ops [Of 23 2 7,Ol 24 23,Om 25 1,Ob 26 .add 24 25,Oo 27 (.bin .gtr (.t 26) (.k (.int .i64 1000000)))]) (.cond (.t 27) (.seq (.ops [Od 28 9 7,Oc 29 51 [.t 28,(.k (.bool true))],Os 9 7 29]) (.seq (.ops [Of 30 2 7,⟨none,.st 1 (.t 30) (.k (.int .i64 1000000)),none⟩]) (.seq (.ops [Od 31 9 7,Om 32 6,Os 9 4 31,Om 5 32]) .ret))) .skip)) (.seq (.ops [Of 33 2 7,Ol 34 33,Om 35 1,Ob 36 .add 34 35,Of 37 2 7,Os 1 37 36]) (.seq (.ops [Of 38 6 7,Ol 39 38,Of 40 2 7,Ol 41 40,Oc 42 31 [.t 39,.t 41],Of 43 6 7,Os 1 43 42]) (.seq (.seq (.ops [Of 44 1 7,Ol 45 44,Oo 46 (.not (.t 45))]) (.cond (.t 46) (.seq (.ops [Od 47 9 7,Om 48 6,Os 9 4 47,Om 5 48]) .ret) .skip)) (.seq (.seq (.ops [Of 49 3 7,Ol 50 49]) (.cond (.t 50) (.ops [Od 51 9 7,Oc 52 81 [.t 51],Os 9 7 52]) .skip)) (.seq (.ops [Od 54 9 7,Oc 55 82 [.t 54],Om 53 55,Oo 56 (.ext (.t 53) 0),Oo 57 (.ext (.t 53) 1),Os 9 7 56,Om 6 57]) (.seq (.seq (.ops [Ok 8 (.int .i64 0)]) (.block 0 (.loop (.seq (.seq (.ops [Om 58 8,Of 59 8 7,Ol 60 59,Og 61 60,Ob 62 .lss 58 61]) (.cond (.t 62) .skip (.exit 0))) (.seq (.block 1 (.seq (.ops [Of 65 8 7,Ol 66 65,Om 67 8,Ox 68 4 66 67,Od 69 4 68,Oo 9 (.al (.agg [.str ⟨#[]⟩,.str ⟨#[]⟩,.int .i64 0,.int .i64 0])),Os 4 9 69]) (.ops [Om 70 6,Of 71 0 7,Ol 72 71,Of 73 0 9,Ol 74 73,Of 75 1 9,Ol 76 75,Of 77 3 9,Ol 78 77,Oo 79 (.bld (.agg [.int .i64 0,.str ⟨#[]⟩,.int .i64 0,.nil,.str ⟨#[]⟩,.str ⟨#[]⟩,.int .i64 0]) [(0,0,1,(.k (.int .i64 4))),(1,1,1,(.t 72)),(4,4,1,(.t 74)),(5,5,1,(.t 76)),(6,6,1,(.t 78))]),Oo 80 (.bsl (.agg [.int .i64 0,.str ⟨#[]⟩,.int .i64 0,.nil,.str ⟨#[]⟩,.str ⟨#[]⟩,.int .i64 0]) 1 [(0,(.t 79))]),Oo 81 (.app 7 96 (.t 70) (.t 80)),Om 6 81]))) (.ops [Om 63 8,Oi 64 63,Om 8 64])))))) (.seq (.ops [Om 82 6,Of 83 0 7,Ol 84 83,Of 85 4 7,Ol 86 85,Oo 87 (.bld (.agg [.int .i64 0,.str ⟨#[]⟩,.int .i64 0,.nil,.str ⟨#[]⟩,.str ⟨#[]⟩,.int .i64 0]) [(0,0,1,(.k (.int .i64 6))),(1,1,1,(.t 84)),(2,2,1,(.t 86))]),Oo 88 (.bsl (.agg [.int .i64 0,.str ⟨#[]⟩,.int .i64 0,.nil,.str ⟨#[]⟩,.str ⟨#[]⟩,.int .i64 0]) 1 [(0,(.t 87))]),Oo 89 (.app 7 96 (.t 82) (.t 88)),Om 6 89]) (.seq (.ops [Od 90 9 7,Oc 91 79 [.t 90],Om 92 6,Os 9 4 91,Om 5 92]) .ret))))))))))))))⟩
theorem c36 : compileF Try.prog [] 36 = some cf36 := by kernel_rfl
theorem spec_Tick0 (m : Mate) (rate : Int) (hv : validM m = false) : Rdr Try.prog 36 [m.D, .int .i64 rate] (.tup [mateZ, .nil]) := by
 have hq := spec_MateValid m
 rw [hv] at hq
 refine Rdr.intro' hm c36 (Nat.le_of_ble_eq_true rfl) ?_
 conv => whnf
 repeat' (first | (refine g_op ?_; conv => whnf) | (refine And.intro ?_ ?_; (focus exact au0); conv => whnf) | (refine g_seq ?_) | (refine XS.go ?_) | (refine g_ops ?_) | (refine g_nil ?_; conv => whnf) | (refine Br.t ?_ ?_; (focus (first | assumption | exact rfl)); conv => whnf) | ((first | refine g_cond ?_ | refine g_ret ?_ | refine r_t ?_ | refine r_c ?_ | refine r_nil ?_ | refine fun _ => ?_ | refine XCL.of_rdr (hq) ?_); conv => whnf) | fail)
 rfl
theorem spec_Tick1 (m : Mate) (rate : Int) (hs : m.lenOk) (hv : validM m = true) (hr : inR rate 1 4 = false) : Rdr Try.prog 36 [m.D, .int .i64 rate] (.tup [m.D, .nil]) := by
 have hq := spec_MateValid m
 rw [hv] at hq
 have hc := spec_CopyL m hs
 have hi := spec_In rate 1 4
 rw [hr] at hi
 refine Rdr.intro' hm c36 (Nat.le_of_ble_eq_true rfl) ?_
 conv => whnf
 repeat' (first | (refine g_op ?_; conv => whnf) | (refine And.intro ?_ ?_; (focus exact au0); conv => whnf) | (refine g_seq ?_) | (refine XS.go ?_) | (refine g_ops ?_) | (refine g_nil ?_; conv => whnf) | (refine Br.t ?_ ?_; (focus (first | assumption | exact rfl)); conv => whnf) | (refine Br.f ?_ ?_; (focus (first | assumption | exact rfl)); conv => whnf) | ((first | refine g_cond ?_ | refine g_skip ?_ | refine g_ret ?_ | refine r_t ?_ | refine r_c ?_ | refine r_nil ?_ | refine fun _ => ?_ | refine XCL.of_rdr (hq) ?_ | refine XCL.of_rdr (hc) ?_ | refine XCL.of_rdr (hi) ?_); conv => whnf) | fail)
 rfl
def tickC (m : Mate) (rate : Int) : Mate := { fallR m true with fClock := 1000000 }
theorem spec_Tick2 (m : Mate) (rate : Int) (hs : m.small) (hl : m.lenOk) (hv : validM m = true) (hr : inR rate 1 4 = true) (hk : decide (IntKind.wrap .i64 (m.fClock + rate) > 1000000) = true) : Rdr Try.prog 36 [m.D, .int .i64 rate] (.tup [(tickC m rate).D, .nil]) := by
 have hq := spec_MateValid m
 rw [hv] at hq
 have hc := spec_CopyL m hl
 have hi := spec_In rate 1 4
 rw [hr] at hi
 have hf := spec_Fall m true hs
 unfold tickC
 generalize fallR m true = y at hf ⊢
 refine Rdr.intro' hm c36 (Nat.le_of_ble_eq_true rfl) ?_
 conv => whnf
 repeat' (first | (refine g_op ?_; conv => whnf) | (refine And.intro ?_ ?_; (focus exact au0); conv => whnf) | (refine g_seq ?_) | (refine XS.go ?_) | (refine g_ops ?_) | (refine g_nil ?_; conv => whnf) | (refine Br.t ?_ ?_; (focus (first | assumption | exact rfl)); conv => whnf) | (refine Br.f ?_ ?_; (focus (first | assumption | exact rfl)); conv => whnf) | ((first | refine g_cond ?_ | refine g_skip ?_ | refine g_ret ?_ | refine r_t ?_ | refine r_c ?_ | refine r_nil ?_ | refine fun _ => ?_ | refine XCL.of_rdr (hq) ?_ | refine XCL.of_rdr (hc) ?_ | refine XCL.of_rdr (hi) ?_ | refine XCL.of_rdr (hf) ?_); conv => whnf) | fail)
 rfl
def tickX (m : Mate) (rate : Int) : Mate := { m with fClock := IntKind.wrap .i64 (m.fClock + rate), fRuns := m.fRuns.map fun r => wdog r (IntKind.wrap .i64 (m.fClock + rate)) }
theorem spec_Tick3 (m : Mate) (rate : Int) (hl : m.lenOk) (hv : validM m = true) (hr : inR rate 1 4 = true) (hk : decide (IntKind.wrap .i64 (m.fClock + rate) > 1000000) = false) (hu : m.fUp = false) : Rdr Try.prog 36 [m.D, .int .i64 rate] (.tup [(tickX m rate).D, .nil]) := by
 have hq := spec_MateValid m
 rw [hv] at hq
 have hc := spec_CopyL m hl
 have hi := spec_In rate 1 4
 rw [hr] at hi
 have hw := spec_Watchdog m.fRuns (IntKind.wrap .i64 (m.fClock + rate)) hl.r.1
 unfold tickX
 generalize (m.fRuns.map fun r => wdog r (IntKind.wrap .i64 (m.fClock + rate))) = ys at hw ⊢
 obtain ⟨a1, a2, a3, a4, a5, a6, a7, a8, a9⟩ := m
 dsimp only at hu
 subst hu
 refine Rdr.intro' hm c36 (Nat.le_of_ble_eq_true rfl) ?_
 conv => whnf
 repeat' (first | (refine g_op ?_; conv => whnf) | (refine And.intro ?_ ?_; (focus exact au0); conv => whnf) | (refine g_seq ?_) | (refine XS.go ?_) | (refine g_ops ?_) | (refine g_nil ?_; conv => whnf) | (refine Br.t ?_ ?_; (focus (first | assumption | exact rfl)); conv => whnf) | (refine Br.f ?_ ?_; (focus (first | assumption | exact rfl)); conv => whnf) | ((first | refine g_cond ?_ | refine g_skip ?_ | refine g_ret ?_ | refine r_t ?_ | refine r_c ?_ | refine r_nil ?_ | refine fun _ => ?_ | refine XCL.of_rdr (hq) ?_ | refine XCL.of_rdr (hc) ?_ | refine XCL.of_rdr (hi) ?_ | refine XCL.of_rdr (hw) ?_); conv => whnf) | fail)
 rfl
end Go.Ab
