/- Steps towards the law: contracts of functions and facts of lists. -/
import Derived.Test.YtjajdgljjompgaaPiloU
import Derived.Test.YtjajdgljjompgaaRows
set_option linter.unusedSimpArgs false
set_option linter.unusedVariables false
namespace Go.Ab
open Go Go.RowKit Go.Proofs
attribute [local irreducible] XC Rdr IntKind.wrap xw xos xqs xr xd
set_option maxRecDepth 100000

/-- laws.FnExactPilotUsed -/
def cf6 : CF := ⟨47, [.t 4],
  (.seq (.ops [⟨some 2, .bx (.t 0), none⟩,
    ⟨some 4, .mv (.k (.bool false)), none⟩])
  (.seq (.seq (.ops [⟨some 11, .mv (.t 1), none⟩,
    ⟨some 12, .lens (.t 11), none⟩,
    ⟨some 13, .bin .gtr (.t 12) (.k (.int .i64 1048576)), none⟩])
  (.cond (.t 13)
  (.seq (.ops [⟨some 4, .mv (.k (.bool true)), none⟩])
  .ret)
  .skip))
  (.seq (.ops [⟨some 5, .mv (.k (.int .i64 1048576)), none⟩])
  (.seq (.ops [⟨some 14, .ld 4 true (.t 2), none⟩,
    ⟨some 15, .mv (.t 5), none⟩,
    ⟨some 16, .call 15 [(.t 14), (.t 15)], none⟩,
    ⟨some 5, .mv (.t 16), none⟩])
  (.seq (.seq (.ops [⟨some 17, .mv (.t 5), none⟩,
    ⟨some 18, .bin .lss (.t 17) (.k (.int .i64 0)), none⟩])
  (.cond (.t 18)
  (.seq (.ops [⟨some 4, .mv (.k (.bool true)), none⟩])
  .ret)
  .skip))
  (.seq (.ops [⟨some 20, .ld 4 true (.t 2), none⟩,
    ⟨some 21, .call 17 [(.t 20)], none⟩,
    ⟨some 22, .mv (.t 1), none⟩,
    ⟨some 23, .call 16 [(.t 21), (.t 22)], none⟩,
    ⟨some 19, .mv (.t 23), none⟩,
    ⟨some 24, .ext (.t 19) 0, none⟩,
    ⟨some 25, .ext (.t 19) 1, none⟩,
    ⟨some 6, .mv (.t 24), none⟩,
    ⟨some 7, .mv (.t 25), none⟩])
  (.seq (.ops [⟨some 26, .ld 4 true (.t 2), none⟩,
    ⟨some 27, .call 17 [(.t 26)], none⟩,
    ⟨some 8, .al (.agg [.bool false, .nil, .nil, .nil]), none⟩,
    ⟨none, .st 4 (.t 8) (.t 27), none⟩])
  (.seq (.ops [⟨some 29, .ld 4 true (.t 8), none⟩,
    ⟨some 30, .mv (.t 1), none⟩,
    ⟨some 31, .call 18 [(.t 29), (.t 30)], none⟩,
    ⟨some 28, .mv (.t 31), none⟩,
    ⟨some 32, .ext (.t 28) 0, none⟩,
    ⟨some 33, .ext (.t 28) 1, none⟩,
    ⟨some 9, .mv (.t 32), none⟩,
    ⟨some 10, .mv (.t 33), none⟩])
  (.seq (.seq (.ops [⟨some 34, .mv (.t 9), none⟩,
    ⟨some 35, .mv (.t 6), none⟩,
    ⟨some 36, .bin .neq (.t 34) (.t 35), none⟩,
    ⟨some 37, .mv (.t 36), none⟩,
    ⟨some 38, .mv (.t 10), some (37, false)⟩,
    ⟨some 39, .mv (.t 7), some (37, false)⟩,
    ⟨some 40, .bin .neq (.t 38) (.t 39), some (37, false)⟩,
    ⟨some 41, .pick (.t 37) (.k (.bool true)) (.t 40), none⟩])
  (.cond (.t 41)
  (.seq (.ops [⟨some 4, .mv (.k (.bool false)), none⟩])
  .ret)
  .skip))
  (.seq (.seq (.quiet [⟨some 42, .ld 4 true (.t 8), none⟩,
    ⟨some 43, .ld 4 true (.t 2), none⟩,
    ⟨some 44, .call 17 [(.t 43)], none⟩,
    ⟨some 45, .call 19 [(.t 42), (.t 44)], none⟩,
    ⟨some 46, .not (.t 45), none⟩])
  (.cond (.t 46)
  (.seq (.ops [⟨some 4, .mv (.k (.bool false)), none⟩])
  .ret)
  .skip))
  (.seq (.ops [⟨some 4, .mv (.k (.bool true)), none⟩])
  .ret)))))))))))⟩
theorem c6 : compileF Try.prog [] 6 = some cf6 := by kernel_rfl
set_option maxHeartbeats 4000000 in
theorem law_Used (x : PilotFleet) (name : ByteArray) (hw : x.wf) : Rdr Try.prog 6 [x.D, .str name] (.bool true) := by
  refine Rdr.intro' hm c6 (Nat.le_of_ble_eq_true rfl) ?_
  conv => whnf
  repeat' (first | (refine g_op ?_; conv => whnf) | (refine And.intro ?_ ?_; (focus (first | exact rfl | exact Nat.le_of_ble_eq_true rfl | decide | omega | fail)); conv => whnf) | (refine g_seq ?_) | (refine g_ops ?_) | (refine g_nil ?_; conv => whnf) | (refine fun _ => ?_; conv => whnf) | fail)
  refine XS.freezeB 2 rfl ?_
  repeat' (first | (refine g_op ?_; conv => whnf) | (refine And.intro ?_ ?_; (focus (first | exact rfl | exact Nat.le_of_ble_eq_true rfl | decide | omega | fail)); conv => whnf) | (refine g_seq ?_) | (refine XS.go ?_) | (refine g_ops ?_) | (refine g_nil ?_; conv => whnf) | (refine g_cond ?_; conv => whnf) | fail)
  refine Br.mk (fun hb => ?_) (fun hb => ?_)
  · conv => whnf
    repeat' (first | (refine g_op ?_; conv => whnf) | (refine And.intro ?_ ?_; (focus (first | exact rfl | exact Nat.le_of_ble_eq_true rfl | decide | omega | fail)); conv => whnf) | (refine g_seq ?_) | (refine XS.go ?_) | (refine g_ops ?_) | (refine g_nil ?_; conv => whnf) | (refine g_ret ?_; conv => whnf) | (refine r_t ?_; conv => whnf) | (refine r_nil ?_; conv => whnf) | fail)
    rfl
  clear hb
  conv => whnf
  repeat' (first | (refine g_op ?_; conv => whnf) | (refine And.intro ?_ ?_; (focus (first | exact rfl | exact Nat.le_of_ble_eq_true rfl | decide | omega | fail)); conv => whnf) | (refine g_seq ?_) | (refine XS.go ?_) | (refine g_ops ?_) | (refine g_nil ?_; conv => whnf) | (refine g_skip ?_; conv => whnf) | fail)
  refine XCL.ask (sz_PilotFleet x _ hw (by decide) (by decide)) (fun d h => ?_)
  obtain ⟨n, rfl, hn⟩ := h
  conv => whnf
  repeat' (first | (refine g_op ?_; conv => whnf) | (refine And.intro ?_ ?_; (focus (first | exact rfl | exact Nat.le_of_ble_eq_true rfl | decide | omega | fail)); conv => whnf) | (refine g_seq ?_) | (refine XS.go ?_) | (refine g_ops ?_) | (refine g_nil ?_; conv => whnf) | (refine g_cond ?_; conv => whnf) | fail)
  refine Br.mk (fun hb => ?_) (fun hb => ?_)
  · conv => whnf
    repeat' (first | (refine g_op ?_; conv => whnf) | (refine And.intro ?_ ?_; (focus (first | exact rfl | exact Nat.le_of_ble_eq_true rfl | decide | omega | fail)); conv => whnf) | (refine g_seq ?_) | (refine XS.go ?_) | (refine g_ops ?_) | (refine g_nil ?_; conv => whnf) | (refine g_ret ?_; conv => whnf) | (refine r_t ?_; conv => whnf) | (refine r_nil ?_; conv => whnf) | fail)
    rfl
  have hs := (hn (Int.not_lt.1 (of_decide_eq_false hb))).2
  have q1 := spec_Used x name hs.fBerths.1 hs.fCopies.1
  have q2 := impl_Used x name hs.fBerths.1 hs.fCopies.1
  generalize usd x name (rmG x.fCopies) = r1 at *
  generalize usd x name (hdG x.fCopies) = r2 at *
  conv => whnf
  repeat' (first | (refine g_op ?_; conv => whnf) | (refine And.intro ?_ ?_; (focus (first | exact rfl | exact Nat.le_of_ble_eq_true rfl | decide | omega | fail)); conv => whnf) | (refine g_seq ?_) | (refine XS.go ?_) | (refine g_ops ?_) | (refine g_nil ?_; conv => whnf) | (refine g_opg ?_; conv => whnf) | (refine Br.f ?_ ?_; (focus (first | assumption | exact rfl)); conv => whnf) | (refine g_cond ?_; conv => whnf) | (refine g_skip ?_; conv => whnf) | (refine g_ret ?_; conv => whnf) | (refine g_quiet ?_) | (refine q_op ?_; conv => whnf) | (refine q_nil ?_; conv => whnf) | (refine r_t ?_; conv => whnf) | (refine r_nil ?_; conv => whnf) | (refine fun _ => ?_; conv => whnf) | (refine Br.f (by simp) ?_; conv => whnf) | (refine XCL.of_rdr (to_PilotFleet x hs) ?_; conv => whnf) | (refine XCL.of_rdr (q1) ?_; conv => whnf) | (refine XCL.of_rdr (q2) ?_; conv => whnf) | (refine QC.of_rdr (to_PilotFleet x hs) ?_; conv => whnf) | (refine QC.of_rdr (eq_PilotFleet x hs) ?_; conv => whnf) | fail)
  rfl
end Go.Ab
