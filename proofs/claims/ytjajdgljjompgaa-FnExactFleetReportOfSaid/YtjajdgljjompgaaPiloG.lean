/- Steps towards the law: contracts of functions and facts of lists. -/
import Derived.Test.YtjajdgljjompgaaPiloMS
import Derived.Test.YtjajdgljjompgaaRows
set_option linter.unusedSimpArgs false
set_option linter.unusedVariables false
namespace Go.Ab
open Go Go.RowKit Go.Proofs
attribute [local irreducible] XC Rdr IntKind.wrap xw xos xqs xr xd
set_option maxRecDepth 100000

/-- laws.eqFleetRan -/
def cf91 : CF := ⟨20, [.t 4],
  (.seq (.ops [⟨some 2, .bx (.t 0), none⟩,
    ⟨some 3, .bx (.t 1), none⟩,
    ⟨some 4, .mv (.k (.bool false)), none⟩])
  (.seq (.seq (.ops [⟨some 5, .fa 0 1 0 (.t 2), none⟩,
    ⟨some 6, .ld 1 false (.t 5), none⟩,
    ⟨some 7, .fa 0 1 0 (.t 3), none⟩,
    ⟨some 8, .ld 1 false (.t 7), none⟩,
    ⟨some 9, .bin .neq (.t 6) (.t 8), none⟩])
  (.cond (.t 9)
  (.seq (.ops [⟨some 4, .mv (.k (.bool false)), none⟩])
  .ret)
  .skip))
  (.seq (.seq (.ops [⟨some 10, .fa 1 1 1 (.t 2), none⟩,
    ⟨some 11, .ld 1 false (.t 10), none⟩,
    ⟨some 12, .fa 1 1 1 (.t 3), none⟩,
    ⟨some 13, .ld 1 false (.t 12), none⟩,
    ⟨some 14, .bin .neq (.t 11) (.t 13), none⟩])
  (.cond (.t 14)
  (.seq (.ops [⟨some 4, .mv (.k (.bool false)), none⟩])
  .ret)
  .skip))
  (.seq (.seq (.ops [⟨some 15, .fa 2 1 2 (.t 2), none⟩,
    ⟨some 16, .ld 1 false (.t 15), none⟩,
    ⟨some 17, .fa 2 1 2 (.t 3), none⟩,
    ⟨some 18, .ld 1 false (.t 17), none⟩,
    ⟨some 19, .bin .neq (.t 16) (.t 18), none⟩])
  (.cond (.t 19)
  (.seq (.ops [⟨some 4, .mv (.k (.bool false)), none⟩])
  .ret)
  .skip))
  (.seq (.ops [⟨some 4, .mv (.k (.bool true)), none⟩])
  .ret)))))⟩
theorem c91 : compileF Try.prog [] 91 = some cf91 := by kernel_rfl
/-- laws.eqFleetRanS -/
def cf50 : CF := ⟨27, [.t 4],
  (.seq (.ops [⟨some 4, .mv (.k (.bool false)), none⟩])
  (.seq (.seq (.ops [⟨some 6, .mv (.t 0), none⟩,
    ⟨some 7, .lenl (.t 6), none⟩,
    ⟨some 8, .mv (.t 1), none⟩,
    ⟨some 9, .lenl (.t 8), none⟩,
    ⟨some 10, .bin .neq (.t 7) (.t 9), none⟩])
  (.cond (.t 10)
  (.seq (.ops [⟨some 4, .mv (.k (.bool false)), none⟩])
  .ret)
  .skip))
  (.seq (.seq (.ops [⟨some 5, .mv (.k (.int .i64 0)), none⟩])
  (.block 0 (.loop (.seq (.seq (.ops [⟨some 11, .mv (.t 5), none⟩,
    ⟨some 12, .mv (.t 0), none⟩,
    ⟨some 13, .lenl (.t 12), none⟩,
    ⟨some 14, .bin .lss (.t 11) (.t 13), none⟩])
  (.cond (.t 14)
  .skip
  (.exit 0)))
  (.seq (.block 1 (.seq (.quiet [⟨some 17, .mv (.t 0), none⟩,
    ⟨some 18, .mv (.t 5), none⟩,
    ⟨some 19, .ix 3 (.t 17) (.t 18), none⟩,
    ⟨some 20, .ld 3 true (.t 19), none⟩,
    ⟨some 21, .mv (.t 1), none⟩,
    ⟨some 22, .mv (.t 5), none⟩,
    ⟨some 23, .ix 3 (.t 21) (.t 22), none⟩,
    ⟨some 24, .ld 3 true (.t 23), none⟩,
    ⟨some 25, .call 91 [(.t 20), (.t 24)], none⟩,
    ⟨some 26, .not (.t 25), none⟩])
  (.cond (.t 26)
  (.seq (.ops [⟨some 4, .mv (.k (.bool false)), none⟩])
  .ret)
  .skip)))
  (.ops [⟨some 15, .mv (.t 5), none⟩,
    ⟨some 16, .bin .add (.t 15) (.k (.int .i64 1)), none⟩,
    ⟨some 5, .mv (.t 16), none⟩]))))))
  (.seq (.ops [⟨some 4, .mv (.k (.bool true)), none⟩])
  .ret))))⟩
theorem c50 : compileF Try.prog [] 50 = some cf50 := by kernel_rfl
/-- laws.eqFleetReport -/
def cf24 : CF := ⟨21, [.t 4],
  (.seq (.ops [⟨some 2, .bx (.t 0), none⟩,
    ⟨some 3, .bx (.t 1), none⟩,
    ⟨some 4, .mv (.k (.bool false)), none⟩])
  (.seq (.seq (.ops [⟨some 5, .fa 0 1 0 (.t 2), none⟩,
    ⟨some 6, .ld 1 false (.t 5), none⟩,
    ⟨some 7, .fa 0 1 0 (.t 3), none⟩,
    ⟨some 8, .ld 1 false (.t 7), none⟩,
    ⟨some 9, .bin .neq (.t 6) (.t 8), none⟩])
  (.cond (.t 9)
  (.seq (.ops [⟨some 4, .mv (.k (.bool false)), none⟩])
  .ret)
  .skip))
  (.seq (.seq (.ops [⟨some 10, .fa 1 1 1 (.t 2), none⟩,
    ⟨some 11, .ld 1 false (.t 10), none⟩,
    ⟨some 12, .fa 1 1 1 (.t 3), none⟩,
    ⟨some 13, .ld 1 false (.t 12), none⟩,
    ⟨some 14, .bin .neq (.t 11) (.t 13), none⟩])
  (.cond (.t 14)
  (.seq (.ops [⟨some 4, .mv (.k (.bool false)), none⟩])
  .ret)
  .skip))
  (.seq (.seq (.ops [⟨some 15, .fa 2 1 2 (.t 2), none⟩,
    ⟨some 16, .ld 1 false (.t 15), none⟩,
    ⟨some 17, .fa 2 1 2 (.t 3), none⟩,
    ⟨some 18, .ld 1 false (.t 17), none⟩,
    ⟨some 19, .call 50 [(.t 16), (.t 18)], none⟩,
    ⟨some 20, .not (.t 19), none⟩])
  (.cond (.t 20)
  (.seq (.ops [⟨some 4, .mv (.k (.bool false)), none⟩])
  .ret)
  .skip))
  (.seq (.ops [⟨some 4, .mv (.k (.bool true)), none⟩])
  .ret)))))⟩
theorem c24 : compileF Try.prog [] 24 = some cf24 := by kernel_rfl
structure FleetRan where
  fCopy : ByteArray
  fVersion : Int
  fState : Int
def FleetRan.D (x : FleetRan) : D := .agg [.str x.fCopy, .int .i64 x.fVersion, .int .i64 x.fState]
instance : Inhabited FleetRan := ⟨⟨⟨#[]⟩, 0, 0⟩⟩
structure FleetRan.wf (x : FleetRan) : Prop where
  fCopy : x.fCopy.size ≤ 9223372036854775807
structure FleetRan.small (x : FleetRan) : Prop where
theorem FleetRan.len (x : FleetRan) : x.D.len = 3 := rfl
theorem args_FleetRan {d : D} (h : Has (.st [.str, .int .i64, .int .i64]) d) : ∃ x : FleetRan, d = x.D ∧ x.wf := by
  rw [Has] at h
  obtain ⟨_, rfl, h⟩ := h
  simp only [HasF] at h
  obtain ⟨_, _, rfl, hCopy, _, _, rfl, hVersion, _, _, rfl, hState, rfl⟩ := h
  rw [Has] at hCopy
  obtain ⟨vCopy, rfl, wCopy⟩ := hCopy
  rw [Has] at hVersion
  obtain ⟨vVersion, rfl, _⟩ := hVersion
  rw [Has] at hState
  obtain ⟨vState, rfl, _⟩ := hState
  exact ⟨⟨vCopy, vVersion, vState⟩, rfl, ⟨wCopy⟩⟩
theorem eq_FleetRan (x : FleetRan) (hs : x.small) : Rdr Try.prog 91 [x.D, x.D] (.bool true) := by
  refine Rdr.intro' hm c91 (Nat.le_of_ble_eq_true rfl) ?_
  conv => whnf
  repeat' (first | (refine g_op ?_; conv => whnf) | (refine And.intro ?_ ?_; (focus (first | exact rfl | exact Nat.le_of_ble_eq_true rfl | decide | omega | fail)); conv => whnf) | (refine g_seq ?_) | (refine XS.go ?_) | (refine g_ops ?_) | (refine g_nil ?_; conv => whnf) | (refine g_cond ?_; conv => whnf) | (refine g_skip ?_; conv => whnf) | (refine g_ret ?_; conv => whnf) | (refine r_t ?_; conv => whnf) | (refine r_nil ?_; conv => whnf) | (refine fun _ => ?_; conv => whnf) | (refine Br.f (by simp) ?_; conv => whnf) | fail)
  all_goals rfl
theorem args_FleetRanS {d : D} (h : Has (.sl 3 (.st [.str, .int .i64, .int .i64])) d) : ∃ l : (List FleetRan), d = .ro 3 (l.map FleetRan.D) ∧ l.length ≤ 9223372036854775807 ∧ ∀ y ∈ l, y.wf := by
  rw [Has] at h
  obtain ⟨ds, rfl, hm, hd⟩ := h
  have : ∃ l : (List FleetRan), ds = l.map FleetRan.D ∧ ∀ y ∈ l, y.wf := by
    clear hm
    induction ds with
    | nil => exact ⟨[], rfl, by simp⟩
    | cons d ds ih =>
      obtain ⟨l, rfl, hl⟩ := ih (fun x hx => hd x (List.mem_cons_of_mem _ hx))
      obtain ⟨v, rfl, wv⟩ : ∃ v : FleetRan, d = FleetRan.D v ∧ v.wf := args_FleetRan (hd _ (List.mem_cons_self ..))
      exact ⟨v :: l, rfl, fun y hy => by rcases List.mem_cons.1 hy with rfl | hy <;> first | exact wv | exact hl y hy⟩
  obtain ⟨l, rfl, hl⟩ := this
  exact ⟨l, rfl, by rw [List.length_map] at hm; exact hm, hl⟩
theorem eq_FleetRanS (l : (List FleetRan)) (hs : l.length ≤ 1048576 ∧ ∀ y ∈ l, y.small) : Rdr Try.prog 50 [.ro 3 (l.map FleetRan.D), .ro 3 (l.map FleetRan.D)] (.bool true) :=
  eqS_rdr hm c50 (by decide) (by rw [List.length_map]; exact Nat.le_trans hs.1 (by decide)) (fun d hd => by obtain ⟨x, hx, rfl⟩ := List.mem_map.1 hd; exact ⟨_, rfl, rfl, eq_FleetRan x (hs.2 x hx)⟩)
structure FleetReport where
  fBerth : ByteArray
  fSeen : Int
  fRuns : (List FleetRan)
def FleetReport.D (x : FleetReport) : D := .agg [.str x.fBerth, .int .i64 x.fSeen, .ro 3 (x.fRuns.map FleetRan.D)]
instance : Inhabited FleetReport := ⟨⟨⟨#[]⟩, 0, []⟩⟩
structure FleetReport.wf (x : FleetReport) : Prop where
  fBerth : x.fBerth.size ≤ 9223372036854775807
  fRuns : x.fRuns.length ≤ 9223372036854775807 ∧ ∀ y ∈ x.fRuns, y.wf
structure FleetReport.small (x : FleetReport) : Prop where
  fRuns : x.fRuns.length ≤ 1048576 ∧ ∀ y ∈ x.fRuns, y.small
theorem FleetReport.len (x : FleetReport) : x.D.len = 3 := rfl
theorem args_FleetReport {d : D} (h : Has (.st [.str, .int .i64, .sl 3 (.st [.str, .int .i64, .int .i64])]) d) : ∃ x : FleetReport, d = x.D ∧ x.wf := by
  rw [Has] at h
  obtain ⟨_, rfl, h⟩ := h
  simp only [HasF] at h
  obtain ⟨_, _, rfl, hBerth, _, _, rfl, hSeen, _, _, rfl, hRuns, rfl⟩ := h
  rw [Has] at hBerth
  obtain ⟨vBerth, rfl, wBerth⟩ := hBerth
  rw [Has] at hSeen
  obtain ⟨vSeen, rfl, _⟩ := hSeen
  obtain ⟨vRuns, rfl, wRuns⟩ := args_FleetRanS hRuns
  exact ⟨⟨vBerth, vSeen, vRuns⟩, rfl, ⟨wBerth, wRuns⟩⟩
theorem eq_FleetReport (x : FleetReport) (hs : x.small) : Rdr Try.prog 24 [x.D, x.D] (.bool true) := by
  refine Rdr.intro' hm c24 (Nat.le_of_ble_eq_true rfl) ?_
  conv => whnf
  repeat' (first | (refine g_op ?_; conv => whnf) | (refine And.intro ?_ ?_; (focus (first | exact rfl | exact Nat.le_of_ble_eq_true rfl | decide | omega | fail)); conv => whnf) | (refine g_seq ?_) | (refine XS.go ?_) | (refine g_ops ?_) | (refine g_nil ?_; conv => whnf) | (refine Br.f ?_ ?_; (focus (first | assumption | exact rfl)); conv => whnf) | (refine g_cond ?_; conv => whnf) | (refine g_skip ?_; conv => whnf) | (refine g_ret ?_; conv => whnf) | (refine r_t ?_; conv => whnf) | (refine r_nil ?_; conv => whnf) | (refine fun _ => ?_; conv => whnf) | (refine Br.f (by simp) ?_; conv => whnf) | (refine XCL.of_rdr (eq_FleetRanS x.fRuns hs.fRuns) ?_; conv => whnf) | fail)
  all_goals rfl
/-- impl.FleetReportOf -/
def cf23 : CF := ⟨14, [.c 2 3 true],
  (.seq (.ops [⟨some 1, .bx (.t 0), none⟩,
    ⟨some 2, .al (.agg [.str ⟨#[]⟩, .int .i64 0, .nil]), none⟩])
  (.seq (.seq (.ops [⟨some 3, .ld 9 true (.t 1), none⟩,
    ⟨some 4, .call 48 [(.t 3)], none⟩,
    ⟨some 5, .not (.t 4), none⟩,
    ⟨some 6, .mv (.t 5), none⟩,
    ⟨some 7, .fa 1 1 1 (.t 1), some (6, false)⟩,
    ⟨some 8, .ld 1 false (.t 7), some (6, false)⟩,
    ⟨some 9, .not (.t 8), some (6, false)⟩,
    ⟨some 10, .pick (.t 6) (.k (.bool true)) (.t 9), none⟩])
  (.cond (.t 10)
  (.seq (.ops [⟨some 11, .bld (.agg [.str ⟨#[]⟩, .int .i64 0, .nil]) [], none⟩,
    ⟨none, .st 3 (.t 2) (.t 11), none⟩])
  .ret)
  .skip))
  (.seq (.ops [⟨some 12, .ld 9 true (.t 1), none⟩,
    ⟨some 13, .call 49 [(.t 12)], none⟩,
    ⟨none, .st 3 (.t 2) (.t 13), none⟩])
  .ret)))⟩
theorem c23 : compileF Try.prog [] 23 = some cf23 := by kernel_rfl
/-- impl.fReportOf -/
def cf49 : CF := ⟨37, [.c 2 3 true],
  (.seq (.ops [⟨some 1, .bx (.t 0), none⟩,
    ⟨some 2, .al (.agg [.str ⟨#[]⟩, .int .i64 0, .nil]), none⟩])
  (.seq (.ops [⟨some 6, .fa 0 1 0 (.t 1), none⟩,
    ⟨some 7, .ld 1 false (.t 6), none⟩,
    ⟨some 8, .bld (.agg [.str ⟨#[]⟩, .int .i64 0, .nil]) [(0, 0, 1, (.t 7))], none⟩,
    ⟨some 3, .al (.agg [.str ⟨#[]⟩, .int .i64 0, .nil]), none⟩,
    ⟨none, .st 3 (.t 3) (.t 8), none⟩])
  (.seq (.seq (.ops [⟨some 9, .fa 3 1 3 (.t 1), none⟩,
    ⟨some 10, .ld 1 false (.t 9), none⟩])
  (.cond (.t 10)
  (.ops [⟨some 11, .fa 4 1 4 (.t 1), none⟩,
    ⟨some 12, .ld 1 false (.t 11), none⟩,
    ⟨some 13, .fa 1 1 1 (.t 3), none⟩,
    ⟨none, .st 1 (.t 13) (.t 12), none⟩])
  .skip))
  (.seq (.seq (.ops [⟨some 14, .fa 6 1 6 (.t 1), none⟩,
    ⟨some 15, .ld 1 false (.t 14), none⟩,
    ⟨some 16, .lenl (.t 15), none⟩,
    ⟨some 17, .mv (.k (.int .i64 0)), none⟩])
  (.block 0 (.loop (.seq (.ops [⟨some 18, .bin .lss (.t 17) (.t 16), none⟩])
  (.seq (.cond (.t 18)
  .skip
  (.exit 0))
  (.seq (.block 1 (.seq (.ops [⟨some 19, .ix 11 (.t 15) (.t 17), none⟩,
    ⟨some 20, .ld 11 true (.t 19), none⟩,
    ⟨some 5, .al (.agg [.agg [.str ⟨#[]⟩, .int .i64 0, .str ⟨#[]⟩, .int .i64 0, .int .i64 0, .int .i64 0, .int .i64 0], .int .i64 0, .int .i64 0, .int .i64 0, .int .i64 0]), none⟩,
    ⟨none, .st 11 (.t 5) (.t 20), none⟩])
  (.ops [⟨some 21, .fa 2 1 2 (.t 3), none⟩,
    ⟨some 22, .ld 1 false (.t 21), none⟩,
    ⟨some 23, .fa 0 7 0 (.t 5), none⟩,
    ⟨some 24, .fa 0 1 0 (.t 23), none⟩,
    ⟨some 25, .ld 1 false (.t 24), none⟩,
    ⟨some 26, .fa 0 7 0 (.t 5), none⟩,
    ⟨some 27, .fa 1 1 1 (.t 26), none⟩,
    ⟨some 28, .ld 1 false (.t 27), none⟩,
    ⟨some 29, .fa 7 1 1 (.t 5), none⟩,
    ⟨some 30, .ld 1 false (.t 29), none⟩,
    ⟨some 31, .bld (.agg [.str ⟨#[]⟩, .int .i64 0, .int .i64 0]) [(0, 0, 1, (.t 25)), (1, 1, 1, (.t 28)), (2, 2, 1, (.t 30))], none⟩,
    ⟨some 32, .bsl (.agg [.str ⟨#[]⟩, .int .i64 0, .int .i64 0]) 1 [(0, (.t 31))], none⟩,
    ⟨some 33, .app 3 32 (.t 22) (.t 32), none⟩,
    ⟨some 34, .fa 2 1 2 (.t 3), none⟩,
    ⟨none, .st 1 (.t 34) (.t 33), none⟩])))
  (.ops [⟨some 35, .bin .add (.t 17) (.k (.int .i64 1)), none⟩,
    ⟨some 17, .mv (.t 35), none⟩])))))))
  (.seq (.ops [⟨some 36, .ld 3 true (.t 3), none⟩,
    ⟨none, .st 3 (.t 2) (.t 36), none⟩])
  .ret)))))⟩
theorem c49 : compileF Try.prog [] 49 = some cf49 := by kernel_rfl
/-- spec.FleetReportOf -/
def cf21 : CF := ⟨51, [.c 2 3 true],
  (.seq (.ops [⟨some 1, .bx (.t 0), none⟩,
    ⟨some 2, .al (.agg [.str ⟨#[]⟩, .int .i64 0, .nil]), none⟩])
  (.seq (.ops [⟨some 6, .bld (.agg [.str ⟨#[]⟩, .int .i64 0, .nil]) [], none⟩,
    ⟨some 3, .al (.agg [.str ⟨#[]⟩, .int .i64 0, .nil]), none⟩,
    ⟨none, .st 3 (.t 3) (.t 6), none⟩])
  (.seq (.seq (.ops [⟨some 7, .ld 9 true (.t 1), none⟩,
    ⟨some 8, .call 44 [(.t 7)], none⟩,
    ⟨some 9, .not (.t 8), none⟩,
    ⟨some 10, .mv (.t 9), none⟩,
    ⟨some 11, .fa 1 1 1 (.t 1), some (10, false)⟩,
    ⟨some 12, .ld 1 false (.t 11), some (10, false)⟩,
    ⟨some 13, .not (.t 12), some (10, false)⟩,
    ⟨some 14, .pick (.t 10) (.k (.bool true)) (.t 13), none⟩])
  (.cond (.t 14)
  (.seq (.ops [⟨some 15, .ld 3 true (.t 3), none⟩,
    ⟨none, .st 3 (.t 2) (.t 15), none⟩])
  .ret)
  .skip))
  (.seq (.ops [⟨some 16, .fa 0 1 0 (.t 1), none⟩,
    ⟨some 17, .ld 1 false (.t 16), none⟩,
    ⟨some 18, .fa 0 1 0 (.t 3), none⟩,
    ⟨none, .st 1 (.t 18) (.t 17), none⟩])
  (.seq (.seq (.ops [⟨some 19, .fa 3 1 3 (.t 1), none⟩,
    ⟨some 20, .ld 1 false (.t 19), none⟩])
  (.cond (.t 20)
  (.ops [⟨some 21, .fa 4 1 4 (.t 1), none⟩,
    ⟨some 22, .ld 1 false (.t 21), none⟩,
    ⟨some 23, .fa 1 1 1 (.t 3), none⟩,
    ⟨none, .st 1 (.t 23) (.t 22), none⟩])
  .skip))
  (.seq (.seq (.ops [⟨some 4, .mv (.k (.int .i64 0)), none⟩])
  (.block 0 (.loop (.seq (.seq (.ops [⟨some 24, .mv (.t 4), none⟩,
    ⟨some 25, .fa 6 1 6 (.t 1), none⟩,
    ⟨some 26, .ld 1 false (.t 25), none⟩,
    ⟨some 27, .lenl (.t 26), none⟩,
    ⟨some 28, .bin .lss (.t 24) (.t 27), none⟩])
  (.cond (.t 28)
  .skip
  (.exit 0)))
  (.seq (.block 1 (.seq (.ops [⟨some 31, .fa 6 1 6 (.t 1), none⟩,
    ⟨some 32, .ld 1 false (.t 31), none⟩,
    ⟨some 33, .mv (.t 4), none⟩,
    ⟨some 34, .ix 11 (.t 32) (.t 33), none⟩,
    ⟨some 35, .ld 11 true (.t 34), none⟩,
    ⟨some 5, .al (.agg [.agg [.str ⟨#[]⟩, .int .i64 0, .str ⟨#[]⟩, .int .i64 0, .int .i64 0, .int .i64 0, .int .i64 0], .int .i64 0, .int .i64 0, .int .i64 0, .int .i64 0]), none⟩,
    ⟨none, .st 11 (.t 5) (.t 35), none⟩])
  (.ops [⟨some 36, .fa 2 1 2 (.t 3), none⟩,
    ⟨some 37, .ld 1 false (.t 36), none⟩,
    ⟨some 38, .fa 0 7 0 (.t 5), none⟩,
    ⟨some 39, .fa 0 1 0 (.t 38), none⟩,
    ⟨some 40, .ld 1 false (.t 39), none⟩,
    ⟨some 41, .fa 0 7 0 (.t 5), none⟩,
    ⟨some 42, .fa 1 1 1 (.t 41), none⟩,
    ⟨some 43, .ld 1 false (.t 42), none⟩,
    ⟨some 44, .fa 7 1 1 (.t 5), none⟩,
    ⟨some 45, .ld 1 false (.t 44), none⟩,
    ⟨some 46, .bld (.agg [.str ⟨#[]⟩, .int .i64 0, .int .i64 0]) [(0, 0, 1, (.t 40)), (1, 1, 1, (.t 43)), (2, 2, 1, (.t 45))], none⟩,
    ⟨some 47, .bsl (.agg [.str ⟨#[]⟩, .int .i64 0, .int .i64 0]) 1 [(0, (.t 46))], none⟩,
    ⟨some 48, .app 3 32 (.t 37) (.t 47), none⟩,
    ⟨some 49, .fa 2 1 2 (.t 3), none⟩,
    ⟨none, .st 1 (.t 49) (.t 48), none⟩])))
  (.ops [⟨some 29, .mv (.t 4), none⟩,
    ⟨some 30, .bin .add (.t 29) (.k (.int .i64 1)), none⟩,
    ⟨some 4, .mv (.t 30), none⟩]))))))
  (.seq (.ops [⟨some 50, .ld 3 true (.t 3), none⟩,
    ⟨none, .st 3 (.t 2) (.t 50), none⟩])
  .ret)))))))⟩
theorem c21 : compileF Try.prog [] 21 = some cf21 := by kernel_rfl
/-- laws.markFleetReport -/
def cf27 : CF := ⟨10, [.t 4],
  (.seq (.ops [⟨some 2, .bx (.t 0), none⟩,
    ⟨some 4, .mv (.k (.int .i64 0)), none⟩])
  (.seq (.ops [⟨some 5, .fa 2 1 2 (.t 2), none⟩,
    ⟨some 6, .ld 1 false (.t 5), none⟩,
    ⟨some 7, .mv (.t 1), none⟩,
    ⟨some 8, .call 57 [(.t 6), (.t 7)], none⟩,
    ⟨some 1, .mv (.t 8), none⟩])
  (.seq (.ops [⟨some 9, .mv (.t 1), none⟩,
    ⟨some 4, .mv (.t 9), none⟩])
  .ret)))⟩
theorem c27 : compileF Try.prog [] 27 = some cf27 := by kernel_rfl
/-- laws.heldFleetReport -/
def cf28 : CF := ⟨12, [.t 4],
  (.seq (.ops [⟨some 2, .bx (.t 0), none⟩,
    ⟨some 4, .mv (.k (.int .i64 0)), none⟩])
  (.seq (.ops [⟨some 5, .fa 2 1 2 (.t 2), none⟩,
    ⟨some 6, .ld 1 false (.t 5), none⟩,
    ⟨some 7, .mv (.t 1), none⟩,
    ⟨some 8, .call 58 [(.t 6), (.t 7)], none⟩,
    ⟨some 1, .mv (.t 8), none⟩])
  (.seq (.seq (.ops [⟨some 9, .mv (.t 1), none⟩,
    ⟨some 10, .bin .lss (.t 9) (.k (.int .i64 0)), none⟩])
  (.cond (.t 10)
  (.seq (.ops [⟨some 4, .mv (.k (.int .i64 (-1))), none⟩])
  .ret)
  .skip))
  (.seq (.ops [⟨some 11, .mv (.t 1), none⟩,
    ⟨some 4, .mv (.t 11), none⟩])
  .ret))))⟩
theorem c28 : compileF Try.prog [] 28 = some cf28 := by kernel_rfl
def ranOf (r : MateRun) : FleetRan := { fCopy := r.fWant.fCopy, fVersion := r.fWant.fVersion, fState := r.fState }
def repT (x : Mate) : FleetReport := { fBerth := x.fName, fSeen := if x.fKnown = true then x.fSeen else 0, fRuns := x.fRuns.map ranOf }
def repR (x : Mate) : FleetReport := if validM x = true ∧ x.fUp = true then repT x else { fBerth := ⟨#[]⟩, fSeen := 0, fRuns := [] }
def FleetReport.O (x : FleetReport) (s b c : Nat) : Go.Ab.D := .agg [.str x.fBerth, .int .i64 x.fSeen, .lsl s b x.fRuns.length c]
def FleetReport.L (x : FleetReport) (s b c : Nat) : List Go.Ab.Loan := [(s, b, .arr 3 (x.fRuns.map FleetRan.D) c)]
theorem getD_lt {α : Type} {l : List α} {d : α} {i : Nat} (h : i < l.length) : l.getD i d = l[i] := by rw [List.getD_eq_getElem?_getD, List.getElem?_eq_getElem h]; rfl
/-- A slice in a box that is nil is an owned row without room. -/
theorem XS.ownB {P : Program} {n : Nat} {st : St} {cc : CC} {Q : Post} (k t es : Nat) (p : List Nat) {c : D} {o : Nat} (hkt : Nat.beq k t = false) (hl : st.lc k = some c) (hmp : c.mpB = false) (hat : c.at p = some (.nil, o)) {c1 : Nat → D} (hset : ∀ b, c.set p (.lsl t b 0 0) = some (c1 b)) (h : ∀ b, XS P n cc { st with gen := upd st.gen t b, lc := upd (upd st.lc k (some (c1 b))) t (some (.arr es [] 0)) } Q) : XS P n cc st Q :=
  (h 0).ghost fun F g a w hH => by
    refine ⟨g, hH.size, hH.defers, hH.slots, fun k' d hk => ?_, hH.uin, hH.ubd, hH.uout, hH.keep⟩
    have hk' : upd (upd st.lc k (some (c1 0))) t (some (.arr es [] 0)) k' = some d := hk
    rw [upd_apply] at hk'
    split at hk'
    · simp only [Option.some.injEq] at hk'
      subst hk'
      exact ⟨[], .inl ⟨rfl, rfl, rfl⟩, List.nodup_nil, by simp, by simp, by simp⟩
    · rename_i hne
      rw [upd_apply] at hk'
      have hg : upd st.gen t 0 k' = st.gen k' := by rw [upd_apply, if_neg hne]
      split at hk'
      · rename_i e
        subst e
        simp only [Option.some.injEq] at hk'
        subst hk'
        obtain ⟨Fs, hO⟩ := hH.locs k' _ hl
        obtain ⟨cells, e1, H, hcell, hR, hFs⟩ := hO.loc.cells hmp
        obtain ⟨H1, q1, _, _⟩ := hR.at hat
        have hrc : RelC g.U w .nil ((cells.toList.drop o).take D.nil.len) := (q1).1
        obtain ⟨H2, q3, q4⟩ := hR.reset hat (nil_lsl (s := t) (b := 0) hrc) (hset 0)
        have hsub : (st.gen k' :: H2).Sublist Fs := by rw [hFs]; exact q4.cons_cons _
        refine ⟨_, ?_, hO.nd.sublist hsub, fun x hx => hO.own x (hsub.subset hx), fun x hx => hO.nu x (hsub.subset hx), fun x hx => hO.lo x (hsub.subset hx)⟩
        show LocO g.U w (upd st.gen t 0 k') (c1 0) _
        rw [hg]
        exact .of hcell q3
      · obtain ⟨Fs, hO⟩ := hH.locs k' d hk'
        refine ⟨Fs, ?_, hO.nd, hO.own, hO.nu, hO.lo⟩
        show LocO g.U w (upd st.gen t 0 k') d Fs
        rw [hg]
        exact hO.loc
set_option maxHeartbeats 8000000 in
theorem impl_RepT (x : Mate) (hs : x.small) : XC Try.prog 49 [x.D] [] (fun d ls => ∃ b c, d = (repT x).O 33 b c ∧ ls = (repT x).L 33 b c) := by
  have hl := hs.fRuns.1
  refine XC.intro' hm [33] rfl c49 (Nat.le_of_ble_eq_true rfl) ?_
  conv => whnf
  repeat' (first | (refine g_op ?_; conv => whnf) | (refine And.intro ?_ ?_; (focus (first | exact rfl | exact Nat.le_of_ble_eq_true rfl | decide | omega | fail)); conv => whnf) | (refine g_seq ?_) | (refine g_ops ?_) | (refine g_nil ?_; conv => whnf) | (refine fun _ => ?_; conv => whnf) | fail)
  refine XS.go ?_
  repeat' (first | (refine g_op ?_; conv => whnf) | (refine And.intro ?_ ?_; (focus (first | exact rfl | exact Nat.le_of_ble_eq_true rfl | decide | omega | fail)); conv => whnf) | (refine g_seq ?_) | (refine g_ops ?_) | (refine g_nil ?_; conv => whnf) | (refine fun _ => ?_; conv => whnf) | fail)
  refine XS.ownB 3 33 3 [2] rfl rfl rfl rfl (fun b => rfl) fun b => ?_
  refine XS.go ?_
  repeat' (first | (refine z_ld1 ?_; first | (refine z_ld rfl rfl rfl rfl (by first | (simp only [List.length_set]; assumption) | assumption | omega) (by first | exact elt_set (by first | assumption | (simp only [List.length_set]; assumption)) | assumption) ?_; conv => whnf) | (refine z_ld0 rfl ?_; conv => whnf)) | (refine z_op ?_ ?_; (focus exact rfl); conv => whnf) | (refine zs_ops ?_ ?_; (focus exact rfl)) | (refine z_nil fun vals => ?_; conv => whnf) | (refine And.intro ?_ ?_; (focus (first | exact rfl | exact Nat.le_of_ble_eq_true rfl | decide | omega | fail)); conv => whnf) | (refine g_seq ?_) | (refine XS.go ?_) | (refine g_cond ?_; conv => whnf) | fail)
  refine Br.mk (fun hb => ?_) (fun hb => ?_)
  · have hsn : (repT x).fSeen = x.fSeen := if_pos hb
    have hk := hb
    clear hb
    conv => whnf
    repeat' (first | (refine z_ld1 ?_; first | (refine z_ld rfl rfl rfl rfl (by first | (simp only [List.length_set]; assumption) | assumption | omega) (by first | exact elt_set (by first | assumption | (simp only [List.length_set]; assumption)) | assumption) ?_; conv => whnf) | (refine z_ld0 rfl ?_; conv => whnf)) | (refine z_st1 ?_; first | (refine z_st rfl rfl rfl (by first | (simp only [List.length_set]; assumption) | assumption | omega) (by first | exact elt_set (by first | assumption | (simp only [List.length_set]; assumption)) | assumption) rfl rfl ?_; conv => whnf) | (refine z_st0 ?_; conv => whnf)) | (refine z_op ?_ ?_; (focus exact rfl); conv => whnf) | (refine zs_ops ?_ ?_; (focus exact rfl)) | (refine z_nil fun vals => ?_; conv => whnf) | (refine And.intro ?_ ?_; (focus (first | exact rfl | exact Nat.le_of_ble_eq_true rfl | decide | omega | fail)); conv => whnf) | (refine g_seq ?_) | (refine XS.go ?_) | (refine g_loop ?_) | (refine g_block ?_) | fail)
    refine XLc.mkA (α := Nat × Nat) (fun i => i.1 ≤ x.fRuns.length ∧ i.1 ≤ i.2) (fun i => x.fRuns.length - i.1) (fun i gs => [.any, .lref 1 (gs 1) [] 0, .lref 2 (gs 2) [] 0, .lref 3 (gs 3) [] 0, .any, .any, .any, .any, .any, .any, .any, .any, .any, .any, .any, .ro 11 (x.fRuns.map MateRun.D), .int .i64 ((x.fRuns.map MateRun.D).length : Int), .int .i64 (i.1 : Int)]) (fun i gs => [(1, .agg [.str x.fName, .bool x.fUp, .int .i64 x.fClock, .bool x.fKnown, .int .i64 x.fSeen, .ro 7 (x.fWants.map MateWant.D), .ro 11 (x.fRuns.map MateRun.D), .ro 4 (x.fAsks.map MateAsk.D), .ro 4 (x.fGives.map MateAsk.D)]), (2, .agg [.str ⟨#[]⟩, .int .i64 0, .nil]), (3, .agg [.str x.fName, .int .i64 x.fSeen, .lsl 33 (gs 33) i.1 i.2]), (33, .arr 3 (((x.fRuns.take i.1).map ranOf).map FleetRan.D) i.2)]) (0, 0) ⟨Nat.zero_le _, Nat.le_refl _⟩ ?_ ?_
    · refine ⟨?_, ?_⟩
      · repeat' (first | exact True.intro | refine And.intro rfl ?_)
      · exact ⟨rfl, rfl, rfl, rfl, True.intro⟩
    intro i gs hI
    obtain ⟨i, cp⟩ := i
    obtain ⟨hi0, hi1⟩ := hI
    simp only at hi0 hi1
    dsimp only
    repeat' (first | (refine g_op ?_; conv => whnf) | (refine And.intro ?_ ?_; (focus (first | exact rfl | exact Nat.le_of_ble_eq_true rfl | decide | omega | fail)); conv => whnf) | (refine g_seq ?_) | (refine XS.go ?_) | (refine g_ops ?_) | (refine g_nil ?_; conv => whnf) | (refine g_cond ?_; conv => whnf) | fail)
    refine Br.mk (fun hb => ?_) (fun hb => ?_)
    · have hlt : i < x.fRuns.length := by simpa using hb
      clear hb
      have hmp : ∀ d, d = (ranOf (x.fRuns.getD i default)).D → ((x.fRuns.take i).map ranOf).map FleetRan.D ++ [d] = ((x.fRuns.take (i + 1)).map ranOf).map FleetRan.D := fun d h => by rw [h, List.take_succ_eq_append_getElem hlt, List.map_append, List.map_append, getD_lt hlt]; rfl
      have hln : (((x.fRuns.take i).map ranOf).map FleetRan.D).length = i := by simp; omega
      generalize hA : ((x.fRuns.take i).map ranOf).map FleetRan.D = A at hmp hln ⊢
      conv => whnf
      repeat' (first | (refine z_ld1 ?_; first | (refine z_ld rfl rfl rfl rfl (by first | (simp only [List.length_set]; assumption) | assumption | omega) (by first | exact elt_set (by first | assumption | (simp only [List.length_set]; assumption)) | assumption) ?_; conv => whnf) | (refine z_ld0 rfl ?_; conv => whnf)) | (refine z_st1 ?_; first | (refine z_st rfl rfl rfl (by first | (simp only [List.length_set]; assumption) | assumption | omega) (by first | exact elt_set (by first | assumption | (simp only [List.length_set]; assumption)) | assumption) rfl rfl ?_; conv => whnf) | (refine z_st0 ?_; conv => whnf)) | (refine z_ix1 ?_; first | (refine z_ix rfl rfl rfl rfl rfl ⟨by first | omega | (simp only [decide_eq_true_eq, Bool.not_eq_true', Bool.or_eq_false_iff, decide_eq_false_iff_not, Bool.and_eq_true, Bool.not_eq_false'] at *; omega), by first | omega | (simp only [decide_eq_true_eq, Bool.not_eq_true', Bool.or_eq_false_iff, decide_eq_false_iff_not, Bool.and_eq_true, Bool.not_eq_false'] at *; omega)⟩ ?_; conv => whnf) | (refine z_ix0 rfl rfl ?_; conv => whnf)) | (refine z_op ?_ ?_; (focus exact rfl); conv => whnf) | (refine zs_ops ?_ ?_; (focus exact rfl)) | (refine z_nil fun vals => ?_; conv => whnf) | (refine z_eff ?_; conv => whnf) | (refine And.intro ?_ ?_; (focus (first | exact rfl | exact Nat.le_of_ble_eq_true rfl | decide | omega | fail)); conv => whnf) | (refine g_seq ?_) | (refine XS.go ?_) | (refine g_skip ?_; conv => whnf) | (refine g_block ?_) | (refine fun _ => ?_; conv => whnf) | fail)
      refine ⟨?_, Nat.le_of_ble_eq_true rfl, (by decide), fun n' b' c' hn hc => ?_⟩
      · show A.length + 1 ≤ 1073741824
        omega
      have hn : n' = i + 1 := by rw [hn, hln]; rfl
      subst hn
      conv => whnf
      repeat' (first | (refine z_st1 ?_; first | (refine z_st rfl rfl rfl (by first | (simp only [List.length_set]; assumption) | assumption | omega) (by first | exact elt_set (by first | assumption | (simp only [List.length_set]; assumption)) | assumption) rfl rfl ?_; conv => whnf) | (refine z_st0 ?_; conv => whnf)) | (refine z_op ?_ ?_; (focus exact rfl); conv => whnf) | (refine z_nil fun vals => ?_; conv => whnf) | (refine g_op ?_; conv => whnf) | (refine And.intro ?_ ?_; (focus (first | exact rfl | exact Nat.le_of_ble_eq_true rfl | decide | omega | fail)); conv => whnf) | (refine XS.go ?_) | (refine g_ops ?_) | (refine g_nil ?_; conv => whnf) | fail)
      refine ⟨(i + 1, c'), ⟨by simp only; omega, by simp only; omega⟩, by simp only; omega, ?_, ?_⟩
      · have hw : IntKind.wrap .i64 ((i : Int) + 1) = ((i + 1 : Nat) : Int) := by rw [wrap_ok (by omega) (by omega)]; rfl
        repeat' (first | exact True.intro | refine And.intro (congrArg (D.int .i64) hw) ?_ | refine And.intro rfl ?_)
      · refine ⟨rfl, rfl, ?_, ?_, True.intro⟩
        · rfl
        conv => lhs; whnf
        exact congrArg (fun l => some (D.arr 3 l c')) (hmp _ rfl)
    have hi : i = x.fRuns.length := by
      have : ¬ i < x.fRuns.length := by simpa using hb
      omega
    subst hi
    rw [List.take_length]
    conv => whnf
    repeat' (first | (refine g_op ?_; conv => whnf) | (refine And.intro ?_ ?_; (focus (first | exact rfl | exact Nat.le_of_ble_eq_true rfl | decide | omega | fail)); conv => whnf) | (refine g_seq ?_) | (refine XS.go ?_) | (refine g_ops ?_) | (refine g_nil ?_; conv => whnf) | (refine g_ret ?_; conv => whnf) | (refine g_exit ?_; conv => whnf) | (refine r_c ?_; conv => whnf) | (refine r_nil ?_; conv => whnf) | fail)
    exact ⟨gs 33, cp, by show _ = D.agg [.str x.fName, .int .i64 (repT x).fSeen, .lsl 33 (gs 33) (x.fRuns.map ranOf).length cp]; rw [hsn, List.length_map]; rfl, rfl⟩
  · have hsn : (repT x).fSeen = 0 := if_neg (by rw [hb]; exact Bool.false_ne_true)
    have hk := hb
    clear hb
    conv => whnf
    repeat' (first | (refine z_ld1 ?_; first | (refine z_ld rfl rfl rfl rfl (by first | (simp only [List.length_set]; assumption) | assumption | omega) (by first | exact elt_set (by first | assumption | (simp only [List.length_set]; assumption)) | assumption) ?_; conv => whnf) | (refine z_ld0 rfl ?_; conv => whnf)) | (refine z_op ?_ ?_; (focus exact rfl); conv => whnf) | (refine zs_ops ?_ ?_; (focus exact rfl)) | (refine z_nil fun vals => ?_; conv => whnf) | (refine And.intro ?_ ?_; (focus (first | exact rfl | exact Nat.le_of_ble_eq_true rfl | decide | omega | fail)); conv => whnf) | (refine g_seq ?_) | (refine XS.go ?_) | (refine g_loop ?_) | (refine g_skip ?_; conv => whnf) | (refine g_block ?_) | fail)
    refine XLc.mkA (α := Nat × Nat) (fun i => i.1 ≤ x.fRuns.length ∧ i.1 ≤ i.2) (fun i => x.fRuns.length - i.1) (fun i gs => [.any, .lref 1 (gs 1) [] 0, .lref 2 (gs 2) [] 0, .lref 3 (gs 3) [] 0, .any, .any, .any, .any, .any, .any, .any, .any, .any, .any, .any, .ro 11 (x.fRuns.map MateRun.D), .int .i64 ((x.fRuns.map MateRun.D).length : Int), .int .i64 (i.1 : Int)]) (fun i gs => [(1, .agg [.str x.fName, .bool x.fUp, .int .i64 x.fClock, .bool x.fKnown, .int .i64 x.fSeen, .ro 7 (x.fWants.map MateWant.D), .ro 11 (x.fRuns.map MateRun.D), .ro 4 (x.fAsks.map MateAsk.D), .ro 4 (x.fGives.map MateAsk.D)]), (2, .agg [.str ⟨#[]⟩, .int .i64 0, .nil]), (3, .agg [.str x.fName, .int .i64 0, .lsl 33 (gs 33) i.1 i.2]), (33, .arr 3 (((x.fRuns.take i.1).map ranOf).map FleetRan.D) i.2)]) (0, 0) ⟨Nat.zero_le _, Nat.le_refl _⟩ ?_ ?_
    · refine ⟨?_, ?_⟩
      · repeat' (first | exact True.intro | refine And.intro rfl ?_)
      · exact ⟨rfl, rfl, rfl, rfl, True.intro⟩
    intro i gs hI
    obtain ⟨i, cp⟩ := i
    obtain ⟨hi0, hi1⟩ := hI
    simp only at hi0 hi1
    dsimp only
    repeat' (first | (refine g_op ?_; conv => whnf) | (refine And.intro ?_ ?_; (focus (first | exact rfl | exact Nat.le_of_ble_eq_true rfl | decide | omega | fail)); conv => whnf) | (refine g_seq ?_) | (refine XS.go ?_) | (refine g_ops ?_) | (refine g_nil ?_; conv => whnf) | (refine g_cond ?_; conv => whnf) | fail)
    refine Br.mk (fun hb => ?_) (fun hb => ?_)
    · have hlt : i < x.fRuns.length := by simpa using hb
      clear hb
      have hmp : ∀ d, d = (ranOf (x.fRuns.getD i default)).D → ((x.fRuns.take i).map ranOf).map FleetRan.D ++ [d] = ((x.fRuns.take (i + 1)).map ranOf).map FleetRan.D := fun d h => by rw [h, List.take_succ_eq_append_getElem hlt, List.map_append, List.map_append, getD_lt hlt]; rfl
      have hln : (((x.fRuns.take i).map ranOf).map FleetRan.D).length = i := by simp; omega
      generalize hA : ((x.fRuns.take i).map ranOf).map FleetRan.D = A at hmp hln ⊢
      conv => whnf
      repeat' (first | (refine z_ld1 ?_; first | (refine z_ld rfl rfl rfl rfl (by first | (simp only [List.length_set]; assumption) | assumption | omega) (by first | exact elt_set (by first | assumption | (simp only [List.length_set]; assumption)) | assumption) ?_; conv => whnf) | (refine z_ld0 rfl ?_; conv => whnf)) | (refine z_st1 ?_; first | (refine z_st rfl rfl rfl (by first | (simp only [List.length_set]; assumption) | assumption | omega) (by first | exact elt_set (by first | assumption | (simp only [List.length_set]; assumption)) | assumption) rfl rfl ?_; conv => whnf) | (refine z_st0 ?_; conv => whnf)) | (refine z_ix1 ?_; first | (refine z_ix rfl rfl rfl rfl rfl ⟨by first | omega | (simp only [decide_eq_true_eq, Bool.not_eq_true', Bool.or_eq_false_iff, decide_eq_false_iff_not, Bool.and_eq_true, Bool.not_eq_false'] at *; omega), by first | omega | (simp only [decide_eq_true_eq, Bool.not_eq_true', Bool.or_eq_false_iff, decide_eq_false_iff_not, Bool.and_eq_true, Bool.not_eq_false'] at *; omega)⟩ ?_; conv => whnf) | (refine z_ix0 rfl rfl ?_; conv => whnf)) | (refine z_op ?_ ?_; (focus exact rfl); conv => whnf) | (refine zs_ops ?_ ?_; (focus exact rfl)) | (refine z_nil fun vals => ?_; conv => whnf) | (refine z_eff ?_; conv => whnf) | (refine And.intro ?_ ?_; (focus (first | exact rfl | exact Nat.le_of_ble_eq_true rfl | decide | omega | fail)); conv => whnf) | (refine g_seq ?_) | (refine XS.go ?_) | (refine g_skip ?_; conv => whnf) | (refine g_block ?_) | (refine fun _ => ?_; conv => whnf) | fail)
      refine ⟨?_, Nat.le_of_ble_eq_true rfl, (by decide), fun n' b' c' hn hc => ?_⟩
      · show A.length + 1 ≤ 1073741824
        omega
      have hn : n' = i + 1 := by rw [hn, hln]; rfl
      subst hn
      conv => whnf
      repeat' (first | (refine z_st1 ?_; first | (refine z_st rfl rfl rfl (by first | (simp only [List.length_set]; assumption) | assumption | omega) (by first | exact elt_set (by first | assumption | (simp only [List.length_set]; assumption)) | assumption) rfl rfl ?_; conv => whnf) | (refine z_st0 ?_; conv => whnf)) | (refine z_op ?_ ?_; (focus exact rfl); conv => whnf) | (refine z_nil fun vals => ?_; conv => whnf) | (refine g_op ?_; conv => whnf) | (refine And.intro ?_ ?_; (focus (first | exact rfl | exact Nat.le_of_ble_eq_true rfl | decide | omega | fail)); conv => whnf) | (refine XS.go ?_) | (refine g_ops ?_) | (refine g_nil ?_; conv => whnf) | fail)
      refine ⟨(i + 1, c'), ⟨by simp only; omega, by simp only; omega⟩, by simp only; omega, ?_, ?_⟩
      · have hw : IntKind.wrap .i64 ((i : Int) + 1) = ((i + 1 : Nat) : Int) := by rw [wrap_ok (by omega) (by omega)]; rfl
        repeat' (first | exact True.intro | refine And.intro (congrArg (D.int .i64) hw) ?_ | refine And.intro rfl ?_)
      · refine ⟨rfl, rfl, ?_, ?_, True.intro⟩
        · rfl
        conv => lhs; whnf
        exact congrArg (fun l => some (D.arr 3 l c')) (hmp _ rfl)
    have hi : i = x.fRuns.length := by
      have : ¬ i < x.fRuns.length := by simpa using hb
      omega
    subst hi
    rw [List.take_length]
    conv => whnf
    repeat' (first | (refine g_op ?_; conv => whnf) | (refine And.intro ?_ ?_; (focus (first | exact rfl | exact Nat.le_of_ble_eq_true rfl | decide | omega | fail)); conv => whnf) | (refine g_seq ?_) | (refine XS.go ?_) | (refine g_ops ?_) | (refine g_nil ?_; conv => whnf) | (refine g_ret ?_; conv => whnf) | (refine g_exit ?_; conv => whnf) | (refine r_c ?_; conv => whnf) | (refine r_nil ?_; conv => whnf) | fail)
    exact ⟨gs 33, cp, by show _ = D.agg [.str x.fName, .int .i64 (repT x).fSeen, .lsl 33 (gs 33) (x.fRuns.map ranOf).length cp]; rw [hsn, List.length_map]; rfl, rfl⟩
theorem impl_Rep (x : Mate) (hs : x.small) : XC Try.prog 23 [x.D] [] (fun d ls => ∃ b c, d = (repR x).O 33 b c ∧ ls = (repR x).L 33 b c) := by
  have hq := impl_MateValid x
  cases hv : validM x with
  | false =>
    have e : repR x = { fBerth := ⟨#[]⟩, fSeen := 0, fRuns := [] } := by simp [repR, hv]
    rw [e]
    rw [hv] at hq
    refine XC.intro' hm [33] rfl c23 (Nat.le_of_ble_eq_true rfl) ?_
    conv => whnf
    repeat' (first | (refine g_op ?_; conv => whnf) | (refine And.intro ?_ ?_; (focus (first | exact rfl | exact Nat.le_of_ble_eq_true rfl | decide | omega | fail)); conv => whnf) | (refine g_seq ?_) | (refine g_ops ?_) | (refine g_nil ?_; conv => whnf) | (refine fun _ => ?_; conv => whnf) | fail)
    refine XS.go ?_
    repeat' (first | (refine g_op ?_; conv => whnf) | (refine And.intro ?_ ?_; (focus (first | exact rfl | exact Nat.le_of_ble_eq_true rfl | decide | omega | fail)); conv => whnf) | (refine g_seq ?_) | (refine g_ops ?_) | (refine g_nil ?_; conv => whnf) | (refine g_opg ?_; conv => whnf) | (refine Br.t ?_ ?_; (focus (first | assumption | exact rfl)); conv => whnf) | (refine XCL.of_rdr (hq) ?_; conv => whnf) | fail)
    refine XS.go ?_
    repeat' (first | (refine g_op ?_; conv => whnf) | (refine And.intro ?_ ?_; (focus (first | exact rfl | exact Nat.le_of_ble_eq_true rfl | decide | omega | fail)); conv => whnf) | (refine g_seq ?_) | (refine g_ops ?_) | (refine g_nil ?_; conv => whnf) | (refine Br.t ?_ ?_; (focus (first | assumption | exact rfl)); conv => whnf) | (refine g_cond ?_; conv => whnf) | fail)
    refine XS.ownB 2 33 3 [2] rfl rfl rfl rfl (fun b => rfl) fun b => ?_
    refine XS.go ?_
    repeat' (first | (refine And.intro ?_ ?_; (focus (first | exact rfl | exact Nat.le_of_ble_eq_true rfl | decide | omega | fail)); conv => whnf) | (refine g_ret ?_; conv => whnf) | (refine r_c ?_; conv => whnf) | (refine r_nil ?_; conv => whnf) | fail)
    exact ⟨b, 0, rfl, rfl⟩
  | true =>
    rw [hv] at hq
    refine XC.intro' hm [33] rfl c23 (Nat.le_of_ble_eq_true rfl) ?_
    conv => whnf
    repeat' (first | (refine g_op ?_; conv => whnf) | (refine And.intro ?_ ?_; (focus (first | exact rfl | exact Nat.le_of_ble_eq_true rfl | decide | omega | fail)); conv => whnf) | (refine g_seq ?_) | (refine XS.go ?_) | (refine g_ops ?_) | (refine g_nil ?_; conv => whnf) | (refine g_opg ?_; conv => whnf) | (refine Br.f ?_ ?_; (focus (first | assumption | exact rfl)); conv => whnf) | (refine g_cond ?_; conv => whnf) | (refine fun _ => ?_; conv => whnf) | (refine XCL.of_rdr (hq) ?_; conv => whnf) | fail)
    refine Br.mk (fun hb => ?_) (fun hb => ?_)
    · have e : repR x = { fBerth := ⟨#[]⟩, fSeen := 0, fRuns := [] } := by
        have : x.fUp = false := by simpa using hb
        simp [repR, this]
      rw [e]
      conv => whnf
      repeat' (first | (refine g_op ?_; conv => whnf) | (refine And.intro ?_ ?_; (focus (first | exact rfl | exact Nat.le_of_ble_eq_true rfl | decide | omega | fail)); conv => whnf) | (refine g_seq ?_) | (refine g_ops ?_) | (refine g_nil ?_; conv => whnf) | fail)
      refine XS.ownB 2 33 3 [2] rfl rfl rfl rfl (fun b => rfl) fun b => ?_
      refine XS.go ?_
      repeat' (first | (refine And.intro ?_ ?_; (focus (first | exact rfl | exact Nat.le_of_ble_eq_true rfl | decide | omega | fail)); conv => whnf) | (refine g_ret ?_; conv => whnf) | (refine r_c ?_; conv => whnf) | (refine r_nil ?_; conv => whnf) | fail)
      exact ⟨b, 0, rfl, rfl⟩
    · have e : repR x = repT x := by
        have : x.fUp = true := by simpa using hb
        simp [repR, hv, this]
      rw [e]
      conv => whnf
      repeat' (first | (refine g_op ?_; conv => whnf) | (refine And.intro ?_ ?_; (focus (first | exact rfl | exact Nat.le_of_ble_eq_true rfl | decide | omega | fail)); conv => whnf) | (refine g_seq ?_) | (refine XS.go ?_) | (refine g_ops ?_) | (refine g_skip ?_; conv => whnf) | fail)
      refine XCL.of_XC (ls := []) True.intro ((impl_RepT x hs).mono fun d ls h => ?_)
      obtain ⟨b, c, rfl, rfl⟩ := h
      conv => whnf
      repeat' (first | (refine g_op ?_; conv => whnf) | (refine And.intro ?_ ?_; (focus (first | exact rfl | exact Nat.le_of_ble_eq_true rfl | decide | omega | fail)); conv => whnf) | (refine XS.go ?_) | (refine g_nil ?_; conv => whnf) | (refine g_ret ?_; conv => whnf) | (refine r_c ?_; conv => whnf) | (refine r_nil ?_; conv => whnf) | fail)
      exact ⟨b, c, rfl, rfl⟩
set_option maxHeartbeats 8000000 in
theorem spec_Rep (x : Mate) (hs : x.small) : XC Try.prog 21 [x.D] [] (fun d ls => ∃ b c, d = (repR x).O 48 b c ∧ ls = (repR x).L 48 b c) := by
  have hq := spec_MateValid x
  have hl := hs.fRuns.1
  cases hv : validM x with
  | false =>
    have e : repR x = { fBerth := ⟨#[]⟩, fSeen := 0, fRuns := [] } := by simp [repR, hv]
    rw [e]
    rw [hv] at hq
    refine XC.intro' hm [48] rfl c21 (Nat.le_of_ble_eq_true rfl) ?_
    conv => whnf
    repeat' (first | (refine g_op ?_; conv => whnf) | (refine And.intro ?_ ?_; (focus (first | exact rfl | exact Nat.le_of_ble_eq_true rfl | decide | omega | fail)); conv => whnf) | (refine g_seq ?_) | (refine g_ops ?_) | (refine g_nil ?_; conv => whnf) | (refine fun _ => ?_; conv => whnf) | fail)
    refine XS.go ?_
    repeat' (first | (refine g_op ?_; conv => whnf) | (refine And.intro ?_ ?_; (focus (first | exact rfl | exact Nat.le_of_ble_eq_true rfl | decide | omega | fail)); conv => whnf) | (refine g_seq ?_) | (refine g_ops ?_) | (refine g_nil ?_; conv => whnf) | (refine fun _ => ?_; conv => whnf) | fail)
    refine XS.go ?_
    repeat' (first | (refine g_op ?_; conv => whnf) | (refine And.intro ?_ ?_; (focus (first | exact rfl | exact Nat.le_of_ble_eq_true rfl | decide | omega | fail)); conv => whnf) | (refine g_seq ?_) | (refine g_ops ?_) | (refine g_nil ?_; conv => whnf) | (refine g_opg ?_; conv => whnf) | (refine Br.t ?_ ?_; (focus (first | assumption | exact rfl)); conv => whnf) | (refine XCL.of_rdr (hq) ?_; conv => whnf) | fail)
    refine XS.ownB 3 48 3 [2] rfl rfl rfl rfl (fun b => rfl) fun b => ?_
    refine XS.go ?_
    repeat' (first | (refine g_op ?_; conv => whnf) | (refine And.intro ?_ ?_; (focus (first | exact rfl | exact Nat.le_of_ble_eq_true rfl | decide | omega | fail)); conv => whnf) | (refine g_seq ?_) | (refine XS.go ?_) | (refine g_ops ?_) | (refine g_nil ?_; conv => whnf) | (refine Br.t ?_ ?_; (focus (first | assumption | exact rfl)); conv => whnf) | (refine g_cond ?_; conv => whnf) | (refine g_ret ?_; conv => whnf) | (refine r_c ?_; conv => whnf) | (refine r_nil ?_; conv => whnf) | fail)
    exact ⟨b, 0, rfl, rfl⟩
  | true =>
    rw [hv] at hq
    refine XC.intro' hm [48] rfl c21 (Nat.le_of_ble_eq_true rfl) ?_
    conv => whnf
    repeat' (first | (refine g_op ?_; conv => whnf) | (refine And.intro ?_ ?_; (focus (first | exact rfl | exact Nat.le_of_ble_eq_true rfl | decide | omega | fail)); conv => whnf) | (refine g_seq ?_) | (refine g_ops ?_) | (refine g_nil ?_; conv => whnf) | (refine fun _ => ?_; conv => whnf) | fail)
    refine XS.go ?_
    repeat' (first | (refine g_op ?_; conv => whnf) | (refine And.intro ?_ ?_; (focus (first | exact rfl | exact Nat.le_of_ble_eq_true rfl | decide | omega | fail)); conv => whnf) | (refine g_seq ?_) | (refine g_ops ?_) | (refine g_nil ?_; conv => whnf) | (refine fun _ => ?_; conv => whnf) | fail)
    refine XS.go ?_
    repeat' (first | (refine g_op ?_; conv => whnf) | (refine And.intro ?_ ?_; (focus (first | exact rfl | exact Nat.le_of_ble_eq_true rfl | decide | omega | fail)); conv => whnf) | (refine g_seq ?_) | (refine g_ops ?_) | (refine g_nil ?_; conv => whnf) | (refine g_opg ?_; conv => whnf) | (refine Br.f ?_ ?_; (focus (first | assumption | exact rfl)); conv => whnf) | (refine XCL.of_rdr (hq) ?_; conv => whnf) | fail)
    refine XS.ownB 3 48 3 [2] rfl rfl rfl rfl (fun b => rfl) fun b => ?_
    refine XS.go ?_
    repeat' (first | (refine g_cond ?_; conv => whnf) | fail)
    refine Br.mk (fun hb => ?_) (fun hb => ?_)
    · have e : repR x = { fBerth := ⟨#[]⟩, fSeen := 0, fRuns := [] } := by
        have : x.fUp = false := by simpa using hb
        simp [repR, this]
      rw [e]
      conv => whnf
      repeat' (first | (refine g_op ?_; conv => whnf) | (refine And.intro ?_ ?_; (focus (first | exact rfl | exact Nat.le_of_ble_eq_true rfl | decide | omega | fail)); conv => whnf) | (refine g_seq ?_) | (refine XS.go ?_) | (refine g_ops ?_) | (refine g_nil ?_; conv => whnf) | (refine g_ret ?_; conv => whnf) | (refine r_c ?_; conv => whnf) | (refine r_nil ?_; conv => whnf) | fail)
      exact ⟨b, 0, rfl, rfl⟩
    have e : repR x = repT x := by
      have : x.fUp = true := by simpa using hb
      simp [repR, hv, this]
    rw [e]
    clear hb
    conv => whnf
    repeat' (first | (refine z_ld1 ?_; first | (refine z_ld rfl rfl rfl rfl (by first | (simp only [List.length_set]; assumption) | assumption | omega) (by first | exact elt_set (by first | assumption | (simp only [List.length_set]; assumption)) | assumption) ?_; conv => whnf) | (refine z_ld0 rfl ?_; conv => whnf)) | (refine z_st1 ?_; first | (refine z_st rfl rfl rfl (by first | (simp only [List.length_set]; assumption) | assumption | omega) (by first | exact elt_set (by first | assumption | (simp only [List.length_set]; assumption)) | assumption) rfl rfl ?_; conv => whnf) | (refine z_st0 ?_; conv => whnf)) | (refine z_op ?_ ?_; (focus exact rfl); conv => whnf) | (refine zs_ops ?_ ?_; (focus exact rfl)) | (refine z_nil fun vals => ?_; conv => whnf) | (refine And.intro ?_ ?_; (focus (first | exact rfl | exact Nat.le_of_ble_eq_true rfl | decide | omega | fail)); conv => whnf) | (refine g_seq ?_) | (refine XS.go ?_) | (refine g_cond ?_; conv => whnf) | (refine g_skip ?_; conv => whnf) | fail)
    refine Br.mk (fun hb => ?_) (fun hb => ?_)
    · have hsn : (repT x).fSeen = x.fSeen := if_pos hb
      have hk := hb
      clear hb
      conv => whnf
      repeat' (first | (refine z_ld1 ?_; first | (refine z_ld rfl rfl rfl rfl (by first | (simp only [List.length_set]; assumption) | assumption | omega) (by first | exact elt_set (by first | assumption | (simp only [List.length_set]; assumption)) | assumption) ?_; conv => whnf) | (refine z_ld0 rfl ?_; conv => whnf)) | (refine z_st1 ?_; first | (refine z_st rfl rfl rfl (by first | (simp only [List.length_set]; assumption) | assumption | omega) (by first | exact elt_set (by first | assumption | (simp only [List.length_set]; assumption)) | assumption) rfl rfl ?_; conv => whnf) | (refine z_st0 ?_; conv => whnf)) | (refine z_op ?_ ?_; (focus exact rfl); conv => whnf) | (refine zs_ops ?_ ?_; (focus exact rfl)) | (refine z_nil fun vals => ?_; conv => whnf) | (refine g_op ?_; conv => whnf) | (refine And.intro ?_ ?_; (focus (first | exact rfl | exact Nat.le_of_ble_eq_true rfl | decide | omega | fail)); conv => whnf) | (refine g_seq ?_) | (refine XS.go ?_) | (refine g_ops ?_) | (refine g_loop ?_) | (refine g_nil ?_; conv => whnf) | (refine g_block ?_) | fail)
      refine XLc.mkA (α := Nat × Nat) (fun i => i.1 ≤ x.fRuns.length ∧ i.1 ≤ i.2) (fun i => x.fRuns.length - i.1) (fun i gs => [.any, .lref 1 (gs 1) [] 0, .lref 2 (gs 2) [] 0, .lref 3 (gs 3) [] 0, .int .i64 (i.1 : Int)]) (fun i gs => [(1, .agg [.str x.fName, .bool x.fUp, .int .i64 x.fClock, .bool x.fKnown, .int .i64 x.fSeen, .ro 7 (x.fWants.map MateWant.D), .ro 11 (x.fRuns.map MateRun.D), .ro 4 (x.fAsks.map MateAsk.D), .ro 4 (x.fGives.map MateAsk.D)]), (2, .agg [.str ⟨#[]⟩, .int .i64 0, .nil]), (3, .agg [.str x.fName, .int .i64 x.fSeen, .lsl 48 (gs 48) i.1 i.2]), (48, .arr 3 (((x.fRuns.take i.1).map ranOf).map FleetRan.D) i.2)]) (0, 0) ⟨Nat.zero_le _, Nat.le_refl _⟩ ?_ ?_
      · refine ⟨?_, ?_⟩
        · repeat' (first | exact True.intro | refine And.intro rfl ?_)
        · exact ⟨rfl, rfl, rfl, rfl, True.intro⟩
      intro i gs hI
      obtain ⟨i, cp⟩ := i
      obtain ⟨hi0, hi1⟩ := hI
      simp only at hi0 hi1
      dsimp only
      repeat' (first | (refine z_ld1 ?_; first | (refine z_ld rfl rfl rfl rfl (by first | (simp only [List.length_set]; assumption) | assumption | omega) (by first | exact elt_set (by first | assumption | (simp only [List.length_set]; assumption)) | assumption) ?_; conv => whnf) | (refine z_ld0 rfl ?_; conv => whnf)) | (refine z_op ?_ ?_; (focus exact rfl); conv => whnf) | (refine zs_ops ?_ ?_; (focus exact rfl)) | (refine z_nil fun vals => ?_; conv => whnf) | (refine And.intro ?_ ?_; (focus (first | exact rfl | exact Nat.le_of_ble_eq_true rfl | decide | omega | fail)); conv => whnf) | (refine g_seq ?_) | (refine XS.go ?_) | (refine g_cond ?_; conv => whnf) | fail)
      refine Br.mk (fun hb => ?_) (fun hb => ?_)
      · have hlt : i < x.fRuns.length := by simpa using hb
        clear hb
        have hmp : ∀ d, d = (ranOf (x.fRuns.getD i default)).D → ((x.fRuns.take i).map ranOf).map FleetRan.D ++ [d] = ((x.fRuns.take (i + 1)).map ranOf).map FleetRan.D := fun d h => by rw [h, List.take_succ_eq_append_getElem hlt, List.map_append, List.map_append, getD_lt hlt]; rfl
        have hln : (((x.fRuns.take i).map ranOf).map FleetRan.D).length = i := by simp; omega
        generalize hA : ((x.fRuns.take i).map ranOf).map FleetRan.D = A at hmp hln ⊢
        conv => whnf
        repeat' (first | (refine z_ld1 ?_; first | (refine z_ld rfl rfl rfl rfl (by first | (simp only [List.length_set]; assumption) | assumption | omega) (by first | exact elt_set (by first | assumption | (simp only [List.length_set]; assumption)) | assumption) ?_; conv => whnf) | (refine z_ld0 rfl ?_; conv => whnf)) | (refine z_st1 ?_; first | (refine z_st rfl rfl rfl (by first | (simp only [List.length_set]; assumption) | assumption | omega) (by first | exact elt_set (by first | assumption | (simp only [List.length_set]; assumption)) | assumption) rfl rfl ?_; conv => whnf) | (refine z_st0 ?_; conv => whnf)) | (refine z_ix1 ?_; first | (refine z_ix rfl rfl rfl rfl rfl ⟨by first | omega | (simp only [decide_eq_true_eq, Bool.not_eq_true', Bool.or_eq_false_iff, decide_eq_false_iff_not, Bool.and_eq_true, Bool.not_eq_false'] at *; omega), by first | omega | (simp only [decide_eq_true_eq, Bool.not_eq_true', Bool.or_eq_false_iff, decide_eq_false_iff_not, Bool.and_eq_true, Bool.not_eq_false'] at *; omega)⟩ ?_; conv => whnf) | (refine z_ix0 rfl rfl ?_; conv => whnf)) | (refine z_op ?_ ?_; (focus exact rfl); conv => whnf) | (refine zs_ops ?_ ?_; (focus exact rfl)) | (refine z_nil fun vals => ?_; conv => whnf) | (refine z_eff ?_; conv => whnf) | (refine And.intro ?_ ?_; (focus (first | exact rfl | exact Nat.le_of_ble_eq_true rfl | decide | omega | fail)); conv => whnf) | (refine g_seq ?_) | (refine XS.go ?_) | (refine g_skip ?_; conv => whnf) | (refine g_block ?_) | (refine fun _ => ?_; conv => whnf) | fail)
        refine ⟨?_, Nat.le_of_ble_eq_true rfl, (by decide), fun n' b' c' hn hc => ?_⟩
        · show A.length + 1 ≤ 1073741824
          omega
        have hn : n' = i + 1 := by rw [hn, hln]; rfl
        subst hn
        conv => whnf
        repeat' (first | (refine z_st1 ?_; first | (refine z_st rfl rfl rfl (by first | (simp only [List.length_set]; assumption) | assumption | omega) (by first | exact elt_set (by first | assumption | (simp only [List.length_set]; assumption)) | assumption) rfl rfl ?_; conv => whnf) | (refine z_st0 ?_; conv => whnf)) | (refine z_op ?_ ?_; (focus exact rfl); conv => whnf) | (refine z_nil fun vals => ?_; conv => whnf) | (refine g_op ?_; conv => whnf) | (refine And.intro ?_ ?_; (focus (first | exact rfl | exact Nat.le_of_ble_eq_true rfl | decide | omega | fail)); conv => whnf) | (refine XS.go ?_) | (refine g_ops ?_) | (refine g_nil ?_; conv => whnf) | fail)
        refine ⟨(i + 1, c'), ⟨by simp only; omega, by simp only; omega⟩, by simp only; omega, ?_, ?_⟩
        · have hw : IntKind.wrap .i64 ((i : Int) + 1) = ((i + 1 : Nat) : Int) := by rw [wrap_ok (by omega) (by omega)]; rfl
          repeat' (first | exact True.intro | refine And.intro (congrArg (D.int .i64) hw) ?_ | refine And.intro rfl ?_)
        · refine ⟨rfl, rfl, ?_, ?_, True.intro⟩
          · rfl
          conv => lhs; whnf
          exact congrArg (fun l => some (D.arr 3 l c')) (hmp _ rfl)
      have hi : i = x.fRuns.length := by
        have : ¬ i < x.fRuns.length := by simpa using hb
        omega
      subst hi
      rw [List.take_length]
      conv => whnf
      repeat' (first | (refine g_op ?_; conv => whnf) | (refine And.intro ?_ ?_; (focus (first | exact rfl | exact Nat.le_of_ble_eq_true rfl | decide | omega | fail)); conv => whnf) | (refine g_seq ?_) | (refine XS.go ?_) | (refine g_ops ?_) | (refine g_nil ?_; conv => whnf) | (refine g_ret ?_; conv => whnf) | (refine g_exit ?_; conv => whnf) | (refine r_c ?_; conv => whnf) | (refine r_nil ?_; conv => whnf) | fail)
      exact ⟨gs 48, cp, by show _ = D.agg [.str x.fName, .int .i64 (repT x).fSeen, .lsl 48 (gs 48) (x.fRuns.map ranOf).length cp]; rw [hsn, List.length_map]; rfl, rfl⟩
    · have hsn : (repT x).fSeen = 0 := if_neg (by rw [hb]; exact Bool.false_ne_true)
      have hk := hb
      clear hb
      conv => whnf
      repeat' (first | (refine g_op ?_; conv => whnf) | (refine And.intro ?_ ?_; (focus (first | exact rfl | exact Nat.le_of_ble_eq_true rfl | decide | omega | fail)); conv => whnf) | (refine g_seq ?_) | (refine XS.go ?_) | (refine g_ops ?_) | (refine g_loop ?_) | (refine g_nil ?_; conv => whnf) | (refine g_skip ?_; conv => whnf) | (refine g_block ?_) | fail)
      refine XLc.mkA (α := Nat × Nat) (fun i => i.1 ≤ x.fRuns.length ∧ i.1 ≤ i.2) (fun i => x.fRuns.length - i.1) (fun i gs => [.any, .lref 1 (gs 1) [] 0, .lref 2 (gs 2) [] 0, .lref 3 (gs 3) [] 0, .int .i64 (i.1 : Int)]) (fun i gs => [(1, .agg [.str x.fName, .bool x.fUp, .int .i64 x.fClock, .bool x.fKnown, .int .i64 x.fSeen, .ro 7 (x.fWants.map MateWant.D), .ro 11 (x.fRuns.map MateRun.D), .ro 4 (x.fAsks.map MateAsk.D), .ro 4 (x.fGives.map MateAsk.D)]), (2, .agg [.str ⟨#[]⟩, .int .i64 0, .nil]), (3, .agg [.str x.fName, .int .i64 0, .lsl 48 (gs 48) i.1 i.2]), (48, .arr 3 (((x.fRuns.take i.1).map ranOf).map FleetRan.D) i.2)]) (0, 0) ⟨Nat.zero_le _, Nat.le_refl _⟩ ?_ ?_
      · refine ⟨?_, ?_⟩
        · repeat' (first | exact True.intro | refine And.intro rfl ?_)
        · exact ⟨rfl, rfl, rfl, rfl, True.intro⟩
      intro i gs hI
      obtain ⟨i, cp⟩ := i
      obtain ⟨hi0, hi1⟩ := hI
      simp only at hi0 hi1
      dsimp only
      repeat' (first | (refine z_ld1 ?_; first | (refine z_ld rfl rfl rfl rfl (by first | (simp only [List.length_set]; assumption) | assumption | omega) (by first | exact elt_set (by first | assumption | (simp only [List.length_set]; assumption)) | assumption) ?_; conv => whnf) | (refine z_ld0 rfl ?_; conv => whnf)) | (refine z_op ?_ ?_; (focus exact rfl); conv => whnf) | (refine zs_ops ?_ ?_; (focus exact rfl)) | (refine z_nil fun vals => ?_; conv => whnf) | (refine And.intro ?_ ?_; (focus (first | exact rfl | exact Nat.le_of_ble_eq_true rfl | decide | omega | fail)); conv => whnf) | (refine g_seq ?_) | (refine XS.go ?_) | (refine g_cond ?_; conv => whnf) | fail)
      refine Br.mk (fun hb => ?_) (fun hb => ?_)
      · have hlt : i < x.fRuns.length := by simpa using hb
        clear hb
        have hmp : ∀ d, d = (ranOf (x.fRuns.getD i default)).D → ((x.fRuns.take i).map ranOf).map FleetRan.D ++ [d] = ((x.fRuns.take (i + 1)).map ranOf).map FleetRan.D := fun d h => by rw [h, List.take_succ_eq_append_getElem hlt, List.map_append, List.map_append, getD_lt hlt]; rfl
        have hln : (((x.fRuns.take i).map ranOf).map FleetRan.D).length = i := by simp; omega
        generalize hA : ((x.fRuns.take i).map ranOf).map FleetRan.D = A at hmp hln ⊢
        conv => whnf
        repeat' (first | (refine z_ld1 ?_; first | (refine z_ld rfl rfl rfl rfl (by first | (simp only [List.length_set]; assumption) | assumption | omega) (by first | exact elt_set (by first | assumption | (simp only [List.length_set]; assumption)) | assumption) ?_; conv => whnf) | (refine z_ld0 rfl ?_; conv => whnf)) | (refine z_st1 ?_; first | (refine z_st rfl rfl rfl (by first | (simp only [List.length_set]; assumption) | assumption | omega) (by first | exact elt_set (by first | assumption | (simp only [List.length_set]; assumption)) | assumption) rfl rfl ?_; conv => whnf) | (refine z_st0 ?_; conv => whnf)) | (refine z_ix1 ?_; first | (refine z_ix rfl rfl rfl rfl rfl ⟨by first | omega | (simp only [decide_eq_true_eq, Bool.not_eq_true', Bool.or_eq_false_iff, decide_eq_false_iff_not, Bool.and_eq_true, Bool.not_eq_false'] at *; omega), by first | omega | (simp only [decide_eq_true_eq, Bool.not_eq_true', Bool.or_eq_false_iff, decide_eq_false_iff_not, Bool.and_eq_true, Bool.not_eq_false'] at *; omega)⟩ ?_; conv => whnf) | (refine z_ix0 rfl rfl ?_; conv => whnf)) | (refine z_op ?_ ?_; (focus exact rfl); conv => whnf) | (refine zs_ops ?_ ?_; (focus exact rfl)) | (refine z_nil fun vals => ?_; conv => whnf) | (refine z_eff ?_; conv => whnf) | (refine And.intro ?_ ?_; (focus (first | exact rfl | exact Nat.le_of_ble_eq_true rfl | decide | omega | fail)); conv => whnf) | (refine g_seq ?_) | (refine XS.go ?_) | (refine g_skip ?_; conv => whnf) | (refine g_block ?_) | (refine fun _ => ?_; conv => whnf) | fail)
        refine ⟨?_, Nat.le_of_ble_eq_true rfl, (by decide), fun n' b' c' hn hc => ?_⟩
        · show A.length + 1 ≤ 1073741824
          omega
        have hn : n' = i + 1 := by rw [hn, hln]; rfl
        subst hn
        conv => whnf
        repeat' (first | (refine z_st1 ?_; first | (refine z_st rfl rfl rfl (by first | (simp only [List.length_set]; assumption) | assumption | omega) (by first | exact elt_set (by first | assumption | (simp only [List.length_set]; assumption)) | assumption) rfl rfl ?_; conv => whnf) | (refine z_st0 ?_; conv => whnf)) | (refine z_op ?_ ?_; (focus exact rfl); conv => whnf) | (refine z_nil fun vals => ?_; conv => whnf) | (refine g_op ?_; conv => whnf) | (refine And.intro ?_ ?_; (focus (first | exact rfl | exact Nat.le_of_ble_eq_true rfl | decide | omega | fail)); conv => whnf) | (refine XS.go ?_) | (refine g_ops ?_) | (refine g_nil ?_; conv => whnf) | fail)
        refine ⟨(i + 1, c'), ⟨by simp only; omega, by simp only; omega⟩, by simp only; omega, ?_, ?_⟩
        · have hw : IntKind.wrap .i64 ((i : Int) + 1) = ((i + 1 : Nat) : Int) := by rw [wrap_ok (by omega) (by omega)]; rfl
          repeat' (first | exact True.intro | refine And.intro (congrArg (D.int .i64) hw) ?_ | refine And.intro rfl ?_)
        · refine ⟨rfl, rfl, ?_, ?_, True.intro⟩
          · rfl
          conv => lhs; whnf
          exact congrArg (fun l => some (D.arr 3 l c')) (hmp _ rfl)
      have hi : i = x.fRuns.length := by
        have : ¬ i < x.fRuns.length := by simpa using hb
        omega
      subst hi
      rw [List.take_length]
      conv => whnf
      repeat' (first | (refine g_op ?_; conv => whnf) | (refine And.intro ?_ ?_; (focus (first | exact rfl | exact Nat.le_of_ble_eq_true rfl | decide | omega | fail)); conv => whnf) | (refine g_seq ?_) | (refine XS.go ?_) | (refine g_ops ?_) | (refine g_nil ?_; conv => whnf) | (refine g_ret ?_; conv => whnf) | (refine g_exit ?_; conv => whnf) | (refine r_c ?_; conv => whnf) | (refine r_nil ?_; conv => whnf) | fail)
      exact ⟨gs 48, cp, by show _ = D.agg [.str x.fName, .int .i64 (repT x).fSeen, .lsl 48 (gs 48) (x.fRuns.map ranOf).length cp]; rw [hsn, List.length_map]; rfl, rfl⟩
end Go.Ab
