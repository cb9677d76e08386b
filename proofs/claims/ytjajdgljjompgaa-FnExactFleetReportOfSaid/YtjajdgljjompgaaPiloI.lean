/- Steps towards the law: contracts of functions and facts of lists. -/
import Derived.Test.YtjajdgljjompgaaPiloH
import Derived.Test.YtjajdgljjompgaaRows
set_option linter.unusedSimpArgs false
set_option linter.unusedVariables false
namespace Go.Ab
open Go Go.RowKit Go.Proofs
attribute [local irreducible] XC Rdr IntKind.wrap xw xos xqs xr xd
set_option maxRecDepth 100000

/-- laws.FnExactFleetReportOf -/
def cf7 : CF := ⟨69, [.t 2],
  (.seq (.ops [⟨some 1, .bx (.t 0), none⟩,
    ⟨some 2, .mv (.k (.bool false)), none⟩])
  (.seq (.ops [⟨some 3, .mv (.k (.int .i64 1048576)), none⟩])
  (.seq (.ops [⟨some 11, .ld 9 true (.t 1), none⟩,
    ⟨some 12, .mv (.t 3), none⟩,
    ⟨some 13, .call 20 [(.t 11), (.t 12)], none⟩,
    ⟨some 3, .mv (.t 13), none⟩])
  (.seq (.seq (.ops [⟨some 14, .mv (.t 3), none⟩,
    ⟨some 15, .bin .lss (.t 14) (.k (.int .i64 0)), none⟩])
  (.cond (.t 15)
  (.seq (.ops [⟨some 2, .mv (.k (.bool true)), none⟩])
  .ret)
  .skip))
  (.seq (.ops [⟨some 16, .ld 9 true (.t 1), none⟩,
    ⟨some 17, .call 22 [(.t 16)], none⟩,
    ⟨some 18, .call 21 [(.t 17)], none⟩,
    ⟨some 4, .al (.agg [.str ⟨#[]⟩, .int .i64 0, .nil]), none⟩,
    ⟨none, .st 3 (.t 4) (.t 18), none⟩])
  (.seq (.ops [⟨some 19, .ld 9 true (.t 1), none⟩,
    ⟨some 20, .call 22 [(.t 19)], none⟩,
    ⟨some 5, .al (.agg [.str ⟨#[]⟩, .bool false, .int .i64 0, .bool false, .int .i64 0, .nil, .nil, .nil, .nil]), none⟩,
    ⟨none, .st 9 (.t 5) (.t 20), none⟩])
  (.seq (.ops [⟨some 21, .ld 9 true (.t 5), none⟩,
    ⟨some 22, .call 23 [(.t 21)], none⟩,
    ⟨some 6, .al (.agg [.str ⟨#[]⟩, .int .i64 0, .nil]), none⟩,
    ⟨none, .st 3 (.t 6) (.t 22), none⟩])
  (.seq (.seq (.ops [⟨some 23, .ld 3 true (.t 6), none⟩,
    ⟨some 24, .ld 3 true (.t 4), none⟩,
    ⟨some 25, .call 24 [(.t 23), (.t 24)], none⟩,
    ⟨some 26, .not (.t 25), none⟩])
  (.cond (.t 26)
  (.seq (.ops [⟨some 2, .mv (.k (.bool false)), none⟩])
  .ret)
  .skip))
  (.seq (.seq (.quiet [⟨some 27, .ld 9 true (.t 5), none⟩,
    ⟨some 28, .ld 9 true (.t 1), none⟩,
    ⟨some 29, .call 22 [(.t 28)], none⟩,
    ⟨some 30, .call 25 [(.t 27), (.t 29)], none⟩,
    ⟨some 31, .not (.t 30), none⟩])
  (.cond (.t 31)
  (.seq (.ops [⟨some 2, .mv (.k (.bool false)), none⟩])
  .ret)
  .skip))
  (.seq (.ops [⟨some 7, .mv (.k (.int .i64 1)), none⟩])
  (.seq (.ops [⟨some 32, .ld 9 true (.t 5), none⟩,
    ⟨some 33, .mv (.t 7), none⟩,
    ⟨some 34, .call 26 [(.t 32), (.t 33)], none⟩,
    ⟨some 7, .mv (.t 34), none⟩])
  (.seq (.seq (.ops [⟨some 35, .mv (.t 7), none⟩,
    ⟨some 36, .bin .lss (.t 35) (.k (.int .i64 0)), none⟩,
    ⟨some 37, .mv (.t 36), none⟩,
    ⟨some 38, .ld 3 true (.t 6), some (37, false)⟩,
    ⟨some 39, .ld 3 true (.t 4), some (37, false)⟩,
    ⟨some 40, .call 24 [(.t 38), (.t 39)], some (37, false)⟩,
    ⟨some 41, .not (.t 40), some (37, false)⟩,
    ⟨some 42, .pick (.t 37) (.k (.bool true)) (.t 41), none⟩])
  (.cond (.t 42)
  (.seq (.ops [⟨some 2, .mv (.k (.bool false)), none⟩])
  .ret)
  .skip))
  (.seq (.ops [⟨some 8, .mv (.k (.int .i64 1)), none⟩])
  (.seq (.ops [⟨some 43, .ld 3 true (.t 6), none⟩,
    ⟨some 44, .mv (.t 8), none⟩,
    ⟨some 45, .call 27 [(.t 43), (.t 44)], none⟩,
    ⟨some 8, .mv (.t 45), none⟩])
  (.seq (.ops [⟨some 9, .mv (.k (.int .i64 1)), none⟩])
  (.seq (.ops [⟨some 46, .ld 3 true (.t 6), none⟩,
    ⟨some 47, .mv (.t 9), none⟩,
    ⟨some 48, .call 28 [(.t 46), (.t 47)], none⟩,
    ⟨some 9, .mv (.t 48), none⟩])
  (.seq (.seq (.ops [⟨some 49, .mv (.t 9), none⟩,
    ⟨some 50, .bin .lss (.t 49) (.k (.int .i64 0)), none⟩])
  (.cond (.t 50)
  (.seq (.ops [⟨some 2, .mv (.k (.bool false)), none⟩])
  .ret)
  .skip))
  (.seq (.seq (.ops [⟨some 51, .mv (.t 9), none⟩,
    ⟨some 52, .mv (.t 8), none⟩,
    ⟨some 53, .bin .neq (.t 51) (.t 52), none⟩])
  (.cond (.t 53)
  (.seq (.ops [⟨some 2, .mv (.k (.bool false)), none⟩])
  .ret)
  .skip))
  (.seq (.ops [⟨some 54, .ld 9 true (.t 1), none⟩,
    ⟨some 55, .call 22 [(.t 54)], none⟩,
    ⟨some 56, .call 23 [(.t 55)], none⟩,
    ⟨some 10, .al (.agg [.str ⟨#[]⟩, .int .i64 0, .nil]), none⟩,
    ⟨none, .st 3 (.t 10) (.t 56), none⟩])
  (.seq (.seq (.ops [⟨some 57, .ld 3 true (.t 10), none⟩,
    ⟨some 58, .ld 3 true (.t 4), none⟩,
    ⟨some 59, .call 24 [(.t 57), (.t 58)], none⟩,
    ⟨some 60, .not (.t 59), none⟩])
  (.cond (.t 60)
  (.seq (.ops [⟨some 2, .mv (.k (.bool false)), none⟩])
  .ret)
  .skip))
  (.seq (.ops [⟨some 9, .mv (.k (.int .i64 1)), none⟩])
  (.seq (.ops [⟨some 61, .ld 3 true (.t 6), none⟩,
    ⟨some 62, .mv (.t 9), none⟩,
    ⟨some 63, .call 28 [(.t 61), (.t 62)], none⟩,
    ⟨some 9, .mv (.t 63), none⟩])
  (.seq (.seq (.ops [⟨some 64, .mv (.t 9), none⟩,
    ⟨some 65, .bin .lss (.t 64) (.k (.int .i64 0)), none⟩])
  (.cond (.t 65)
  (.seq (.ops [⟨some 2, .mv (.k (.bool false)), none⟩])
  .ret)
  .skip))
  (.seq (.seq (.ops [⟨some 66, .mv (.t 9), none⟩,
    ⟨some 67, .mv (.t 8), none⟩,
    ⟨some 68, .bin .neq (.t 66) (.t 67), none⟩])
  (.cond (.t 68)
  (.seq (.ops [⟨some 2, .mv (.k (.bool false)), none⟩])
  .ret)
  .skip))
  (.seq (.ops [⟨some 2, .mv (.k (.bool true)), none⟩])
  .ret)))))))))))))))))))))))))⟩
theorem c7 : compileF Try.prog [] 7 = some cf7 := by kernel_rfl
theorem spec_RepG (s : Nat) (x : Mate) (hs : x.small) : XC Try.prog 21 [x.D] [] (fun d ls => ∃ b c, d = (repR x).O s b c ∧ ls = (repR x).L s b c) := by
  refine (spec_Rep x hs).ren (fun _ _ _ h => h) rfl (fun d ls ⟨b, c, h1, h2⟩ => ?_)
  subst h1 h2
  exact ⟨_, _, ⟨b, c, rfl, rfl⟩, fun _ _ _ h => HolL.ren rfl h, fun _ _ _ h => h⟩
theorem impl_RepG (s1 s2 s3 s4 t : Nat) (x : Mate) (hs : x.small) (b1 b2 b3 b4 c1 c2 c3 c4 : Nat) : XC Try.prog 23 [x.O s1 s2 s3 s4 b1 b2 b3 b4 c1 c2 c3 c4] (x.L s1 s2 s3 s4 b1 b2 b3 b4 c1 c2 c3 c4) (fun d ls => ∃ b c, d = (repR x).O t b c ∧ ls = x.L s1 s2 s3 s4 b1 b2 b3 b4 c1 c2 c3 c4 ++ (repR x).L t b c) := by
  refine (impl_RepB x hs b1 b2 b3 b4 c1 c2 c3 c4).ren (fun _ _ _ h => h) rfl (fun d ls ⟨l, h1, b, c, h2, h3⟩ => ?_)
  subst h1 h2 h3
  exact ⟨_, _, ⟨b, c, rfl, rfl⟩, fun _ _ _ h => HolL.ren rfl h, fun _ _ _ h => h⟩
theorem repR_small {x : Mate} (hs : x.small) : (repR x).small := by
  unfold repR
  split
  · exact ⟨by show (x.fRuns.map ranOf).length ≤ _; rw [List.length_map]; exact hs.fRuns.1, fun _ _ => ⟨⟩⟩
  · exact ⟨Nat.zero_le _, fun _ _ => ⟨⟩⟩
set_option maxHeartbeats 4000000 in
theorem law_Rep (x : Mate) (hw : x.wf) : Rdr Try.prog 7 [x.D] (.bool true) := by
  refine Rdr.intro' hm c7 (Nat.le_of_ble_eq_true rfl) ?_
  conv => whnf
  repeat' (first | (refine g_op ?_; conv => whnf) | (refine And.intro ?_ ?_; (focus (first | exact rfl | exact Nat.le_of_ble_eq_true rfl | decide | omega | fail)); conv => whnf) | (refine g_seq ?_) | (refine XS.go ?_) | (refine g_ops ?_) | (refine g_nil ?_; conv => whnf) | (refine fun _ => ?_; conv => whnf) | fail)
  refine XCL.ask (sz_Mate x _ hw (by decide) (by decide)) (fun d h => ?_)
  obtain ⟨n, rfl, hn⟩ := h
  conv => whnf
  repeat' (first | (refine g_op ?_; conv => whnf) | (refine And.intro ?_ ?_; (focus (first | exact rfl | exact Nat.le_of_ble_eq_true rfl | decide | omega | fail)); conv => whnf) | (refine g_seq ?_) | (refine XS.go ?_) | (refine g_ops ?_) | (refine g_nil ?_; conv => whnf) | (refine g_cond ?_; conv => whnf) | fail)
  refine Br.mk (fun hb => ?_) (fun hb => ?_)
  · conv => whnf
    repeat' (first | (refine g_op ?_; conv => whnf) | (refine And.intro ?_ ?_; (focus (first | exact rfl | exact Nat.le_of_ble_eq_true rfl | decide | omega | fail)); conv => whnf) | (refine g_seq ?_) | (refine XS.go ?_) | (refine g_ops ?_) | (refine g_nil ?_; conv => whnf) | (refine g_ret ?_; conv => whnf) | (refine r_t ?_; conv => whnf) | (refine r_nil ?_; conv => whnf) | fail)
    rfl
  have hs : x.small := (hn (Int.not_lt.1 (of_decide_eq_false hb))).2
  have hR := repR_small hs
  have hsp := spec_RepG 71 x hs
  have him := fun b1 b2 b3 b4 c1 c2 c3 c4 => impl_RepG 31 32 33 34 41 x hs b1 b2 b3 b4 c1 c2 c3 c4
  have him2 := fun b1 b2 b3 b4 c1 c2 c3 c4 => impl_RepG 61 62 63 64 51 x hs b1 b2 b3 b4 c1 c2 c3 c4
  generalize repR x = R at *
  conv => whnf
  repeat' (first | (refine g_skip ?_; conv => whnf) | fail)
  refine XS.go ?_
  repeat' (first | (refine g_op ?_; conv => whnf) | (refine And.intro ?_ ?_; (focus (first | exact rfl | exact Nat.le_of_ble_eq_true rfl | decide | omega | fail)); conv => whnf) | (refine g_seq ?_) | (refine g_ops ?_) | (refine XCL.of_rdr (to_Mate x hs) ?_; conv => whnf) | fail)
  refine XCL.of_XC (ls := []) True.intro (hsp.mono fun d ls h => ?_)
  obtain ⟨p1, q1, rfl, rfl⟩ := h
  conv => whnf
  repeat' (first | (refine g_op ?_; conv => whnf) | (refine And.intro ?_ ?_; (focus (first | exact rfl | exact Nat.le_of_ble_eq_true rfl | decide | omega | fail)); conv => whnf) | (refine g_seq ?_) | (refine XS.go ?_) | (refine g_ops ?_) | (refine g_nil ?_; conv => whnf) | (refine fun _ => ?_; conv => whnf) | fail)
  refine XCL.of_XC (ls := []) True.intro ((tox_MateG 31 32 33 34 x hs).mono fun d ls h => ?_)
  obtain ⟨b1, b2, b3, b4, rfl, rfl⟩ := h
  conv => whnf
  repeat' (first | (refine g_op ?_; conv => whnf) | (refine And.intro ?_ ?_; (focus (first | exact rfl | exact Nat.le_of_ble_eq_true rfl | decide | omega | fail)); conv => whnf) | (refine g_seq ?_) | (refine XS.go ?_) | (refine g_ops ?_) | (refine g_nil ?_; conv => whnf) | (refine fun _ => ?_; conv => whnf) | fail)
  refine XCL.of_XC (ls := x.L 31 32 33 34 b1 b2 b3 b4 _ _ _ _) ⟨rfl, rfl, rfl, rfl, rfl, rfl, rfl, rfl, rfl, rfl, rfl, rfl, True.intro⟩ ((him b1 b2 b3 b4 _ _ _ _).mono fun d ls h => ?_)
  obtain ⟨d1, e1, rfl, rfl⟩ := h
  conv => whnf
  repeat' (first | (refine g_op ?_; conv => whnf) | (refine And.intro ?_ ?_; (focus (first | exact rfl | exact Nat.le_of_ble_eq_true rfl | decide | omega | fail)); conv => whnf) | (refine g_seq ?_) | (refine XS.go ?_) | (refine g_ops ?_) | (refine g_nil ?_; conv => whnf) | (refine fun _ => ?_; conv => whnf) | fail)
  refine XCL.of_rdrB (eq_FleetReport R hR) (.cons (Bor.repO rfl rfl) (.cons (Bor.repO rfl rfl) .nil)) rfl ?_
  conv => whnf
  repeat' (first | (refine g_op ?_; conv => whnf) | (refine And.intro ?_ ?_; (focus (first | exact rfl | exact Nat.le_of_ble_eq_true rfl | decide | omega | fail)); conv => whnf) | (refine g_seq ?_) | (refine XS.go ?_) | (refine g_nil ?_; conv => whnf) | (refine Br.f ?_ ?_; (focus (first | assumption | exact rfl)); conv => whnf) | (refine g_cond ?_; conv => whnf) | (refine g_skip ?_; conv => whnf) | (refine g_quiet ?_) | (refine q_op ?_; conv => whnf) | (refine QC.of_rdr (to_Mate x hs) ?_; conv => whnf) | fail)
  refine QC.of_rdrB (eq_Mate x hs) (.cons (Bor.mateO rfl rfl rfl rfl rfl rfl rfl rfl) (.cons (Bor.refl _ _) .nil)) rfl ?_
  conv => whnf
  repeat' (first | (refine g_op ?_; conv => whnf) | (refine And.intro ?_ ?_; (focus (first | exact rfl | exact Nat.le_of_ble_eq_true rfl | decide | omega | fail)); conv => whnf) | (refine g_seq ?_) | (refine XS.go ?_) | (refine g_ops ?_) | (refine g_nil ?_; conv => whnf) | (refine Br.f ?_ ?_; (focus (first | assumption | exact rfl)); conv => whnf) | (refine g_cond ?_; conv => whnf) | (refine g_skip ?_; conv => whnf) | (refine q_op ?_; conv => whnf) | (refine q_nil ?_; conv => whnf) | fail)
  have l1 := hs.fWants.1
  have l2 := hs.fRuns.1
  have l3 := hs.fAsks.1
  have l4 := hs.fGives.1
  have m1 := hR.fRuns.1
  have hB : mkMK x 1 ≤ 50000000 := by unfold mkMK; omega
  have hB2 : 1 + (3 * R.fRuns.length : Nat) ≤ (50000000 : Int) := by omega
  have h0 : 0 ≤ mkMK x 1 := by unfold mkMK; omega
  have h2 : 0 ≤ (1 + (3 * R.fRuns.length : Nat) : Int) := by omega
  have hM0 : decide (mkMK x 1 < 0) = false := decide_eq_false (by omega)
  have hM2 : decide ((1 + (3 * R.fRuns.length : Nat) : Int) < 0) = false := decide_eq_false (by omega)
  have hmk := fun b1 b2 b3 b4 c1 c2 c3 c4 => mark_MateG 31 32 33 34 x b1 b2 b3 b4 c1 c2 c3 c4 1 (by decide) hs hB
  have hmk2 := fun b c => mark_Rep R b c 1 (by decide) hR.fRuns.1 hB2
  have hhd := held_Rep R 1 (by decide) hR.fRuns.1 hB2
  clear l1 l2 l3 l4 m1
  generalize mkMK x 1 = M at *
  generalize (1 + (3 * R.fRuns.length : Nat) : Int) = M2 at *
  refine XCL.of_XC (ls := x.L 31 32 33 34 b1 b2 b3 b4 _ _ _ _) ⟨rfl, rfl, rfl, rfl, rfl, rfl, rfl, rfl, rfl, rfl, rfl, rfl, True.intro⟩ ((hmk b1 b2 b3 b4 _ _ _ _).mono fun d ls h => ?_)
  obtain ⟨rfl, rfl⟩ := h
  conv => whnf
  repeat' (first | (refine g_op ?_; conv => whnf) | (refine And.intro ?_ ?_; (focus (first | exact rfl | exact Nat.le_of_ble_eq_true rfl | decide | omega | fail)); conv => whnf) | (refine g_seq ?_) | (refine XS.go ?_) | (refine g_ops ?_) | (refine g_nil ?_; conv => whnf) | (refine g_opg ?_; conv => whnf) | (refine Br.f ?_ ?_; (focus (first | assumption | exact rfl)); conv => whnf) | fail)
  refine XCL.of_rdrB (eq_FleetReport R hR) (.cons (Bor.repO rfl rfl) (.cons (Bor.repO rfl rfl) .nil)) rfl ?_
  conv => whnf
  repeat' (first | (refine g_op ?_; conv => whnf) | (refine And.intro ?_ ?_; (focus (first | exact rfl | exact Nat.le_of_ble_eq_true rfl | decide | omega | fail)); conv => whnf) | (refine g_seq ?_) | (refine XS.go ?_) | (refine g_ops ?_) | (refine g_nil ?_; conv => whnf) | (refine g_opg ?_; conv => whnf) | (refine Br.f ?_ ?_; (focus (first | assumption | exact rfl)); conv => whnf) | (refine g_cond ?_; conv => whnf) | (refine g_skip ?_; conv => whnf) | fail)
  refine XCL.of_XC (ls := R.L 41 d1 e1) ⟨rfl, rfl, rfl, True.intro⟩ ((hmk2 d1 e1).mono fun d ls h => ?_)
  obtain ⟨rfl, rfl⟩ := h
  conv => whnf
  repeat' (first | (refine g_op ?_; conv => whnf) | (refine And.intro ?_ ?_; (focus (first | exact rfl | exact Nat.le_of_ble_eq_true rfl | decide | omega | fail)); conv => whnf) | (refine g_seq ?_) | (refine XS.go ?_) | (refine g_ops ?_) | (refine g_nil ?_; conv => whnf) | fail)
  refine XCL.of_rdrB hhd (.cons (Bor.repM rfl rfl) (.cons (Bor.refl _ _) .nil)) rfl ?_
  conv => whnf
  repeat' (first | (refine g_op ?_; conv => whnf) | (refine And.intro ?_ ?_; (focus (first | exact rfl | exact Nat.le_of_ble_eq_true rfl | decide | omega | fail)); conv => whnf) | (refine g_seq ?_) | (refine XS.go ?_) | (refine g_ops ?_) | (refine g_nil ?_; conv => whnf) | (refine Br.f ?_ ?_; (focus (first | assumption | exact rfl)); conv => whnf) | (refine g_cond ?_; conv => whnf) | (refine g_skip ?_; conv => whnf) | fail)
  refine Br.f (by simp) ?_
  conv => whnf
  repeat' (first | (refine g_op ?_; conv => whnf) | (refine And.intro ?_ ?_; (focus (first | exact rfl | exact Nat.le_of_ble_eq_true rfl | decide | omega | fail)); conv => whnf) | (refine g_seq ?_) | (refine XS.go ?_) | (refine g_ops ?_) | (refine g_skip ?_; conv => whnf) | fail)
  refine XCL.of_XC (ls := []) True.intro ((tox_MateG 61 62 63 64 x hs).mono fun d ls h => ?_)
  obtain ⟨u1, u2, u3, u4, rfl, rfl⟩ := h
  conv => whnf
  repeat' (first | (refine g_op ?_; conv => whnf) | (refine And.intro ?_ ?_; (focus (first | exact rfl | exact Nat.le_of_ble_eq_true rfl | decide | omega | fail)); conv => whnf) | fail)
  refine XCL.of_XC (ls := x.L 61 62 63 64 u1 u2 u3 u4 _ _ _ _) ⟨rfl, rfl, rfl, rfl, rfl, rfl, rfl, rfl, rfl, rfl, rfl, rfl, True.intro⟩ ((him2 u1 u2 u3 u4 _ _ _ _).mono fun d ls h => ?_)
  obtain ⟨v1, w1, rfl, rfl⟩ := h
  conv => whnf
  repeat' (first | (refine g_op ?_; conv => whnf) | (refine And.intro ?_ ?_; (focus (first | exact rfl | exact Nat.le_of_ble_eq_true rfl | decide | omega | fail)); conv => whnf) | (refine g_seq ?_) | (refine XS.go ?_) | (refine g_ops ?_) | (refine g_nil ?_; conv => whnf) | (refine fun _ => ?_; conv => whnf) | fail)
  refine XCL.of_rdrB (eq_FleetReport R hR) (.cons (Bor.repO rfl rfl) (.cons (Bor.repO rfl rfl) .nil)) rfl ?_
  conv => whnf
  repeat' (first | (refine g_op ?_; conv => whnf) | (refine And.intro ?_ ?_; (focus (first | exact rfl | exact Nat.le_of_ble_eq_true rfl | decide | omega | fail)); conv => whnf) | (refine g_seq ?_) | (refine XS.go ?_) | (refine g_ops ?_) | (refine g_nil ?_; conv => whnf) | (refine Br.f ?_ ?_; (focus (first | assumption | exact rfl)); conv => whnf) | (refine g_cond ?_; conv => whnf) | (refine g_skip ?_; conv => whnf) | fail)
  refine XCL.of_rdrB hhd (.cons (Bor.repM rfl rfl) (.cons (Bor.refl _ _) .nil)) rfl ?_
  conv => whnf
  repeat' (first | (refine g_op ?_; conv => whnf) | (refine And.intro ?_ ?_; (focus (first | exact rfl | exact Nat.le_of_ble_eq_true rfl | decide | omega | fail)); conv => whnf) | (refine g_seq ?_) | (refine XS.go ?_) | (refine g_ops ?_) | (refine g_nil ?_; conv => whnf) | (refine Br.f ?_ ?_; (focus (first | assumption | exact rfl)); conv => whnf) | (refine g_cond ?_; conv => whnf) | (refine g_skip ?_; conv => whnf) | fail)
  refine Br.f (by simp) ?_
  conv => whnf
  repeat' (first | (refine g_op ?_; conv => whnf) | (refine And.intro ?_ ?_; (focus (first | exact rfl | exact Nat.le_of_ble_eq_true rfl | decide | omega | fail)); conv => whnf) | (refine g_seq ?_) | (refine XS.go ?_) | (refine g_ops ?_) | (refine g_nil ?_; conv => whnf) | (refine g_skip ?_; conv => whnf) | (refine g_ret ?_; conv => whnf) | (refine r_t ?_; conv => whnf) | (refine r_nil ?_; conv => whnf) | fail)
  rfl
end Go.Ab
