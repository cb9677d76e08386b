/- Steps towards the law: contracts of functions and facts of lists. -/
import Derived.Test.YtagleaabhljkfaaMateFS
import Derived.Test.YtagleaabhljkfaaRows
set_option linter.unusedSimpArgs false
set_option linter.unusedVariables false
namespace Go.Ab
open Go Go.RowKit Go.Proofs
attribute [local irreducible] XC Rdr IntKind.wrap xw xos xqs xr xd
set_option maxRecDepth 100000

/-- laws.FnExactMateFall -/
def cf12 : CF := ⟨74, [.t 4],
  (.seq (.ops [⟨some 2, .bx (.t 0), none⟩,
    ⟨some 4, .mv (.k (.bool false)), none⟩])
  (.seq (.ops [⟨some 5, .mv (.k (.int .i64 1048576)), none⟩])
  (.seq (.ops [⟨some 13, .ld 9 true (.t 2), none⟩,
    ⟨some 14, .mv (.t 5), none⟩,
    ⟨some 15, .call 35 [(.t 13), (.t 14)], none⟩,
    ⟨some 5, .mv (.t 15), none⟩])
  (.seq (.seq (.ops [⟨some 16, .mv (.t 5), none⟩,
    ⟨some 17, .bin .lss (.t 16) (.k (.int .i64 0)), none⟩])
  (.cond (.t 17)
  (.seq (.ops [⟨some 4, .mv (.k (.bool true)), none⟩])
  .ret)
  .skip))
  (.seq (.ops [⟨some 18, .ld 9 true (.t 2), none⟩,
    ⟨some 19, .call 37 [(.t 18)], none⟩,
    ⟨some 20, .mv (.t 1), none⟩,
    ⟨some 21, .call 51 [(.t 19), (.t 20)], none⟩,
    ⟨some 6, .al (.agg [.str ⟨#[]⟩, .bool false, .int .i64 0, .bool false, .int .i64 0, .nil, .nil, .nil, .nil]), none⟩,
    ⟨none, .st 9 (.t 6) (.t 21), none⟩])
  (.seq (.ops [⟨some 22, .ld 9 true (.t 2), none⟩,
    ⟨some 23, .call 37 [(.t 22)], none⟩,
    ⟨some 7, .al (.agg [.str ⟨#[]⟩, .bool false, .int .i64 0, .bool false, .int .i64 0, .nil, .nil, .nil, .nil]), none⟩,
    ⟨none, .st 9 (.t 7) (.t 23), none⟩])
  (.seq (.ops [⟨some 24, .ld 9 true (.t 7), none⟩,
    ⟨some 25, .mv (.t 1), none⟩,
    ⟨some 26, .call 48 [(.t 24), (.t 25)], none⟩,
    ⟨some 8, .al (.agg [.str ⟨#[]⟩, .bool false, .int .i64 0, .bool false, .int .i64 0, .nil, .nil, .nil, .nil]), none⟩,
    ⟨none, .st 9 (.t 8) (.t 26), none⟩])
  (.seq (.seq (.ops [⟨some 27, .ld 9 true (.t 8), none⟩,
    ⟨some 28, .ld 9 true (.t 6), none⟩,
    ⟨some 29, .call 39 [(.t 27), (.t 28)], none⟩,
    ⟨some 30, .not (.t 29), none⟩])
  (.cond (.t 30)
  (.seq (.ops [⟨some 4, .mv (.k (.bool false)), none⟩])
  .ret)
  .skip))
  (.seq (.seq (.quiet [⟨some 31, .ld 9 true (.t 7), none⟩,
    ⟨some 32, .ld 9 true (.t 2), none⟩,
    ⟨some 33, .call 37 [(.t 32)], none⟩,
    ⟨some 34, .call 39 [(.t 31), (.t 33)], none⟩,
    ⟨some 35, .not (.t 34), none⟩])
  (.cond (.t 35)
  (.seq (.ops [⟨some 4, .mv (.k (.bool false)), none⟩])
  .ret)
  .skip))
  (.seq (.ops [⟨some 9, .mv (.k (.int .i64 1)), none⟩])
  (.seq (.ops [⟨some 36, .ld 9 true (.t 7), none⟩,
    ⟨some 37, .mv (.t 9), none⟩,
    ⟨some 38, .call 41 [(.t 36), (.t 37)], none⟩,
    ⟨some 9, .mv (.t 38), none⟩])
  (.seq (.seq (.ops [⟨some 39, .mv (.t 9), none⟩,
    ⟨some 40, .bin .lss (.t 39) (.k (.int .i64 0)), none⟩,
    ⟨some 41, .mv (.t 40), none⟩,
    ⟨some 42, .ld 9 true (.t 8), some (41, false)⟩,
    ⟨some 43, .ld 9 true (.t 6), some (41, false)⟩,
    ⟨some 44, .call 39 [(.t 42), (.t 43)], some (41, false)⟩,
    ⟨some 45, .not (.t 44), some (41, false)⟩,
    ⟨some 46, .pick (.t 41) (.k (.bool true)) (.t 45), none⟩])
  (.cond (.t 46)
  (.seq (.ops [⟨some 4, .mv (.k (.bool false)), none⟩])
  .ret)
  .skip))
  (.seq (.ops [⟨some 10, .mv (.k (.int .i64 1)), none⟩])
  (.seq (.ops [⟨some 47, .ld 9 true (.t 8), none⟩,
    ⟨some 48, .mv (.t 10), none⟩,
    ⟨some 49, .call 41 [(.t 47), (.t 48)], none⟩,
    ⟨some 10, .mv (.t 49), none⟩])
  (.seq (.ops [⟨some 11, .mv (.k (.int .i64 1)), none⟩])
  (.seq (.ops [⟨some 50, .ld 9 true (.t 8), none⟩,
    ⟨some 51, .mv (.t 11), none⟩,
    ⟨some 52, .call 43 [(.t 50), (.t 51)], none⟩,
    ⟨some 11, .mv (.t 52), none⟩])
  (.seq (.seq (.ops [⟨some 53, .mv (.t 11), none⟩,
    ⟨some 54, .bin .lss (.t 53) (.k (.int .i64 0)), none⟩])
  (.cond (.t 54)
  (.seq (.ops [⟨some 4, .mv (.k (.bool false)), none⟩])
  .ret)
  .skip))
  (.seq (.seq (.ops [⟨some 55, .mv (.t 11), none⟩,
    ⟨some 56, .mv (.t 10), none⟩,
    ⟨some 57, .bin .neq (.t 55) (.t 56), none⟩])
  (.cond (.t 57)
  (.seq (.ops [⟨some 4, .mv (.k (.bool false)), none⟩])
  .ret)
  .skip))
  (.seq (.ops [⟨some 58, .ld 9 true (.t 2), none⟩,
    ⟨some 59, .call 37 [(.t 58)], none⟩,
    ⟨some 60, .mv (.t 1), none⟩,
    ⟨some 61, .call 48 [(.t 59), (.t 60)], none⟩,
    ⟨some 12, .al (.agg [.str ⟨#[]⟩, .bool false, .int .i64 0, .bool false, .int .i64 0, .nil, .nil, .nil, .nil]), none⟩,
    ⟨none, .st 9 (.t 12) (.t 61), none⟩])
  (.seq (.seq (.ops [⟨some 62, .ld 9 true (.t 12), none⟩,
    ⟨some 63, .ld 9 true (.t 6), none⟩,
    ⟨some 64, .call 39 [(.t 62), (.t 63)], none⟩,
    ⟨some 65, .not (.t 64), none⟩])
  (.cond (.t 65)
  (.seq (.ops [⟨some 4, .mv (.k (.bool false)), none⟩])
  .ret)
  .skip))
  (.seq (.ops [⟨some 11, .mv (.k (.int .i64 1)), none⟩])
  (.seq (.ops [⟨some 66, .ld 9 true (.t 8), none⟩,
    ⟨some 67, .mv (.t 11), none⟩,
    ⟨some 68, .call 43 [(.t 66), (.t 67)], none⟩,
    ⟨some 11, .mv (.t 68), none⟩])
  (.seq (.seq (.ops [⟨some 69, .mv (.t 11), none⟩,
    ⟨some 70, .bin .lss (.t 69) (.k (.int .i64 0)), none⟩])
  (.cond (.t 70)
  (.seq (.ops [⟨some 4, .mv (.k (.bool false)), none⟩])
  .ret)
  .skip))
  (.seq (.seq (.ops [⟨some 71, .mv (.t 11), none⟩,
    ⟨some 72, .mv (.t 10), none⟩,
    ⟨some 73, .bin .neq (.t 71) (.t 72), none⟩])
  (.cond (.t 73)
  (.seq (.ops [⟨some 4, .mv (.k (.bool false)), none⟩])
  .ret)
  .skip))
  (.seq (.ops [⟨some 4, .mv (.k (.bool true)), none⟩])
  .ret)))))))))))))))))))))))))⟩
theorem c12 : compileF Try.prog [] 12 = some cf12 := by kernel_rfl
theorem impl_FallG (s1 s2 s3 s4 t1 t2 t3 t4 : Nat) (x : Mate) (m : Bool) (b1 b2 b3 b4 c1 c2 c3 c4 : Nat) (hs : x.small) : XC Try.prog 48 [x.O s1 s2 s3 s4 b1 b2 b3 b4 c1 c2 c3 c4, .bool m] (x.L s1 s2 s3 s4 b1 b2 b3 b4 c1 c2 c3 c4) (fun d ls => ∃ d1 d2 d3 d4 e1 e2 e3 e4, d = (fallR x m).O t1 t2 t3 t4 d1 d2 d3 d4 e1 e2 e3 e4 ∧ ls = x.L s1 s2 s3 s4 b1 b2 b3 b4 c1 c2 c3 c4 ++ (fallR x m).L t1 t2 t3 t4 d1 d2 d3 d4 e1 e2 e3 e4) := by
  refine (impl_Fall x m b1 b2 b3 b4 c1 c2 c3 c4 hs).ren (fun _ _ _ h => h) rfl (fun d ls ⟨d1, d2, d3, d4, e1, e2, e3, e4, h1, h2⟩ => ?_)
  subst h1 h2
  exact ⟨_, _, ⟨d1, d2, d3, d4, e1, e2, e3, e4, rfl, rfl⟩, fun _ _ _ h => HolL.ren rfl h, fun _ _ _ h => h⟩
set_option maxHeartbeats 4000000 in
theorem law_Fall (x : Mate) (m : Bool) (hw : x.wf) : Rdr Try.prog 12 [x.D, .bool m] (.bool true) := by
  refine Rdr.intro' hm c12 (Nat.le_of_ble_eq_true rfl) ?_
  conv => whnf
  repeat' (first | (refine g_op ?_; conv => whnf) | (refine And.intro ?_ ?_; (focus (first | exact rfl | exact Nat.le_of_ble_eq_true rfl | decide | omega | fail)); conv => whnf) | (refine g_seq ?_) | (refine XS.go ?_) | (refine g_ops ?_) | (refine g_nil ?_; conv => whnf) | (refine fun _ => ?_; conv => whnf) | fail)
  refine XCL.ask (sz_Mate x _ hw (by decide) (by decide)) (fun d h => ?_)
  obtain ⟨n, rfl, hn⟩ := h
  conv => whnf
  repeat' (first | (refine g_op ?_; conv => whnf) | (refine And.intro ?_ ?_; (focus (first | exact rfl | exact Nat.le_of_ble_eq_true rfl | decide | omega | fail)); conv => whnf) | (refine g_seq ?_) | (refine XS.go ?_) | (refine g_ops ?_) | (refine g_nil ?_; conv => whnf) | (refine g_cond ?_; conv => whnf) | fail)
  refine Br.mk (fun hb => ?_) (fun hb => ?_)
  · conv => whnf
    repeat' (first | (refine g_op ?_; conv => whnf) | (refine And.intro ?_ ?_; (focus (first | exact rfl | exact Nat.le_of_ble_eq_true rfl | decide | omega | fail)); conv => whnf) | (refine g_seq ?_) | (refine XS.go ?_) | (refine g_ops ?_) | (refine g_nil ?_; conv => whnf) | (refine g_ret ?_; conv => whnf) | (refine r_t ?_; conv => whnf) | (refine r_nil ?_; conv => whnf) | fail)
    rfl
  have hs : x.small := (hn (Int.not_lt.1 (of_decide_eq_false hb))).2
  have hRs := fallR_small m hs
  have hsp := spec_Fall x m hs
  have him := fun b1 b2 b3 b4 c1 c2 c3 c4 => impl_FallG 31 32 33 34 41 42 43 44 x m b1 b2 b3 b4 c1 c2 c3 c4 hs
  have him2 := fun b1 b2 b3 b4 c1 c2 c3 c4 => impl_FallG 61 62 63 64 51 52 53 54 x m b1 b2 b3 b4 c1 c2 c3 c4 hs
  generalize fallR x m = R at *
  conv => whnf
  repeat' (first | (refine g_skip ?_; conv => whnf) | fail)
  refine XS.go ?_
  repeat' (first | (refine g_op ?_; conv => whnf) | (refine And.intro ?_ ?_; (focus (first | exact rfl | exact Nat.le_of_ble_eq_true rfl | decide | omega | fail)); conv => whnf) | (refine g_seq ?_) | (refine g_ops ?_) | (refine g_nil ?_; conv => whnf) | (refine fun _ => ?_; conv => whnf) | (refine XCL.of_rdr (to_Mate x hs) ?_; conv => whnf) | (refine XCL.of_rdr (hsp) ?_; conv => whnf) | fail)
  refine XS.go ?_
  repeat' (first | (refine g_op ?_; conv => whnf) | (refine And.intro ?_ ?_; (focus (first | exact rfl | exact Nat.le_of_ble_eq_true rfl | decide | omega | fail)); conv => whnf) | (refine g_seq ?_) | (refine g_ops ?_) | fail)
  refine XCL.of_XC (ls := []) True.intro ((tox_MateG 31 32 33 34 x hs).mono fun d ls h => ?_)
  obtain ⟨b1, b2, b3, b4, rfl, rfl⟩ := h
  conv => whnf
  repeat' (first | (refine g_op ?_; conv => whnf) | (refine And.intro ?_ ?_; (focus (first | exact rfl | exact Nat.le_of_ble_eq_true rfl | decide | omega | fail)); conv => whnf) | (refine g_seq ?_) | (refine XS.go ?_) | (refine g_ops ?_) | (refine g_nil ?_; conv => whnf) | (refine fun _ => ?_; conv => whnf) | fail)
  refine XCL.of_XC (ls := x.L 31 32 33 34 b1 b2 b3 b4 _ _ _ _) ⟨rfl, rfl, rfl, rfl, rfl, rfl, rfl, rfl, rfl, rfl, rfl, rfl, True.intro⟩ ((him b1 b2 b3 b4 _ _ _ _).mono fun d ls h => ?_)
  obtain ⟨d1, d2, d3, d4, e1, e2, e3, e4, rfl, rfl⟩ := h
  conv => whnf
  repeat' (first | (refine g_op ?_; conv => whnf) | (refine And.intro ?_ ?_; (focus (first | exact rfl | exact Nat.le_of_ble_eq_true rfl | decide | omega | fail)); conv => whnf) | (refine g_seq ?_) | (refine XS.go ?_) | (refine g_ops ?_) | (refine g_nil ?_; conv => whnf) | (refine fun _ => ?_; conv => whnf) | fail)
  refine XCL.of_rdrB (eq_Mate R hRs) (.cons (Bor.mateO rfl rfl rfl rfl rfl rfl rfl rfl) (.cons (Bor.refl _ _) .nil)) rfl ?_
  conv => whnf
  repeat' (first | (refine g_op ?_; conv => whnf) | (refine And.intro ?_ ?_; (focus (first | exact rfl | exact Nat.le_of_ble_eq_true rfl | decide | omega | fail)); conv => whnf) | (refine g_seq ?_) | (refine XS.go ?_) | (refine g_nil ?_; conv => whnf) | (refine Br.f ?_ ?_; (focus (first | assumption | exact rfl)); conv => whnf) | (refine g_cond ?_; conv => whnf) | (refine g_skip ?_; conv => whnf) | (refine g_quiet ?_) | (refine q_op ?_; conv => whnf) | (refine QC.of_rdr (to_Mate x hs) ?_; conv => whnf) | fail)
  refine QC.of_rdrB (eq_Mate x hs) (.cons (Bor.mateO rfl rfl rfl rfl rfl rfl rfl rfl) (.cons (Bor.refl _ _) .nil)) rfl ?_
  conv => whnf
  repeat' (first | (refine g_op ?_; conv => whnf) | (refine And.intro ?_ ?_; (focus (first | exact rfl | exact Nat.le_of_ble_eq_true rfl | decide | omega | fail)); conv => whnf) | (refine g_seq ?_) | (refine XS.go ?_) | (refine g_ops ?_) | (refine g_nil ?_; conv => whnf) | (refine Br.f ?_ ?_; (focus (first | assumption | exact rfl)); conv => whnf) | (refine g_cond ?_; conv => whnf) | (refine g_skip ?_; conv => whnf) | (refine q_op ?_; conv => whnf) | (refine q_nil ?_; conv => whnf) | fail)
  have l1 := hs.fWants.1
  have l2 := hs.fRuns.1
  have l3 := hs.fAsks.1
  have l4 := hs.fGives.1
  have m1 := hRs.fWants.1
  have m2 := hRs.fRuns.1
  have m3 := hRs.fAsks.1
  have m4 := hRs.fGives.1
  have hB : mkMK x 1 ≤ 50000000 := by unfold mkMK; omega
  have hB2 : mkMK R 1 ≤ 50000000 := by unfold mkMK; omega
  have h0 : 0 ≤ mkMK x 1 := by unfold mkMK; omega
  have h2 : 0 ≤ mkMK R 1 := by unfold mkMK; omega
  have hM0 : decide (mkMK x 1 < 0) = false := decide_eq_false (by omega)
  have hM2 : decide (mkMK R 1 < 0) = false := decide_eq_false (by omega)
  have hmk := fun b1 b2 b3 b4 c1 c2 c3 c4 => mark_MateG 31 32 33 34 x b1 b2 b3 b4 c1 c2 c3 c4 1 (by decide) hs hB
  have hmk2 := fun b1 b2 b3 b4 c1 c2 c3 c4 => mark_MateG 41 42 43 44 R b1 b2 b3 b4 c1 c2 c3 c4 1 (by decide) hRs hB2
  have hhd := held_Mate R 1 (by decide) hRs hB2
  clear l1 l2 l3 l4 m1 m2 m3 m4
  generalize mkMK x 1 = M at *
  generalize mkMK R 1 = M2 at *
  refine XCL.of_XC (ls := x.L 31 32 33 34 b1 b2 b3 b4 _ _ _ _) ⟨rfl, rfl, rfl, rfl, rfl, rfl, rfl, rfl, rfl, rfl, rfl, rfl, True.intro⟩ ((hmk b1 b2 b3 b4 _ _ _ _).mono fun d ls h => ?_)
  obtain ⟨rfl, rfl⟩ := h
  conv => whnf
  repeat' (first | (refine g_op ?_; conv => whnf) | (refine And.intro ?_ ?_; (focus (first | exact rfl | exact Nat.le_of_ble_eq_true rfl | decide | omega | fail)); conv => whnf) | (refine g_seq ?_) | (refine XS.go ?_) | (refine g_ops ?_) | (refine g_nil ?_; conv => whnf) | (refine g_opg ?_; conv => whnf) | (refine Br.f ?_ ?_; (focus (first | assumption | exact rfl)); conv => whnf) | fail)
  refine XCL.of_rdrB (eq_Mate R hRs) (.cons (Bor.mateO rfl rfl rfl rfl rfl rfl rfl rfl) (.cons (Bor.refl _ _) .nil)) rfl ?_
  conv => whnf
  repeat' (first | (refine g_op ?_; conv => whnf) | (refine And.intro ?_ ?_; (focus (first | exact rfl | exact Nat.le_of_ble_eq_true rfl | decide | omega | fail)); conv => whnf) | (refine g_seq ?_) | (refine XS.go ?_) | (refine g_ops ?_) | (refine g_nil ?_; conv => whnf) | (refine g_opg ?_; conv => whnf) | (refine Br.f ?_ ?_; (focus (first | assumption | exact rfl)); conv => whnf) | (refine g_cond ?_; conv => whnf) | (refine g_skip ?_; conv => whnf) | fail)
  refine XCL.of_XC (ls := R.L 41 42 43 44 d1 d2 d3 d4 e1 e2 e3 e4) ⟨rfl, rfl, rfl, rfl, rfl, rfl, rfl, rfl, rfl, rfl, rfl, rfl, True.intro⟩ ((hmk2 d1 d2 d3 d4 e1 e2 e3 e4).mono fun d ls h => ?_)
  obtain ⟨rfl, rfl⟩ := h
  conv => whnf
  repeat' (first | (refine g_op ?_; conv => whnf) | (refine And.intro ?_ ?_; (focus (first | exact rfl | exact Nat.le_of_ble_eq_true rfl | decide | omega | fail)); conv => whnf) | (refine g_seq ?_) | (refine XS.go ?_) | (refine g_ops ?_) | (refine g_nil ?_; conv => whnf) | fail)
  refine XCL.of_rdrB hhd (.cons (Bor.mateM rfl rfl rfl rfl rfl rfl rfl rfl) (.cons (Bor.refl _ _) .nil)) rfl ?_
  conv => whnf
  repeat' (first | (refine g_op ?_; conv => whnf) | (refine And.intro ?_ ?_; (focus (first | exact rfl | exact Nat.le_of_ble_eq_true rfl | decide | omega | fail)); conv => whnf) | (refine g_seq ?_) | (refine XS.go ?_) | (refine g_ops ?_) | (refine g_nil ?_; conv => whnf) | (refine Br.f ?_ ?_; (focus (first | assumption | exact rfl)); conv => whnf) | (refine g_cond ?_; conv => whnf) | (refine g_skip ?_; conv => whnf) | fail)
  refine Br.f (by simp) ?_
  conv => whnf
  repeat' (first | (refine g_op ?_; conv => whnf) | (refine And.intro ?_ ?_; (focus (first | exact rfl | exact Nat.le_of_ble_eq_true rfl | decide | omega | fail)); conv => whnf) | (refine g_seq ?_) | (refine XS.go ?_) | (refine g_ops ?_) | (refine g_skip ?_; conv => whnf) | fail)
  refine XCL.of_XC (ls := []) True.intro ((tox_MateG 61 62 63 64 x hs).mono fun d ls h => ?_)
  obtain ⟨u1, u2, u3, u4, rfl, rfl⟩ := h
  conv => whnf
  repeat' (first | (refine g_op ?_; conv => whnf) | (refine And.intro ?_ ?_; (focus (first | exact rfl | exact Nat.le_of_ble_eq_true rfl | decide | omega | fail)); conv => whnf) | fail)
  refine XCL.of_XC (ls := x.L 61 62 63 64 u1 u2 u3 u4 _ _ _ _) ⟨rfl, rfl, rfl, rfl, rfl, rfl, rfl, rfl, rfl, rfl, rfl, rfl, True.intro⟩ ((him2 u1 u2 u3 u4 _ _ _ _).mono fun d ls h => ?_)
  obtain ⟨v1, v2, v3, v4, w1, w2, w3, w4, rfl, rfl⟩ := h
  conv => whnf
  repeat' (first | (refine g_op ?_; conv => whnf) | (refine And.intro ?_ ?_; (focus (first | exact rfl | exact Nat.le_of_ble_eq_true rfl | decide | omega | fail)); conv => whnf) | (refine g_seq ?_) | (refine XS.go ?_) | (refine g_ops ?_) | (refine g_nil ?_; conv => whnf) | (refine fun _ => ?_; conv => whnf) | fail)
  refine XCL.of_rdrB (eq_Mate R hRs) (.cons (Bor.mateO rfl rfl rfl rfl rfl rfl rfl rfl) (.cons (Bor.refl _ _) .nil)) rfl ?_
  conv => whnf
  repeat' (first | (refine g_op ?_; conv => whnf) | (refine And.intro ?_ ?_; (focus (first | exact rfl | exact Nat.le_of_ble_eq_true rfl | decide | omega | fail)); conv => whnf) | (refine g_seq ?_) | (refine XS.go ?_) | (refine g_ops ?_) | (refine g_nil ?_; conv => whnf) | (refine Br.f ?_ ?_; (focus (first | assumption | exact rfl)); conv => whnf) | (refine g_cond ?_; conv => whnf) | (refine g_skip ?_; conv => whnf) | fail)
  refine XCL.of_rdrB hhd (.cons (Bor.mateM rfl rfl rfl rfl rfl rfl rfl rfl) (.cons (Bor.refl _ _) .nil)) rfl ?_
  conv => whnf
  repeat' (first | (refine g_op ?_; conv => whnf) | (refine And.intro ?_ ?_; (focus (first | exact rfl | exact Nat.le_of_ble_eq_true rfl | decide | omega | fail)); conv => whnf) | (refine g_seq ?_) | (refine XS.go ?_) | (refine g_ops ?_) | (refine g_nil ?_; conv => whnf) | (refine Br.f ?_ ?_; (focus (first | assumption | exact rfl)); conv => whnf) | (refine g_cond ?_; conv => whnf) | (refine g_skip ?_; conv => whnf) | fail)
  refine Br.f (by simp) ?_
  conv => whnf
  repeat' (first | (refine g_op ?_; conv => whnf) | (refine And.intro ?_ ?_; (focus (first | exact rfl | exact Nat.le_of_ble_eq_true rfl | decide | omega | fail)); conv => whnf) | (refine g_seq ?_) | (refine XS.go ?_) | (refine g_ops ?_) | (refine g_nil ?_; conv => whnf) | (refine g_skip ?_; conv => whnf) | (refine g_ret ?_; conv => whnf) | (refine r_t ?_; conv => whnf) | (refine r_nil ?_; conv => whnf) | fail)
  rfl
end Go.Ab
