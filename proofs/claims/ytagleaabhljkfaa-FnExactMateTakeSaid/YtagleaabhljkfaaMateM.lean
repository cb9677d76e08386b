/- Steps towards the law: contracts of functions and facts of lists. -/
import Derived.Test.YtagleaabhljkfaaMateS
import Derived.Test.YtagleaabhljkfaaRows
set_option linter.unusedSimpArgs false
set_option linter.unusedVariables false
namespace Go.Ab
open Go Go.RowKit Go.Proofs
attribute [local irreducible] XC Rdr IntKind.wrap xw xos xqs xr xd
set_option maxRecDepth 100000

/-- laws.FnExactMateRise -/
def cf11 : CF := ⟨69, [.t 2],
  (.seq (.ops [⟨some 1, .bx (.t 0), none⟩,
    ⟨some 2, .mv (.k (.bool false)), none⟩])
  (.seq (.ops [⟨some 3, .mv (.k (.int .i64 1048576)), none⟩])
  (.seq (.ops [⟨some 11, .ld 9 true (.t 1), none⟩,
    ⟨some 12, .mv (.t 3), none⟩,
    ⟨some 13, .call 35 [(.t 11), (.t 12)], none⟩,
    ⟨some 3, .mv (.t 13), none⟩])
  (.seq (.seq (.ops [⟨some 14, .mv (.t 3), none⟩,
    ⟨some 15, .bin .lss (.t 14) (.k (.int .i64 0)), none⟩])
  (.cond (.t 15)
  (.seq (.ops [⟨some 2, .mv (.k (.bool true)), none⟩])
  .ret)
  .skip))
  (.seq (.ops [⟨some 16, .ld 9 true (.t 1), none⟩,
    ⟨some 17, .call 37 [(.t 16)], none⟩,
    ⟨some 18, .call 52 [(.t 17)], none⟩,
    ⟨some 4, .al (.agg [.str ⟨#[]⟩, .bool false, .int .i64 0, .bool false, .int .i64 0, .nil, .nil, .nil, .nil]), none⟩,
    ⟨none, .st 9 (.t 4) (.t 18), none⟩])
  (.seq (.ops [⟨some 19, .ld 9 true (.t 1), none⟩,
    ⟨some 20, .call 37 [(.t 19)], none⟩,
    ⟨some 5, .al (.agg [.str ⟨#[]⟩, .bool false, .int .i64 0, .bool false, .int .i64 0, .nil, .nil, .nil, .nil]), none⟩,
    ⟨none, .st 9 (.t 5) (.t 20), none⟩])
  (.seq (.ops [⟨some 21, .ld 9 true (.t 5), none⟩,
    ⟨some 22, .call 49 [(.t 21)], none⟩,
    ⟨some 6, .al (.agg [.str ⟨#[]⟩, .bool false, .int .i64 0, .bool false, .int .i64 0, .nil, .nil, .nil, .nil]), none⟩,
    ⟨none, .st 9 (.t 6) (.t 22), none⟩])
  (.seq (.seq (.ops [⟨some 23, .ld 9 true (.t 6), none⟩,
    ⟨some 24, .ld 9 true (.t 4), none⟩,
    ⟨some 25, .call 39 [(.t 23), (.t 24)], none⟩,
    ⟨some 26, .not (.t 25), none⟩])
  (.cond (.t 26)
  (.seq (.ops [⟨some 2, .mv (.k (.bool false)), none⟩])
  .ret)
  .skip))
  (.seq (.seq (.quiet [⟨some 27, .ld 9 true (.t 5), none⟩,
    ⟨some 28, .ld 9 true (.t 1), none⟩,
    ⟨some 29, .call 37 [(.t 28)], none⟩,
    ⟨some 30, .call 39 [(.t 27), (.t 29)], none⟩,
    ⟨some 31, .not (.t 30), none⟩])
  (.cond (.t 31)
  (.seq (.ops [⟨some 2, .mv (.k (.bool false)), none⟩])
  .ret)
  .skip))
  (.seq (.ops [⟨some 7, .mv (.k (.int .i64 1)), none⟩])
  (.seq (.ops [⟨some 32, .ld 9 true (.t 5), none⟩,
    ⟨some 33, .mv (.t 7), none⟩,
    ⟨some 34, .call 41 [(.t 32), (.t 33)], none⟩,
    ⟨some 7, .mv (.t 34), none⟩])
  (.seq (.seq (.ops [⟨some 35, .mv (.t 7), none⟩,
    ⟨some 36, .bin .lss (.t 35) (.k (.int .i64 0)), none⟩,
    ⟨some 37, .mv (.t 36), none⟩,
    ⟨some 38, .ld 9 true (.t 6), some (37, false)⟩,
    ⟨some 39, .ld 9 true (.t 4), some (37, false)⟩,
    ⟨some 40, .call 39 [(.t 38), (.t 39)], some (37, false)⟩,
    ⟨some 41, .not (.t 40), some (37, false)⟩,
    ⟨some 42, .pick (.t 37) (.k (.bool true)) (.t 41), none⟩])
  (.cond (.t 42)
  (.seq (.ops [⟨some 2, .mv (.k (.bool false)), none⟩])
  .ret)
  .skip))
  (.seq (.ops [⟨some 8, .mv (.k (.int .i64 1)), none⟩])
  (.seq (.ops [⟨some 43, .ld 9 true (.t 6), none⟩,
    ⟨some 44, .mv (.t 8), none⟩,
    ⟨some 45, .call 41 [(.t 43), (.t 44)], none⟩,
    ⟨some 8, .mv (.t 45), none⟩])
  (.seq (.ops [⟨some 9, .mv (.k (.int .i64 1)), none⟩])
  (.seq (.ops [⟨some 46, .ld 9 true (.t 6), none⟩,
    ⟨some 47, .mv (.t 9), none⟩,
    ⟨some 48, .call 43 [(.t 46), (.t 47)], none⟩,
    ⟨some 9, .mv (.t 48), none⟩])
  (.seq (.seq (.ops [⟨some 49, .mv (.t 9), none⟩,
    ⟨some 50, .bin .lss (.t 49) (.k (.int .i64 0)), none⟩])
  (.cond (.t 50)
  (.seq (.ops [⟨some 2, .mv (.k (.bool false)), none⟩])
  .ret)
  .skip))
  (.seq (.seq (.ops [⟨some 51, .mv (.t 9), none⟩,
    ⟨some 52, .mv (.t 8), none⟩,
    ⟨some 53, .bin .neq (.t 51) (.t 52), none⟩])
  (.cond (.t 53)
  (.seq (.ops [⟨some 2, .mv (.k (.bool false)), none⟩])
  .ret)
  .skip))
  (.seq (.ops [⟨some 54, .ld 9 true (.t 1), none⟩,
    ⟨some 55, .call 37 [(.t 54)], none⟩,
    ⟨some 56, .call 49 [(.t 55)], none⟩,
    ⟨some 10, .al (.agg [.str ⟨#[]⟩, .bool false, .int .i64 0, .bool false, .int .i64 0, .nil, .nil, .nil, .nil]), none⟩,
    ⟨none, .st 9 (.t 10) (.t 56), none⟩])
  (.seq (.seq (.ops [⟨some 57, .ld 9 true (.t 10), none⟩,
    ⟨some 58, .ld 9 true (.t 4), none⟩,
    ⟨some 59, .call 39 [(.t 57), (.t 58)], none⟩,
    ⟨some 60, .not (.t 59), none⟩])
  (.cond (.t 60)
  (.seq (.ops [⟨some 2, .mv (.k (.bool false)), none⟩])
  .ret)
  .skip))
  (.seq (.ops [⟨some 9, .mv (.k (.int .i64 1)), none⟩])
  (.seq (.ops [⟨some 61, .ld 9 true (.t 6), none⟩,
    ⟨some 62, .mv (.t 9), none⟩,
    ⟨some 63, .call 43 [(.t 61), (.t 62)], none⟩,
    ⟨some 9, .mv (.t 63), none⟩])
  (.seq (.seq (.ops [⟨some 64, .mv (.t 9), none⟩,
    ⟨some 65, .bin .lss (.t 64) (.k (.int .i64 0)), none⟩])
  (.cond (.t 65)
  (.seq (.ops [⟨some 2, .mv (.k (.bool false)), none⟩])
  .ret)
  .skip))
  (.seq (.seq (.ops [⟨some 66, .mv (.t 9), none⟩,
    ⟨some 67, .mv (.t 8), none⟩,
    ⟨some 68, .bin .neq (.t 66) (.t 67), none⟩])
  (.cond (.t 68)
  (.seq (.ops [⟨some 2, .mv (.k (.bool false)), none⟩])
  .ret)
  .skip))
  (.seq (.ops [⟨some 2, .mv (.k (.bool true)), none⟩])
  .ret)))))))))))))))))))))))))⟩
theorem c11 : compileF Try.prog [] 11 = some cf11 := by kernel_rfl
def mkM (x : Mate) (k : Int) : Mate := { x with fWants := mkS mk_MateWant 7 x.fWants k, fRuns := mkS mk_MateRun 11 x.fRuns (k + (7 * x.fWants.length : Nat)), fAsks := mkS mk_MateAsk 4 x.fAsks ((k + (7 * x.fWants.length : Nat)) + (11 * x.fRuns.length : Nat)), fGives := mkS mk_MateAsk 4 x.fGives (((k + (7 * x.fWants.length : Nat)) + (11 * x.fRuns.length : Nat)) + (4 * x.fAsks.length : Nat)) }
def mkMK (x : Mate) (k : Int) : Int := ((((k + (7 * x.fWants.length : Nat)) + (11 * x.fRuns.length : Nat)) + (4 * x.fAsks.length : Nat)) + (4 * x.fGives.length : Nat))
theorem Bor.mateM {st : St} {x : Mate} {k : Int} {s1 s2 s3 s4 b1 b2 b3 b4 c1 c2 c3 c4 k1 k2 k3 k4 : Nat} (h1 : st.lc s1 = some (.arr 7 ((mkM x k).fWants.map MateWant.D) k1)) (h2 : st.lc s2 = some (.arr 11 ((mkM x k).fRuns.map MateRun.D) k2)) (h3 : st.lc s3 = some (.arr 4 ((mkM x k).fAsks.map MateAsk.D) k3)) (h4 : st.lc s4 = some (.arr 4 ((mkM x k).fGives.map MateAsk.D) k4))
    (g1 : st.gen s1 = b1) (g2 : st.gen s2 = b2) (g3 : st.gen s3 = b3) (g4 : st.gen s4 = b4) : Bor st (x.O s1 s2 s3 s4 b1 b2 b3 b4 c1 c2 c3 c4) (mkM x k).D :=
  Bor.agg (.cons (Bor.refl _ _) (.cons (Bor.refl _ _) (.cons (Bor.refl _ _) (.cons (Bor.refl _ _) (.cons (Bor.refl _ _) (.cons (Bor.rowM h1 g1 mkS_len.symm (fun _ => rfl)) (.cons (Bor.rowM h2 g2 mkS_len.symm (fun _ => rfl)) (.cons (Bor.rowM h3 g3 mkS_len.symm (fun _ => rfl)) (.cons (Bor.rowM h4 g4 mkS_len.symm (fun _ => rfl)) .nil))))))))) rfl rfl rfl
set_option maxHeartbeats 4000000 in
theorem mark_Mate0 (x : Mate) (b1 b2 b3 b4 c1 c2 c3 c4 : Nat) (k : Int) (hk : 1 ≤ k) (hs : x.small) (hB : mkMK x k ≤ 50000000) : XC Try.prog 41 [x.O 31 32 33 34 b1 b2 b3 b4 c1 c2 c3 c4, .int .i64 k] (x.L 31 32 33 34 b1 b2 b3 b4 c1 c2 c3 c4) (fun d ls => d = .int .i64 (mkMK x k) ∧ ls = (mkM x k).L 31 32 33 34 b1 b2 b3 b4 c1 c2 c3 c4) := by
  have l1 := hs.fWants.1
  have l2 := hs.fRuns.1
  have l3 := hs.fAsks.1
  have l4 := hs.fGives.1
  unfold mkMK at hB
  refine XC.intro' hm [31, 32, 33, 34] rfl c41 (Nat.le_of_ble_eq_true rfl) ?_
  conv => whnf
  repeat' (first | (refine g_op ?_; conv => whnf) | (refine And.intro ?_ ?_; (focus (first | exact rfl | exact Nat.le_of_ble_eq_true rfl | decide | omega | fail)); conv => whnf) | (refine g_seq ?_) | (refine XS.go ?_) | (refine g_ops ?_) | (refine g_nil ?_; conv => whnf) | (refine fun _ => ?_; conv => whnf) | fail)
  refine XCL.of_XC (ls := [(31, b1, .arr 7 (x.fWants.map MateWant.D) c1)]) ⟨rfl, rfl, rfl, True.intro⟩ ((markx_MateWantS 31 x.fWants b1 c1 k (by omega) l1 (by omega)).mono fun d ls h => ?_)
  obtain ⟨rfl, rfl⟩ := h
  conv => whnf
  repeat' (first | (refine g_op ?_; conv => whnf) | (refine And.intro ?_ ?_; (focus (first | exact rfl | exact Nat.le_of_ble_eq_true rfl | decide | omega | fail)); conv => whnf) | (refine g_seq ?_) | (refine XS.go ?_) | (refine g_ops ?_) | (refine g_nil ?_; conv => whnf) | fail)
  refine XCL.of_XC (ls := [(32, b2, .arr 11 (x.fRuns.map MateRun.D) c2)]) ⟨rfl, rfl, rfl, True.intro⟩ ((markx_MateRunS 32 x.fRuns b2 c2 (k + (7 * x.fWants.length : Nat)) (by omega) l2 (by omega)).mono fun d ls h => ?_)
  obtain ⟨rfl, rfl⟩ := h
  conv => whnf
  repeat' (first | (refine g_op ?_; conv => whnf) | (refine And.intro ?_ ?_; (focus (first | exact rfl | exact Nat.le_of_ble_eq_true rfl | decide | omega | fail)); conv => whnf) | (refine g_seq ?_) | (refine XS.go ?_) | (refine g_ops ?_) | (refine g_nil ?_; conv => whnf) | fail)
  refine XCL.of_XC (ls := [(33, b3, .arr 4 (x.fAsks.map MateAsk.D) c3)]) ⟨rfl, rfl, rfl, True.intro⟩ ((markx_MateAskS 33 x.fAsks b3 c3 ((k + (7 * x.fWants.length : Nat)) + (11 * x.fRuns.length : Nat)) (by omega) l3 (by omega)).mono fun d ls h => ?_)
  obtain ⟨rfl, rfl⟩ := h
  conv => whnf
  repeat' (first | (refine g_op ?_; conv => whnf) | (refine And.intro ?_ ?_; (focus (first | exact rfl | exact Nat.le_of_ble_eq_true rfl | decide | omega | fail)); conv => whnf) | (refine g_seq ?_) | (refine XS.go ?_) | (refine g_ops ?_) | (refine g_nil ?_; conv => whnf) | fail)
  refine XCL.of_XC (ls := [(34, b4, .arr 4 (x.fGives.map MateAsk.D) c4)]) ⟨rfl, rfl, rfl, True.intro⟩ ((markx_MateAskS 34 x.fGives b4 c4 (((k + (7 * x.fWants.length : Nat)) + (11 * x.fRuns.length : Nat)) + (4 * x.fAsks.length : Nat)) (by omega) l4 (by omega)).mono fun d ls h => ?_)
  obtain ⟨rfl, rfl⟩ := h
  conv => whnf
  repeat' (first | (refine g_op ?_; conv => whnf) | (refine And.intro ?_ ?_; (focus (first | exact rfl | exact Nat.le_of_ble_eq_true rfl | decide | omega | fail)); conv => whnf) | (refine g_seq ?_) | (refine XS.go ?_) | (refine g_ops ?_) | (refine g_nil ?_; conv => whnf) | (refine g_ret ?_; conv => whnf) | (refine r_t ?_; conv => whnf) | (refine r_nil ?_; conv => whnf) | fail)
  first | exact ⟨rfl, rfl⟩ | exact rfl
theorem mark_MateG (s1 s2 s3 s4 : Nat) (x : Mate) (b1 b2 b3 b4 c1 c2 c3 c4 : Nat) (k : Int) (hk : 1 ≤ k) (hs : x.small) (hB : mkMK x k ≤ 50000000) : XC Try.prog 41 [x.O s1 s2 s3 s4 b1 b2 b3 b4 c1 c2 c3 c4, .int .i64 k] (x.L s1 s2 s3 s4 b1 b2 b3 b4 c1 c2 c3 c4) (fun d ls => d = .int .i64 (mkMK x k) ∧ ls = (mkM x k).L s1 s2 s3 s4 b1 b2 b3 b4 c1 c2 c3 c4) := by
  refine (mark_Mate0 x b1 b2 b3 b4 c1 c2 c3 c4 k hk hs hB).ren (fun _ _ _ h => h) rfl (fun d ls ⟨h1, h2⟩ => ?_)
  subst h1 h2
  exact ⟨_, _, ⟨rfl, rfl⟩, fun _ _ _ h => HolL.ren rfl h, fun _ _ _ h => h⟩
theorem tox_MateG (s1 s2 s3 s4 : Nat) (x : Mate) (hs : x.small) : XC Try.prog 37 [x.D] [] (fun d ls => ∃ b1 b2 b3 b4, d = x.O s1 s2 s3 s4 b1 b2 b3 b4 x.fWants.length x.fRuns.length x.fAsks.length x.fGives.length ∧ ls = x.L s1 s2 s3 s4 b1 b2 b3 b4 x.fWants.length x.fRuns.length x.fAsks.length x.fGives.length) := by
  refine (tox_Mate0 x hs).ren (fun _ _ _ h => h) rfl (fun d ls ⟨b1, b2, b3, b4, h1, h2⟩ => ?_)
  subst h1 h2
  exact ⟨_, _, ⟨b1, b2, b3, b4, rfl, rfl⟩, fun _ _ _ h => HolL.ren rfl h, fun _ _ _ h => h⟩
theorem impl_RiseG (s1 s2 s3 s4 t1 t2 t3 t4 : Nat) (x : Mate) (b1 b2 b3 b4 c1 c2 c3 c4 : Nat) (hs : x.small) : XC Try.prog 49 [x.O s1 s2 s3 s4 b1 b2 b3 b4 c1 c2 c3 c4] (x.L s1 s2 s3 s4 b1 b2 b3 b4 c1 c2 c3 c4) (fun d ls => ∃ d1 d2 d3 d4 e1 e2 e3 e4, d = (riseR x).O t1 t2 t3 t4 d1 d2 d3 d4 e1 e2 e3 e4 ∧ ls = x.L s1 s2 s3 s4 b1 b2 b3 b4 c1 c2 c3 c4 ++ (riseR x).L t1 t2 t3 t4 d1 d2 d3 d4 e1 e2 e3 e4) := by
  refine (impl_Rise x b1 b2 b3 b4 c1 c2 c3 c4 hs).ren (fun _ _ _ h => h) rfl (fun d ls ⟨d1, d2, d3, d4, e1, e2, e3, e4, h1, h2⟩ => ?_)
  subst h1 h2
  exact ⟨_, _, ⟨d1, d2, d3, d4, e1, e2, e3, e4, rfl, rfl⟩, fun _ _ _ h => HolL.ren rfl h, fun _ _ _ h => h⟩
set_option maxHeartbeats 4000000 in
theorem held_Mate (x : Mate) (k : Int) (hk : 1 ≤ k) (hs : x.small) (hB : mkMK x k ≤ 50000000) : Rdr Try.prog 43 [(mkM x k).D, .int .i64 k] (.int .i64 (mkMK x k)) := by
  have l1 := hs.fWants.1
  have l2 := hs.fRuns.1
  have l3 := hs.fAsks.1
  have l4 := hs.fGives.1
  unfold mkMK at hB
  have q1 := held_MateWantS x.fWants k (by omega) l1 (by omega)
  have p1 : decide ((k + (7 * x.fWants.length : Nat)) < 0) = false := by simp; omega
  have q2 := held_MateRunS x.fRuns (k + (7 * x.fWants.length : Nat)) (by omega) l2 (by omega)
  have p2 : decide (((k + (7 * x.fWants.length : Nat)) + (11 * x.fRuns.length : Nat)) < 0) = false := by simp; omega
  have q3 := held_MateAskS x.fAsks ((k + (7 * x.fWants.length : Nat)) + (11 * x.fRuns.length : Nat)) (by omega) l3 (by omega)
  have p3 : decide ((((k + (7 * x.fWants.length : Nat)) + (11 * x.fRuns.length : Nat)) + (4 * x.fAsks.length : Nat)) < 0) = false := by simp; omega
  have q4 := held_MateAskS x.fGives (((k + (7 * x.fWants.length : Nat)) + (11 * x.fRuns.length : Nat)) + (4 * x.fAsks.length : Nat)) (by omega) l4 (by omega)
  have p4 : decide (((((k + (7 * x.fWants.length : Nat)) + (11 * x.fRuns.length : Nat)) + (4 * x.fAsks.length : Nat)) + (4 * x.fGives.length : Nat)) < 0) = false := by simp; omega
  refine Rdr.intro' hm c43 (Nat.le_of_ble_eq_true rfl) ?_
  conv => whnf
  repeat' (first | (refine g_op ?_; conv => whnf) | (refine And.intro ?_ ?_; (focus (first | exact rfl | exact Nat.le_of_ble_eq_true rfl | decide | omega | fail)); conv => whnf) | (refine g_seq ?_) | (refine XS.go ?_) | (refine g_ops ?_) | (refine g_nil ?_; conv => whnf) | (refine Br.f ?_ ?_; (focus (first | assumption | exact rfl)); conv => whnf) | (refine g_cond ?_; conv => whnf) | (refine g_skip ?_; conv => whnf) | (refine g_ret ?_; conv => whnf) | (refine r_t ?_; conv => whnf) | (refine r_nil ?_; conv => whnf) | (refine fun _ => ?_; conv => whnf) | (refine XCL.of_rdr (q1) ?_; conv => whnf) | (refine XCL.of_rdr (q2) ?_; conv => whnf) | (refine XCL.of_rdr (q3) ?_; conv => whnf) | (refine XCL.of_rdr (q4) ?_; conv => whnf) | fail)
  rfl
end Go.Ab
