/- Steps towards the law: the machine, contracts of functions and facts of lists. -/
import Derived.Test.YtagleaabhljkfaaMateQ2
import Derived.Test.YtagleaabhljkfaaRows
set_option linter.unusedSimpArgs false
set_option linter.unusedVariables false
namespace Go.Ab
open Go Go.RowKit Go.Proofs
attribute [local irreducible] XC Rdr IntKind.wrap xw xos xqs xr xd
set_option maxRecDepth 100000
set_option maxHeartbeats 16000000
def cf97 : CF := ⟨85,[.c 2 9 true],(.seq (.ops [Oo 2 (.al (.agg [.str ⟨#[]⟩,.bool false,.int .i64 0,.bool false,.int .i64 0,.nil,.nil,.nil,.nil]))]) (.seq (.ops [Om 7 0,Oc 8 117 [.t 7],Oo 3 (.al (.agg [.str ⟨#[]⟩,.bool false,.int .i64 0,.bool false,.int .i64 0,.nil,.nil,.nil,.nil])),Os 9 3 8]) (.seq (.seq (.ops [Om 9 0,Oc 10 69 [.t 9,(.k (.int .i64 24))]]) (.block 0 (.seq (.seq (.ops [Oo 12 (.bin .eql (.t 10) (.k (.int .i64 0))),Om 11 12]) (.cond (.t 11) .skip (.ops [Oo 13 (.bin .eql (.t 10) (.k (.int .i64 1))),Om 11 13]))) (.cond (.t 11) (.seq (.ops [Om 14 0,Od 15 9 3,Oc 16 118 [.t 14,.t 15],Os 9 2 16]) .ret) (.seq (.ops [Oo 18 (.bin .eql (.t 10) (.k (.int .i64 2))),Om 17 18]) (.cond (.t 17) (.seq (.drawn [Qm 19 0,Qf 22 2 3,Ql 23 22,(Oc 20 69 [.t 19,(.k (.int .i64 6))],true,[(.t 22)]),Qo 21 (.bin .sub (.k (.int .i64 1000000)) (.t 20)),Qb 24 .sub 21 23,Qm 4 24]) (.seq (.ops [Of 25 2 3,Ol 26 25,Om 27 4,Ob 28 .add 26 27,Of 29 2 3,Os 1 29 28]) (.seq (.ops [Ok 5 (.int .i64 0)]) (.block 1 (.loop (.seq (.seq (.ops [Om 30 5,Of 31 6 3,Ol 32 31,Og 33 32,Ob 34 .lss 30 33]) (.cond (.t 34) .skip (.exit 1))) (.seq (.block 2 (.seq (.ops [Of 37 6 3,Ol 38 37,Om 39 5,Ox 40 11 38 39,Oo 41 (.fa 0 7 0 (.t 40)),Of 42 2 41,Ol 43 42,Oo 44 (.bin .neq (.t 43) (.k (.str ⟨#[]⟩)))]) (.cond (.t 44) (.drawn [Qf 45 6 3,Ql 46 45,Qm 47 5,Qf 48 6 3,Ql 49 48,Qm 50 5,Qx 51 11 49 50,Qo 52 (.fa 10 1 4 (.t 51)),Ql 53 52,Qm 54 4,Qb 55 .add 53 54,Qx 56 11 46 47,Qo 57 (.fa 10 1 4 (.t 56)),Qs 1 57 55]) .skip))) (.ops [Om 35 5,Oi 36 35,Om 5 36])))))))) (.seq (.ops [Oo 59 (.bin .eql (.t 10) (.k (.int .i64 3))),Om 58 59]) (.cond (.t 58) (.seq (.ops [Of 60 1 3,Ol 61 60]) (.cond (.t 61) (.seq (.ops [Ok 6 (.int .i64 0)]) (.block 3 (.loop (.seq (.seq (.drawn [Qf 62 6 3,Ql 63 62,Qg 64 63,Qm 65 0,(Oc 66 69 [.t 65,(.k (.int .i64 2))],true,[(.t 62)]),Qo 67 (.bin .sub (.k (.int .i64 20)) (.t 66)),Qb 68 .lss 64 67]) (.cond (.t 68) .skip (.exit 3))) (.seq (.block 4 (.ops [Of 71 6 3,Ol 72 71,Om 73 6,Oo 74 (.bin .add (.k (.int .i64 97)) (.t 73)),Oo 75 (.cvi .u8 (.t 74)),Oo 76 (.bsl (.int .u8 0) 1 [(0,(.t 75))]),Oo 77 (.bst (.t 76)),Oo 78 (.bin .add (.k (.str ⟨#[100]⟩)) (.t 77)),Oo 79 (.bld (.agg [.str ⟨#[]⟩,.int .i64 0,.str ⟨#[]⟩,.int .i64 0,.int .i64 0,.int .i64 0,.int .i64 0]) [(0,0,1,(.t 78)),(1,1,1,(.k (.int .i64 1))),(6,6,1,(.k (.int .i64 2)))]),Oo 80 (.bld (.agg [.agg [.str ⟨#[]⟩,.int .i64 0,.str ⟨#[]⟩,.int .i64 0,.int .i64 0,.int .i64 0,.int .i64 0],.int .i64 0,.int .i64 0,.int .i64 0,.int .i64 0]) [(0,0,7,(.t 79)),(1,7,1,(.k (.int .i64 4)))]),Oo 81 (.bsl (.agg [.agg [.str ⟨#[]⟩,.int .i64 0,.str ⟨#[]⟩,.int .i64 0,.int .i64 0,.int .i64 0,.int .i64 0],.int .i64 0,.int .i64 0,.int .i64 0,.int .i64 0]) 1 [(0,(.t 80))]),Oo 82 (.app 11 104 (.t 72) (.t 81)),Of 83 6 3,Os 1 83 82])) (.ops [Om 69 6,Oi 70 69,Om 6 70])))))) .skip)) .skip)))))))) (.seq (.ops [Od 84 9 3,Os 9 2 84]) .ret))))⟩
theorem c97 : compileF Try.prog [1000007, 1000017] 97 = some cf97 := by kernel_rfl
structure AnyOk (m : Mate) : Prop where
 w : m.fWants.length ≤ 5
 r : m.fRuns.length ≤ 20
 a : m.fAsks.length ≤ 5
 g : m.fGives.length ≤ 5
theorem AnyOk.small {m : Mate} (h : AnyOk m) : m.small := ⟨⟨Nat.le_trans h.w (by decide), fun _ _ => ⟨⟩⟩, ⟨Nat.le_trans h.r (by decide), fun _ _ => ⟨⟨⟩⟩⟩, ⟨Nat.le_trans h.a (by decide), fun _ _ => ⟨⟩⟩, ⟨Nat.le_trans h.g (by decide), fun _ _ => ⟨⟩⟩⟩
theorem mkAny0 (b : Nat) (c : List Int) (p : Nat) (hc : CodeOk c) (hp : p + 1400 ≤ 1000000000) : XC Try.prog 97 [.lref 0 b [] 0] [(0, b, Rd c p)] (fun d ls => ∃ (m : Mate) (p' : Nat), p ≤ p' ∧ p' ≤ p + 1200 ∧ AnyOk m ∧ ∃ b1 b2 b3 b4 c1 c2 c3 c4, d = m.O 29 36 169 177 b1 b2 b3 b4 c1 c2 c3 c4 ∧ ls = (0, b, Rd c p') :: m.L 29 36 169 177 b1 b2 b3 b4 c1 c2 c3 c4) := by
 refine XC.intro' hm [0, 29, 36, 169, 177] rfl c97 (Nat.le_of_ble_eq_true rfl) ?_
 conv => whnf
 repeat' (first | (refine g_op ?_; conv => whnf) | (refine And.intro ?_ ?_; (focus exact au0); conv => whnf) | (refine g_seq ?_) | (refine g_ops ?_) | ((first | refine g_nil ?_ | refine fun _ => ?_); conv => whnf) | fail)
 refine XS.go ?_
 conv => whnf
 repeat' (first | (refine g_op ?_; conv => whnf) | (refine And.intro ?_ ?_; (focus exact au0); conv => whnf) | (refine g_seq ?_) | (refine g_ops ?_) | fail)
 refine XCL.of_XC (ls := [(0, b, Rd c p)]) ⟨rfl, rfl, rfl, True.intro⟩ ((mkDraw0 b c p hc (by omega)).mono fun d ls h => ?_)
 obtain ⟨m, q0, g1, g2, hD, b1, b2, b3, b4, c1, c2, c3, c4, rfl, rfl⟩ := h
 conv => whnf
 repeat' (first | (refine g_op ?_; conv => whnf) | (refine And.intro ?_ ?_; (focus exact au0); conv => whnf) | ((first | refine g_nil ?_ | refine fun _ => ?_); conv => whnf) | fail)
 rename_i z2 z3
 refine XS.weakenA (fs := [.lref 0 b [] 0, .any, .lref 2 z2 [] 0, .lref 3 z3 [] 0]) (ls := [(0, Rd c q0), (2, .agg [.str ⟨#[]⟩, .bool false, .int .i64 0, .bool false, .int .i64 0, .nil, .nil, .nil, .nil]), (3, .agg [.str m.fName, .bool m.fUp, .int .i64 m.fClock, .bool m.fKnown, .int .i64 m.fSeen, .lsl 29 b1 m.fWants.length c1, .lsl 36 b2 m.fRuns.length c2, .lsl 169 b3 m.fAsks.length c3, .lsl 177 b4 m.fGives.length c4]), (29, .arr 7 (m.fWants.map MateWant.D) c1), (36, .arr 11 (m.fRuns.map MateRun.D) c2), (169, .arr 4 (m.fAsks.map MateAsk.D) c3), (177, .arr 4 (m.fGives.map MateAsk.D) c4)]) ⟨?_, ?_⟩ ?_
 ·repeat' (first | exact True.intro | refine And.intro rfl ?_)
 ·exact ⟨rfl, rfl, rfl, rfl, rfl, rfl, rfl, True.intro⟩
 have hms : m.small := ⟨⟨Nat.le_trans hD.w (by decide), fun _ _ => ⟨⟩⟩, ⟨Nat.le_trans hD.r (by decide), fun _ _ => ⟨⟨⟩⟩⟩, ⟨Nat.le_trans hD.a (by decide), fun _ _ => ⟨⟩⟩, ⟨Nat.le_trans hD.g (by decide), fun _ _ => ⟨⟩⟩⟩
 have hd1 := hD.w
 have hd2 := hD.r
 have hd3 := hD.a
 have hd4 := hD.g
 refine XS.go ?_
 conv => whnf
 repeat' (first | ((refine XCL.pkv (by decide) hc (by omega) ⟨rfl, rfl, rfl, True.intro⟩ (fun v q v1 v2 q1 q2 => ?_); conv => whnf)) | (refine g_op ?_; conv => whnf) | (refine And.intro ?_ ?_; (focus exact au0); conv => whnf) | (refine g_seq ?_) | (refine g_ops ?_) | (refine g_nil ?_; conv => whnf) | fail)
 have g3 : p ≤ q := by omega
 have g4 : q ≤ p + 1002 := by omega
 have hcs : v = 0 ∨ v = 1 ∨ v = 2 ∨ v = 3 ∨ 4 ≤ v := by omega
 clear g1 g2 v1 v2 q1 q2
 refine XS.go ?_
 rcases hcs with rfl | rfl | rfl | rfl | hv4
 ·conv => whnf
  repeat' (first | (refine g_op ?_; conv => whnf) | (refine And.intro ?_ ?_; (focus exact au0); conv => whnf) | (refine g_seq ?_) | (refine XS.go ?_) | (refine g_ops ?_) | (refine g_nil ?_; conv => whnf) | (refine Br.t ?_ ?_; (focus (first | assumption | exact rfl)); conv => whnf) | ((first | refine g_cond ?_ | refine g_skip ?_); conv => whnf) | (refine g_block ?_) | fail)
  refine XCL.of_XC (ls := (0, b, Rd c q) :: m.L 29 36 169 177 b1 b2 b3 b4 c1 c2 c3 c4) ⟨rfl, rfl, rfl, rfl, rfl, rfl, rfl, rfl, rfl, rfl, rfl, rfl, rfl, rfl, rfl, True.intro⟩ ((mkSpoilM0 m hms hD b c q b1 b2 b3 b4 c1 c2 c3 c4 hc (by omega)).mono fun d ls h => ?_)
  obtain ⟨R, q5, g5, g6, hR, d1, d2, d3, d4, e1, e2, e3, e4, rfl, rfl⟩ := h
  conv => whnf
  repeat' (first | (refine g_op ?_; conv => whnf) | (refine And.intro ?_ ?_; (focus exact au0); conv => whnf) | (refine g_nil ?_; conv => whnf) | fail)
  refine XS.weakenA (fs := [.any, .any, .lref 2 z2 [] 0]) (ls := [(0, Rd c q5), (2, .agg [.str R.fName, .bool R.fUp, .int .i64 R.fClock, .bool R.fKnown, .int .i64 R.fSeen, .lsl 6 d1 R.fWants.length e1, .lsl 11 d2 R.fRuns.length e2, .lsl 16 d3 R.fAsks.length e3, .lsl 21 d4 R.fGives.length e4]), (6, .arr 7 (R.fWants.map MateWant.D) e1), (11, .arr 11 (R.fRuns.map MateRun.D) e2), (16, .arr 4 (R.fAsks.map MateAsk.D) e3), (21, .arr 4 (R.fGives.map MateAsk.D) e4)]) ⟨?_, ?_⟩ ?_
  ·repeat' (first | exact True.intro | refine And.intro rfl ?_)
  ·exact ⟨rfl, rfl, rfl, rfl, rfl, rfl, True.intro⟩
  refine XS.move 6 29 [] rfl ?_
  refine XS.hintB 2 29 [5] rfl rfl rfl rfl rfl (fun _ _ _ h => by cases h) rfl ?_
  refine XS.move 11 36 [] rfl ?_
  refine XS.hintB 2 36 [6] rfl rfl rfl rfl rfl (fun _ _ _ h => by cases h) rfl ?_
  refine XS.move 16 169 [] rfl ?_
  refine XS.hintB 2 169 [7] rfl rfl rfl rfl rfl (fun _ _ _ h => by cases h) rfl ?_
  refine XS.move 21 177 [] rfl ?_
  refine XS.hintB 2 177 [8] rfl rfl rfl rfl rfl (fun _ _ _ h => by cases h) rfl ?_
  refine XS.go ?_
  conv => whnf
  repeat' (first | (refine And.intro ?_ ?_; (focus exact au0); conv => whnf) | ((first | refine g_ret ?_ | refine r_c ?_ | refine r_nil ?_); conv => whnf) | fail)
  exact ⟨R, q5, by omega, by omega, ⟨hR.w, Nat.le_trans hR.r (by decide), hR.a, hR.g⟩, d1, d2, d3, d4, e1, e2, e3, e4, rfl, rfl⟩
 ·conv => whnf
  repeat' (first | (refine g_op ?_; conv => whnf) | (refine And.intro ?_ ?_; (focus exact au0); conv => whnf) | (refine g_seq ?_) | (refine XS.go ?_) | (refine g_ops ?_) | (refine g_nil ?_; conv => whnf) | (refine Br.t ?_ ?_; (focus (first | assumption | exact rfl)); conv => whnf) | (refine Br.f ?_ ?_; (focus (first | assumption | exact rfl)); conv => whnf) | (refine g_cond ?_; conv => whnf) | (refine g_block ?_) | fail)
  refine XCL.of_XC (ls := (0, b, Rd c q) :: m.L 29 36 169 177 b1 b2 b3 b4 c1 c2 c3 c4) ⟨rfl, rfl, rfl, rfl, rfl, rfl, rfl, rfl, rfl, rfl, rfl, rfl, rfl, rfl, rfl, True.intro⟩ ((mkSpoilM0 m hms hD b c q b1 b2 b3 b4 c1 c2 c3 c4 hc (by omega)).mono fun d ls h => ?_)
  obtain ⟨R, q5, g5, g6, hR, d1, d2, d3, d4, e1, e2, e3, e4, rfl, rfl⟩ := h
  conv => whnf
  repeat' (first | (refine g_op ?_; conv => whnf) | (refine And.intro ?_ ?_; (focus exact au0); conv => whnf) | (refine g_nil ?_; conv => whnf) | fail)
  refine XS.weakenA (fs := [.any, .any, .lref 2 z2 [] 0]) (ls := [(0, Rd c q5), (2, .agg [.str R.fName, .bool R.fUp, .int .i64 R.fClock, .bool R.fKnown, .int .i64 R.fSeen, .lsl 6 d1 R.fWants.length e1, .lsl 11 d2 R.fRuns.length e2, .lsl 16 d3 R.fAsks.length e3, .lsl 21 d4 R.fGives.length e4]), (6, .arr 7 (R.fWants.map MateWant.D) e1), (11, .arr 11 (R.fRuns.map MateRun.D) e2), (16, .arr 4 (R.fAsks.map MateAsk.D) e3), (21, .arr 4 (R.fGives.map MateAsk.D) e4)]) ⟨?_, ?_⟩ ?_
  ·repeat' (first | exact True.intro | refine And.intro rfl ?_)
  ·exact ⟨rfl, rfl, rfl, rfl, rfl, rfl, True.intro⟩
  refine XS.move 6 29 [] rfl ?_
  refine XS.hintB 2 29 [5] rfl rfl rfl rfl rfl (fun _ _ _ h => by cases h) rfl ?_
  refine XS.move 11 36 [] rfl ?_
  refine XS.hintB 2 36 [6] rfl rfl rfl rfl rfl (fun _ _ _ h => by cases h) rfl ?_
  refine XS.move 16 169 [] rfl ?_
  refine XS.hintB 2 169 [7] rfl rfl rfl rfl rfl (fun _ _ _ h => by cases h) rfl ?_
  refine XS.move 21 177 [] rfl ?_
  refine XS.hintB 2 177 [8] rfl rfl rfl rfl rfl (fun _ _ _ h => by cases h) rfl ?_
  refine XS.go ?_
  conv => whnf
  repeat' (first | (refine And.intro ?_ ?_; (focus exact au0); conv => whnf) | ((first | refine g_ret ?_ | refine r_c ?_ | refine r_nil ?_); conv => whnf) | fail)
  exact ⟨R, q5, by omega, by omega, ⟨hR.w, Nat.le_trans hR.r (by decide), hR.a, hR.g⟩, d1, d2, d3, d4, e1, e2, e3, e4, rfl, rfl⟩
 ·conv => whnf
  repeat' (first | (refine g_op ?_; conv => whnf) | (refine And.intro ?_ ?_; (focus exact au0); conv => whnf) | (refine g_seq ?_) | (refine g_ops ?_) | (refine g_nil ?_; conv => whnf) | (refine g_block ?_) | fail)
  refine XS.go ?_
  conv => whnf
  repeat' (first | (refine g_op ?_; conv => whnf) | (refine And.intro ?_ ?_; (focus exact au0); conv => whnf) | (refine g_ops ?_) | (refine g_nil ?_; conv => whnf) | (refine Br.f ?_ ?_; (focus (first | assumption | exact rfl)); conv => whnf) | (refine g_cond ?_; conv => whnf) | fail)
  refine XS.go ?_
  conv => whnf
  repeat' (first | (refine g_op ?_; conv => whnf) | (refine And.intro ?_ ?_; (focus exact au0); conv => whnf) | (refine g_seq ?_) | (refine g_ops ?_) | (refine g_nil ?_; conv => whnf) | (refine Br.f ?_ ?_; (focus (first | assumption | exact rfl)); conv => whnf) | (refine g_cond ?_; conv => whnf) | fail)
  refine XS.go ?_
  conv => whnf
  repeat' (first | ((refine XCL.pkv (by decide) hc (by omega) ⟨rfl, rfl, rfl, True.intro⟩ (fun v q v1 v2 q1 q2 => ?_); conv => whnf)) | ((refine And.intro ⟨⟨rfl, rfl⟩, True.intro⟩ ?_; conv => whnf)) | (refine And.intro ?_ ?_; (focus exact au0); conv => whnf) | (refine g_seq ?_) | (refine Br.t ?_ ?_; (focus (first | assumption | exact rfl)); conv => whnf) | (refine g_cond ?_; conv => whnf) | (refine g_drawn ?_) | ((first | refine d_p ?_ | refine d_e ?_ | refine d_nil ?_); conv => whnf) | fail)
  generalize IntKind.wrap .i64 (IntKind.wrap .i64 (1000000 - v) - m.fClock) = dd
  refine XS.go ?_
  conv => whnf
  repeat' (first | (refine g_op ?_; conv => whnf) | (refine And.intro ?_ ?_; (focus exact au0); conv => whnf) | (refine g_seq ?_) | (refine g_ops ?_) | (refine g_nil ?_; conv => whnf) | fail)
  have hm1 : ∃ m1 : Mate, m1 = { m with fClock := IntKind.wrap .i64 (m.fClock + dd) } := ⟨_, rfl⟩
  obtain ⟨m1, hm1⟩ := hm1
  have g5 : p ≤ q := by omega
  have g6 : q ≤ p + 1003 := by omega
  clear g3 g4 v1 v2 q1 q2
  refine XS.weakenA (fs := [.lref 0 b [] 0, .any, .lref 2 z2 [] 0, .lref 3 z3 [] 0, .int .i64 dd]) (ls := [(0, Rd c q), (2, .agg [.str ⟨#[]⟩, .bool false, .int .i64 0, .bool false, .int .i64 0, .nil, .nil, .nil, .nil]), (3, .agg [.str m1.fName, .bool m1.fUp, .int .i64 m1.fClock, .bool m1.fKnown, .int .i64 m1.fSeen, .lsl 29 b1 m1.fWants.length c1, .lsl 36 b2 m1.fRuns.length c2, .lsl 169 b3 m1.fAsks.length c3, .lsl 177 b4 m1.fGives.length c4]), (29, .arr 7 (m1.fWants.map MateWant.D) c1), (36, .arr 11 (m1.fRuns.map MateRun.D) c2), (169, .arr 4 (m1.fAsks.map MateAsk.D) c3), (177, .arr 4 (m1.fGives.map MateAsk.D) c4)]) ⟨?_, ?_⟩ ?_
  ·repeat' (first | exact True.intro | refine And.intro rfl ?_)
  ·(subst hm1; exact ⟨rfl, rfl, rfl, rfl, rfl, rfl, rfl, True.intro⟩)
  have k1 : m1.fWants.length ≤ 5 := by rw [hm1]; show m.fWants.length ≤ 5; omega
  have k2 : m1.fRuns.length ≤ 5 := by rw [hm1]; show m.fRuns.length ≤ 5; omega
  have k3 : m1.fAsks.length ≤ 5 := by rw [hm1]; show m.fAsks.length ≤ 5; omega
  have k4 : m1.fGives.length ≤ 5 := by rw [hm1]; show m.fGives.length ≤ 5; omega
  clear hm1 hms hD hd1 hd2 hd3 hd4
  refine XS.go ?_
  conv => whnf
  repeat' (first | (refine g_op ?_; conv => whnf) | (refine And.intro ?_ ?_; (focus exact au0); conv => whnf) | (refine g_seq ?_) | (refine g_ops ?_) | (refine g_nil ?_; conv => whnf) | fail)
  refine XS.go ?_
  conv => whnf
  repeat' (first | (refine g_loop ?_) | (refine g_block ?_) | fail)
  refine XLc.mkG (α := Mate × Nat) (fun x gs => x.1.fWants.length ≤ 5 ∧ x.1.fRuns.length ≤ 5 ∧ x.1.fAsks.length ≤ 5 ∧ x.1.fGives.length ≤ 5 ∧ x.2 ≤ 5 ∧ gs 0 = b) (fun x => 5 - x.2) (fun x gs => [.lref 0 (gs 0) [] 0, .any, .lref 2 (gs 2) [] 0, .lref 3 (gs 3) [] 0, .int .i64 dd, .int .i64 (x.2 : Int)]) (fun x gs => [(0, Rd c q), (2, .agg [.str ⟨#[]⟩, .bool false, .int .i64 0, .bool false, .int .i64 0, .nil, .nil, .nil, .nil]), (3, .agg [.str x.1.fName, .bool x.1.fUp, .int .i64 x.1.fClock, .bool x.1.fKnown, .int .i64 x.1.fSeen, .lsl 29 (gs 29) x.1.fWants.length c1, .lsl 36 (gs 36) x.1.fRuns.length c2, .lsl 169 (gs 169) x.1.fAsks.length c3, .lsl 177 (gs 177) x.1.fGives.length c4]), (29, .arr 7 (x.1.fWants.map MateWant.D) c1), (36, .arr 11 (x.1.fRuns.map MateRun.D) c2), (169, .arr 4 (x.1.fAsks.map MateAsk.D) c3), (177, .arr 4 (x.1.fGives.map MateAsk.D) c4)]) (m1, 0) ⟨k1, k2, k3, k4, Nat.zero_le _, rfl⟩ ⟨?_, ?_⟩ ?_
  ·repeat' (first | exact True.intro | refine And.intro rfl ?_)
  ·exact ⟨rfl, rfl, rfl, rfl, rfl, rfl, rfl, True.intro⟩
  clear k1 k2 k3 k4
  intro x gs hI
  obtain ⟨m, i⟩ := x
  obtain ⟨k1, k2, k3, k4, hi5, hg⟩ := hI
  dsimp only at k1 k2 k3 k4 hi5 ⊢
  subst hg
  repeat' (first | (refine z_ld1 ?_; first | (refine z_ld rfl rfl rfl rfl au1 au2 ?_; conv => whnf) | (refine z_ld0 rfl ?_; conv => whnf)) | (refine z_op ?_ ?_; (focus exact rfl); conv => whnf) | (refine zs_ops ?_ ?_; (focus exact rfl)) | (refine z_nil fun vals => ?_; conv => whnf) | (refine And.intro ?_ ?_; (focus exact au0); conv => whnf) | (refine g_seq ?_) | (refine XS.go ?_) | (refine g_cond ?_; conv => whnf) | fail)
  refine Br.mk (fun hb => ?_) (fun hb => ?_)
  ·have hlt : i < m.fRuns.length := by simpa using hb
   clear hb
   have hj0 : i < (m.fRuns.map MateRun.D).length := by rw [List.length_map]; exact hlt
   have he0 : (m.fRuns.map MateRun.D).getD i .any = (m.fRuns.getD i default).D := elt_map hlt
   have hw1 : IntKind.wrap .i64 ((i : Int) + 1) = ((i + 1 : Nat) : Int) := by rw [wrap_ok (by omega) (by omega)]; rfl
   have hwr : ((i : Nat) : Int) < ((m.fRuns.length : Nat) : Int) := by omega
   have he2 : (m.fRuns.map MateRun.D).getD (i : Int).toNat .any = (m.fRuns.getD i default).D := he0
   generalize hr : m.fRuns.getD i default = r at he0 he2
   conv => whnf
   repeat' (first | ((rw [he2]; conv => whnf)) | ((refine And.intro hwr ?_; conv => whnf)) | (refine g_op ?_; conv => whnf) | (refine And.intro ?_ ?_; (focus exact au0); conv => whnf) | (refine g_seq ?_) | (refine XS.go ?_) | (refine g_ops ?_) | ((first | refine g_nil ?_ | refine g_cond ?_ | refine g_skip ?_); conv => whnf) | (refine g_block ?_) | fail)
   refine Br.mk (fun hb => ?_) (fun hb => ?_)
   ·clear hb
    conv => whnf
    repeat' (first | ((refine d_ld rfl rfl rfl hj0 he0 ?_; conv => whnf)) | ((refine And.intro hwr ?_; conv => whnf)) | ((refine d_st rfl rfl rfl hj0 he0 rfl rfl ?_; conv => whnf)) | (refine g_op ?_; conv => whnf) | (refine And.intro ?_ ?_; (focus exact au0); conv => whnf) | (refine XS.go ?_) | (refine g_ops ?_) | (refine g_nil ?_; conv => whnf) | (refine g_drawn ?_) | ((first | refine d_p ?_ | refine d_nil ?_); conv => whnf) | fail)
    refine ⟨({ m with fRuns := m.fRuns.set i { r with fUntil := IntKind.wrap .i64 (r.fUntil + dd) } }, i + 1), ⟨k1, by show (m.fRuns.set _ _).length ≤ 5; rw [List.length_set]; exact k2, k3, k4, by dsimp only; omega, rfl⟩, by simp only; omega, ?_, ?_⟩
    ·dsimp only
     repeat' (first | exact True.intro | refine And.intro rfl ?_ | refine And.intro (congrArg (D.int .i64) hw1) ?_)
    ·exact ⟨rfl, rfl, congrArg (fun n => some (D.agg [.str m.fName, .bool m.fUp, .int .i64 m.fClock, .bool m.fKnown, .int .i64 m.fSeen, .lsl 29 (gs 29) m.fWants.length c1, .lsl 36 (gs 36) n c2, .lsl 169 (gs 169) m.fAsks.length c3, .lsl 177 (gs 177) m.fGives.length c4])) (List.length_set ..).symm, rfl, congrArg (fun l => some (D.arr 11 l c2)) (by rw [List.map_set]; rfl), rfl, rfl, True.intro⟩
   ·clear hb
    conv => whnf
    repeat' (first | (refine g_op ?_; conv => whnf) | (refine And.intro ?_ ?_; (focus exact au0); conv => whnf) | (refine XS.go ?_) | (refine g_ops ?_) | ((first | refine g_nil ?_ | refine g_skip ?_); conv => whnf) | fail)
    refine ⟨(m, i + 1), ⟨k1, k2, k3, k4, by dsimp only; omega, rfl⟩, by simp only; omega, ?_, ?_⟩
    ·dsimp only
     repeat' (first | exact True.intro | refine And.intro rfl ?_ | refine And.intro (congrArg (D.int .i64) hw1) ?_)
    ·exact ⟨rfl, rfl, rfl, rfl, rfl, rfl, rfl, True.intro⟩
  clear hb
  conv => whnf
  repeat' (first | (refine g_exit ?_; conv => whnf) | fail)
  refine XS.go ?_
  conv => whnf
  repeat' (first | (refine g_op ?_; conv => whnf) | (refine And.intro ?_ ?_; (focus exact au0); conv => whnf) | (refine g_seq ?_) | (refine g_ops ?_) | (refine g_nil ?_; conv => whnf) | fail)
  refine XS.go ?_
  conv => whnf
  repeat' (first | (refine And.intro ?_ ?_; (focus exact au0); conv => whnf) | ((first | refine g_ret ?_ | refine r_c ?_ | refine r_nil ?_); conv => whnf) | fail)
  exact ⟨m, q, by omega, by omega, ⟨k1, by omega, k3, k4⟩, _, _, _, _, c1, c2, c3, c4, rfl, rfl⟩
 ·conv => whnf
  repeat' (first | (refine g_op ?_; conv => whnf) | (refine And.intro ?_ ?_; (focus exact au0); conv => whnf) | (refine g_seq ?_) | (refine XS.go ?_) | (refine g_ops ?_) | (refine g_nil ?_; conv => whnf) | (refine Br.t ?_ ?_; (focus (first | assumption | exact rfl)); conv => whnf) | (refine Br.f ?_ ?_; (focus (first | assumption | exact rfl)); conv => whnf) | (refine g_cond ?_; conv => whnf) | (refine g_block ?_) | fail)
  refine Br.mk (fun hb => ?_) (fun hb => ?_)
  ·clear hb
   conv => whnf
   repeat' (first | (refine g_op ?_; conv => whnf) | (refine And.intro ?_ ?_; (focus exact au0); conv => whnf) | (refine g_seq ?_) | (refine XS.go ?_) | (refine g_ops ?_) | (refine g_loop ?_) | (refine g_nil ?_; conv => whnf) | (refine g_block ?_) | fail)
   refine XLc.mkG (α := Mate × Nat × Nat × Nat) (fun x gs => x.1.fWants.length ≤ 5 ∧ x.1.fRuns.length ≤ 20 ∧ x.1.fAsks.length ≤ 5 ∧ x.1.fGives.length ≤ 5 ∧ x.2.2.1 ≤ x.1.fRuns.length ∧ gs 0 = b ∧ p ≤ x.2.2.2 ∧ x.2.2.2 ≤ p + 1003 + x.2.2.1) (fun x => 21 - x.1.fRuns.length) (fun x gs => [.lref 0 (gs 0) [] 0, .any, .lref 2 (gs 2) [] 0, .lref 3 (gs 3) [] 0, .any, .any, .int .i64 (x.2.2.1 : Int)]) (fun x gs => [(0, Rd c x.2.2.2), (2, .agg [.str ⟨#[]⟩, .bool false, .int .i64 0, .bool false, .int .i64 0, .nil, .nil, .nil, .nil]), (3, .agg [.str x.1.fName, .bool x.1.fUp, .int .i64 x.1.fClock, .bool x.1.fKnown, .int .i64 x.1.fSeen, .lsl 29 (gs 29) x.1.fWants.length c1, .lsl 36 (gs 36) x.1.fRuns.length x.2.1, .lsl 169 (gs 169) x.1.fAsks.length c3, .lsl 177 (gs 177) x.1.fGives.length c4]), (29, .arr 7 (x.1.fWants.map MateWant.D) c1), (36, .arr 11 (x.1.fRuns.map MateRun.D) x.2.1), (169, .arr 4 (x.1.fAsks.map MateAsk.D) c3), (177, .arr 4 (x.1.fGives.map MateAsk.D) c4)]) (m, c2, 0, q) ⟨by show m.fWants.length ≤ 5; omega, by show m.fRuns.length ≤ 20; omega, by show m.fAsks.length ≤ 5; omega, by show m.fGives.length ≤ 5; omega, Nat.zero_le _, rfl, g3, by show q ≤ p + 1003 + 0; omega⟩ ⟨?_, ?_⟩ ?_
   ·repeat' (first | exact True.intro | refine And.intro rfl ?_)
   ·exact ⟨rfl, rfl, rfl, rfl, rfl, rfl, rfl, True.intro⟩
   clear hms hD hd1 hd2 hd3 hd4 g3 g4
   intro x gs hI
   obtain ⟨m1, cc, i, q1⟩ := x
   obtain ⟨k1, k2, k3, k4, k5, hg, k6, k7⟩ := hI
   dsimp only at k1 k2 k3 k4 k5 k6 k7 ⊢
   subst hg
   repeat' (first | ((refine XCL.pkv (by decide) hc (by omega) ⟨rfl, rfl, rfl, True.intro⟩ (fun v2 q2 w1 w2 w3 w4 => ?_); conv => whnf)) | ((refine And.intro ⟨⟨rfl, rfl⟩, True.intro⟩ ?_; conv => whnf)) | (refine And.intro ?_ ?_; (focus exact au0); conv => whnf) | (refine g_seq ?_) | (refine XS.go ?_) | (refine g_cond ?_; conv => whnf) | (refine g_drawn ?_) | ((first | refine d_p ?_ | refine d_e ?_ | refine d_nil ?_); conv => whnf) | fail)
   refine Br.mk (fun hb => ?_) (fun hb => ?_)
   ·have hlt : m1.fRuns.length < 20 := by
     have hw3 : IntKind.wrap .i64 (20 - v2) = 20 - v2 := wrap_ok (by omega) (by omega)
     rw [hw3] at hb
     have := of_decide_eq_true hb
     omega
    clear hb
    have hw1 : IntKind.wrap .i64 ((i : Int) + 1) = ((i + 1 : Nat) : Int) := by rw [wrap_ok (by omega) (by omega)]; rfl
    have hlX : m1.fRuns.length = (m1.fRuns.map MateRun.D).length := (List.length_map ..).symm
    have hbd : ∀ d : Go.Ab.D, (m1.fRuns.map MateRun.D).length + [d].length ≤ 1073741824 := fun d => by rw [← hlX]; simp only [List.length_cons, List.length_nil]; omega
    conv => whnf
    repeat' (first | (refine g_skip ?_; conv => whnf) | fail)
    refine XS.go ?_
    conv => whnf
    repeat' (first | ((refine And.intro (catOk (by show 1 + 1 ≤ 100000000; omega)) ?_; conv => whnf)) | ((refine And.intro hlX ?_; conv => whnf)) | ((refine And.intro (hbd _) ?_; conv => whnf)) | ((refine fun n1 bx cx hn1 hc1 => ?_; conv => whnf)) | (refine g_op ?_; conv => whnf) | (refine And.intro ?_ ?_; (focus exact au0); conv => whnf) | (refine g_seq ?_) | (refine g_ops ?_) | (refine g_nil ?_; conv => whnf) | (refine g_block ?_) | (refine fun _ => ?_; conv => whnf) | fail)
    generalize (ByteArray.mk #[100]) ++ _ = nm
    obtain ⟨ys, hy1, hy2⟩ := snoc_run m1.fRuns (d := .agg [.agg [.str nm, .int .i64 1, .str ⟨#[]⟩, .int .i64 0, .int .i64 0, .int .i64 0, .int .i64 2], .int .i64 4, .int .i64 0, .int .i64 0, .int .i64 0]) (run_ex _ _ _ _ _ _ _ _ _ _ _)
    have hn2 : n1 = ys.length := by rw [hn1, hy1]; simp
    clear hn1
    subst hn2
    refine XS.move 82 36 [] rfl ?_
    refine XS.hintB 3 36 [6] rfl rfl rfl rfl rfl (fun _ _ _ h => by cases h) rfl ?_
    refine XS.go ?_
    conv => whnf
    repeat' (first | (refine g_op ?_; conv => whnf) | (refine And.intro ?_ ?_; (focus exact au0); conv => whnf) | (refine g_ops ?_) | (refine g_nil ?_; conv => whnf) | fail)
    refine ⟨({ m1 with fRuns := ys }, cx, i + 1, q2), ⟨k1, by show ys.length ≤ 20; omega, k3, k4, by show i + 1 ≤ ys.length; omega, rfl, by dsimp only; omega, by dsimp only; omega⟩, by show 21 - ys.length < 21 - m1.fRuns.length; omega, ?_, ?_⟩
    ·dsimp only
     repeat' (first | exact True.intro | refine And.intro rfl ?_ | refine And.intro (congrArg (D.int .i64) hw1) ?_)
    ·exact ⟨rfl, rfl, rfl, rfl, congrArg (fun l => some (D.arr 11 l cx)) hy2, rfl, rfl, True.intro⟩
   ·clear hb
    conv => whnf
    repeat' (first | (refine g_exit ?_; conv => whnf) | fail)
    refine XS.go ?_
    conv => whnf
    repeat' (first | (refine g_op ?_; conv => whnf) | (refine And.intro ?_ ?_; (focus exact au0); conv => whnf) | (refine g_seq ?_) | (refine g_ops ?_) | (refine g_nil ?_; conv => whnf) | fail)
    refine XS.go ?_
    conv => whnf
    repeat' (first | (refine And.intro ?_ ?_; (focus exact au0); conv => whnf) | ((first | refine g_ret ?_ | refine r_c ?_ | refine r_nil ?_); conv => whnf) | fail)
    exact ⟨m1, q2, by omega, by omega, ⟨k1, k2, k3, k4⟩, _, _, _, _, c1, cc, c3, c4, rfl, rfl⟩
  ·clear hb
   conv => whnf
   repeat' (first | (refine g_skip ?_; conv => whnf) | fail)
   refine XS.go ?_
   conv => whnf
   repeat' (first | (refine g_op ?_; conv => whnf) | (refine And.intro ?_ ?_; (focus exact au0); conv => whnf) | (refine g_seq ?_) | (refine g_ops ?_) | (refine g_nil ?_; conv => whnf) | fail)
   refine XS.go ?_
   conv => whnf
   repeat' (first | (refine And.intro ?_ ?_; (focus exact au0); conv => whnf) | ((first | refine g_ret ?_ | refine r_c ?_ | refine r_nil ?_); conv => whnf) | fail)
   exact ⟨m, q, by omega, by omega, ⟨by omega, by omega, by omega, by omega⟩, b1, b2, b3, b4, c1, c2, c3, c4, rfl, rfl⟩
 ·have e0 : (v == 0) = false := by simp; omega
  have e1 : (v == 1) = false := by simp; omega
  have e2 : (v == 2) = false := by simp; omega
  have e3 : (v == 3) = false := by simp; omega
  conv => whnf
  repeat' (first | (refine g_op ?_; conv => whnf) | (refine And.intro ?_ ?_; (focus exact au0); conv => whnf) | (refine g_seq ?_) | (refine XS.go ?_) | (refine g_ops ?_) | (refine g_nil ?_; conv => whnf) | (refine Br.f ?_ ?_; (focus (first | assumption | exact rfl)); conv => whnf) | ((first | refine g_cond ?_ | refine g_skip ?_ | refine g_ret ?_); conv => whnf) | (refine g_block ?_) | ((first | refine r_c ?_ | refine r_nil ?_); conv => whnf) | fail)
  exact ⟨m, q, by omega, by omega, ⟨by omega, by omega, by omega, by omega⟩, b1, b2, b3, b4, c1, c2, c3, c4, rfl, rfl⟩
end Go.Ab
set_option linter.unusedSimpArgs false
set_option linter.unusedVariables false
namespace Go.Ab
open Go Go.RowKit Go.Proofs
attribute [local irreducible] XC Rdr IntKind.wrap xw xos xqs xr xd
set_option maxRecDepth 100000
set_option maxHeartbeats 16000000
def cf47 : CF := ⟨14,[.c 2 9 true,.t 3],(.seq (.ops [Oo 2 (.al (.agg [.str ⟨#[]⟩,.bool false,.int .i64 0,.bool false,.int .i64 0,.nil,.nil,.nil,.nil])),Ok 3 (.bool false)]) (.seq (.ops [Om 6 0,Oc 7 68 [.t 6],Om 4 7]) (.seq (.ops [Om 8 4,Oc 9 97 [.t 8],Oo 5 (.al (.agg [.str ⟨#[]⟩,.bool false,.int .i64 0,.bool false,.int .i64 0,.nil,.nil,.nil,.nil])),Os 9 5 9]) (.seq (.drawn [Qd 10 9 5,Qm 11 4,(Oc 12 69 [.t 11,(.k (.int .i64 2))],true,[(.t 5)]),Qo 13 (.bin .eql (.t 12) (.k (.int .i64 0))),Qs 9 2 10,Qm 3 13]) .ret))))⟩
theorem c47 : compileF Try.prog [] 47 = some cf47 := by kernel_rfl
def cf10 : CF := ⟨121,[.t 2],(.seq (.ops [Ok 2 (.bool false)]) (.seq (.seq (.ops [Om 11 0,Og 12 11,Oo 13 (.bin .gtr (.t 12) (.k (.int .i64 1048576)))]) (.cond (.t 13) (.seq (.ops [Ok 2 (.bool true)]) .ret) .skip)) (.seq (.ops [Om 15 0,Oc 16 47 [.t 15],Om 14 16,Oo 17 (.ext (.t 14) 0),Oo 18 (.ext (.t 14) 1),Oo 3 (.al (.agg [.str ⟨#[]⟩,.bool false,.int .i64 0,.bool false,.int .i64 0,.nil,.nil,.nil,.nil])),Os 9 3 17,Om 4 18]) (.seq (.ops [Od 19 9 3,Om 20 4,Oc 21 48 [.t 19,.t 20],Oo 5 (.al (.agg [.str ⟨#[]⟩,.bool false,.int .i64 0,.bool false,.int .i64 0,.nil,.nil,.nil,.nil])),Os 9 5 21]) (.seq (.ops [Od 22 9 5,Oc 23 49 [.t 22],Oo 6 (.al (.agg [.str ⟨#[]⟩,.bool false,.int .i64 0,.bool false,.int .i64 0,.nil,.nil,.nil,.nil])),Os 9 6 23]) (.seq (.seq (.quiet [Od 24 9 5,Od 25 9 3,Om 26 4,Oc 27 51 [.t 25,.t 26],Oc 28 50 [.t 24,.t 27],Oo 29 (.not (.t 28)),Om 30 29,⟨some 31,.ld 9 true (.t 6),some (30,false)⟩,⟨some 32,.ld 9 true (.t 3),some (30,false)⟩,⟨some 33,.mv (.t 4),some (30,false)⟩,⟨some 34,.call 51 [.t 32,.t 33],some (30,false)⟩,⟨some 35,.call 52 [.t 34],some (30,false)⟩,⟨some 36,.call 50 [.t 31,.t 35],some (30,false)⟩,⟨some 37,.not (.t 36),some (30,false)⟩,Oo 38 (.pick (.t 30) (.k (.bool true)) (.t 37))]) (.cond (.t 38) (.seq (.ops [Ok 2 (.bool false)]) .ret) .skip)) (.seq (.seq (.ops [Od 39 9 3,Oc 40 45 [.t 39],Oo 41 (.not (.t 40))]) (.cond (.t 41) (.seq (.ops [Of 42 0 5,Ol 43 42,Oo 44 (.bin .eql (.t 43) (.k (.str ⟨#[]⟩))),Om 45 44,⟨some 46,.fa 0 1 0 (.t 6),some (45,true)⟩,⟨some 47,.ld 1 false (.t 46),some (45,true)⟩,⟨some 48,.bin .eql (.t 47) (.k (.str ⟨#[]⟩)),some (45,true)⟩,Oo 49 (.pick (.t 45) (.t 48) (.k (.bool false))),Om 2 49]) .ret) .skip)) (.seq (.seq (.ops [Od 50 9 5,Oc 51 46 [.t 50],Oo 52 (.not (.t 51)),Om 53 52,⟨some 54,.ld 9 true (.t 6),some (53,false)⟩,⟨some 55,.call 46 [.t 54],some (53,false)⟩,⟨some 56,.not (.t 55),some (53,false)⟩,Oo 57 (.pick (.t 53) (.k (.bool true)) (.t 56)),Om 58 57,⟨some 59,.fa 1 1 1 (.t 5),some (58,false)⟩,⟨some 60,.ld 1 false (.t 59),some (58,false)⟩,Oo 61 (.pick (.t 58) (.k (.bool true)) (.t 60)),Om 62 61,⟨some 63,.fa 1 1 1 (.t 6),some (62,false)⟩,⟨some 64,.ld 1 false (.t 63),some (62,false)⟩,⟨some 65,.fa 2 1 2 (.t 3),some (62,false)⟩,⟨some 66,.ld 1 false (.t 65),some (62,false)⟩,⟨some 67,.bin .lss (.t 66) (.k (.int .i64 1000000)),some (62,false)⟩,⟨some 68,.binb true (.t 64) (.t 67),some (62,false)⟩,Oo 69 (.pick (.t 62) (.k (.bool true)) (.t 68))]) (.cond (.t 69) (.seq (.ops [Ok 2 (.bool false)]) .ret) .skip)) (.seq (.ops [Oo 70 (.bsl (.agg [.agg [.str ⟨#[]⟩,.int .i64 0,.str ⟨#[]⟩,.int .i64 0,.int .i64 0,.int .i64 0,.int .i64 0],.int .i64 0,.int .i64 0,.int .i64 0,.int .i64 0]) 0 []),Om 7 70]) (.seq (.seq (.ops [Ok 8 (.int .i64 0)]) (.block 0 (.loop (.seq (.seq (.ops [Om 71 8,Of 72 6 3,Ol 73 72,Og 74 73,Ob 75 .lss 71 74,Om 76 75,⟨some 77,.mv (.t 4),some (76,true)⟩,⟨some 78,.not (.t 77),some (76,true)⟩,Oo 79 (.pick (.t 76) (.t 78) (.k (.bool false)))]) (.cond (.t 79) .skip (.exit 0))) (.seq (.block 1 (.seq (.ops [Of 82 6 3,Ol 83 82,Om 84 8,Ox 85 11 83 84,Od 86 11 85,Oc 87 15 [.t 86]]) (.cond (.t 87) (.ops [Om 88 7,Of 89 6 3,Ol 90 89,Om 91 8,Ox 92 11 90 91,Od 93 11 92,Oo 94 (.bsl (.agg [.agg [.str ⟨#[]⟩,.int .i64 0,.str ⟨#[]⟩,.int .i64 0,.int .i64 0,.int .i64 0,.int .i64 0],.int .i64 0,.int .i64 0,.int .i64 0,.int .i64 0]) 1 [(0,(.t 93))]),Oo 95 (.app 11 104 (.t 88) (.t 94)),Om 7 95]) .skip))) (.ops [Om 80 8,Oi 81 80,Om 8 81])))))) (.seq (.ops [Oo 96 (.bsl (.agg [.agg [.str ⟨#[]⟩,.int .i64 0,.str ⟨#[]⟩,.int .i64 0,.int .i64 0,.int .i64 0,.int .i64 0],.int .i64 0,.int .i64 0,.int .i64 0,.int .i64 0]) 0 []),Om 9 96]) (.seq (.seq (.ops [Ok 10 (.int .i64 0)]) (.block 2 (.loop (.seq (.seq (.ops [Om 97 10,Of 98 6 5,Ol 99 98,Og 100 99,Ob 101 .lss 97 100]) (.cond (.t 101) .skip (.exit 2))) (.seq (.block 3 (.seq (.ops [Of 104 6 5,Ol 105 104,Om 106 10,Ox 107 11 105 106,Od 108 11 107,Oc 109 17 [.t 108]]) (.cond (.t 109) (.ops [Om 110 9,Of 111 6 5,Ol 112 111,Om 113 10,Ox 114 11 112 113,Od 115 11 114,Oo 116 (.bsl (.agg [.agg [.str ⟨#[]⟩,.int .i64 0,.str ⟨#[]⟩,.int .i64 0,.int .i64 0,.int .i64 0,.int .i64 0],.int .i64 0,.int .i64 0,.int .i64 0,.int .i64 0]) 1 [(0,(.t 115))]),Oo 117 (.app 11 104 (.t 110) (.t 116)),Om 9 117]) .skip))) (.ops [Om 102 10,Oi 103 102,Om 10 103])))))) (.seq (.ops [Om 118 7,Om 119 9,Oc 120 53 [.t 118,.t 119],Om 2 120]) .ret)))))))))))))⟩
theorem c10 : compileF Try.prog [] 10 = some cf10 := by kernel_rfl
theorem XC.frz {P : Program} {f : FuncId} {ds : List Go.Ab.D} {R : Go.Ab.D → Prop} (h : XC P f ds [] fun d ls => okV ls d ∧ R (frzV ls d)) : XC P f ds [] fun d ls => ls = [] ∧ R d := by
 unfold XC at h ⊢
 refine ⟨h.1, fun U w vs F hU hF hn hFU hT => (h.2 U w vs F hU hF hn hFU hT).mono fun e w' ⟨v, d', ls', U', F', h1, h2, h3, h4, h5, h6, h7, h8, ho, h9⟩ => ?_⟩
 have hF0 : F = [] := hF
 subst hF0
 refine ⟨v, frzV ls' d', [], fun b => U b ∨ (w.heap.size ≤ b ∧ b < w'.heap.size), [], h1, rfl, List.nodup_nil, fun x hx => by simp at hx, frzV_relV (U := U') (fun b hb => ?_) (fun b hb => ?_) h2 ho h5, h6, fun b hb => .inl hb, fun b hb => ?_, rfl, h9⟩
 ·rcases h8 b hb with q | q | q
  ·exact .inl q
  ·exact .inr q
  ·simp at q
 ·rcases (h4 b hb).2 with q | q
  ·simp at q
  ·exact .inr ⟨q, h2.lt b hb⟩
 ·rcases hb with q | q
  ·exact .inl q
  ·exact .inr (.inl q)
theorem frz_tupM (m : Mate) (q : Bool) (b1 b2 b3 b4 c1 c2 c3 c4 : Nat) : okV (m.L 29 36 169 177 b1 b2 b3 b4 c1 c2 c3 c4) (.tup [m.O 29 36 169 177 b1 b2 b3 b4 c1 c2 c3 c4, .bool q]) ∧ frzV (m.L 29 36 169 177 b1 b2 b3 b4 c1 c2 c3 c4) (.tup [m.O 29 36 169 177 b1 b2 b3 b4 c1 c2 c3 c4, .bool q]) = .tup [m.D, .bool q] := by
 refine ⟨⟨⟨True.intro, True.intro, True.intro, True.intro, True.intro, ⟨rfl, Nat.le_of_eq (by simp)⟩, ⟨rfl, Nat.le_of_eq (by simp)⟩, ⟨rfl, Nat.le_of_eq (by simp)⟩, ⟨rfl, Nat.le_of_eq (by simp)⟩, True.intro⟩, True.intro, True.intro⟩, ?_⟩
 have t1 : (D.frozs (m.fWants.map MateWant.D)).take m.fWants.length = m.fWants.map MateWant.D := by rw [D.frozs_map (fun _ => rfl), List.take_of_length_le (by simp)]
 have t2 : (D.frozs (m.fRuns.map MateRun.D)).take m.fRuns.length = m.fRuns.map MateRun.D := by rw [D.frozs_map (fun _ => rfl), List.take_of_length_le (by simp)]
 have t3 : (D.frozs (m.fAsks.map MateAsk.D)).take m.fAsks.length = m.fAsks.map MateAsk.D := by rw [D.frozs_map (fun _ => rfl), List.take_of_length_le (by simp)]
 have t4 : (D.frozs (m.fGives.map MateAsk.D)).take m.fGives.length = m.fGives.map MateAsk.D := by rw [D.frozs_map (fun _ => rfl), List.take_of_length_le (by simp)]
 show D.tup [D.agg [.str m.fName, .bool m.fUp, .int .i64 m.fClock, .bool m.fKnown, .int .i64 m.fSeen, .ro 7 ((D.frozs (m.fWants.map MateWant.D)).take m.fWants.length), .ro 11 ((D.frozs (m.fRuns.map MateRun.D)).take m.fRuns.length), .ro 4 ((D.frozs (m.fAsks.map MateAsk.D)).take m.fAsks.length), .ro 4 ((D.frozs (m.fGives.map MateAsk.D)).take m.fGives.length)], D.bool q] = D.tup [m.D, D.bool q]
 rw [t1, t2, t3, t4]
 rfl
theorem make_Fall (c : List Int) (hl : c.length ≤ 1048576) (hb : ∀ x ∈ c, 0 ≤ x ∧ x < 256) : XC Try.prog 47 [.ro 1 (c.map U8D)] [] (fun d ls => ls = [] ∧ ∃ (m : Mate) (q : Bool), AnyOk m ∧ d = .tup [m.D, .bool q]) := by
 refine XC.frz (R := fun d => ∃ (m : Mate) (q : Bool), AnyOk m ∧ d = .tup [m.D, .bool q]) (XC.mono (K := fun d ls => ∃ (m : Mate) (q : Bool), AnyOk m ∧ ∃ b1 b2 b3 b4 c1 c2 c3 c4, d = .tup [m.O 29 36 169 177 b1 b2 b3 b4 c1 c2 c3 c4, .bool q] ∧ ls = m.L 29 36 169 177 b1 b2 b3 b4 c1 c2 c3 c4) (fun d ls h => ?_) ?_)
 ·obtain ⟨m, q, hm, b1, b2, b3, b4, c1, c2, c3, c4, rfl, rfl⟩ := h
  exact ⟨(frz_tupM m q b1 b2 b3 b4 c1 c2 c3 c4).1, m, q, hm, (frz_tupM m q b1 b2 b3 b4 c1 c2 c3 c4).2⟩
 refine XC.intro' hm [29, 36, 169, 177] rfl c47 (Nat.le_of_ble_eq_true rfl) ?_
 conv => whnf
 repeat' (first | (refine g_op ?_; conv => whnf) | (refine And.intro ?_ ?_; (focus exact au0); conv => whnf) | (refine g_seq ?_) | (refine XS.go ?_) | (refine g_ops ?_) | ((first | refine g_nil ?_ | refine fun _ => ?_); conv => whnf) | fail)
 refine XCL.of_XC (ls := []) True.intro ((spec_Open c hl hb).mono fun d ls h => ?_)
 obtain ⟨b, c', hc, rfl, rfl⟩ := h
 conv => whnf
 repeat' (first | (refine g_op ?_; conv => whnf) | (refine And.intro ?_ ?_; (focus exact au0); conv => whnf) | (refine g_nil ?_; conv => whnf) | fail)
 refine XS.move 10 0 [7, 4] rfl ?_
 refine XS.go ?_
 conv => whnf
 repeat' (first | (refine g_op ?_; conv => whnf) | (refine And.intro ?_ ?_; (focus exact au0); conv => whnf) | (refine g_seq ?_) | (refine g_ops ?_) | fail)
 refine XCL.of_XC (ls := [(0, b, Rd c' 0)]) ⟨rfl, rfl, rfl, True.intro⟩ ((mkAny0 b c' 0 hc (by omega)).mono fun d ls h => ?_)
 obtain ⟨m, q0, g1, g2, hD, b1, b2, b3, b4, c1, c2, c3, c4, rfl, rfl⟩ := h
 conv => whnf
 repeat' (first | ((refine XCL.pkv (by decide) hc (by omega) ⟨rfl, rfl, rfl, True.intro⟩ (fun v q v1 v2 q1 q2 => ?_); conv => whnf)) | ((refine And.intro True.intro ?_; conv => whnf)) | ((refine And.intro ⟨⟨rfl, rfl⟩, True.intro⟩ ?_; conv => whnf)) | (refine g_op ?_; conv => whnf) | (refine And.intro ?_ ?_; (focus exact au0); conv => whnf) | (refine g_seq ?_) | (refine XS.go ?_) | ((first | refine g_nil ?_ | refine g_ret ?_); conv => whnf) | (refine g_drawn ?_) | ((first | refine d_p ?_ | refine d_e ?_ | refine d_nil ?_ | refine r_t ?_ | refine r_c ?_ | refine r_nil ?_ | refine fun _ => ?_); conv => whnf) | fail)
 exact ⟨m, _, hD, b1, b2, b3, b4, c1, c2, c3, c4, rfl, rfl⟩
end Go.Ab
set_option linter.unusedSimpArgs false
set_option linter.unusedVariables false
namespace Go.Ab
open Go Go.RowKit Go.Proofs
attribute [local irreducible] XC Rdr IntKind.wrap xw xos xqs xr xd
set_option maxRecDepth 100000
set_option maxHeartbeats 16000000
theorem livesL_snoc {xs : List MateRun} {i : Nat} (h : i < xs.length) : livesL (xs.take (i + 1)) = livesL (xs.take i) ++ (if alive (xs.getD i default) then [xs.getD i default] else []) := by
 have e : xs.take (i + 1) = xs.take i ++ [xs.getD i default] := by
  rw [List.take_add_one]
  simp [h]
 rw [e]
 unfold livesL
 rw [List.filter_append]
 congr 1
 by_cases ha : alive (xs.getD i default) = true
 ·rw [if_pos ha, List.filter_cons, if_pos ha]
  rfl
 ·rw [if_neg ha, List.filter_cons, if_neg ha]
  rfl
theorem livesL_len (xs : List MateRun) : (livesL xs).length ≤ xs.length := List.length_filter_le _ _
theorem riseR_small {x : Mate} (h : x.small) : (riseR x).small := by
 unfold riseR
 split
 ·exact ⟨h.fWants, h.fRuns, h.fAsks, h.fGives⟩
 ·exact ⟨⟨by decide, fun _ h => by cases h⟩, ⟨by decide, fun _ h => by cases h⟩, ⟨by decide, fun _ h => by cases h⟩, ⟨by decide, fun _ h => by cases h⟩⟩
theorem law_MateFalls (c : List Int) (hl : c.length ≤ maxLen) (hb : ∀ x ∈ c, 0 ≤ x ∧ x < 256) : Rdr Try.prog 10 [.ro 1 (c.map U8D)] (.bool true) := by
 refine Rdr.intro' hm c10 (Nat.le_of_ble_eq_true rfl) ?_
 conv => whnf
 repeat' (first | (refine g_op ?_; conv => whnf) | (refine And.intro ?_ ?_; (focus exact au0); conv => whnf) | (refine g_seq ?_) | (refine XS.go ?_) | (refine g_ops ?_) | ((first | refine g_nil ?_ | refine g_cond ?_); conv => whnf) | fail)
 refine Br.mk (fun hb1 => ?_) (fun hb1 => ?_)
 ·conv => whnf
  repeat' (first | (refine g_op ?_; conv => whnf) | (refine And.intro ?_ ?_; (focus exact au0); conv => whnf) | (refine g_seq ?_) | (refine XS.go ?_) | (refine g_ops ?_) | ((first | refine g_nil ?_ | refine g_ret ?_ | refine r_t ?_ | refine r_nil ?_); conv => whnf) | fail)
  rfl
 have hlen : c.length ≤ 1048576 := by simp at hb1; omega
 clear hb1
 conv => whnf
 repeat' (first | (refine g_op ?_; conv => whnf) | (refine And.intro ?_ ?_; (focus exact au0); conv => whnf) | (refine g_seq ?_) | (refine XS.go ?_) | (refine g_ops ?_) | (refine g_skip ?_; conv => whnf) | fail)
 refine XCL.ask (make_Fall c hlen hb) (fun d h => ?_)
 obtain ⟨m, q, hk, rfl⟩ := h
 have hs := hk.small
 have hmr : m.fRuns.length ≤ 20 := hk.r
 have hs2 := fallR_small q hs
 have hs3 := riseR_small hs2
 have hF := impl_FallF m q hs
 have hF' := spec_Fall m q hs
 have hR := impl_RiseF (fallR m q) hs2
 have hR' := spec_Rise (fallR m q) hs2
 have hW1 := wm_Mate (fallR m q) hs2
 have hW2 := wm_Mate (riseR (fallR m q)) hs3
 have hV := spec_MateValid m
 have hV1 := impl_MateValid (fallR m q)
 have hV2 := impl_MateValid (riseR (fallR m q))
 cases hv : validM m
 ·have e : fallR m q = default := by simp [fallR, hv]
  have e2 : riseR default = default := by simp [riseR, default_bad]
  rw [e] at hF hF' hR hR' hW1 hW2 hV1 hV2
  rw [e2] at hR hR' hW2 hV2
  rw [hv] at hV
  clear hk hs hs2 hs3 hV1 hV2
  conv => whnf
  repeat' (first | (refine z_ld1 ?_; first | (refine z_ld rfl rfl rfl rfl au1 au2 ?_; conv => whnf) | (refine z_ld0 rfl ?_; conv => whnf)) | (refine z_ld1g ?_; first | (refine z_ldg rfl rfl rfl rfl rfl rfl rfl (by (repeat intro _); exact ⟨au1, au2⟩) rfl rfl rfl rfl ?_; conv => whnf) | (refine z_ld0g ?_; (conv => whnf); refine And.intro ?_ ?_; (focus exact rfl); conv => whnf)) | (refine z_st1 ?_; first | (refine z_st rfl rfl rfl au1 au2 rfl rfl ?_; conv => whnf) | (refine z_st0 ?_; conv => whnf)) | (refine z_op ?_ ?_; (focus exact rfl); conv => whnf) | (refine z_opg0 ?_; (conv => whnf); refine And.intro ?_ ?_; (focus exact rfl); conv => whnf) | (refine z_pick ?_ ?_; (focus exact rfl); conv => whnf) | (refine zs_ops ?_ ?_; (focus exact rfl)) | (refine zs_quiet ?_ ?_; (focus exact rfl)) | (refine z_nil fun vals => ?_; conv => whnf) | (refine z_call ?_ ?_; (focus exact rfl)) | (refine z_eff ?_; conv => whnf) | (refine z_callg0 ?_; (conv => whnf); refine And.intro ?_ ?_; (focus exact rfl)) | (refine RC.of (hF) ?_ ?_; (focus exact rfl); conv => whnf) | (refine RC.of (hF') ?_ ?_; (focus exact rfl); conv => whnf) | (refine RC.of (hR) ?_ ?_; (focus exact rfl); conv => whnf) | (refine RC.of (hR') ?_ ?_; (focus exact rfl); conv => whnf) | (refine RC.of (hW1) ?_ ?_; (focus exact rfl); conv => whnf) | (refine RC.of (hV) ?_ ?_; (focus exact rfl); conv => whnf) | (refine g_op ?_; conv => whnf) | (refine And.intro ?_ ?_; (focus exact au0); conv => whnf) | (refine g_seq ?_) | (refine XS.go ?_) | (refine g_nil ?_; conv => whnf) | (refine Br.t ?_ ?_; (focus (first | assumption | exact rfl)); conv => whnf) | (refine Br.f ?_ ?_; (focus (first | assumption | exact rfl)); conv => whnf) | ((first | refine g_cond ?_ | refine g_skip ?_ | refine g_ret ?_ | refine r_t ?_ | refine r_nil ?_ | refine fun _ => ?_); conv => whnf) | fail)
  (conv => lhs; whnf)
  refine congrArg D.bool ?_
  show ((ByteArray.mk #[]).toList == (ByteArray.mk #[]).toList && (ByteArray.mk #[]).toList == (ByteArray.mk #[]).toList) = true
  simp
 ·have e : fallR m q = { fName := m.fName, fUp := false, fClock := m.fClock, fKnown := false, fSeen := 0, fWants := [], fRuns := fallL q m.fRuns m.fRuns.length, fAsks := [], fGives := [] } := by simp [fallR, hv]
  have v1 := fall_valid q hv
  have v2 : validM (riseR (fallR m q)) = true := by rw [riseR, if_pos v1]; exact rise_valid v1
  have u1 : (fallR m q).fUp = false := by rw [e]
  have u2 : (riseR (fallR m q)).fUp = decide (m.fClock < 1000000) := by rw [riseR, if_pos v1, e]; rfl
  have u3 : livesL (fallR m q).fRuns = if q then [] else livesL m.fRuns := by
   rw [e]
   cases q with
   | true => exact lives_machine _
   | false => exact lives_fall _
  have hfr : (fallR m q).fRuns.length ≤ 20 := by
   rw [e]
   show (fallL q m.fRuns m.fRuns.length).length ≤ 20
   rw [fallL_all]
   exact Nat.le_trans (List.length_filterMap_le _ _) hmr
  clear e
  rw [v1] at hV1
  rw [v2] at hV2
  rw [hv] at hV
  generalize riseR (fallR m q) = r at *
  generalize fallR m q = f at *
  conv => whnf
  repeat' (first | (refine z_ld1 ?_; first | (refine z_ld rfl rfl rfl rfl au1 au2 ?_; conv => whnf) | (refine z_ld0 rfl ?_; conv => whnf)) | (refine z_ld1g ?_; first | (refine z_ldg rfl rfl rfl rfl rfl rfl rfl (by (repeat intro _); exact ⟨au1, au2⟩) rfl rfl rfl rfl ?_; conv => whnf) | (refine z_ld0g ?_; (conv => whnf); refine And.intro ?_ ?_; (focus exact rfl); conv => whnf)) | (refine z_st1 ?_; first | (refine z_st rfl rfl rfl au1 au2 rfl rfl ?_; conv => whnf) | (refine z_st0 ?_; conv => whnf)) | (refine z_op ?_ ?_; (focus exact rfl); conv => whnf) | (refine z_opg0 ?_; (conv => whnf); refine And.intro ?_ ?_; (focus exact rfl); conv => whnf) | (refine z_pick ?_ ?_; (focus exact rfl); conv => whnf) | (refine zs_ops ?_ ?_; (focus exact rfl)) | (refine zs_quiet ?_ ?_; (focus exact rfl)) | (refine z_nil fun vals => ?_; conv => whnf) | (refine z_call ?_ ?_; (focus exact rfl)) | (refine z_eff ?_; conv => whnf) | (refine z_callg0 ?_; (conv => whnf); refine And.intro ?_ ?_; (focus exact rfl)) | (refine RC.of (hF) ?_ ?_; (focus exact rfl); conv => whnf) | (refine RC.of (hF') ?_ ?_; (focus exact rfl); conv => whnf) | (refine RC.of (hR) ?_ ?_; (focus exact rfl); conv => whnf) | (refine RC.of (hR') ?_ ?_; (focus exact rfl); conv => whnf) | (refine RC.of (hW1) ?_ ?_; (focus exact rfl); conv => whnf) | (refine RC.of (hW2) ?_ ?_; (focus exact rfl); conv => whnf) | (refine RC.of (hV) ?_ ?_; (focus exact rfl); conv => whnf) | (refine RC.of (hV1) ?_ ?_; (focus exact rfl); conv => whnf) | (refine RC.of (hV2) ?_ ?_; (focus exact rfl); conv => whnf) | (refine g_op ?_; conv => whnf) | (refine And.intro ?_ ?_; (focus exact au0); conv => whnf) | (refine g_seq ?_) | (refine XS.go ?_) | (refine g_nil ?_; conv => whnf) | (refine Br.f ?_ ?_; (focus (first | assumption | exact rfl)); conv => whnf) | ((first | refine g_cond ?_ | refine g_skip ?_ | refine fun _ => ?_); conv => whnf) | fail)
  refine Br.f ?_ ?_
  ·rw [u1, u2]
   cases decide (m.fClock < 1000000) <;> rfl
  clear hF hF' hR hR' hW1 hW2 hV hV1 hV2 v1 v2 u1 u2
  conv => whnf
  repeat' (first | (refine g_skip ?_; conv => whnf) | fail)
  refine XS.go ?_
  conv => whnf
  repeat' (first | (refine g_op ?_; conv => whnf) | (refine And.intro ?_ ?_; (focus exact au0); conv => whnf) | (refine g_seq ?_) | (refine g_ops ?_) | (refine g_nil ?_; conv => whnf) | fail)
  refine XS.own 7 95 11 rfl fun bn => ?_
  refine XS.go ?_
  conv => whnf
  repeat' (first | (refine g_op ?_; conv => whnf) | (refine And.intro ?_ ?_; (focus exact au0); conv => whnf) | (refine g_seq ?_) | (refine XS.go ?_) | (refine g_ops ?_) | (refine g_loop ?_) | (refine g_nil ?_; conv => whnf) | (refine g_block ?_) | fail)
  refine XLc.mkA (α := Nat × Nat) (fun y => y.1 ≤ m.fRuns.length ∧ (q = true → y.1 = 0)) (fun y => m.fRuns.length - y.1) (fun y gs => [.any, .any, .any, .lref 3 (gs 3) [] 0, .bool q, .lref 5 (gs 5) [] 0, .lref 6 (gs 6) [] 0, .lsl 95 (gs 95) (livesL (m.fRuns.take y.1)).length y.2, .int .i64 (y.1 : Int)]) (fun y gs => [(3, m.D), (5, f.D), (6, r.D), (95, .arr 11 ((livesL (m.fRuns.take y.1)).map MateRun.D) y.2)]) (0, 0) ⟨Nat.zero_le _, fun _ => rfl⟩ ⟨?_, ?_⟩ ?_
  ·repeat' (first | exact True.intro | refine And.intro rfl ?_)
  ·exact ⟨rfl, rfl, rfl, rfl, True.intro⟩
  intro y gs hI
  obtain ⟨i, cp⟩ := y
  obtain ⟨hi, hq0⟩ := hI
  dsimp only at hi hq0 ⊢
  repeat' (first | (refine z_ld1 ?_; first | (refine z_ld rfl rfl rfl rfl au1 au2 ?_; conv => whnf) | (refine z_ld0 rfl ?_; conv => whnf)) | (refine z_op ?_ ?_; (focus exact rfl); conv => whnf) | (refine z_opg0 ?_; (conv => whnf); refine And.intro ?_ ?_; (focus exact rfl); conv => whnf) | (refine z_pick ?_ ?_; (focus exact rfl); conv => whnf) | (refine zs_ops ?_ ?_; (focus exact rfl)) | (refine z_nil fun vals => ?_; conv => whnf) | (refine And.intro ?_ ?_; (focus exact au0); conv => whnf) | (refine g_seq ?_) | (refine XS.go ?_) | (refine g_cond ?_; conv => whnf) | fail)
  refine Br.mk (fun hb => ?_) (fun hb => ?_)
  ·have hlt : i < m.fRuns.length := by simp at hb; omega
   have hqf : q = false := by simp at hb; exact hb.2
   clear hb
   have hw : IntKind.wrap .i64 ((i : Int) + 1) = ((i + 1 : Nat) : Int) := by rw [wrap_ok (by omega) (by omega)]; rfl
   have hal := spec_Alive (m.fRuns.getD i default)
   have hsn := livesL_snoc (xs := m.fRuns) hlt
   have he2 : ((m.fRuns.map MateRun.D).getD (i : Int).toNat .any) = (m.fRuns.getD i default).D := elt_map hlt
   have hwr : (i : Int) < ((m.fRuns.map MateRun.D).length : Int) := by rw [List.length_map]; omega
   have hll : (livesL (m.fRuns.take i)).length ≤ 20 := Nat.le_trans (livesL_len _) (by rw [List.length_take]; omega)
   generalize livesL (m.fRuns.take i) = W1 at *
   generalize m.fRuns.getD i default = x at *
   conv => whnf
   repeat' (first | ((refine And.intro hwr ?_; conv => whnf)) | ((rw [he2]; conv => whnf)) | (refine g_op ?_; conv => whnf) | (refine And.intro ?_ ?_; (focus exact au0); conv => whnf) | (refine g_seq ?_) | (refine XS.go ?_) | (refine g_ops ?_) | ((first | refine g_nil ?_ | refine g_cond ?_ | refine g_skip ?_); conv => whnf) | (refine g_block ?_) | (refine XCL.of_rdr (hal) ?_; conv => whnf) | fail)
   refine Br.mk (fun hb => ?_) (fun hb => ?_)
   ·rw [if_pos hb] at hsn
    have hlX : W1.length = (W1.map MateRun.D).length := (List.length_map ..).symm
    have hbd : ∀ d : Go.Ab.D, (W1.map MateRun.D).length + [d].length ≤ 1073741824 := fun d => by rw [← hlX]; simp only [List.length_cons, List.length_nil]; omega
    conv => whnf
    repeat' (first | ((refine And.intro hwr ?_; conv => whnf)) | ((rw [he2]; conv => whnf)) | ((refine And.intro hlX ?_; conv => whnf)) | ((refine And.intro (hbd _) ?_; conv => whnf)) | ((refine fun n1 bx cx hn1 hc1 => ?_; conv => whnf)) | (refine g_op ?_; conv => whnf) | (refine And.intro ?_ ?_; (focus exact au0); conv => whnf) | (refine XS.go ?_) | (refine g_ops ?_) | ((first | refine g_nil ?_ | refine fun _ => ?_); conv => whnf) | fail)
    have hn2 : n1 = (W1 ++ [x]).length := by rw [hn1]; simp
    clear hn1
    subst hn2
    refine ⟨(i + 1, cx), ⟨hlt, fun h => by rw [hqf] at h; cases h⟩, by simp only; omega, ?_, ?_⟩
    ·dsimp only
     rw [hsn]
     repeat' (first | exact True.intro | refine And.intro (congrArg (D.int .i64) hw) ?_ | refine And.intro rfl ?_)
    ·dsimp only
     rw [hsn]
     exact ⟨rfl, rfl, rfl, congrArg (fun l => some (D.arr 11 l cx)) (by rw [List.map_append]; rfl), True.intro⟩
   ·rw [if_neg (by rw [hb]; exact Bool.false_ne_true), List.append_nil] at hsn
    conv => whnf
    repeat' (first | (refine g_op ?_; conv => whnf) | (refine And.intro ?_ ?_; (focus exact au0); conv => whnf) | (refine XS.go ?_) | (refine g_ops ?_) | ((first | refine g_nil ?_ | refine g_skip ?_); conv => whnf) | fail)
    refine ⟨(i + 1, cp), ⟨hlt, fun h => by rw [hqf] at h; cases h⟩, by simp only; omega, ?_, ?_⟩
    ·dsimp only
     rw [hsn]
     repeat' (first | exact True.intro | refine And.intro (congrArg (D.int .i64) hw) ?_ | refine And.intro rfl ?_)
    ·dsimp only
     rw [hsn]
     exact ⟨rfl, rfl, rfl, rfl, True.intro⟩
  have hL : livesL (m.fRuns.take i) = if q then [] else livesL m.fRuns := by
   cases q with
   | true => rw [hq0 rfl]; rfl
   | false =>
    have : i = m.fRuns.length := by simp at hb; omega
    rw [this, List.take_length]
    rfl
  rw [hL]
  have hLL : (if q then [] else livesL m.fRuns).length ≤ 1048576 := by
   cases q with
   | true => exact Nat.zero_le _
   | false => exact Nat.le_trans (livesL_len _) (by omega)
  generalize (if q then [] else livesL m.fRuns) = LL at *
  clear hL hb hq0 hi
  conv => whnf
  repeat' (first | (refine g_exit ?_; conv => whnf) | fail)
  refine XS.freezeR 95 [7] rfl (D.frozs_map (fun _ => rfl) _) ⟨⟨rfl, (List.length_map ..).symm⟩, True.intro⟩ ?_
  refine XS.go ?_
  conv => whnf
  repeat' (first | (refine g_op ?_; conv => whnf) | (refine And.intro ?_ ?_; (focus exact au0); conv => whnf) | (refine g_seq ?_) | (refine g_ops ?_) | (refine g_nil ?_; conv => whnf) | fail)
  refine XS.own 9 117 11 rfl fun bn2 => ?_
  refine XS.go ?_
  conv => whnf
  repeat' (first | (refine g_op ?_; conv => whnf) | (refine And.intro ?_ ?_; (focus exact au0); conv => whnf) | (refine g_seq ?_) | (refine XS.go ?_) | (refine g_ops ?_) | (refine g_loop ?_) | (refine g_nil ?_; conv => whnf) | (refine g_block ?_) | fail)
  refine XLc.mkA (α := Nat × Nat) (fun y => y.1 ≤ f.fRuns.length) (fun y => f.fRuns.length - y.1) (fun y gs => [.any, .any, .any, .any, .any, .lref 5 (gs 5) [] 0, .any, .ro 11 (LL.map MateRun.D), .any, .lsl 117 (gs 117) (livesL (f.fRuns.take y.1)).length y.2, .int .i64 (y.1 : Int)]) (fun y gs => [(5, f.D), (117, .arr 11 ((livesL (f.fRuns.take y.1)).map MateRun.D) y.2)]) (0, 0) (Nat.zero_le _) ⟨?_, ?_⟩ ?_
  ·repeat' (first | exact True.intro | refine And.intro rfl ?_)
  ·exact ⟨rfl, rfl, True.intro⟩
  intro y gs hi
  obtain ⟨i, cp⟩ := y
  dsimp only at hi ⊢
  repeat' (first | (refine z_ld1 ?_; first | (refine z_ld rfl rfl rfl rfl au1 au2 ?_; conv => whnf) | (refine z_ld0 rfl ?_; conv => whnf)) | (refine z_op ?_ ?_; (focus exact rfl); conv => whnf) | (refine zs_ops ?_ ?_; (focus exact rfl)) | (refine z_nil fun vals => ?_; conv => whnf) | (refine And.intro ?_ ?_; (focus exact au0); conv => whnf) | (refine g_seq ?_) | (refine XS.go ?_) | (refine g_cond ?_; conv => whnf) | fail)
  refine Br.mk (fun hb => ?_) (fun hb => ?_)
  ·have hlt : i < f.fRuns.length := by simpa using hb
   clear hb
   have hw : IntKind.wrap .i64 ((i : Int) + 1) = ((i + 1 : Nat) : Int) := by rw [wrap_ok (by omega) (by omega)]; rfl
   have hal := impl_Alive (f.fRuns.getD i default)
   have hsn := livesL_snoc (xs := f.fRuns) hlt
   have he2 : ((f.fRuns.map MateRun.D).getD (i : Int).toNat .any) = (f.fRuns.getD i default).D := elt_map hlt
   have hwr : (i : Int) < ((f.fRuns.map MateRun.D).length : Int) := by rw [List.length_map]; omega
   have hll : (livesL (f.fRuns.take i)).length ≤ 20 := Nat.le_trans (livesL_len _) (by rw [List.length_take]; omega)
   generalize livesL (f.fRuns.take i) = W1 at *
   generalize f.fRuns.getD i default = x at *
   conv => whnf
   repeat' (first | ((refine And.intro hwr ?_; conv => whnf)) | ((rw [he2]; conv => whnf)) | (refine g_op ?_; conv => whnf) | (refine And.intro ?_ ?_; (focus exact au0); conv => whnf) | (refine g_seq ?_) | (refine XS.go ?_) | (refine g_ops ?_) | ((first | refine g_nil ?_ | refine g_cond ?_ | refine g_skip ?_); conv => whnf) | (refine g_block ?_) | (refine XCL.of_rdr (hal) ?_; conv => whnf) | fail)
   refine Br.mk (fun hb => ?_) (fun hb => ?_)
   ·rw [if_pos hb] at hsn
    have hlX : W1.length = (W1.map MateRun.D).length := (List.length_map ..).symm
    have hbd : ∀ d : Go.Ab.D, (W1.map MateRun.D).length + [d].length ≤ 1073741824 := fun d => by rw [← hlX]; simp only [List.length_cons, List.length_nil]; omega
    conv => whnf
    repeat' (first | ((refine And.intro hwr ?_; conv => whnf)) | ((rw [he2]; conv => whnf)) | ((refine And.intro hlX ?_; conv => whnf)) | ((refine And.intro (hbd _) ?_; conv => whnf)) | ((refine fun n1 bx cx hn1 hc1 => ?_; conv => whnf)) | (refine g_op ?_; conv => whnf) | (refine And.intro ?_ ?_; (focus exact au0); conv => whnf) | (refine XS.go ?_) | (refine g_ops ?_) | ((first | refine g_nil ?_ | refine fun _ => ?_); conv => whnf) | fail)
    have hn2 : n1 = (W1 ++ [x]).length := by rw [hn1]; simp
    clear hn1
    subst hn2
    refine ⟨(i + 1, cx), hlt, by simp only; omega, ?_, ?_⟩
    ·dsimp only
     rw [hsn]
     repeat' (first | exact True.intro | refine And.intro (congrArg (D.int .i64) hw) ?_ | refine And.intro rfl ?_)
    ·dsimp only
     rw [hsn]
     exact ⟨rfl, congrArg (fun l => some (D.arr 11 l cx)) (by rw [List.map_append]; rfl), True.intro⟩
   ·rw [if_neg (by rw [hb]; exact Bool.false_ne_true), List.append_nil] at hsn
    conv => whnf
    repeat' (first | (refine g_op ?_; conv => whnf) | (refine And.intro ?_ ?_; (focus exact au0); conv => whnf) | (refine XS.go ?_) | (refine g_ops ?_) | ((first | refine g_nil ?_ | refine g_skip ?_); conv => whnf) | fail)
    refine ⟨(i + 1, cp), hlt, by simp only; omega, ?_, ?_⟩
    ·dsimp only
     rw [hsn]
     repeat' (first | exact True.intro | refine And.intro (congrArg (D.int .i64) hw) ?_ | refine And.intro rfl ?_)
    ·dsimp only
     rw [hsn]
     exact ⟨rfl, rfl, True.intro⟩
  have hi2 : i = f.fRuns.length := by simp at hb; omega
  subst hi2
  rw [List.take_length, u3]
  have hw := wm_wmRuns LL hLL
  clear hb hi u3
  conv => whnf
  repeat' (first | (refine g_exit ?_; conv => whnf) | fail)
  refine XS.freezeR 117 [9] rfl (D.frozs_map (fun _ => rfl) _) ⟨⟨rfl, (List.length_map ..).symm⟩, True.intro⟩ ?_
  refine XS.go ?_
  conv => whnf
  repeat' (first | (refine g_op ?_; conv => whnf) | (refine And.intro ?_ ?_; (focus exact au0); conv => whnf) | (refine g_seq ?_) | (refine XS.go ?_) | (refine g_ops ?_) | ((first | refine g_nil ?_ | refine g_ret ?_ | refine r_t ?_ | refine r_nil ?_ | refine XCL.of_rdr (hw) ?_); conv => whnf) | fail)
  rfl
theorem u8_wf {n : Int} (h : (Lit.int .u8 n).wf = true) : 0 ≤ n ∧ n < 256 := by
 simp only [Lit.wf, IntKind.min, IntKind.max, IntKind.signed, IntKind.bits, Bool.and_eq_true, decide_eq_true_eq, if_true, Bool.false_eq_true, if_false] at h
 omega
theorem u8_list : ∀ {ds : List Go.Ab.D}, (∀ x ∈ ds, Has (.int .u8) x) → ∃ c : List Int, ds = c.map U8D ∧ ∀ x ∈ c, 0 ≤ x ∧ x < 256
 | [], _ => ⟨[], rfl, by simp⟩
 | d :: ds, h => by
  obtain ⟨c, rfl, hc⟩ := u8_list (ds := ds) (fun x hx => h x (by simp [hx]))
  have h1 := h d (by simp)
  rw [Has] at h1
  obtain ⟨n, rfl, hn⟩ := h1
  refine ⟨n :: c, rfl, fun x hx => ?_⟩
  rcases List.mem_cons.1 hx with rfl | hx
  ·exact u8_wf hn
  ·exact hc x hx
end Go.Ab
