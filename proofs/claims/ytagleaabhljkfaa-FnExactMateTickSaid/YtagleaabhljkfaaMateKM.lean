/- Steps towards the law: the machine, contracts of functions and facts of lists. -/
import Derived.Test.YtagleaabhljkfaaMateKL
import Derived.Test.YtagleaabhljkfaaMateQI
import Derived.Test.YtagleaabhljkfaaRows
set_option linter.unusedSimpArgs false
set_option linter.unusedVariables false
namespace Go.Ab
open Go Go.RowKit Go.Proofs
attribute [local irreducible] XC Rdr IntKind.wrap xw xos xqs xr xd
set_option maxRecDepth 100000
set_option maxHeartbeats 16000000
def cf111 : CF := ⟨142,[],(.seq (.ops [Ok 2 (.nil)]) (.seq (.seq (.ops [Om 13 0,On 14 13,Of 15 6 14,Ol 16 15,Og 17 16,Ok 18 (.int .i64 0)]) (.block 0 (.loop (.seq (.ops [Ob 19 .lss 18 17]) (.seq (.cond (.t 19) .skip (.exit 0)) (.seq (.block 1 (.seq (.ops [Ox 20 11 16 18,Od 21 11 20,Oo 4 (.al (.agg [.agg [.str ⟨#[]⟩,.int .i64 0,.str ⟨#[]⟩,.int .i64 0,.int .i64 0,.int .i64 0,.int .i64 0],.int .i64 0,.int .i64 0,.int .i64 0,.int .i64 0])),Os 11 4 21]) (.seq (.ops [Om 23 0,Oo 24 (.fa 0 7 0 (.t 4)),Of 25 0 24,Ol 26 25,Oc 27 112 [.t 23,.t 26],Om 22 27,Oo 28 (.ext (.t 22) 0),Oo 29 (.ext (.t 22) 1),Oo 5 (.al (.agg [.str ⟨#[]⟩,.int .i64 0,.str ⟨#[]⟩,.int .i64 0,.int .i64 0,.int .i64 0,.int .i64 0])),Os 7 5 28,Om 6 29]) (.seq (.drawn [Qd 31 11 4,Qd 32 7 5,Qm 33 6,Qm 34 0,Qn 35 34,Qf 36 2 35,Ql 37 36,(Oc 38 29 [.t 31,.t 32,.t 33,.t 37],true,[]),Qm 30 38,Qo 39 (.ext (.t 30) 0),Qo 40 (.ext (.t 30) 1),(Oo 7 (.al (.agg [.agg [.str ⟨#[]⟩,.int .i64 0,.str ⟨#[]⟩,.int .i64 0,.int .i64 0,.int .i64 0,.int .i64 0],.int .i64 0,.int .i64 0,.int .i64 0,.int .i64 0])),true,[]),Qs 11 7 39,Qm 8 40]) (.seq (.seq (.ops [Om 41 8]) (.cond (.t 41) (.seq (.ops [Om 42 2,Od 43 11 7,Oo 44 (.bsl (.agg [.agg [.str ⟨#[]⟩,.int .i64 0,.str ⟨#[]⟩,.int .i64 0,.int .i64 0,.int .i64 0,.int .i64 0],.int .i64 0,.int .i64 0,.int .i64 0,.int .i64 0]) 1 [(0,(.t 43))]),Oo 45 (.app 11 104 (.t 42) (.t 44)),Om 2 45]) (.exit 1)) .skip)) (.seq (.quiet [Om 46 0,On 47 46,Of 48 7 47,Ol 49 48,Oo 50 (.fa 0 7 0 (.t 4)),Of 51 2 50,Ol 52 51,Oc 53 96 [.t 49,.t 52],Om 9 53]) (.seq (.ops [Oo 54 (.fa 0 7 0 (.t 4)),Of 55 2 54,Ol 56 55,Oo 57 (.bin .neq (.t 56) (.k (.str ⟨#[]⟩))),Om 58 57,⟨some 59,.mv (.t 9),some (58,true)⟩,⟨some 60,.bin .geq (.t 59) (.k (.int .i64 0)),some (58,true)⟩,Oo 61 (.pick (.t 58) (.t 60) (.k (.bool false)))]) (.cond (.t 61) (.seq (.seq (.ops [Om 62 0,On 63 62,Of 64 8 63,Ol 65 64,Og 66 65,Oo 67 (.bin .lss (.t 66) (.k (.int .i64 40)))]) (.cond (.t 67) (.drawn [Qm 68 0,Qm 69 0,Qn 70 69,Qf 71 8 70,Ql 72 71,Qm 73 0,Qn 74 73,Qf 75 7 74,Ql 76 75,Qm 77 9,Qx 78 4 76 77,Qd 79 4 78,(Oc 80 113 [.t 72,.t 79],true,[]),Qn 81 68,Qf 82 8 81,Qs 1 82 80]) .skip)) (.ops [Om 83 0,Om 84 0,On 85 84,Of 86 7 85,Ol 87 86,Om 88 9,Om 89 9,Oi 90 89,Oc 91 122 [.t 87,.t 88,.t 90],On 92 83,Of 93 7 92,Os 1 93 91])) .skip)))))))) (.ops [Oi 94 18,Om 18 94]))))))) (.seq (.seq (.ops [Om 95 0,On 96 95,Of 97 5 96,Ol 98 97,Og 99 98,Ok 100 (.int .i64 0)]) (.block 2 (.loop (.seq (.ops [Ob 101 .lss 100 99]) (.seq (.cond (.t 101) .skip (.exit 2)) (.seq (.block 3 (.seq (.ops [Ox 102 7 98 100,Od 103 7 102,Oo 11 (.al (.agg [.str ⟨#[]⟩,.int .i64 0,.str ⟨#[]⟩,.int .i64 0,.int .i64 0,.int .i64 0,.int .i64 0])),Os 7 11 103]) (.seq (.ops [Om 104 2,Oo 105 (.fnm 124 [(.t 11)]),Oc 106 123 [.t 104,.t 105],Om 12 106]) (.seq (.seq (.quiet [Om 107 12,Oo 108 (.bin .geq (.t 107) (.k (.int .i64 0))),Om 109 108,⟨some 110,.mv (.t 2),some (109,true)⟩,⟨some 111,.mv (.t 12),some (109,true)⟩,⟨some 112,.ix 11 (.t 110) (.t 111),some (109,true)⟩,⟨some 113,.fa 0 7 0 (.t 112),some (109,true)⟩,⟨some 114,.fa 0 1 0 (.t 113),some (109,true)⟩,⟨some 115,.ld 1 false (.t 114),some (109,true)⟩,⟨some 116,.fa 0 1 0 (.t 11),some (109,true)⟩,⟨some 117,.ld 1 false (.t 116),some (109,true)⟩,⟨some 118,.bin .eql (.t 115) (.t 117),some (109,true)⟩,Oo 119 (.pick (.t 109) (.t 118) (.k (.bool false))),Om 120 119,⟨some 121,.mv (.t 2),some (120,false)⟩,⟨some 122,.lenl (.t 121),some (120,false)⟩,⟨some 123,.bin .geq (.t 122) (.k (.int .i64 20)),some (120,false)⟩,Oo 124 (.pick (.t 120) (.k (.bool true)) (.t 123))]) (.cond (.t 124) (.exit 3) .skip)) (.seq (.seq (.ops [Om 125 12,Oo 126 (.bin .lss (.t 125) (.k (.int .i64 0)))]) (.cond (.t 126) (.ops [Om 127 2,Og 128 127,Om 12 128]) .skip)) (.ops [Om 129 2,Om 130 12,Od 131 7 11,Of 132 3 11,Ol 133 132,Oo 134 (.bld (.agg [.agg [.str ⟨#[]⟩,.int .i64 0,.str ⟨#[]⟩,.int .i64 0,.int .i64 0,.int .i64 0,.int .i64 0],.int .i64 0,.int .i64 0,.int .i64 0,.int .i64 0]) [(0,0,7,(.t 131)),(1,7,1,(.k (.int .i64 1))),(2,8,1,(.t 133))]),Oo 135 (.bsl (.agg [.agg [.str ⟨#[]⟩,.int .i64 0,.str ⟨#[]⟩,.int .i64 0,.int .i64 0,.int .i64 0,.int .i64 0],.int .i64 0,.int .i64 0,.int .i64 0,.int .i64 0]) 1 [(0,(.t 134))]),Oc 136 125 [.t 129,.t 130,.t 135],Om 2 136])))))) (.ops [Oi 137 100,Om 100 137]))))))) (.ops [Om 138 0,Om 139 2,On 140 138,Of 141 6 140,Os 1 141 139]))))⟩
theorem c111 : compileF Try.prog [] 111 = some cf111 := by kernel_rfl
theorem Bor.mateP {st : St} {x : Mate} {s b s1 s2 s3 s4 b1 b2 b3 b4 c1 c2 c3 c4 k1 k2 k3 k4 : Nat} (h0 : st.lc s = some (x.O s1 s2 s3 s4 b1 b2 b3 b4 c1 c2 c3 c4)) (g0 : st.gen s = b) (h1 : st.lc s1 = some (.arr 7 (x.fWants.map MateWant.D) k1)) (h2 : st.lc s2 = some (.arr 11 (x.fRuns.map MateRun.D) k2)) (h3 : st.lc s3 = some (.arr 4 (x.fAsks.map MateAsk.D) k3)) (h4 : st.lc s4 = some (.arr 4 (x.fGives.map MateAsk.D) k4))
  (g1 : st.gen s1 = b1) (g2 : st.gen s2 = b2) (g3 : st.gen s3 = b3) (g4 : st.gen s4 = b4) : Bor st (.lref s b [] 0) (.cref x.D) :=
 Bor.box h0 g0 rfl rfl rfl (Bor.mateO h1 h2 h3 h4 g1 g2 g3 g4) rfl rfl rfl
theorem putAskF (s r : Nat) (xs : List MateAsk) (a : MateAsk) (b c : Nat) (hl : xs.length ≤ 1048576) :
  XC Try.prog 113 [.lsl s b xs.length c, a.D] [(s, b, .arr 4 (xs.map MateAsk.D) c)] (fun d ls => ∃ b' c', d = .lsl r b' (insAt xs (putI xs a) a).length c' ∧ ls = [(r, b', .arr 4 ((insAt xs (putI xs a) a).map MateAsk.D) c')]) := by
 refine (impl_putAsk xs a b c hl).renm (fun _ _ _ h => h) rfl (fun d ls ⟨b', c', h1, h2⟩ => ?_)
 subst h1 h2
 exact ⟨.lsl r b' (insAt xs (putI xs a) a).length c', _, ⟨b', c', rfl, rfl⟩, fun _ _ _ h => HolL.renm rfl h, fun _ _ _ h => h⟩
theorem cutAskF (s r : Nat) (xs : List MateAsk) (k : Nat) (j : Int) (b c : Nat) (hj : j = ((k + 1 : Nat) : Int)) (hk : k < xs.length) (hl : xs.length ≤ 1048576) :
  XC Try.prog 122 [.lsl s b xs.length c, .int .i64 (k : Int), .int .i64 j] [(s, b, .arr 4 (xs.map MateAsk.D) c)] (fun d ls => d = .lsl r b (cutAt_MateAsk xs k (k + 1)).length c ∧ ls = [(r, b, .arr 4 ((cutAt_MateAsk xs k (k + 1)).map MateAsk.D) c)]) := by
 subst hj
 exact cutF_MateAsk s r xs k (k + 1) b c (by omega) (by omega) hl
theorem liveGo_nat {s : LS} {r : MateRun} (h : liveGo s r = true) : ∃ k, askI s.asks r.fWant.fHold = ((k : Nat) : Int) ∧ ∃ hk : k < s.asks.length, s.asks[k].fHold.toList = r.fWant.fHold.toList := by
 unfold liveGo at h
 simp only [Bool.and_eq_true, decide_eq_true_eq] at h
 have e : askI s.asks r.fWant.fHold = (((askI s.asks r.fWant.fHold).toNat : Nat) : Int) := (Int.toNat_of_nonneg h.2).symm
 exact ⟨_, e, askI_nat e⟩
theorem liveAG (m : Mate) (h : AG m.fAsks m.fGives) : ∀ {k : Nat}, k ≤ m.fRuns.length → AG (liveL m k).asks (liveL m k).gives
 | 0, _ => h
 | k + 1, hk => by
  have ih := liveAG m h (k := k) (by omega)
  rw [liveL_succ m (by omega)]
  unfold liveStep
  split
  ·exact ih
  ·split
   ·rename_i hgo
    obtain ⟨j, h1, h2, h3⟩ := liveGo_nat hgo
    show AG (List.filter _ _) (liveGive _ _)
    unfold liveGive
    rw [h1, Int.toNat_natCast, getD_of h2]
    split
    ·exact ih.give h2 _ h3
    ·exact ih.drop _
   ·exact ih
theorem impl_runs (m : Mate) (b b1 b2 b3 b4 c1 c2 c3 c4 : Nat) (hw : m.fWants.length ≤ 400000) (hr : m.fRuns.length ≤ 400000) (ha : m.fAsks.length ≤ 1048576) (hg : m.fGives.length ≤ 1048576) (hG : AG m.fAsks m.fGives) :
  XC Try.prog 111 [.lref 6 b [] 0] ((6, b, m.O 31 32 33 34 b1 b2 b3 b4 c1 c2 c3 c4) :: m.L 31 32 33 34 b1 b2 b3 b4 c1 c2 c3 c4) (fun d ls => d = .tup [] ∧ ∃ d2 d3 d4 e2 e3 e4, ls = (6, b, (livesR m).O 31 45 33 34 b1 d2 d3 d4 c1 e2 e3 e4) :: (livesR m).L 31 45 33 34 b1 d2 d3 d4 c1 e2 e3 e4) := by
 refine XC.intro' hm [6, 31, 45, 33, 34] rfl c111 (Nat.le_of_ble_eq_true rfl) ?_
 simp only [Mate.O, Mate.L]
 conv => whnf
 repeat' (first | (refine g_op ?_; conv => whnf) | (refine And.intro ?_ ?_; (focus exact au0); conv => whnf) | (refine g_seq ?_) | (refine g_ops ?_) | (refine g_nil ?_; conv => whnf) | fail)
 refine XS.go ?_
 repeat' (first | (refine z_ld1 ?_; first | (refine z_ld rfl rfl rfl rfl au1 au2 ?_; conv => whnf) | (refine z_ld0 rfl ?_; conv => whnf)) | (refine z_op ?_ ?_; (focus exact rfl); conv => whnf) | (refine zs_ops ?_ ?_; (focus exact rfl)) | (refine z_nil fun vals => ?_; conv => whnf) | (refine And.intro ?_ ?_; (focus exact au0); conv => whnf) | (refine g_seq ?_) | fail)
 refine XS.own 2 45 11 rfl fun b0 => ?_
 refine XS.go ?_
 repeat' (first | (refine g_loop ?_) | (refine g_block ?_) | fail)
 refine XLc.mkG (α := Nat × Nat × Nat × Nat) (fun x gs => x.1 ≤ m.fRuns.length ∧ (liveL m x.1).runs.length ≤ x.2.1 ∧ gs 6 = b ∧ gs 31 = b1) (fun x => m.fRuns.length - x.1) (fun x gs => [.lref 6 (gs 6) [] 0, .any, .lsl 45 (gs 45) (liveL m x.1).runs.length x.2.1, .any, .any, .any, .any, .any, .any, .any, .any, .any, .any, .any, .any, .any, .lsl 32 (gs 32) m.fRuns.length c2, .int .i64 (m.fRuns.length : Int), .int .i64 (x.1 : Int)]) (fun x gs => [(6, .agg [.str m.fName, .bool m.fUp, .int .i64 m.fClock, .bool m.fKnown, .int .i64 m.fSeen, .lsl 31 (gs 31) m.fWants.length c1, .lsl 32 (gs 32) m.fRuns.length c2, .lsl 33 (gs 33) (liveL m x.1).asks.length x.2.2.1, .lsl 34 (gs 34) (liveL m x.1).gives.length x.2.2.2]), (31, .arr 7 (m.fWants.map MateWant.D) c1), (33, .arr 4 ((liveL m x.1).asks.map MateAsk.D) x.2.2.1), (34, .arr 4 ((liveL m x.1).gives.map MateAsk.D) x.2.2.2), (32, .arr 11 (m.fRuns.map MateRun.D) c2), (45, .arr 11 ((liveL m x.1).runs.map MateRun.D) x.2.1)]) (0, 0, c3, c4) ⟨Nat.zero_le _, Nat.le_refl _, rfl, rfl⟩ ⟨?_, ?_⟩ ?_
 ·repeat' (first | exact True.intro | refine And.intro rfl ?_)
 ·exact ⟨rfl, rfl, rfl, rfl, rfl, rfl, True.intro⟩
 intro x gs hI
 obtain ⟨i, cp, c3, c4⟩ := x
 obtain ⟨hi0, hi1, hg6, hg31⟩ := hI
 dsimp only at hi0 hi1 ⊢
 have hok := liveOk m ha hg hi0
 have hAG := liveAG m hG hi0
 have hnext := fun h : i < m.fRuns.length => liveL_succ m h
 generalize hS : liveL m i = S at hi1 hok hAG hnext ⊢
 repeat' (first | (refine g_op ?_; conv => whnf) | (refine And.intro ?_ ?_; (focus exact au0); conv => whnf) | (refine g_seq ?_) | (refine XS.go ?_) | (refine g_ops ?_) | ((first | refine g_nil ?_ | refine g_cond ?_); conv => whnf) | fail)
 refine Br.mk (fun hb => ?_) (fun hb => ?_)
 ·have hlt : i < m.fRuns.length := by simpa using hb
  clear hb
  have hnx := hnext hlt
  clear hnext
  have hlm : (m.fRuns.map MateRun.D).length = m.fRuns.length := List.length_map ..
  have hj0 : i < (m.fRuns.map MateRun.D).length := by rw [hlm]; exact hlt
  have he0 : (m.fRuns.map MateRun.D).getD i .any = (m.fRuns.getD i default).D := elt_map hlt
  have he2 : (m.fRuns.map MateRun.D).getD (i : Int).toNat .any = (m.fRuns.getD i default).D := he0
  generalize m.fRuns.getD i default = r at hnx he0 he2
  have cW := impl_want ⟨m.fName, m.fUp, m.fClock, m.fKnown, m.fSeen, m.fWants, m.fRuns, S.asks, S.gives⟩ r.fWant.fCopy (Nat.le_trans hw (by decide))
  have cL := impl_Live r (wantR m.fWants r.fWant.fCopy).1 (wantR m.fWants r.fWant.fCopy).2 m.fClock
  unfold liveStep at hnx
  dsimp only at cW
  generalize wantR m.fWants r.fWant.fCopy = q at cW cL hnx
  generalize liveR r q.1 q.2 m.fClock = y at cL hnx
  conv => whnf
  repeat' (first | (refine g_skip ?_; conv => whnf) | fail)
  refine XS.go ?_
  conv => whnf
  repeat' (first | ((rw [he2]; conv => whnf)) | (refine g_op ?_; conv => whnf) | (refine And.intro ?_ ?_; (focus exact au0); conv => whnf) | (refine g_seq ?_) | (refine g_ops ?_) | (refine g_nil ?_; conv => whnf) | (refine g_block ?_) | (refine fun _ => ?_; conv => whnf) | fail)
  rename_i b5
  refine XS.weakenA (fs := [.lref 6 (gs 6) [] 0, .any, .lsl 45 (gs 45) S.runs.length cp, .any, .lref 4 b5 [] 0, .any, .any, .any, .any, .any, .any, .any, .any, .any, .any, .any, .lsl 32 (gs 32) m.fRuns.length c2, .int .i64 (m.fRuns.length : Int), .int .i64 (i : Int)]) (ls := [(6, .agg [.str m.fName, .bool m.fUp, .int .i64 m.fClock, .bool m.fKnown, .int .i64 m.fSeen, .lsl 31 (gs 31) m.fWants.length c1, .lsl 32 (gs 32) m.fRuns.length c2, .lsl 33 (gs 33) S.asks.length c3, .lsl 34 (gs 34) S.gives.length c4]), (31, .arr 7 (m.fWants.map MateWant.D) c1), (33, .arr 4 (S.asks.map MateAsk.D) c3), (34, .arr 4 (S.gives.map MateAsk.D) c4), (32, .arr 11 (m.fRuns.map MateRun.D) c2), (45, .arr 11 (S.runs.map MateRun.D) cp), (4, r.D)]) ⟨?_, ?_⟩ ?_
  ·repeat' (first | exact True.intro | refine And.intro rfl ?_)
  ·exact ⟨rfl, rfl, rfl, rfl, rfl, rfl, rfl, True.intro⟩
  refine XS.go ?_
  conv => whnf
  repeat' (first | ((refine XCL.of_rdrB cW (.cons (Bor.mateP rfl rfl rfl rfl rfl rfl rfl rfl rfl rfl) (.cons (Bor.refl _ _) .nil)) rfl ?_; conv => whnf)) | (refine g_op ?_; conv => whnf) | (refine And.intro ?_ ?_; (focus exact au0); conv => whnf) | (refine g_seq ?_) | (refine g_ops ?_) | ((first | refine g_nil ?_ | refine fun _ => ?_); conv => whnf) | fail)
  rename_i b6
  refine XS.weakenA (fs := [.lref 6 (gs 6) [] 0, .any, .lsl 45 (gs 45) S.runs.length cp, .any, .lref 4 b5 [] 0, .lref 5 b6 [] 0, .bool q.2, .any, .any, .any, .any, .any, .any, .any, .any, .any, .lsl 32 (gs 32) m.fRuns.length c2, .int .i64 (m.fRuns.length : Int), .int .i64 (i : Int)]) (ls := [(6, .agg [.str m.fName, .bool m.fUp, .int .i64 m.fClock, .bool m.fKnown, .int .i64 m.fSeen, .lsl 31 (gs 31) m.fWants.length c1, .lsl 32 (gs 32) m.fRuns.length c2, .lsl 33 (gs 33) S.asks.length c3, .lsl 34 (gs 34) S.gives.length c4]), (31, .arr 7 (m.fWants.map MateWant.D) c1), (33, .arr 4 (S.asks.map MateAsk.D) c3), (34, .arr 4 (S.gives.map MateAsk.D) c4), (32, .arr 11 (m.fRuns.map MateRun.D) c2), (45, .arr 11 (S.runs.map MateRun.D) cp), (4, r.D), (5, q.1.D)]) ⟨?_, ?_⟩ ?_
  ·repeat' (first | exact True.intro | refine And.intro rfl ?_)
  ·exact ⟨rfl, rfl, rfl, rfl, rfl, rfl, rfl, rfl, True.intro⟩
  refine XS.go ?_
  conv => whnf
  repeat' (first | ((refine And.intro True.intro ?_; conv => whnf)) | (refine And.intro ?_ ?_; (focus exact au0); conv => whnf) | (refine g_seq ?_) | (refine g_drawn ?_) | ((first | refine d_p ?_ | refine d_e ?_ | refine d_nil ?_ | refine fun _ => ?_ | refine XCL.of_rdr (cL) ?_); conv => whnf) | fail)
  rename_i b7
  refine XS.weakenA (fs := [.lref 6 (gs 6) [] 0, .any, .lsl 45 (gs 45) S.runs.length cp, .any, .lref 4 b5 [] 0, .any, .any, .lref 7 b7 [] 0, .bool y.2, .any, .any, .any, .any, .any, .any, .any, .lsl 32 (gs 32) m.fRuns.length c2, .int .i64 (m.fRuns.length : Int), .int .i64 (i : Int)]) (ls := [(6, .agg [.str m.fName, .bool m.fUp, .int .i64 m.fClock, .bool m.fKnown, .int .i64 m.fSeen, .lsl 31 (gs 31) m.fWants.length c1, .lsl 32 (gs 32) m.fRuns.length c2, .lsl 33 (gs 33) S.asks.length c3, .lsl 34 (gs 34) S.gives.length c4]), (31, .arr 7 (m.fWants.map MateWant.D) c1), (33, .arr 4 (S.asks.map MateAsk.D) c3), (34, .arr 4 (S.gives.map MateAsk.D) c4), (32, .arr 11 (m.fRuns.map MateRun.D) c2), (45, .arr 11 (S.runs.map MateRun.D) cp), (4, r.D), (7, y.1.D)]) ⟨?_, ?_⟩ ?_
  ·repeat' (first | exact True.intro | refine And.intro rfl ?_)
  ·exact ⟨rfl, rfl, rfl, rfl, rfl, rfl, rfl, rfl, True.intro⟩
  have hw1 : IntKind.wrap .i64 ((i : Int) + 1) = ((i + 1 : Nat) : Int) := by rw [wrap_ok (by omega) (by omega)]; rfl
  have hSr := hok.runs
  have hlR : S.runs.length = (S.runs.map MateRun.D).length := (List.length_map ..).symm
  have hbd : (S.runs.map MateRun.D).length + [y.1.D].length ≤ 1073741824 := by rw [← hlR]; simp only [List.length_cons, List.length_nil]; omega
  refine XS.go ?_
  conv => whnf
  repeat' (first | (refine g_op ?_; conv => whnf) | (refine And.intro ?_ ?_; (focus exact au0); conv => whnf) | (refine g_seq ?_) | (refine XS.go ?_) | (refine g_ops ?_) | ((first | refine g_nil ?_ | refine g_cond ?_); conv => whnf) | fail)
  refine Br.mk (fun hb => ?_) (fun hb => ?_)
  ·rw [if_pos hb] at hnx
   clear hb
   conv => whnf
   repeat' (first | ((refine And.intro hlR ?_; conv => whnf)) | ((refine And.intro hbd ?_; conv => whnf)) | ((refine fun n1 bx cx hn1 hc1 => ?_; conv => whnf)) | (refine g_op ?_; conv => whnf) | (refine And.intro ?_ ?_; (focus exact au0); conv => whnf) | (refine g_seq ?_) | (refine XS.go ?_) | (refine g_ops ?_) | ((first | refine g_nil ?_ | refine g_exit ?_ | refine fun _ => ?_); conv => whnf) | fail)
   have hn2 : n1 = (S.runs ++ [y.1]).length := by rw [hn1]; simp
   refine ⟨(i + 1, cx, c3, c4), ⟨hlt, by dsimp only; rw [hnx]; rw [← hn2]; exact hc1, hg6, hg31⟩, by simp only; omega, ?_, ?_⟩
   ·dsimp only
    rw [hnx]
    repeat' (first | exact True.intro | refine And.intro (congrArg (fun k => D.lsl 45 _ k cx) hn2) ?_ | refine And.intro (congrArg (D.int .i64) hw1) ?_ | refine And.intro rfl ?_)
   ·dsimp only
    rw [hnx]
    exact ⟨rfl, rfl, rfl, rfl, rfl, congrArg (fun l => some (D.arr 11 l cx)) (by rw [List.map_append]; rfl), True.intro⟩
  rw [if_neg (by rw [hb]; exact Bool.false_ne_true)] at hnx
  clear hb
  have cA := impl_AskAt S.asks r.fWant.fHold hok.asks
  conv => whnf
  repeat' (first | (refine g_skip ?_; conv => whnf) | fail)
  refine XS.go ?_
  conv => whnf
  repeat' (first | ((refine QC.of_rdrB cA (.cons (Bor.rowM rfl rfl rfl (fun _ => rfl)) (.cons (Bor.refl _ _) .nil)) rfl ?_; conv => whnf)) | (refine And.intro ?_ ?_; (focus exact au0); conv => whnf) | (refine g_seq ?_) | (refine g_quiet ?_) | ((first | refine q_op ?_ | refine q_nil ?_); conv => whnf) | fail)
  refine XS.weakenA (fs := [.lref 6 (gs 6) [] 0, .any, .lsl 45 (gs 45) S.runs.length cp, .any, .lref 4 b5 [] 0, .any, .any, .any, .any, .int .i64 (askI S.asks r.fWant.fHold), .any, .any, .any, .any, .any, .any, .lsl 32 (gs 32) m.fRuns.length c2, .int .i64 (m.fRuns.length : Int), .int .i64 (i : Int)]) (ls := [(6, .agg [.str m.fName, .bool m.fUp, .int .i64 m.fClock, .bool m.fKnown, .int .i64 m.fSeen, .lsl 31 (gs 31) m.fWants.length c1, .lsl 32 (gs 32) m.fRuns.length c2, .lsl 33 (gs 33) S.asks.length c3, .lsl 34 (gs 34) S.gives.length c4]), (31, .arr 7 (m.fWants.map MateWant.D) c1), (33, .arr 4 (S.asks.map MateAsk.D) c3), (34, .arr 4 (S.gives.map MateAsk.D) c4), (32, .arr 11 (m.fRuns.map MateRun.D) c2), (45, .arr 11 (S.runs.map MateRun.D) cp), (4, r.D)]) ⟨?_, ?_⟩ ?_
  ·repeat' (first | exact True.intro | refine And.intro rfl ?_)
  ·exact ⟨rfl, rfl, rfl, rfl, rfl, rfl, rfl, True.intro⟩
  clear cW cL cA he0 he2 hj0 hbd hlR
  refine XS.go ?_
  conv => whnf
  repeat' (first | (refine z_ld1 ?_; first | (refine z_ld rfl rfl rfl rfl au1 au2 ?_; conv => whnf) | (refine z_ld0 rfl ?_; conv => whnf)) | (refine z_op ?_ ?_; (focus exact rfl); conv => whnf) | (refine z_opg0 ?_; (conv => whnf); refine And.intro ?_ ?_; (focus exact rfl); conv => whnf) | (refine z_pick ?_ ?_; (focus exact rfl); conv => whnf) | (refine zs_ops ?_ ?_; (focus exact rfl)) | (refine z_nil fun vals => ?_; conv => whnf) | (refine And.intro ?_ ?_; (focus exact au0); conv => whnf) | (refine g_seq ?_) | (refine XS.go ?_) | (refine g_cond ?_; conv => whnf) | fail)
  refine Br.mk (fun hb => ?_) (fun hb => ?_)
  ·have hgo : liveGo S r = true := hb
   rw [if_pos hgo] at hnx
   obtain ⟨k, hk, hkl, hke⟩ := liveGo_nat hgo
   unfold liveGive at hnx
   rw [hk, Int.toNat_natCast, drop_cut hAG.ord r.fWant.fHold hkl hke, getD_of hkl, hAG.ins hkl] at hnx
   rw [hk]
   clear hb hgo hk
   have hj0 : k < (S.asks.map MateAsk.D).length := by rw [List.length_map]; exact hkl
   have he0 : (S.asks.map MateAsk.D).getD k .any = S.asks[k].D := by rw [elt_map hkl, getD_of hkl]
   have he2 : (S.asks.map MateAsk.D).getD (k : Int).toNat .any = S.asks[k].D := he0
   have hkw : IntKind.wrap .i64 ((k : Int) + 1) = ((k + 1 : Nat) : Int) := by have := hok.asks; rw [wrap_ok (by omega) (by omega)]; rfl
   have hk1 : ((k : Nat) : Int) < ((S.asks.length : Nat) : Int) := by omega
   have hk2 : (0 : Int) ≤ ((k : Nat) : Int) := by omega
   have hkA := hok.asks
   generalize hA : S.asks[k] = A at *
   conv => whnf
   repeat' (first | (refine g_op ?_; conv => whnf) | (refine And.intro ?_ ?_; (focus exact au0); conv => whnf) | (refine g_seq ?_) | (refine g_ops ?_) | (refine g_nil ?_; conv => whnf) | fail)
   refine XS.go ?_
   conv => whnf
   repeat' (first | (refine g_cond ?_; conv => whnf) | fail)
   refine Br.mk (fun hb => ?_) (fun hb => ?_)
   ·have hg40 : S.gives.length < 40 := by
     have q := hb
     simp at q
     omega
    rw [if_pos hg40] at hnx
    clear hb
    have cP := fun g : Nat => putAskF 34 34 S.gives A g c4 hok.gives
    conv => whnf
    repeat' (first | ((refine d_ld rfl rfl rfl hj0 he0 ?_; conv => whnf)) | ((refine And.intro hk1 ?_; conv => whnf)) | ((refine And.intro hk2 ?_; conv => whnf)) | (refine And.intro ?_ ?_; (focus exact au0); conv => whnf) | (refine g_drawn ?_) | ((first | refine d_p ?_ | refine d_e ?_); conv => whnf) | fail)
    refine XCL.of_XC (ls := [(34, gs 34, .arr 4 (S.gives.map MateAsk.D) c4)]) ⟨rfl, rfl, rfl, True.intro⟩ ((cP (gs 34)).mono fun d ls hd => ?_)
    obtain ⟨bg, cg, rfl, rfl⟩ := hd
    conv => whnf
    repeat' (first | ((refine XCL.of_XC (ls := [(33, gs 33, .arr 4 (S.asks.map MateAsk.D) c3)]) ⟨rfl, rfl, rfl, True.intro⟩ ((cutAskF 33 33 S.asks k _ (gs 33) c3 hkw hkl hkA).mono fun d ls hd => ?_); obtain ⟨rfl, rfl⟩ := hd; conv => whnf)) | ((refine And.intro True.intro ?_; conv => whnf)) | (refine g_op ?_; conv => whnf) | (refine And.intro ?_ ?_; (focus exact au0); conv => whnf) | (refine XS.go ?_) | (refine g_ops ?_) | ((first | refine g_nil ?_ | refine d_p ?_ | refine d_e ?_ | refine d_nil ?_); conv => whnf) | fail)
    refine ⟨(i + 1, cp, c3, cg), ⟨hlt, by dsimp only; rw [hnx]; exact hi1, hg6, hg31⟩, by simp only; omega, ?_, ?_⟩
    ·dsimp only
     rw [hnx]
     repeat' (first | exact True.intro | refine And.intro rfl ?_ | refine And.intro (congrArg (D.int .i64) hw1) ?_)
    ·dsimp only
     rw [hnx]
     exact ⟨rfl, rfl, rfl, rfl, rfl, rfl, True.intro⟩
   ·have hg40 : ¬ S.gives.length < 40 := by
     have q := hb
     simp at q
     omega
    rw [if_neg hg40] at hnx
    clear hb
    conv => whnf
    repeat' (first | ((refine XCL.of_XC (ls := [(33, gs 33, .arr 4 (S.asks.map MateAsk.D) c3)]) ⟨rfl, rfl, rfl, True.intro⟩ ((cutAskF 33 33 S.asks k _ (gs 33) c3 hkw hkl hkA).mono fun d ls hd => ?_); obtain ⟨rfl, rfl⟩ := hd; conv => whnf)) | (refine g_op ?_; conv => whnf) | (refine And.intro ?_ ?_; (focus exact au0); conv => whnf) | (refine XS.go ?_) | (refine g_ops ?_) | ((first | refine g_nil ?_ | refine g_skip ?_); conv => whnf) | fail)
    refine ⟨(i + 1, cp, c3, c4), ⟨hlt, by dsimp only; rw [hnx]; exact hi1, hg6, hg31⟩, by simp only; omega, ?_, ?_⟩
    ·dsimp only
     rw [hnx]
     repeat' (first | exact True.intro | refine And.intro rfl ?_ | refine And.intro (congrArg (D.int .i64) hw1) ?_)
    ·dsimp only
     rw [hnx]
     exact ⟨rfl, rfl, rfl, rfl, rfl, rfl, True.intro⟩
  ·have hgo : liveGo S r = false := hb
   rw [if_neg (by rw [hgo]; exact Bool.false_ne_true)] at hnx
   clear hb
   conv => whnf
   repeat' (first | (refine g_op ?_; conv => whnf) | (refine And.intro ?_ ?_; (focus exact au0); conv => whnf) | (refine XS.go ?_) | (refine g_ops ?_) | ((first | refine g_nil ?_ | refine g_skip ?_); conv => whnf) | fail)
   refine ⟨(i + 1, cp, c3, c4), ⟨hlt, by dsimp only; rw [hnx]; exact hi1, hg6, hg31⟩, by simp only; omega, ?_, ?_⟩
   ·dsimp only
    rw [hnx]
    repeat' (first | exact True.intro | refine And.intro rfl ?_ | refine And.intro (congrArg (D.int .i64) hw1) ?_)
   ·dsimp only
    rw [hnx]
    exact ⟨rfl, rfl, rfl, rfl, rfl, rfl, True.intro⟩
 have hin : i = m.fRuns.length := by
  have : ¬ i < m.fRuns.length := by simpa using hb
  omega
 clear hb hnext
 subst hin
 conv => whnf
 repeat' (first | (refine g_exit ?_; conv => whnf) | fail)
 refine XS.weakenA (fs := [.lref 6 (gs 6) [] 0, .any, .lsl 45 (gs 45) S.runs.length cp]) (ls := [(6, .agg [.str m.fName, .bool m.fUp, .int .i64 m.fClock, .bool m.fKnown, .int .i64 m.fSeen, .lsl 31 (gs 31) m.fWants.length c1, .lsl 32 (gs 32) m.fRuns.length c2, .lsl 33 (gs 33) S.asks.length c3, .lsl 34 (gs 34) S.gives.length c4]), (31, .arr 7 (m.fWants.map MateWant.D) c1), (33, .arr 4 (S.asks.map MateAsk.D) c3), (34, .arr 4 (S.gives.map MateAsk.D) c4), (45, .arr 11 (S.runs.map MateRun.D) cp)]) ⟨?_, ?_⟩ ?_
 ·repeat' (first | exact True.intro | refine And.intro rfl ?_)
 ·exact ⟨rfl, rfl, rfl, rfl, rfl, True.intro⟩
 have hSr := hok.runs
 clear hi1
 refine XS.go ?_
 conv => whnf
 repeat' (first | (refine z_ld1 ?_; first | (refine z_ld rfl rfl rfl rfl au1 au2 ?_; conv => whnf) | (refine z_ld0 rfl ?_; conv => whnf)) | (refine z_op ?_ ?_; (focus exact rfl); conv => whnf) | (refine zs_ops ?_ ?_; (focus exact rfl)) | (refine z_nil fun vals => ?_; conv => whnf) | (refine And.intro ?_ ?_; (focus exact au0); conv => whnf) | (refine g_seq ?_) | (refine XS.go ?_) | (refine g_loop ?_) | (refine g_block ?_) | fail)
 refine XLc.mkG (α := Nat × Nat) (fun x gs => x.1 ≤ m.fWants.length ∧ gs 6 = b ∧ gs 31 = b1) (fun x => m.fWants.length - x.1) (fun x gs => [.lref 6 (gs 6) [] 0, .any, .lsl 45 (gs 45) (beginL m.fWants S.runs x.1).length x.2, .any, .any, .any, .any, .any, .any, .any, .any, .any, .any, .any, .any, .any, .any, .any, .any, .any, .any, .any, .any, .any, .any, .any, .any, .any, .any, .any, .any, .any, .any, .any, .any, .any, .any, .any, .any, .any, .any, .any, .any, .any, .any, .any, .any, .any, .any, .any, .any, .any, .any, .any, .any, .any, .any, .any, .any, .any, .any, .any, .any, .any, .any, .any, .any, .any, .any, .any, .any, .any, .any, .any, .any, .any, .any, .any, .any, .any, .any, .any, .any, .any, .any, .any, .any, .any, .any, .any, .any, .any, .any, .any, .any, .any, .any, .any, .lsl 31 (gs 31) m.fWants.length c1, .int .i64 (m.fWants.length : Int), .int .i64 (x.1 : Int)]) (fun x gs => [(6, .agg [.str m.fName, .bool m.fUp, .int .i64 m.fClock, .bool m.fKnown, .int .i64 m.fSeen, .lsl 31 (gs 31) m.fWants.length c1, .lsl 32 (gs 32) m.fRuns.length c2, .lsl 33 (gs 33) S.asks.length c3, .lsl 34 (gs 34) S.gives.length c4]), (31, .arr 7 (m.fWants.map MateWant.D) c1), (33, .arr 4 (S.asks.map MateAsk.D) c3), (34, .arr 4 (S.gives.map MateAsk.D) c4), (45, .arr 11 ((beginL m.fWants S.runs x.1).map MateRun.D) x.2)]) (0, cp) ⟨Nat.zero_le _, hg6, hg31⟩ ⟨?_, ?_⟩ ?_
 ·repeat' (first | exact True.intro | refine And.intro rfl ?_)
 ·exact ⟨rfl, rfl, rfl, rfl, rfl, True.intro⟩
 clear hg6 hg31
 intro x gs hI
 obtain ⟨j, cp⟩ := x
 obtain ⟨hj, hg6, hg31⟩ := hI
 dsimp only at hj ⊢
 have hnext := fun h : j < m.fWants.length => beginL_succ m.fWants S.runs h
 have hTl := beginL_len m.fWants S.runs hj
 generalize hT : beginL m.fWants S.runs j = T at hnext hTl ⊢
 repeat' (first | (refine g_op ?_; conv => whnf) | (refine And.intro ?_ ?_; (focus exact au0); conv => whnf) | (refine g_seq ?_) | (refine XS.go ?_) | (refine g_ops ?_) | ((first | refine g_nil ?_ | refine g_cond ?_); conv => whnf) | fail)
 refine Br.mk (fun hb => ?_) (fun hb => ?_)
 ·have hlt : j < m.fWants.length := by simpa using hb
  clear hb
  have hnx := hnext hlt
  clear hnext
  have hlmW : (m.fWants.map MateWant.D).length = m.fWants.length := List.length_map ..
  have he2 : (m.fWants.map MateWant.D).getD (j : Int).toNat .any = (m.fWants.getD j default).D := elt_map hlt
  generalize m.fWants.getD j default = w at hnx he2
  conv => whnf
  repeat' (first | (refine g_skip ?_; conv => whnf) | fail)
  refine XS.go ?_
  conv => whnf
  repeat' (first | ((rw [he2]; conv => whnf)) | (refine g_op ?_; conv => whnf) | (refine And.intro ?_ ?_; (focus exact au0); conv => whnf) | (refine g_seq ?_) | (refine g_ops ?_) | (refine g_nil ?_; conv => whnf) | (refine g_block ?_) | (refine fun _ => ?_; conv => whnf) | fail)
  rename_i b11
  refine XS.weakenA (fs := [.lref 6 (gs 6) [] 0, .any, .lsl 45 (gs 45) T.length cp, .any, .any, .any, .any, .any, .any, .any, .any, .lref 11 b11 [] 0, .any, .any, .any, .any, .any, .any, .any, .any, .any, .any, .any, .any, .any, .any, .any, .any, .any, .any, .any, .any, .any, .any, .any, .any, .any, .any, .any, .any, .any, .any, .any, .any, .any, .any, .any, .any, .any, .any, .any, .any, .any, .any, .any, .any, .any, .any, .any, .any, .any, .any, .any, .any, .any, .any, .any, .any, .any, .any, .any, .any, .any, .any, .any, .any, .any, .any, .any, .any, .any, .any, .any, .any, .any, .any, .any, .any, .any, .any, .any, .any, .any, .any, .any, .any, .any, .any, .lsl 31 (gs 31) m.fWants.length c1, .int .i64 (m.fWants.length : Int), .int .i64 (j : Int)]) (ls := [(6, .agg [.str m.fName, .bool m.fUp, .int .i64 m.fClock, .bool m.fKnown, .int .i64 m.fSeen, .lsl 31 (gs 31) m.fWants.length c1, .lsl 32 (gs 32) m.fRuns.length c2, .lsl 33 (gs 33) S.asks.length c3, .lsl 34 (gs 34) S.gives.length c4]), (31, .arr 7 (m.fWants.map MateWant.D) c1), (33, .arr 4 (S.asks.map MateAsk.D) c3), (34, .arr 4 (S.gives.map MateAsk.D) c4), (45, .arr 11 (T.map MateRun.D) cp), (11, w.D)]) ⟨?_, ?_⟩ ?_
  ·repeat' (first | exact True.intro | refine And.intro rfl ?_)
  ·exact ⟨rfl, rfl, rfl, rfl, rfl, rfl, True.intro⟩
  refine XS.freezeB 11 rfl ?_
  have hix := indexF_MateRun 124 [.cref w.D] (fun x => !Op.bytesLess x.fWant.fCopy.toList w.fCopy.toList) rfl (fun x => impl_runsCl x w) T (by omega)
  have hTw : T.length ≤ 1048576 := by omega
  have hwj : IntKind.wrap .i64 ((j : Int) + 1) = ((j + 1 : Nat) : Int) := by rw [wrap_ok (by omega) (by omega)]; rfl
  have hlT : (T.map MateRun.D).length = T.length := List.length_map ..
  refine XS.go ?_
  conv => whnf
  repeat' (first | ((refine XCL.of_rdrB hix (.cons (Bor.rowM rfl rfl rfl (fun _ => rfl)) (.cons (Bor.refl _ _) .nil)) rfl ?_; conv => whnf)) | (refine g_op ?_; conv => whnf) | (refine And.intro ?_ ?_; (focus exact au0); conv => whnf) | (refine g_seq ?_) | (refine g_ops ?_) | (refine g_nil ?_; conv => whnf) | fail)
  rcases idxN_cases (f := runF T w) (k := T.length) (i := 0) with ⟨h1, _⟩ | ⟨k, h1, _, h3, h4⟩
  ·have hI : runI T w = T.length := runI_end h1
   refine XS.weakenA (fs := [.lref 6 (gs 6) [] 0, .any, .lsl 45 (gs 45) T.length cp, .any, .any, .any, .any, .any, .any, .any, .any, .cref w.D, .int .i64 (-1), .any, .any, .any, .any, .any, .any, .any, .any, .any, .any, .any, .any, .any, .any, .any, .any, .any, .any, .any, .any, .any, .any, .any, .any, .any, .any, .any, .any, .any, .any, .any, .any, .any, .any, .any, .any, .any, .any, .any, .any, .any, .any, .any, .any, .any, .any, .any, .any, .any, .any, .any, .any, .any, .any, .any, .any, .any, .any, .any, .any, .any, .any, .any, .any, .any, .any, .any, .any, .any, .any, .any, .any, .any, .any, .any, .any, .any, .any, .any, .any, .any, .any, .any, .any, .any, .lsl 31 (gs 31) m.fWants.length c1, .int .i64 (m.fWants.length : Int), .int .i64 (j : Int)]) (ls := [(6, .agg [.str m.fName, .bool m.fUp, .int .i64 m.fClock, .bool m.fKnown, .int .i64 m.fSeen, .lsl 31 (gs 31) m.fWants.length c1, .lsl 32 (gs 32) m.fRuns.length c2, .lsl 33 (gs 33) S.asks.length c3, .lsl 34 (gs 34) S.gives.length c4]), (31, .arr 7 (m.fWants.map MateWant.D) c1), (33, .arr 4 (S.asks.map MateAsk.D) c3), (34, .arr 4 (S.gives.map MateAsk.D) c4), (45, .arr 11 (T.map MateRun.D) cp)]) ⟨?_, ?_⟩ ?_
   ·repeat' (first | exact True.intro | refine And.intro rfl ?_ | refine And.intro (congrArg (D.int .i64) h1) ?_)
   ·exact ⟨rfl, rfl, rfl, rfl, rfl, True.intro⟩
   clear hix h1
   refine XS.go ?_
   conv => whnf
   repeat' (first | (refine z_pickF ?_ ?_ ?_; (focus ((conv => lhs; whnf); done)); (focus exact rfl); (conv => whnf)) | ((refine z_skipF (rfl) ?_; (conv => whnf); refine And.intro ?_ ?_; (focus exact rfl))) | ((refine z_pickF (rfl) ?_ ?_; (focus exact rfl); (conv => whnf))) | (refine z_op ?_ ?_; (focus exact rfl); conv => whnf) | (refine z_opg0 ?_; (conv => whnf); refine And.intro ?_ ?_; (focus exact rfl); conv => whnf) | (refine zs_quiet ?_ ?_; (focus exact rfl)) | (refine z_nil fun vals => ?_; conv => whnf) | (refine And.intro ?_ ?_; (focus exact au0); conv => whnf) | (refine g_seq ?_) | (refine XS.go ?_) | (refine g_cond ?_; conv => whnf) | fail)
   refine Br.mk (fun hb => ?_) (fun hb => ?_)
   ·have hq : addQ T w = true := by
     have q := hb
     simp only [decide_eq_true_eq] at q
     unfold addQ
     rw [decide_eq_true (show T.length ≥ 20 by omega)]
     rfl
    have hnx2 : beginL m.fWants S.runs (j + 1) = T := by rw [hnx]; unfold addW; rw [if_pos hq]
    clear hb hnx
    conv => whnf
    repeat' (first | (refine g_op ?_; conv => whnf) | (refine And.intro ?_ ?_; (focus exact au0); conv => whnf) | (refine XS.go ?_) | (refine g_ops ?_) | ((first | refine g_nil ?_ | refine g_exit ?_); conv => whnf) | fail)
    refine ⟨(j + 1, cp), ⟨hlt, hg6, hg31⟩, by simp only; omega, ?_, ?_⟩
    ·dsimp only
     rw [hnx2]
     repeat' (first | exact True.intro | refine And.intro rfl ?_ | refine And.intro (congrArg (D.int .i64) hwj) ?_)
    ·dsimp only
     rw [hnx2]
     exact ⟨rfl, rfl, rfl, rfl, rfl, True.intro⟩
   have hq : addQ T w = false := by
    have q := hb
    simp only [decide_eq_false_iff_not] at q
    unfold addQ
    rw [decide_eq_false (show ¬ T.length ≥ 20 by omega), hI, decide_eq_false (Nat.lt_irrefl _)]
    rfl
   have hnx2 : beginL m.fWants S.runs (j + 1) = insAt T (runI T w) (startRun w) := by rw [hnx, addW_ins T w hq]
   have hrl : runI T w ≤ T.length := by omega
   have hri : ((T.length : Nat) : Int) = ((runI T w : Nat) : Int) := by omega
   clear hb hnx hI hq
   conv => whnf
   repeat' (first | (refine g_skip ?_; conv => whnf) | fail)
   refine XS.go ?_
   conv => whnf
   repeat' (first | (refine g_op ?_; conv => whnf) | (refine And.intro ?_ ?_; (focus exact au0); conv => whnf) | (refine g_seq ?_) | (refine g_ops ?_) | (refine g_nil ?_; conv => whnf) | fail)
   refine XS.go ?_
   conv => whnf
   repeat' (first | (refine g_op ?_; conv => whnf) | (refine And.intro ?_ ?_; (focus exact au0); conv => whnf) | (refine g_ops ?_) | (refine g_nil ?_; conv => whnf) | (refine Br.t ?_ ?_; (focus (first | assumption | exact rfl)); conv => whnf) | (refine g_cond ?_; conv => whnf) | fail)
   refine XS.weakenA (fs := [.lref 6 (gs 6) [] 0, .any, .lsl 45 (gs 45) T.length cp, .any, .any, .any, .any, .any, .any, .any, .any, .cref w.D, .int .i64 ((runI T w : Nat) : Int), .any, .any, .any, .any, .any, .any, .any, .any, .any, .any, .any, .any, .any, .any, .any, .any, .any, .any, .any, .any, .any, .any, .any, .any, .any, .any, .any, .any, .any, .any, .any, .any, .any, .any, .any, .any, .any, .any, .any, .any, .any, .any, .any, .any, .any, .any, .any, .any, .any, .any, .any, .any, .any, .any, .any, .any, .any, .any, .any, .any, .any, .any, .any, .any, .any, .any, .any, .any, .any, .any, .any, .any, .any, .any, .any, .any, .any, .any, .any, .any, .any, .any, .any, .any, .any, .lsl 31 (gs 31) m.fWants.length c1, .int .i64 (m.fWants.length : Int), .int .i64 (j : Int)]) (ls := [(6, .agg [.str m.fName, .bool m.fUp, .int .i64 m.fClock, .bool m.fKnown, .int .i64 m.fSeen, .lsl 31 (gs 31) m.fWants.length c1, .lsl 32 (gs 32) m.fRuns.length c2, .lsl 33 (gs 33) S.asks.length c3, .lsl 34 (gs 34) S.gives.length c4]), (31, .arr 7 (m.fWants.map MateWant.D) c1), (33, .arr 4 (S.asks.map MateAsk.D) c3), (34, .arr 4 (S.gives.map MateAsk.D) c4), (45, .arr 11 (T.map MateRun.D) cp)]) ⟨?_, ?_⟩ ?_
   ·repeat' (first | exact True.intro | refine And.intro rfl ?_ | refine And.intro (congrArg (D.int .i64) hri) ?_)
   ·exact ⟨rfl, rfl, rfl, rfl, rfl, True.intro⟩
   refine XS.go ?_
   conv => whnf
   repeat' (first | ((refine XCL.of_XC (ls := [(45, gs 45, .arr 11 (T.map MateRun.D) cp), (135, _, .arr 11 [(startRun w).D] 1)]) ⟨rfl, rfl, rfl, rfl, rfl, rfl, True.intro⟩ ((insF_MateRun 45 135 45 (startRun w) T (runI T w) (gs 45) cp _ 1 hrl hTw (Nat.le_refl 1)).mono fun d ls hd => ?_); obtain ⟨bn, cn, rfl, rfl⟩ := hd; conv => whnf)) | (refine g_op ?_; conv => whnf) | (refine And.intro ?_ ?_; (focus exact au0); conv => whnf) | (refine XS.go ?_) | (refine g_ops ?_) | ((first | refine g_nil ?_ | refine fun _ => ?_); conv => whnf) | fail)
   refine ⟨(j + 1, cn), ⟨hlt, hg6, hg31⟩, by simp only; omega, ?_, ?_⟩
   ·dsimp only
    rw [hnx2]
    repeat' (first | exact True.intro | refine And.intro rfl ?_ | refine And.intro (congrArg (D.int .i64) hwj) ?_)
   ·dsimp only
    rw [hnx2]
    exact ⟨rfl, rfl, rfl, rfl, rfl, True.intro⟩
  ·have hI : runI T w = k := runI_hit h1
   refine XS.weakenA (fs := [.lref 6 (gs 6) [] 0, .any, .lsl 45 (gs 45) T.length cp, .any, .any, .any, .any, .any, .any, .any, .any, .cref w.D, .int .i64 ((k : Nat) : Int), .any, .any, .any, .any, .any, .any, .any, .any, .any, .any, .any, .any, .any, .any, .any, .any, .any, .any, .any, .any, .any, .any, .any, .any, .any, .any, .any, .any, .any, .any, .any, .any, .any, .any, .any, .any, .any, .any, .any, .any, .any, .any, .any, .any, .any, .any, .any, .any, .any, .any, .any, .any, .any, .any, .any, .any, .any, .any, .any, .any, .any, .any, .any, .any, .any, .any, .any, .any, .any, .any, .any, .any, .any, .any, .any, .any, .any, .any, .any, .any, .any, .any, .any, .any, .any, .lsl 31 (gs 31) m.fWants.length c1, .int .i64 (m.fWants.length : Int), .int .i64 (j : Int)]) (ls := [(6, .agg [.str m.fName, .bool m.fUp, .int .i64 m.fClock, .bool m.fKnown, .int .i64 m.fSeen, .lsl 31 (gs 31) m.fWants.length c1, .lsl 32 (gs 32) m.fRuns.length c2, .lsl 33 (gs 33) S.asks.length c3, .lsl 34 (gs 34) S.gives.length c4]), (31, .arr 7 (m.fWants.map MateWant.D) c1), (33, .arr 4 (S.asks.map MateAsk.D) c3), (34, .arr 4 (S.gives.map MateAsk.D) c4), (45, .arr 11 (T.map MateRun.D) cp)]) ⟨?_, ?_⟩ ?_
   ·repeat' (first | exact True.intro | refine And.intro rfl ?_ | refine And.intro (congrArg (D.int .i64) h1) ?_)
   ·exact ⟨rfl, rfl, rfl, rfl, rfl, True.intro⟩
   clear hix h1
   have hkT : k < T.length := by omega
   have hk0 : (0 : Int) ≤ ((k : Nat) : Int) := by omega
   have hk1 : ((k : Nat) : Int) < ((T.length : Nat) : Int) := by omega
   have hj0 : k < (T.map MateRun.D).length := by rw [hlT]; exact hkT
   have he3 : (T.map MateRun.D).getD (k : Int).toNat .any = (T.getD k default).D := elt_map hkT
   refine XS.go ?_
   conv => whnf
   repeat' (first | ((refine And.intro hk0 ?_; conv => whnf)) | ((refine And.intro hk1 ?_; conv => whnf)) | (refine z_ld1g ?_; first | (refine z_ldg rfl rfl rfl rfl rfl rfl rfl (by (repeat intro _); exact ⟨au1, au2⟩) rfl rfl rfl rfl ?_; conv => whnf) | (refine z_ld0g ?_; (conv => whnf); refine And.intro ?_ ?_; (focus exact rfl); conv => whnf)) | (refine z_op ?_ ?_; (focus exact rfl); conv => whnf) | (refine z_opg0 ?_; (conv => whnf); refine And.intro ?_ ?_; (focus exact rfl); conv => whnf) | (refine z_pick ?_ ?_; (focus exact rfl); conv => whnf) | (refine zs_quiet ?_ ?_; (focus exact rfl)) | (refine z_nil fun vals => ?_; conv => whnf) | (refine And.intro ?_ ?_; (focus exact au0); conv => whnf) | (refine g_seq ?_) | (refine XS.go ?_) | (refine g_cond ?_; conv => whnf) | fail)
   refine Br.mk (fun hb => ?_) (fun hb => ?_)
   ·have hq : addQ T w = true := by
     have q := hb
     simp only [Bool.or_eq_true, Bool.and_eq_true, decide_eq_true_eq] at q
     unfold addQ
     rw [hI]
     rcases q with q | q
     ·rw [decide_eq_true hkT, q.2, Bool.and_self, Bool.or_true]
     ·rw [decide_eq_true (show T.length ≥ 20 by omega)]
      rfl
    have hnx2 : beginL m.fWants S.runs (j + 1) = T := by rw [hnx]; unfold addW; rw [if_pos hq]
    clear hb hnx
    conv => whnf
    repeat' (first | (refine g_op ?_; conv => whnf) | (refine And.intro ?_ ?_; (focus exact au0); conv => whnf) | (refine XS.go ?_) | (refine g_ops ?_) | ((first | refine g_nil ?_ | refine g_exit ?_); conv => whnf) | fail)
    refine ⟨(j + 1, cp), ⟨hlt, hg6, hg31⟩, by simp only; omega, ?_, ?_⟩
    ·dsimp only
     rw [hnx2]
     repeat' (first | exact True.intro | refine And.intro rfl ?_ | refine And.intro (congrArg (D.int .i64) hwj) ?_)
    ·dsimp only
     rw [hnx2]
     exact ⟨rfl, rfl, rfl, rfl, rfl, True.intro⟩
   have hq : addQ T w = false := by
    have q := hb
    simp only [Bool.or_eq_false_iff, decide_eq_false_iff_not] at q
    unfold addQ
    have q1 := q.1
    rw [decide_eq_true (show ((k : Nat) : Int) ≥ 0 by omega), Bool.true_and] at q1
    rw [hI, decide_eq_false (show ¬ T.length ≥ 20 by omega), q1, Bool.and_false]
    rfl
   have hnx2 : beginL m.fWants S.runs (j + 1) = insAt T (runI T w) (startRun w) := by rw [hnx, addW_ins T w hq]
   have hrl : runI T w ≤ T.length := by omega
   have hri : ((k : Nat) : Int) = ((runI T w : Nat) : Int) := by omega
   have hkd : decide (((k : Nat) : Int) < 0) = false := decide_eq_false (by omega)
   clear hb hnx hq he3
   conv => whnf
   repeat' (first | (refine g_skip ?_; conv => whnf) | fail)
   refine XS.go ?_
   conv => whnf
   repeat' (first | (refine g_op ?_; conv => whnf) | (refine And.intro ?_ ?_; (focus exact au0); conv => whnf) | (refine g_seq ?_) | (refine g_ops ?_) | (refine g_nil ?_; conv => whnf) | fail)
   refine XS.go ?_
   conv => whnf
   repeat' (first | (refine Br.f ?_ ?_; (focus (first | assumption | exact rfl)); conv => whnf) | ((first | refine g_cond ?_ | refine g_skip ?_); conv => whnf) | fail)
   refine XS.weakenA (fs := [.lref 6 (gs 6) [] 0, .any, .lsl 45 (gs 45) T.length cp, .any, .any, .any, .any, .any, .any, .any, .any, .cref w.D, .int .i64 ((runI T w : Nat) : Int), .any, .any, .any, .any, .any, .any, .any, .any, .any, .any, .any, .any, .any, .any, .any, .any, .any, .any, .any, .any, .any, .any, .any, .any, .any, .any, .any, .any, .any, .any, .any, .any, .any, .any, .any, .any, .any, .any, .any, .any, .any, .any, .any, .any, .any, .any, .any, .any, .any, .any, .any, .any, .any, .any, .any, .any, .any, .any, .any, .any, .any, .any, .any, .any, .any, .any, .any, .any, .any, .any, .any, .any, .any, .any, .any, .any, .any, .any, .any, .any, .any, .any, .any, .any, .any, .lsl 31 (gs 31) m.fWants.length c1, .int .i64 (m.fWants.length : Int), .int .i64 (j : Int)]) (ls := [(6, .agg [.str m.fName, .bool m.fUp, .int .i64 m.fClock, .bool m.fKnown, .int .i64 m.fSeen, .lsl 31 (gs 31) m.fWants.length c1, .lsl 32 (gs 32) m.fRuns.length c2, .lsl 33 (gs 33) S.asks.length c3, .lsl 34 (gs 34) S.gives.length c4]), (31, .arr 7 (m.fWants.map MateWant.D) c1), (33, .arr 4 (S.asks.map MateAsk.D) c3), (34, .arr 4 (S.gives.map MateAsk.D) c4), (45, .arr 11 (T.map MateRun.D) cp)]) ⟨?_, ?_⟩ ?_
   ·repeat' (first | exact True.intro | refine And.intro rfl ?_ | refine And.intro (congrArg (D.int .i64) hri) ?_)
   ·exact ⟨rfl, rfl, rfl, rfl, rfl, True.intro⟩
   refine XS.go ?_
   conv => whnf
   repeat' (first | ((refine XCL.of_XC (ls := [(45, gs 45, .arr 11 (T.map MateRun.D) cp), (135, _, .arr 11 [(startRun w).D] 1)]) ⟨rfl, rfl, rfl, rfl, rfl, rfl, True.intro⟩ ((insF_MateRun 45 135 45 (startRun w) T (runI T w) (gs 45) cp _ 1 hrl hTw (Nat.le_refl 1)).mono fun d ls hd => ?_); obtain ⟨bn, cn, rfl, rfl⟩ := hd; conv => whnf)) | (refine g_op ?_; conv => whnf) | (refine And.intro ?_ ?_; (focus exact au0); conv => whnf) | (refine XS.go ?_) | (refine g_ops ?_) | ((first | refine g_nil ?_ | refine fun _ => ?_); conv => whnf) | fail)
   refine ⟨(j + 1, cn), ⟨hlt, hg6, hg31⟩, by simp only; omega, ?_, ?_⟩
   ·dsimp only
    rw [hnx2]
    repeat' (first | exact True.intro | refine And.intro rfl ?_ | refine And.intro (congrArg (D.int .i64) hwj) ?_)
   ·dsimp only
    rw [hnx2]
    exact ⟨rfl, rfl, rfl, rfl, rfl, True.intro⟩
 have hjn : j = m.fWants.length := by
  have : ¬ j < m.fWants.length := by simpa using hb
  omega
 clear hb hnext
 subst hjn
 have hL : livesR m = ⟨m.fName, m.fUp, m.fClock, m.fKnown, m.fSeen, m.fWants, T, S.asks, S.gives⟩ := by unfold livesR; rw [hS, hT]
 rw [hL]
 subst hg6 hg31
 conv => whnf
 repeat' (first | (refine z_st1 ?_; first | (refine z_st rfl rfl rfl au1 au2 rfl rfl ?_; conv => whnf) | (refine z_st0 ?_; conv => whnf)) | (refine z_op ?_ ?_; (focus exact rfl); conv => whnf) | (refine zs_ops ?_ ?_; (focus exact rfl)) | (refine z_nil fun vals => ?_; conv => whnf) | (refine And.intro ?_ ?_; (focus exact au0); conv => whnf) | (refine XS.go ?_) | ((first | refine g_exit ?_ | refine r_nil ?_); conv => whnf) | fail)
 exact ⟨_, _, _, _, _, _, rfl⟩
end Go.Ab
