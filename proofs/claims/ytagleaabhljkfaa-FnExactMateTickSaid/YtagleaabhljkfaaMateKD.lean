/- Steps towards the law: the machine, contracts of functions and facts of lists. -/
import Derived.Test.YtagleaabhljkfaaMateKB
import Derived.Test.YtagleaabhljkfaaMateTD
import Derived.Test.YtagleaabhljkfaaMateQ
import Derived.Test.YtagleaabhljkfaaRows
set_option linter.unusedSimpArgs false
set_option linter.unusedVariables false
namespace Go.Ab
open Go Go.RowKit Go.Proofs
attribute [local irreducible] XC Rdr IntKind.wrap xw xos xqs xr xd
set_option maxRecDepth 100000
set_option maxHeartbeats 16000000
def cf81 : CF := ⟨155,[.c 2 9 true],(.seq (.ops [Oo 1 (.bx (.t 0)),Oo 2 (.al (.agg [.str ⟨#[]⟩,.bool false,.int .i64 0,.bool false,.int .i64 0,.nil,.nil,.nil,.nil]))]) (.seq (.ops [Oo 14 (.bsl (.agg [.agg [.str ⟨#[]⟩,.int .i64 0,.str ⟨#[]⟩,.int .i64 0,.int .i64 0,.int .i64 0,.int .i64 0],.int .i64 0,.int .i64 0,.int .i64 0,.int .i64 0]) 0 []),Om 3 14]) (.seq (.seq (.ops [Ok 4 (.int .i64 0)]) (.block 0 (.loop (.seq (.seq (.ops [Om 15 4,Of 16 6 1,Ol 17 16,Og 18 17,Ob 19 .lss 15 18]) (.cond (.t 19) .skip (.exit 0))) (.seq (.block 1 (.seq (.drawn [Qf 23 5 1,Ql 24 23,Qf 25 6 1,Ql 26 25,Qm 27 4,Qx 28 11 26 27,Qo 29 (.fa 0 7 0 (.t 28)),Qf 30 0 29,Ql 31 30,(Oc 32 108 [.t 24,.t 31],true,[]),Qm 22 32,Qo 33 (.ext (.t 22) 0),Qo 34 (.ext (.t 22) 1),(Oo 5 (.al (.agg [.str ⟨#[]⟩,.int .i64 0,.str ⟨#[]⟩,.int .i64 0,.int .i64 0,.int .i64 0,.int .i64 0])),true,[]),Qs 7 5 33,Qm 6 34]) (.seq (.drawn [Qf 36 6 1,Ql 37 36,Qm 38 4,Qx 39 11 37 38,Qd 40 11 39,Qd 41 7 5,Qm 42 6,Qf 43 2 1,Ql 44 43,(Oc 45 30 [.t 40,.t 41,.t 42,.t 44],true,[]),Qm 35 45,Qo 46 (.ext (.t 35) 0),Qo 47 (.ext (.t 35) 1),(Oo 7 (.al (.agg [.agg [.str ⟨#[]⟩,.int .i64 0,.str ⟨#[]⟩,.int .i64 0,.int .i64 0,.int .i64 0,.int .i64 0],.int .i64 0,.int .i64 0,.int .i64 0,.int .i64 0])),true,[]),Qs 11 7 46,Qm 8 47]) (.seq (.seq (.ops [Om 48 8]) (.cond (.t 48) (.seq (.ops [Om 49 3,Od 50 11 7,Oo 51 (.bsl (.agg [.agg [.str ⟨#[]⟩,.int .i64 0,.str ⟨#[]⟩,.int .i64 0,.int .i64 0,.int .i64 0,.int .i64 0],.int .i64 0,.int .i64 0,.int .i64 0,.int .i64 0]) 1 [(0,(.t 50))]),Oo 52 (.app 11 104 (.t 49) (.t 51)),Om 3 52]) (.exit 1)) .skip)) (.seq (.ops [Of 53 6 1,Ol 54 53,Om 55 4,Ox 56 11 54 55,Oo 57 (.fa 0 7 0 (.t 56)),Of 58 2 57,Ol 59 58,Om 9 59]) (.seq (.ops [Of 60 7 1,Ol 61 60,Om 62 9,Oc 63 93 [.t 61,.t 62],Om 10 63]) (.seq (.ops [Om 64 9,Oo 65 (.bin .neq (.t 64) (.k (.str ⟨#[]⟩))),Om 66 65,⟨some 67,.mv (.t 10),some (66,true)⟩,⟨some 68,.bin .geq (.t 67) (.k (.int .i64 0)),some (66,true)⟩,Oo 69 (.pick (.t 66) (.t 68) (.k (.bool false)))]) (.cond (.t 69) (.seq (.seq (.ops [Of 70 8 1,Ol 71 70,Og 72 71,Oo 73 (.bin .lss (.t 72) (.k (.int .i64 40)))]) (.cond (.t 73) (.drawn [Qf 74 8 1,Ql 75 74,Qf 76 7 1,Ql 77 76,Qm 78 10,Qx 79 4 77 78,Qd 80 4 79,(Oc 81 109 [.t 75,.t 80],true,[]),Qf 82 8 1,Qs 1 82 81]) .skip)) (.ops [Of 83 7 1,Ol 84 83,Om 85 9,Oc 86 102 [.t 84,.t 85],Of 87 7 1,Os 1 87 86])) .skip)))))))) (.ops [Om 20 4,Oi 21 20,Om 4 21])))))) (.seq (.seq (.ops [Ok 11 (.int .i64 0)]) (.block 2 (.loop (.seq (.seq (.ops [Om 88 11,Of 89 5 1,Ol 90 89,Og 91 90,Ob 92 .lss 88 91]) (.cond (.t 92) .skip (.exit 2))) (.seq (.block 3 (.seq (.ops [Of 95 5 1,Ol 96 95,Om 97 11,Ox 98 7 96 97,Od 99 7 98,Oo 12 (.al (.agg [.str ⟨#[]⟩,.int .i64 0,.str ⟨#[]⟩,.int .i64 0,.int .i64 0,.int .i64 0,.int .i64 0])),Os 7 12 99]) (.seq (.ops [Ok 13 (.int .i64 0)]) (.seq (.block 4 (.loop (.seq (.seq (.quiet [Om 100 13,Om 101 3,Og 102 101,Ob 103 .lss 100 102,Om 104 103,⟨some 105,.mv (.t 3),some (104,true)⟩,⟨some 106,.mv (.t 13),some (104,true)⟩,⟨some 107,.ix 11 (.t 105) (.t 106),some (104,true)⟩,⟨some 108,.fa 0 7 0 (.t 107),some (104,true)⟩,⟨some 109,.fa 0 1 0 (.t 108),some (104,true)⟩,⟨some 110,.ld 1 false (.t 109),some (104,true)⟩,⟨some 111,.fa 0 1 0 (.t 12),some (104,true)⟩,⟨some 112,.ld 1 false (.t 111),some (104,true)⟩,⟨some 113,.bin .lss (.t 110) (.t 112),some (104,true)⟩,Oo 114 (.pick (.t 104) (.t 113) (.k (.bool false)))]) (.cond (.t 114) .skip (.exit 4))) (.block 5 (.ops [Om 115 13,Oi 116 115,Om 13 116]))))) (.seq (.seq (.quiet [Om 117 3,Og 118 117,Oo 119 (.bin .geq (.t 118) (.k (.int .i64 20))),Om 120 119,⟨some 121,.mv (.t 13),some (120,false)⟩,⟨some 122,.mv (.t 3),some (120,false)⟩,⟨some 123,.lenl (.t 122),some (120,false)⟩,⟨some 124,.bin .lss (.t 121) (.t 123),some (120,false)⟩,⟨some 125,.mv (.t 124),some (120,false)⟩,⟨some 126,.mv (.t 3),some (125,true)⟩,⟨some 127,.mv (.t 13),some (125,true)⟩,⟨some 128,.ix 11 (.t 126) (.t 127),some (125,true)⟩,⟨some 129,.fa 0 7 0 (.t 128),some (125,true)⟩,⟨some 130,.fa 0 1 0 (.t 129),some (125,true)⟩,⟨some 131,.ld 1 false (.t 130),some (125,true)⟩,⟨some 132,.fa 0 1 0 (.t 12),some (125,true)⟩,⟨some 133,.ld 1 false (.t 132),some (125,true)⟩,⟨some 134,.bin .eql (.t 131) (.t 133),some (125,true)⟩,⟨some 135,.pick (.t 125) (.t 134) (.k (.bool false)),some (120,false)⟩,Oo 136 (.pick (.t 120) (.k (.bool true)) (.t 135))]) (.cond (.t 136) (.exit 3) .skip)) (.drawn [Qo 137 (.bsl (.agg [.agg [.str ⟨#[]⟩,.int .i64 0,.str ⟨#[]⟩,.int .i64 0,.int .i64 0,.int .i64 0,.int .i64 0],.int .i64 0,.int .i64 0,.int .i64 0,.int .i64 0]) 0 []),Qm 138 3,Qm 139 13,Qo 140 (.slc 11 false (.t 138) none (some (.t 139))),Qd 142 7 12,Qf 143 3 12,Ql 144 143,Qo 145 (.bld (.agg [.agg [.str ⟨#[]⟩,.int .i64 0,.str ⟨#[]⟩,.int .i64 0,.int .i64 0,.int .i64 0,.int .i64 0],.int .i64 0,.int .i64 0,.int .i64 0,.int .i64 0]) [(0,0,7,(.t 142)),(1,7,1,(.k (.int .i64 1))),(2,8,1,(.t 144))]),Qo 146 (.bsl (.agg [.agg [.str ⟨#[]⟩,.int .i64 0,.str ⟨#[]⟩,.int .i64 0,.int .i64 0,.int .i64 0,.int .i64 0],.int .i64 0,.int .i64 0,.int .i64 0,.int .i64 0]) 1 [(0,(.t 145))]),Qm 148 3,Qm 149 13,Qo 150 (.slc 11 false (.t 148) (some (.t 149)) none),(Oo 141 (.app 11 104 (.t 137) (.t 140)),true,[(.t 143),(.t 12)]),(Oo 147 (.app 11 104 (.t 141) (.t 146)),true,[]),(Oo 151 (.app 11 104 (.t 147) (.t 150)),true,[]),Qm 3 151])))))) (.ops [Om 93 11,Oi 94 93,Om 11 94])))))) (.seq (.ops [Om 152 3,Of 153 6 1,Os 1 153 152]) (.seq (.ops [Od 154 9 1,Os 9 2 154]) .ret))))))⟩
theorem c81 : compileF Try.prog [] 81 = some cf81 := by kernel_rfl
/-- The lists' lengths (each with True, so that it may stand where the sizes of all parts are known). -/
structure Mate.lenOk (m : Mate) : Prop where
 w : m.fWants.length ≤ 1048576 ∧ True
 r : m.fRuns.length ≤ 1048576 ∧ True
 a : m.fAsks.length ≤ 1048576 ∧ True
 g : m.fGives.length ≤ 1048576 ∧ True
structure LS where
 runs : List MateRun
 asks : List MateAsk
 gives : List MateAsk
def liveGo (s : LS) (r : MateRun) : Bool := (r.fWant.fHold.toList != (⟨#[]⟩ : ByteArray).toList) && decide (askI s.asks r.fWant.fHold ≥ 0)
def liveGive (s : LS) (r : MateRun) : List MateAsk := if s.gives.length < 40 then setR s.gives (s.asks.getD (askI s.asks r.fWant.fHold).toNat default) else s.gives
def liveStep (ws : List MateWant) (c : Int) (s : LS) (r : MateRun) : LS :=
 if (liveR r (wantR ws r.fWant.fCopy).1 (wantR ws r.fWant.fCopy).2 c).2 = true then ⟨s.runs ++ [(liveR r (wantR ws r.fWant.fCopy).1 (wantR ws r.fWant.fCopy).2 c).1], s.asks, s.gives⟩
 else if liveGo s r = true then ⟨s.runs, s.asks.filter (dropQ r.fWant.fHold), liveGive s r⟩ else s
def liveL (m : Mate) (k : Nat) : LS := (m.fRuns.take k).foldl (liveStep m.fWants m.fClock) ⟨[], m.fAsks, m.fGives⟩
theorem liveL_succ (m : Mate) {k : Nat} (h : k < m.fRuns.length) : liveL m (k + 1) = liveStep m.fWants m.fClock (liveL m k) (m.fRuns.getD k default) := by
 have e : m.fRuns.getD k default = m.fRuns[k] := by simp [h]
 unfold liveL
 rw [e, List.take_succ_eq_append_getElem h, List.foldl_append]
 rfl
structure LiveOk (m : Mate) (k : Nat) (s : LS) : Prop where
 runs : s.runs.length ≤ k
 asks : s.asks.length ≤ 1048576
 gives : s.gives.length ≤ 1048576
theorem setR_len (xs : List MateAsk) (a : MateAsk) : (setR xs a).length ≤ xs.length + 1 := by
 have hk : putI xs a ≤ xs.length := by
  unfold putI
  rcases idxN_cases (f := putF xs a) (k := xs.length) (i := 0) with ⟨h1, _⟩ | ⟨j, h1, _, h3, _⟩
  ·rw [h1, if_pos (by omega)]
   exact Nat.le_refl _
  ·rw [h1, if_neg (by omega)]
   omega
 unfold setR putT
 split <;> simp only [List.length_append, List.length_take, List.length_cons, List.length_drop] <;> omega
theorem liveOk (m : Mate) (ha : m.fAsks.length ≤ 1048576) (hg : m.fGives.length ≤ 1048576) : ∀ {k : Nat}, k ≤ m.fRuns.length → LiveOk m k (liveL m k)
 | 0, _ => ⟨Nat.le_refl _, ha, hg⟩
 | k + 1, hk => by
  have ih := liveOk m ha hg (k := k) (by omega)
  rw [liveL_succ m (by omega)]
  unfold liveStep
  split
  ·refine ⟨?_, ih.asks, ih.gives⟩
   have := ih.runs
   simp only [List.length_append, List.length_cons, List.length_nil]
   omega
  ·split
   ·refine ⟨Nat.le_succ_of_le ih.runs, Nat.le_trans (List.length_filter_le _ _) ih.asks, ?_⟩
    show (liveGive _ _).length ≤ _
    unfold liveGive
    split
    ·have := setR_len (liveL m k).gives ((liveL m k).asks.getD (askI (liveL m k).asks (m.fRuns.getD k default).fWant.fHold).toNat default)
     omega
    ·exact ih.gives
   ·exact ⟨Nat.le_succ_of_le ih.runs, ih.asks, ih.gives⟩
def startRun (w : MateWant) : MateRun := ⟨w, 1, w.fPull, 0, 0⟩
def runF (rs : List MateRun) (w : MateWant) (i : Nat) : Bool := !Op.bytesLess (rs.getD i default).fWant.fCopy.toList w.fCopy.toList
def runI (rs : List MateRun) (w : MateWant) : Nat := if idxN (runF rs w) rs.length 0 < 0 then rs.length else (idxN (runF rs w) rs.length 0).toNat
theorem runI_hit {rs : List MateRun} {w : MateWant} {i : Nat} (h : idxN (runF rs w) rs.length 0 = (i : Int)) : runI rs w = i := by
 unfold runI
 rw [h, if_neg (by omega)]
 omega
theorem runI_end {rs : List MateRun} {w : MateWant} (h : idxN (runF rs w) rs.length 0 = -1) : runI rs w = rs.length := by
 unfold runI
 rw [h, if_pos (by omega)]
def addQ (rs : List MateRun) (w : MateWant) : Bool := decide (rs.length ≥ 20) || (decide (runI rs w < rs.length) && (rs.getD (runI rs w) default).fWant.fCopy.toList == w.fCopy.toList)
def addW (rs : List MateRun) (w : MateWant) : List MateRun := if addQ rs w = true then rs else rs.take (runI rs w) ++ startRun w :: rs.drop (runI rs w)
def beginL (ws : List MateWant) (rs : List MateRun) (k : Nat) : List MateRun := (ws.take k).foldl addW rs
theorem beginL_succ (ws : List MateWant) (rs : List MateRun) {k : Nat} (h : k < ws.length) : beginL ws rs (k + 1) = addW (beginL ws rs k) (ws.getD k default) := by
 have e : ws.getD k default = ws[k] := by simp [h]
 unfold beginL
 rw [e, List.take_succ_eq_append_getElem h, List.foldl_append]
 rfl
theorem addW_len (rs : List MateRun) (w : MateWant) : (addW rs w).length ≤ rs.length + 1 := by
 unfold addW
 split
 ·omega
 ·simp only [List.length_append, List.length_take, List.length_cons, List.length_drop]; omega
theorem beginL_len (ws : List MateWant) (rs : List MateRun) : ∀ {k : Nat}, k ≤ ws.length → (beginL ws rs k).length ≤ rs.length + k
 | 0, _ => Nat.le_refl _
 | k + 1, h => by
  rw [beginL_succ ws rs (by omega)]
  have := addW_len (beginL ws rs k) (ws.getD k default)
  have := beginL_len ws rs (k := k) (by omega)
  omega
def livesR (m : Mate) : Mate := { m with fRuns := beginL m.fWants (liveL m m.fRuns.length).runs m.fWants.length, fAsks := (liveL m m.fRuns.length).asks, fGives := (liveL m m.fRuns.length).gives }
theorem spec_Lives (m : Mate) (hs : m.lenOk) : Rdr Try.prog 81 [m.D] (livesR m).D := by
 refine Rdr.introF hm [] rfl c81 (Nat.le_of_ble_eq_true rfl) ?_
 conv => whnf
 repeat' (first | (refine g_op ?_; conv => whnf) | (refine And.intro ?_ ?_; (focus exact au0); conv => whnf) | (refine g_seq ?_) | (refine g_ops ?_) | ((first | refine g_nil ?_ | refine fun _ => ?_); conv => whnf) | fail)
 refine XS.go ?_
 repeat' (first | (refine g_op ?_; conv => whnf) | (refine And.intro ?_ ?_; (focus exact au0); conv => whnf) | (refine g_seq ?_) | (refine g_ops ?_) | (refine g_nil ?_; conv => whnf) | fail)
 refine XS.own 3 52 11 rfl fun b0 => ?_
 obtain ⟨hw, hr, ha, hg⟩ := hs
 repeat' (first | (refine g_op ?_; conv => whnf) | (refine And.intro ?_ ?_; (focus exact au0); conv => whnf) | (refine g_seq ?_) | (refine XS.go ?_) | (refine g_ops ?_) | (refine g_loop ?_) | (refine g_nil ?_; conv => whnf) | (refine g_block ?_) | fail)
 refine XLc.mkA (α := Nat × Nat) (fun i => i.1 ≤ m.fRuns.length ∧ (liveL m i.1).runs.length ≤ i.2) (fun i => m.fRuns.length - i.1) (fun i gs => [.any, .lref 1 (gs 1) [] 0, .lref 2 (gs 2) [] 0, .lsl 52 (gs 52) (liveL m i.1).runs.length i.2, .int .i64 (i.1 : Int)]) (fun i gs => [(1, .agg [.str m.fName, .bool m.fUp, .int .i64 m.fClock, .bool m.fKnown, .int .i64 m.fSeen, .ro 7 (m.fWants.map MateWant.D), .ro 11 (m.fRuns.map MateRun.D), .ro 4 ((liveL m i.1).asks.map MateAsk.D), .ro 4 ((liveL m i.1).gives.map MateAsk.D)]), (2, .agg [.str ⟨#[]⟩, .bool false, .int .i64 0, .bool false, .int .i64 0, .nil, .nil, .nil, .nil]), (52, .arr 11 ((liveL m i.1).runs.map MateRun.D) i.2)]) (0, 0) ⟨Nat.zero_le _, Nat.le_refl _⟩ ⟨?_, ?_⟩ ?_
 ·repeat' (first | exact True.intro | refine And.intro rfl ?_)
 ·exact ⟨rfl, rfl, rfl, True.intro⟩
 intro i gs hI
 obtain ⟨i, cp⟩ := i
 obtain ⟨hi0, hi1⟩ := hI
 simp only at hi0 hi1
 dsimp only
 have hok := liveOk m ha.1 hg.1 hi0
 have hnext := fun h : i < m.fRuns.length => liveL_succ m h
 generalize hS : liveL m i = S at hi1 hok hnext ⊢
 repeat' (first | (refine z_ld1 ?_; first | (refine z_ld rfl rfl rfl rfl au1 au2 ?_; conv => whnf) | (refine z_ld0 rfl ?_; conv => whnf)) | (refine z_op ?_ ?_; (focus exact rfl); conv => whnf) | (refine zs_ops ?_ ?_; (focus exact rfl)) | (refine z_nil fun vals => ?_; conv => whnf) | (refine And.intro ?_ ?_; (focus exact au0); conv => whnf) | (refine g_seq ?_) | (refine XS.go ?_) | (refine g_cond ?_; conv => whnf) | fail)
 refine Br.mk (fun hb => ?_) (fun hb => ?_)
 ·have hlt : i < m.fRuns.length := by simpa using hb
  clear hb
  have hnx := hnext hlt
  clear hnext
  have hlm : (m.fRuns.map MateRun.D).length = m.fRuns.length := List.length_map ..
  have he : (m.fRuns.map MateRun.D).getD i .any = (m.fRuns.getD i default).D := elt_map hlt
  have he2 : (m.fRuns.map MateRun.D).getD (i : Int).toNat .any = (m.fRuns.getD i default).D := he
  generalize m.fRuns.getD i default = r at hnx he he2
  have cW := spec_Want m.fWants r.fWant.fCopy hw.1
  have cL := spec_Live r (wantR m.fWants r.fWant.fCopy).1 (wantR m.fWants r.fWant.fCopy).2 m.fClock
  unfold liveStep at hnx
  generalize wantR m.fWants r.fWant.fCopy = q at cW cL hnx
  generalize liveR r q.1 q.2 m.fClock = y at cL hnx
  conv => whnf
  repeat' (first | (refine g_skip ?_; conv => whnf) | fail)
  refine XS.go ?_
  conv => whnf
  repeat' (first | ((rw [he2]; conv => whnf)) | ((refine And.intro True.intro ?_; conv => whnf)) | (refine And.intro ?_ ?_; (focus exact au0); conv => whnf) | (refine g_seq ?_) | (refine g_block ?_) | (refine g_drawn ?_) | ((first | refine d_p ?_ | refine d_e ?_ | refine d_nil ?_ | refine fun _ => ?_ | refine XCL.of_rdr (cW) ?_); conv => whnf) | fail)
  refine XS.go ?_
  conv => whnf
  repeat' (first | ((rw [he2]; conv => whnf)) | ((refine And.intro True.intro ?_; conv => whnf)) | (refine And.intro ?_ ?_; (focus exact au0); conv => whnf) | (refine g_seq ?_) | (refine g_drawn ?_) | ((first | refine d_p ?_ | refine d_e ?_ | refine d_nil ?_ | refine fun _ => ?_ | refine XCL.of_rdr (cL) ?_); conv => whnf) | fail)
  rename_i b5 b7
  refine XS.weakenA (fs := [.any, .lref 1 (gs 1) [] 0, .lref 2 (gs 2) [] 0, .lsl 52 (gs 52) S.runs.length cp, .int .i64 (i : Int), .any, .any, .lref 7 b7 [] 0, .bool y.2]) (ls := [(1, .agg [.str m.fName, .bool m.fUp, .int .i64 m.fClock, .bool m.fKnown, .int .i64 m.fSeen, .ro 7 (m.fWants.map MateWant.D), .ro 11 (m.fRuns.map MateRun.D), .ro 4 (S.asks.map MateAsk.D), .ro 4 (S.gives.map MateAsk.D)]), (2, .agg [.str ⟨#[]⟩, .bool false, .int .i64 0, .bool false, .int .i64 0, .nil, .nil, .nil, .nil]), (7, y.1.D), (52, .arr 11 (S.runs.map MateRun.D) cp)]) ⟨?_, ?_⟩ ?_
  ·repeat' (first | exact True.intro | refine And.intro rfl ?_)
  ·exact ⟨rfl, rfl, rfl, rfl, True.intro⟩
  have hw1 : IntKind.wrap .i64 ((i : Int) + 1) = ((i + 1 : Nat) : Int) := by rw [wrap_ok (by omega) (by omega)]; rfl
  have hSr := hok.runs
  have hlR : S.runs.length = (S.runs.map MateRun.D).length := (List.length_map ..).symm
  have hbd : (S.runs.map MateRun.D).length + [y.1.D].length ≤ 1073741824 := by rw [← hlR]; simp only [List.length_cons, List.length_nil]; omega
  refine XS.go ?_
  conv => whnf
  repeat' (first | (refine g_op ?_; conv => whnf) | (refine And.intro ?_ ?_; (focus exact au0); conv => whnf) | (refine g_seq ?_) | (refine XS.go ?_) | (refine g_ops ?_) | ((first | refine g_nil ?_ | refine g_cond ?_); conv => whnf) | fail)
  refine Br.mk (fun hb => ?_) (fun hb => ?_)
  ·rw [if_pos hb] at hnx
   clear hb
   conv => whnf
   repeat' (first | ((refine And.intro hlR ?_; conv => whnf)) | ((refine And.intro hbd ?_; conv => whnf)) | ((refine fun n1 b1 c1 hn1 hc1 => ?_; conv => whnf)) | (refine g_op ?_; conv => whnf) | (refine And.intro ?_ ?_; (focus exact au0); conv => whnf) | (refine g_seq ?_) | (refine XS.go ?_) | (refine g_ops ?_) | ((first | refine g_nil ?_ | refine g_exit ?_ | refine fun _ => ?_); conv => whnf) | fail)
   have hn2 : n1 = (S.runs ++ [y.1]).length := by rw [hn1]; simp
   refine ⟨(i + 1, c1), ⟨hlt, by dsimp only; rw [hnx]; rw [← hn2]; exact hc1⟩, by simp only; omega, ?_, ?_⟩
   ·dsimp only
    rw [hnx]
    repeat' (first | exact True.intro | refine And.intro (congrArg (fun k => D.lsl 52 _ k c1) hn2) ?_ | refine And.intro (congrArg (D.int .i64) hw1) ?_ | refine And.intro rfl ?_)
   ·dsimp only
    rw [hnx]
    exact ⟨rfl, rfl, congrArg (fun l => some (D.arr 11 l c1)) (by rw [List.map_append]; rfl), True.intro⟩
  rw [if_neg (by rw [hb]; exact Bool.false_ne_true)] at hnx
  clear hb
  have cA := spec_Ask S.asks r.fWant.fHold hok.asks
  conv => whnf
  repeat' (first | (refine g_skip ?_; conv => whnf) | fail)
  refine XS.go ?_
  conv => whnf
  repeat' (first | ((rw [he2]; conv => whnf)) | (refine g_op ?_; conv => whnf) | (refine And.intro ?_ ?_; (focus exact au0); conv => whnf) | (refine g_seq ?_) | (refine g_ops ?_) | (refine g_nil ?_; conv => whnf) | fail)
  refine XS.go ?_
  conv => whnf
  repeat' (first | (refine g_op ?_; conv => whnf) | (refine And.intro ?_ ?_; (focus exact au0); conv => whnf) | (refine g_seq ?_) | (refine g_ops ?_) | ((first | refine g_nil ?_ | refine XCL.of_rdr (cA) ?_); conv => whnf) | fail)
  refine XS.weakenA (fs := [.any, .lref 1 (gs 1) [] 0, .lref 2 (gs 2) [] 0, .lsl 52 (gs 52) S.runs.length cp, .int .i64 (i : Int), .any, .any, .any, .any, .str r.fWant.fHold, .int .i64 (askI S.asks r.fWant.fHold)]) (ls := [(1, .agg [.str m.fName, .bool m.fUp, .int .i64 m.fClock, .bool m.fKnown, .int .i64 m.fSeen, .ro 7 (m.fWants.map MateWant.D), .ro 11 (m.fRuns.map MateRun.D), .ro 4 (S.asks.map MateAsk.D), .ro 4 (S.gives.map MateAsk.D)]), (2, .agg [.str ⟨#[]⟩, .bool false, .int .i64 0, .bool false, .int .i64 0, .nil, .nil, .nil, .nil]), (52, .arr 11 (S.runs.map MateRun.D) cp)]) ⟨?_, ?_⟩ ?_
  ·repeat' (first | exact True.intro | refine And.intro rfl ?_)
  ·exact ⟨rfl, rfl, rfl, True.intro⟩
  clear cW cL cA he2
  have cD := spec_Drop S.asks r.fWant.fHold hok.asks
  refine XS.go ?_
  conv => whnf
  repeat' (first | (refine z_op ?_ ?_; (focus exact rfl); conv => whnf) | (refine z_opg0 ?_; (conv => whnf); refine And.intro ?_ ?_; (focus exact rfl); conv => whnf) | (refine z_pick ?_ ?_; (focus exact rfl); conv => whnf) | (refine zs_ops ?_ ?_; (focus exact rfl)) | (refine z_nil fun vals => ?_; conv => whnf) | (refine And.intro ?_ ?_; (focus exact au0); conv => whnf) | (refine g_seq ?_) | (refine XS.go ?_) | (refine g_cond ?_; conv => whnf) | fail)
  refine Br.mk (fun hb => ?_) (fun hb => ?_)
  ·have hgo : liveGo S r = true := hb
   rw [if_pos hgo] at hnx
   have hge : 0 ≤ askI S.asks r.fWant.fHold := by
    unfold liveGo at hgo
    simp only [Bool.and_eq_true, decide_eq_true_eq] at hgo
    exact hgo.2
   have hlt2 : (askI S.asks r.fWant.fHold).toNat < S.asks.length := by
    unfold askI at hge ⊢
    rcases idxN_cases (f := askF S.asks r.fWant.fHold) (k := S.asks.length) (i := 0) with ⟨h1, _⟩ | ⟨j, h1, _, h3, _⟩
    ·rw [h1] at hge; omega
    ·rw [h1]; omega
   have hla : (S.asks.map MateAsk.D).length = S.asks.length := List.length_map ..
   have heA : (S.asks.map MateAsk.D).getD (askI S.asks r.fWant.fHold).toNat .any = (S.asks.getD (askI S.asks r.fWant.fHold).toNat default).D := elt_map hlt2
   clear hb hgo
   unfold liveGive at hnx
   generalize askI S.asks r.fWant.fHold = ak at *
   generalize hak : S.asks.getD ak.toNat default = A at *
   have cS := spec_Set S.gives A hok.gives
   conv => whnf
   repeat' (first | (refine g_op ?_; conv => whnf) | (refine And.intro ?_ ?_; (focus exact au0); conv => whnf) | (refine g_seq ?_) | (refine XS.go ?_) | (refine g_ops ?_) | ((first | refine g_nil ?_ | refine g_cond ?_); conv => whnf) | fail)
   refine Br.mk (fun hb => ?_) (fun hb => ?_)
   ·have hg40 : S.gives.length < 40 := by
     have q := hb
     simp at q
     omega
    rw [if_pos hg40] at hnx
    clear hb
    conv => whnf
    repeat' (first | ((rw [heA]; conv => whnf)) | ((refine And.intro True.intro ?_; conv => whnf)) | (refine g_op ?_; conv => whnf) | (refine And.intro ?_ ?_; (focus exact au0); conv => whnf) | (refine XS.go ?_) | (refine g_ops ?_) | (refine g_nil ?_; conv => whnf) | (refine g_drawn ?_) | ((first | refine d_p ?_ | refine d_e ?_ | refine d_nil ?_ | refine XCL.of_rdr (cS) ?_ | refine XCL.of_rdr (cD) ?_); conv => whnf) | fail)
    refine ⟨(i + 1, cp), ⟨hlt, by dsimp only; rw [hnx]; exact hi1⟩, by simp only; omega, ?_, ?_⟩
    ·dsimp only
     rw [hnx]
     repeat' (first | exact True.intro | refine And.intro (congrArg (D.int .i64) hw1) ?_ | refine And.intro rfl ?_)
    ·dsimp only
     rw [hnx]
     exact ⟨rfl, rfl, rfl, True.intro⟩
   ·have hg40 : ¬ S.gives.length < 40 := by
     have q := hb
     simp at q
     omega
    rw [if_neg hg40] at hnx
    clear hb
    conv => whnf
    repeat' (first | (refine g_op ?_; conv => whnf) | (refine And.intro ?_ ?_; (focus exact au0); conv => whnf) | (refine XS.go ?_) | (refine g_ops ?_) | ((first | refine g_nil ?_ | refine g_skip ?_ | refine XCL.of_rdr (cD) ?_); conv => whnf) | fail)
    refine ⟨(i + 1, cp), ⟨hlt, by dsimp only; rw [hnx]; exact hi1⟩, by simp only; omega, ?_, ?_⟩
    ·dsimp only
     rw [hnx]
     repeat' (first | exact True.intro | refine And.intro (congrArg (D.int .i64) hw1) ?_ | refine And.intro rfl ?_)
    ·dsimp only
     rw [hnx]
     exact ⟨rfl, rfl, rfl, True.intro⟩
  ·have hgo : liveGo S r = false := hb
   rw [if_neg (by rw [hgo]; exact Bool.false_ne_true)] at hnx
   clear hb
   conv => whnf
   repeat' (first | (refine g_op ?_; conv => whnf) | (refine And.intro ?_ ?_; (focus exact au0); conv => whnf) | (refine XS.go ?_) | (refine g_ops ?_) | ((first | refine g_nil ?_ | refine g_skip ?_); conv => whnf) | fail)
   refine ⟨(i + 1, cp), ⟨hlt, by dsimp only; rw [hnx]; exact hi1⟩, by simp only; omega, ?_, ?_⟩
   ·dsimp only
    rw [hnx]
    repeat' (first | exact True.intro | refine And.intro (congrArg (D.int .i64) hw1) ?_ | refine And.intro rfl ?_)
   ·dsimp only
    rw [hnx]
    exact ⟨rfl, rfl, rfl, True.intro⟩
 have hin : i = m.fRuns.length := by
  have : ¬ i < m.fRuns.length := by simpa using hb
  omega
 clear hb hnext
 subst hin
 conv => whnf
 repeat' (first | (refine g_exit ?_; conv => whnf) | fail)
 refine XS.weakenA (fs := [.any, .lref 1 (gs 1) [] 0, .lref 2 (gs 2) [] 0, .lsl 52 (gs 52) S.runs.length cp]) (ls := [(1, .agg [.str m.fName, .bool m.fUp, .int .i64 m.fClock, .bool m.fKnown, .int .i64 m.fSeen, .ro 7 (m.fWants.map MateWant.D), .ro 11 (m.fRuns.map MateRun.D), .ro 4 (S.asks.map MateAsk.D), .ro 4 (S.gives.map MateAsk.D)]), (2, .agg [.str ⟨#[]⟩, .bool false, .int .i64 0, .bool false, .int .i64 0, .nil, .nil, .nil, .nil]), (52, .arr 11 (S.runs.map MateRun.D) cp)]) ⟨?_, ?_⟩ ?_
 ·repeat' (first | exact True.intro | refine And.intro rfl ?_)
 ·exact ⟨rfl, rfl, rfl, True.intro⟩
 refine XS.freezeR 52 [3] rfl (D.frozs_map (fun (_ : MateRun) => rfl) S.runs) ?_ ?_
 ·exact ⟨⟨rfl, (List.length_map ..).symm⟩, True.intro⟩
 refine XS.weakenA (fs := [.any, .lref 1 (gs 1) [] 0, .lref 2 (gs 2) [] 0, .ro 11 (S.runs.map MateRun.D)]) (ls := [(1, .agg [.str m.fName, .bool m.fUp, .int .i64 m.fClock, .bool m.fKnown, .int .i64 m.fSeen, .ro 7 (m.fWants.map MateWant.D), .ro 11 (m.fRuns.map MateRun.D), .ro 4 (S.asks.map MateAsk.D), .ro 4 (S.gives.map MateAsk.D)]), (2, .agg [.str ⟨#[]⟩, .bool false, .int .i64 0, .bool false, .int .i64 0, .nil, .nil, .nil, .nil])]) ⟨?_, ?_⟩ ?_
 ·repeat' (first | exact True.intro | refine And.intro rfl ?_)
 ·exact ⟨rfl, rfl, True.intro⟩
 have hSr := hok.runs
 clear hok hi1
 refine XS.go ?_
 conv => whnf
 repeat' (first | (refine g_op ?_; conv => whnf) | (refine And.intro ?_ ?_; (focus exact au0); conv => whnf) | (refine g_seq ?_) | (refine XS.go ?_) | (refine g_ops ?_) | (refine g_loop ?_) | (refine g_nil ?_; conv => whnf) | (refine g_block ?_) | fail)
 refine XLc.mkA (α := Nat) (fun j => j ≤ m.fWants.length) (fun j => m.fWants.length - j) (fun j gs => [.any, .lref 1 (gs 1) [] 0, .lref 2 (gs 2) [] 0, .ro 11 ((beginL m.fWants S.runs j).map MateRun.D), .any, .any, .any, .any, .any, .any, .any, .int .i64 (j : Int)]) (fun j gs => [(1, .agg [.str m.fName, .bool m.fUp, .int .i64 m.fClock, .bool m.fKnown, .int .i64 m.fSeen, .ro 7 (m.fWants.map MateWant.D), .ro 11 (m.fRuns.map MateRun.D), .ro 4 (S.asks.map MateAsk.D), .ro 4 (S.gives.map MateAsk.D)]), (2, .agg [.str ⟨#[]⟩, .bool false, .int .i64 0, .bool false, .int .i64 0, .nil, .nil, .nil, .nil])]) 0 (Nat.zero_le _) ⟨?_, ?_⟩ ?_
 ·repeat' (first | exact True.intro | refine And.intro rfl ?_)
 ·exact ⟨rfl, rfl, True.intro⟩
 intro j gs hj
 have hnext := fun h : j < m.fWants.length => beginL_succ m.fWants S.runs h
 have hTl := beginL_len m.fWants S.runs hj
 generalize hT : beginL m.fWants S.runs j = T at hnext hTl ⊢
 dsimp only
 repeat' (first | (refine z_ld1 ?_; first | (refine z_ld rfl rfl rfl rfl au1 au2 ?_; conv => whnf) | (refine z_ld0 rfl ?_; conv => whnf)) | (refine z_op ?_ ?_; (focus exact rfl); conv => whnf) | (refine zs_ops ?_ ?_; (focus exact rfl)) | (refine z_nil fun vals => ?_; conv => whnf) | (refine And.intro ?_ ?_; (focus exact au0); conv => whnf) | (refine g_seq ?_) | (refine XS.go ?_) | (refine g_cond ?_; conv => whnf) | fail)
 refine Br.mk (fun hb => ?_) (fun hb => ?_)
 ·have hlt : j < m.fWants.length := by
   have q := hb
   simp at q
   omega
  clear hb
  have hnx := hnext hlt
  clear hnext
  have hlmW : (m.fWants.map MateWant.D).length = m.fWants.length := List.length_map ..
  have he2 : (m.fWants.map MateWant.D).getD (j : Int).toNat .any = (m.fWants.getD j default).D := elt_map hlt
  generalize m.fWants.getD j default = w at hnx he2
  conv => whnf
  repeat' (first | (refine g_skip ?_; conv => whnf) | fail)
  refine XS.go ?_
  conv => whnf
  repeat' (first | ((rw [he2]; conv => whnf)) | (refine g_op ?_; conv => whnf) | (refine And.intro ?_ ?_; (focus exact au0); conv => whnf) | (refine g_seq ?_) | (refine g_ops ?_) | (refine g_nil ?_; conv => whnf) | (refine g_block ?_) | (refine fun _ => ?_; conv => whnf) | fail)
  rename_i b12
  refine XS.weakenA (fs := [.any, .lref 1 (gs 1) [] 0, .lref 2 (gs 2) [] 0, .ro 11 (T.map MateRun.D), .any, .any, .any, .any, .any, .any, .any, .int .i64 (j : Int), .lref 12 b12 [] 0]) (ls := [(1, .agg [.str m.fName, .bool m.fUp, .int .i64 m.fClock, .bool m.fKnown, .int .i64 m.fSeen, .ro 7 (m.fWants.map MateWant.D), .ro 11 (m.fRuns.map MateRun.D), .ro 4 (S.asks.map MateAsk.D), .ro 4 (S.gives.map MateAsk.D)]), (2, .agg [.str ⟨#[]⟩, .bool false, .int .i64 0, .bool false, .int .i64 0, .nil, .nil, .nil, .nil]), (12, w.D)]) ⟨?_, ?_⟩ ?_
  ·repeat' (first | exact True.intro | refine And.intro rfl ?_)
  ·exact ⟨rfl, rfl, rfl, True.intro⟩
  have hrl := hr.1
  have hwl := hw.1
  have hTb : T.length ≤ 3000000 := by omega
  have hwj : IntKind.wrap .i64 ((j : Int) + 1) = ((j + 1 : Nat) : Int) := by rw [wrap_ok (by omega) (by omega)]; rfl
  refine XS.go ?_
  conv => whnf
  repeat' (first | (refine g_op ?_; conv => whnf) | (refine And.intro ?_ ?_; (focus exact au0); conv => whnf) | (refine g_seq ?_) | (refine XS.go ?_) | (refine g_ops ?_) | (refine g_loop ?_) | (refine g_nil ?_; conv => whnf) | (refine g_block ?_) | fail)
  refine XLc.mkA (α := Nat) (fun k => k ≤ T.length ∧ idxN (runF T w) T.length 0 = idxN (runF T w) (T.length - k) k) (fun k => T.length - k) (fun k gs => [.any, .lref 1 (gs 1) [] 0, .lref 2 (gs 2) [] 0, .ro 11 (T.map MateRun.D), .any, .any, .any, .any, .any, .any, .any, .int .i64 (j : Int), .lref 12 (gs 12) [] 0, .int .i64 (k : Int)]) (fun k gs => [(1, .agg [.str m.fName, .bool m.fUp, .int .i64 m.fClock, .bool m.fKnown, .int .i64 m.fSeen, .ro 7 (m.fWants.map MateWant.D), .ro 11 (m.fRuns.map MateRun.D), .ro 4 (S.asks.map MateAsk.D), .ro 4 (S.gives.map MateAsk.D)]), (2, .agg [.str ⟨#[]⟩, .bool false, .int .i64 0, .bool false, .int .i64 0, .nil, .nil, .nil, .nil]), (12, w.D)]) 0 ⟨Nat.zero_le _, rfl⟩ ⟨?_, ?_⟩ ?_
  ·repeat' (first | exact True.intro | refine And.intro rfl ?_)
  ·exact ⟨rfl, rfl, rfl, True.intro⟩
  intro k gs hI
  obtain ⟨hk0, hN⟩ := hI
  have hlT : (T.map MateRun.D).length = T.length := List.length_map ..
  repeat' (first | (refine z_ld1g ?_; first | (refine z_ldg rfl rfl rfl rfl rfl rfl rfl (by (repeat intro _); exact ⟨au1, au2⟩) rfl rfl rfl rfl ?_; conv => whnf) | (refine z_ld0g ?_; (conv => whnf); refine And.intro ?_ ?_; (focus exact rfl); conv => whnf)) | (refine z_ix1g ?_; refine z_ixg rfl rfl rfl rfl rfl rfl rfl (by (repeat intro _); refine ⟨?_, ?_⟩ <;> first | omega | (simp only [decide_eq_true_eq, Bool.not_eq_true', Bool.or_eq_false_iff, decide_eq_false_iff_not, Bool.and_eq_true, Bool.not_eq_false'] at *; omega)) ?_) | (refine z_op ?_ ?_; (focus exact rfl); conv => whnf) | (refine z_opg0 ?_; (conv => whnf); refine And.intro ?_ ?_; (focus exact rfl); conv => whnf) | (refine z_pick ?_ ?_; (focus exact rfl); conv => whnf) | (refine zs_quiet ?_ ?_; (focus exact rfl)) | (refine z_nil fun vals => ?_; conv => whnf) | (refine And.intro ?_ ?_; (focus exact au0); conv => whnf) | (refine g_seq ?_) | (refine XS.go ?_) | (refine g_cond ?_; conv => whnf) | fail)
  refine Br.mk (fun hb => ?_) (fun hb => ?_)
  ·have hkt : k < T.length := by simp at hb; omega
   have hf : runF T w k = false := by
    simp only [Bool.and_eq_true] at hb
    unfold runF
    rw [show Op.bytesLess (T.getD k default).fWant.fCopy.toList w.fCopy.toList = true from hb.2]
    rfl
   have miss := idxN_miss (f := runF T w) hkt hN hf
   clear hb
   have hwk : IntKind.wrap .i64 ((k : Int) + 1) = ((k + 1 : Nat) : Int) := by rw [wrap_ok (by omega) (by omega)]; rfl
   conv => whnf
   repeat' (first | (refine g_op ?_; conv => whnf) | (refine And.intro ?_ ?_; (focus exact au0); conv => whnf) | (refine XS.go ?_) | (refine g_ops ?_) | ((first | refine g_nil ?_ | refine g_skip ?_); conv => whnf) | (refine g_block ?_) | fail)
   refine ⟨k + 1, ⟨by omega, miss⟩, by omega, ?_, ?_⟩
   ·repeat' (first | exact True.intro | refine And.intro rfl ?_ | refine And.intro (congrArg (D.int .i64) hwk) ?_)
   ·exact ⟨rfl, rfl, rfl, True.intro⟩
  have hk : runI T w = k := by
   by_cases hkt : k < T.length
   ·refine runI_hit (idxN_hit (f := runF T w) hkt hN ?_)
    unfold runF
    have q : Op.bytesLess (T.getD k default).fWant.fCopy.toList w.fCopy.toList = false := by
     have q := hb
     simp only [Bool.and_eq_false_iff, decide_eq_false_iff_not] at q
     rcases q with q | q
     ·exact absurd (by rw [hlT]; exact_mod_cast hkt) q
     ·exact q
    rw [q]
    rfl
   ·have e : k = T.length := by omega
    rw [runI_end (by rw [hN]; exact idxN_end hkt), e]
  clear hb hN
  subst hk
  conv => whnf
  repeat' (first | (refine g_exit ?_; conv => whnf) | fail)
  refine XS.weakenA (fs := [.any, .lref 1 (gs 1) [] 0, .lref 2 (gs 2) [] 0, .ro 11 (T.map MateRun.D), .any, .any, .any, .any, .any, .any, .any, .int .i64 (j : Int), .lref 12 (gs 12) [] 0, .int .i64 ((runI T w : Nat) : Int)]) (ls := [(1, .agg [.str m.fName, .bool m.fUp, .int .i64 m.fClock, .bool m.fKnown, .int .i64 m.fSeen, .ro 7 (m.fWants.map MateWant.D), .ro 11 (m.fRuns.map MateRun.D), .ro 4 (S.asks.map MateAsk.D), .ro 4 (S.gives.map MateAsk.D)]), (2, .agg [.str ⟨#[]⟩, .bool false, .int .i64 0, .bool false, .int .i64 0, .nil, .nil, .nil, .nil]), (12, w.D)]) ⟨?_, ?_⟩ ?_
  ·repeat' (first | exact True.intro | refine And.intro rfl ?_)
  ·exact ⟨rfl, rfl, rfl, True.intro⟩
  refine XS.go ?_
  conv => whnf
  repeat' (first | (refine z_ld1g ?_; first | (refine z_ldg rfl rfl rfl rfl rfl rfl rfl (by (repeat intro _); exact ⟨au1, au2⟩) rfl rfl rfl rfl ?_; conv => whnf) | (refine z_ld0g ?_; (conv => whnf); refine And.intro ?_ ?_; (focus exact rfl); conv => whnf)) | (refine z_ix1g ?_; refine z_ixg rfl rfl rfl rfl rfl rfl rfl (by (repeat intro _); refine ⟨?_, ?_⟩ <;> first | omega | (simp only [decide_eq_true_eq, Bool.not_eq_true', Bool.or_eq_false_iff, decide_eq_false_iff_not, Bool.and_eq_true, Bool.not_eq_false'] at *; omega)) ?_) | (refine z_op ?_ ?_; (focus exact rfl); conv => whnf) | (refine z_opg0 ?_; (conv => whnf); refine And.intro ?_ ?_; (focus exact rfl); conv => whnf) | (refine z_pick ?_ ?_; (focus exact rfl); conv => whnf) | (refine z_pickg ?_; (conv => whnf); refine And.intro ?_ ?_; (focus exact rfl); conv => whnf) | (refine zs_quiet ?_ ?_; (focus exact rfl)) | (refine z_nil fun vals => ?_; conv => whnf) | (refine And.intro ?_ ?_; (focus exact au0); conv => whnf) | (refine g_seq ?_) | (refine XS.go ?_) | (refine g_cond ?_; conv => whnf) | fail)
  have d1 : decide (((T.map MateRun.D).length : Int) ≥ 20) = decide (T.length ≥ 20) := decide_eq_decide.2 (by rw [hlT]; omega)
  have d2 : decide (((runI T w : Nat) : Int) < ((T.map MateRun.D).length : Int)) = decide (runI T w < T.length) := decide_eq_decide.2 (by rw [hlT]; omega)
  refine Br.mk (fun hb => ?_) (fun hb => ?_)
  ·have hq : addQ T w = true := by
    have q := hb
    rw [d1, d2] at q
    exact q
   have hnx2 : beginL m.fWants S.runs (j + 1) = T := by rw [hnx]; unfold addW; rw [if_pos hq]
   clear hb hnx
   conv => whnf
   repeat' (first | (refine g_op ?_; conv => whnf) | (refine And.intro ?_ ?_; (focus exact au0); conv => whnf) | (refine XS.go ?_) | (refine g_ops ?_) | ((first | refine g_nil ?_ | refine g_exit ?_); conv => whnf) | fail)
   refine ⟨j + 1, hlt, by omega, ?_, ?_⟩
   ·rw [hnx2]
    repeat' (first | exact True.intro | refine And.intro rfl ?_ | refine And.intro (congrArg (D.int .i64) hwj) ?_)
   ·exact ⟨rfl, rfl, True.intro⟩
  have hq : addQ T w = false := by
   have q := hb
   rw [d1, d2] at q
   exact q
  have hnx2 : beginL m.fWants S.runs (j + 1) = T.take (runI T w) ++ startRun w :: T.drop (runI T w) := by rw [hnx]; unfold addW; rw [if_neg (by rw [hq]; exact Bool.false_ne_true)]
  clear hb hnx hq
  have h1 : ((runI T w : Nat) : Int) ≤ ((T.map MateRun.D).length : Int) := by rw [hlT]; omega
  have h1b : ((T.map MateRun.D).length : Int) ≤ ((T.map MateRun.D).length : Int) := Int.le_refl _
  have hpre : ((T.map MateRun.D).drop (0 : Int).toNat).take (((runI T w : Nat) : Int) - 0).toNat = (T.take (runI T w)).map MateRun.D := by
   have e : (((runI T w : Nat) : Int) - 0).toNat = runI T w := by omega
   rw [e, List.map_take]
   rfl
  have hsl : ((T.map MateRun.D).drop ((runI T w : Nat) : Int).toNat).take (((T.map MateRun.D).length : Int) - ((runI T w : Nat) : Int)).toNat = (T.drop (runI T w)).map MateRun.D := by
   have e : ((runI T w : Nat) : Int).toNat = runI T w := by omega
   rw [e, List.take_of_length_le (by rw [List.length_drop]; omega), List.map_drop]
  have t1 : ([] : List Go.Ab.D).length + (((T.map MateRun.D).drop (0 : Int).toNat).take (((runI T w : Nat) : Int) - 0).toNat).length ≤ 1073741824 := by rw [hpre, List.length_map, List.length_take]; simp only [List.length_nil]; omega
  have t2 : ([] ++ ((T.map MateRun.D).drop (0 : Int).toNat).take (((runI T w : Nat) : Int) - 0).toNat).length + [(startRun w).D].length ≤ 1073741824 := by rw [List.nil_append, hpre, List.length_map, List.length_take]; simp only [List.length_cons, List.length_nil]; omega
  have t3 : (([] ++ ((T.map MateRun.D).drop (0 : Int).toNat).take (((runI T w : Nat) : Int) - 0).toNat) ++ [(startRun w).D]).length + (((T.map MateRun.D).drop ((runI T w : Nat) : Int).toNat).take (((T.map MateRun.D).length : Int) - ((runI T w : Nat) : Int)).toNat).length ≤ 1073741824 := by rw [List.nil_append, hpre, hsl, List.length_append, List.length_map, List.length_map, List.length_take, List.length_drop]; simp only [List.length_cons, List.length_nil]; omega
  have hC : (([] ++ ((T.map MateRun.D).drop (0 : Int).toNat).take (((runI T w : Nat) : Int) - 0).toNat) ++ [(startRun w).D]) ++ ((T.map MateRun.D).drop ((runI T w : Nat) : Int).toNat).take (((T.map MateRun.D).length : Int) - ((runI T w : Nat) : Int)).toNat = (beginL m.fWants S.runs (j + 1)).map MateRun.D := by
   rw [List.nil_append, hpre, hsl, hnx2]
   simp only [List.map_append, List.map_cons, List.append_assoc, List.cons_append, List.nil_append]
  conv => whnf
  repeat' (first | (refine g_skip ?_; conv => whnf) | fail)
  refine XS.weakenA (fs := [.any, .lref 1 (gs 1) [] 0, .lref 2 (gs 2) [] 0, .ro 11 (T.map MateRun.D), .any, .any, .any, .any, .any, .any, .any, .int .i64 (j : Int), .lref 12 (gs 12) [] 0, .int .i64 ((runI T w : Nat) : Int)]) (ls := [(1, .agg [.str m.fName, .bool m.fUp, .int .i64 m.fClock, .bool m.fKnown, .int .i64 m.fSeen, .ro 7 (m.fWants.map MateWant.D), .ro 11 (m.fRuns.map MateRun.D), .ro 4 (S.asks.map MateAsk.D), .ro 4 (S.gives.map MateAsk.D)]), (2, .agg [.str ⟨#[]⟩, .bool false, .int .i64 0, .bool false, .int .i64 0, .nil, .nil, .nil, .nil]), (12, w.D)]) ⟨?_, ?_⟩ ?_
  ·repeat' (first | exact True.intro | refine And.intro rfl ?_)
  ·exact ⟨rfl, rfl, rfl, True.intro⟩
  refine XS.go ?_
  conv => whnf
  repeat' (first | ((refine And.intro h1 ?_; conv => whnf)) | ((refine And.intro h1b ?_; conv => whnf)) | ((refine And.intro t1 ?_; conv => whnf)) | ((refine And.intro t2 ?_; conv => whnf)) | ((refine And.intro t3 ?_; conv => whnf)) | ((refine And.intro ⟨⟨rfl, rfl⟩, ⟨rfl, rfl⟩, True.intro⟩ ?_; conv => whnf)) | ((refine And.intro True.intro ?_; conv => whnf)) | ((refine fun n1 b1 c1 hn1 hc1 => ?_; subst hn1; conv => whnf)) | ((refine And.intro (List.length_append ..).symm ?_; conv => whnf)) | (refine And.intro ?_ ?_; (focus exact au0); conv => whnf) | (refine g_drawn ?_) | ((first | refine d_p ?_ | refine d_e ?_ | refine d_nil ?_); conv => whnf) | fail)
  have hN : ((([] ++ ((T.map MateRun.D).drop (0 : Int).toNat).take (((runI T w : Nat) : Int) - 0).toNat) ++ [(startRun w).D]).length + (((T.map MateRun.D).drop ((runI T w : Nat) : Int).toNat).take (((T.map MateRun.D).length : Int) - ((runI T w : Nat) : Int)).toNat).length) = (beginL m.fWants S.runs (j + 1)).length := by
   have q := congrArg List.length hC
   rw [List.length_append] at q
   exact q.trans (List.length_map ..)
  refine XS.weakenA (fs := [.any, .lref 1 (gs 1) [] 0, .lref 2 (gs 2) [] 0, .lsl 151 b1 (beginL m.fWants S.runs (j + 1)).length c1, .any, .any, .any, .any, .any, .any, .any, .int .i64 (j : Int)]) (ls := [(1, .agg [.str m.fName, .bool m.fUp, .int .i64 m.fClock, .bool m.fKnown, .int .i64 m.fSeen, .ro 7 (m.fWants.map MateWant.D), .ro 11 (m.fRuns.map MateRun.D), .ro 4 (S.asks.map MateAsk.D), .ro 4 (S.gives.map MateAsk.D)]), (2, .agg [.str ⟨#[]⟩, .bool false, .int .i64 0, .bool false, .int .i64 0, .nil, .nil, .nil, .nil]), (151, .arr 11 ((beginL m.fWants S.runs (j + 1)).map MateRun.D) c1)]) ⟨?_, ?_⟩ ?_
  ·repeat' (first | exact True.intro | refine And.intro (congrArg (fun q => D.lsl 151 b1 q c1) hN) ?_ | refine And.intro rfl ?_)
  ·exact ⟨rfl, rfl, congrArg (fun l => some (D.arr 11 l c1)) hC, True.intro⟩
  refine XS.freezeR 151 [3] rfl (D.frozs_map (fun (_ : MateRun) => rfl) (beginL m.fWants S.runs (j + 1))) ⟨⟨rfl, (List.length_map ..).symm⟩, True.intro⟩ ?_
  refine XS.go ?_
  conv => whnf
  repeat' (first | (refine g_op ?_; conv => whnf) | (refine And.intro ?_ ?_; (focus exact au0); conv => whnf) | (refine g_ops ?_) | (refine g_nil ?_; conv => whnf) | fail)
  refine ⟨j + 1, hlt, by omega, ?_, ?_⟩
  ·repeat' (first | exact True.intro | refine And.intro rfl ?_ | refine And.intro (congrArg (D.int .i64) hwj) ?_)
  ·exact ⟨rfl, rfl, True.intro⟩
 have hjn : j = m.fWants.length := by
  have : ¬ j < m.fWants.length := by
   have q := hb
   simp at q
   omega
  omega
 clear hb hnext
 subst hjn
 conv => whnf
 repeat' (first | (refine z_ld1 ?_; first | (refine z_ld rfl rfl rfl rfl au1 au2 ?_; conv => whnf) | (refine z_ld0 rfl ?_; conv => whnf)) | (refine z_st1 ?_; first | (refine z_st rfl rfl rfl au1 au2 rfl rfl ?_; conv => whnf) | (refine z_st0 ?_; conv => whnf)) | (refine z_op ?_ ?_; (focus exact rfl); conv => whnf) | (refine zs_ops ?_ ?_; (focus exact rfl)) | (refine z_nil fun vals => ?_; conv => whnf) | (refine And.intro ?_ ?_; (focus exact au0); conv => whnf) | (refine g_seq ?_) | (refine XS.go ?_) | ((first | refine g_ret ?_ | refine g_exit ?_ | refine r_c ?_ | refine r_nil ?_); conv => whnf) | fail)
 have e : livesR m = { m with fRuns := T, fAsks := S.asks, fGives := S.gives } := by
  unfold livesR
  rw [hS, hT]
 rw [e]
 refine ⟨?_, rfl⟩
 repeat' (first | exact True.intro | refine And.intro ?_ ?_)
end Go.Ab
