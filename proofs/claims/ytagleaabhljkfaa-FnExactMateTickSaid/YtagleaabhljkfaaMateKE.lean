/- Steps towards the law: the machine, contracts of functions and facts of lists. -/
import Derived.Test.YtagleaabhljkfaaMateKD
import Derived.Test.YtagleaabhljkfaaRows
set_option linter.unusedSimpArgs false
set_option linter.unusedVariables false
namespace Go.Ab
open Go Go.RowKit Go.Proofs
attribute [local irreducible] XC Rdr IntKind.wrap xw xos xqs xr xd
set_option maxRecDepth 100000
set_option maxHeartbeats 16000000
def cf82 : CF := ⟨127,[.c 2 9 true,.t 3],(.seq (.ops [Oo 1 (.bx (.t 0)),Oo 2 (.al (.agg [.str ⟨#[]⟩,.bool false,.int .i64 0,.bool false,.int .i64 0,.nil,.nil,.nil,.nil])),Ok 3 (.nil)]) (.seq (.ops [Oo 10 (.bsl (.agg [.int .i64 0,.str ⟨#[]⟩,.int .i64 0,.nil,.str ⟨#[]⟩,.str ⟨#[]⟩,.int .i64 0]) 0 []),Om 4 10]) (.seq (.seq (.ops [Ok 5 (.int .i64 0)]) (.block 0 (.loop (.seq (.seq (.ops [Om 11 5,Of 12 6 1,Ol 13 12,Og 14 13,Ob 15 .lss 11 14]) (.cond (.t 15) .skip (.exit 0))) (.seq (.block 1 (.seq (.drawn [Qf 19 5 1,Ql 20 19,Qf 21 6 1,Ql 22 21,Qm 23 5,Qx 24 11 22 23,Qo 25 (.fa 0 7 0 (.t 24)),Qf 26 0 25,Ql 27 26,(Oc 28 108 [.t 20,.t 27],true,[]),Qm 18 28,Qo 29 (.ext (.t 18) 0),Qo 30 (.ext (.t 18) 1),(Oo 6 (.al (.agg [.str ⟨#[]⟩,.int .i64 0,.str ⟨#[]⟩,.int .i64 0,.int .i64 0,.int .i64 0,.int .i64 0])),true,[]),Qs 7 6 29,Qm 7 30]) (.seq (.seq (.quiet [Om 31 7,Oo 32 (.not (.t 31)),Om 33 32,⟨some 34,.ld 7 true (.t 6),some (33,false)⟩,⟨some 35,.fa 6 1 6 (.t 1),some (33,false)⟩,⟨some 36,.ld 1 false (.t 35),some (33,false)⟩,⟨some 37,.mv (.t 5),some (33,false)⟩,⟨some 38,.ix 11 (.t 36) (.t 37),some (33,false)⟩,⟨some 39,.fa 0 7 0 (.t 38),some (33,false)⟩,⟨some 40,.ld 7 true (.t 39),some (33,false)⟩,⟨some 41,.cmp true (.agg [.str ⟨#[]⟩,.int .i64 0,.str ⟨#[]⟩,.int .i64 0,.int .i64 0,.int .i64 0,.int .i64 0]) (.t 34) (.t 40),some (33,false)⟩,Oo 42 (.pick (.t 33) (.k (.bool true)) (.t 41)),Om 43 42,⟨some 44,.fa 2 1 2 (.t 6),some (43,false)⟩,⟨some 45,.ld 1 false (.t 44),some (43,false)⟩,⟨some 46,.bin .eql (.t 45) (.k (.str ⟨#[]⟩)),some (43,false)⟩,Oo 47 (.pick (.t 43) (.k (.bool true)) (.t 46)),Om 48 47,⟨some 49,.fa 8 1 8 (.t 1),some (48,false)⟩,⟨some 50,.ld 1 false (.t 49),some (48,false)⟩,⟨some 51,.fa 2 1 2 (.t 6),some (48,false)⟩,⟨some 52,.ld 1 false (.t 51),some (48,false)⟩,⟨some 53,.call 93 [.t 50,.t 52],some (48,false)⟩,⟨some 54,.bin .geq (.t 53) (.k (.int .i64 0)),some (48,false)⟩,Oo 55 (.pick (.t 48) (.k (.bool true)) (.t 54))]) (.cond (.t 55) (.exit 1) .skip)) (.seq (.ops [Of 56 7 1,Ol 57 56,Of 58 2 6,Ol 59 58,Oc 60 93 [.t 57,.t 59],Om 8 60]) (.seq (.ops [Of 61 2 6,Ol 62 61,Of 63 0 6,Ol 64 63,Of 65 2 1,Ol 66 65,Of 67 2 1,Ol 68 67,Oo 69 (.bld (.agg [.str ⟨#[]⟩,.str ⟨#[]⟩,.int .i64 0,.int .i64 0]) [(0,0,1,(.t 62)),(1,1,1,(.t 64)),(2,2,1,(.t 66)),(3,3,1,(.t 68))]),Oo 9 (.al (.agg [.str ⟨#[]⟩,.str ⟨#[]⟩,.int .i64 0,.int .i64 0])),Os 4 9 69]) (.seq (.seq (.quiet [Om 70 8,Oo 71 (.bin .geq (.t 70) (.k (.int .i64 0))),Om 72 71,⟨some 73,.fa 7 1 7 (.t 1),some (72,true)⟩,⟨some 74,.ld 1 false (.t 73),some (72,true)⟩,⟨some 75,.mv (.t 8),some (72,true)⟩,⟨some 76,.ix 4 (.t 74) (.t 75),some (72,true)⟩,⟨some 77,.fa 1 1 1 (.t 76),some (72,true)⟩,⟨some 78,.ld 1 false (.t 77),some (72,true)⟩,⟨some 79,.fa 0 1 0 (.t 6),some (72,true)⟩,⟨some 80,.ld 1 false (.t 79),some (72,true)⟩,⟨some 81,.bin .eql (.t 78) (.t 80),some (72,true)⟩,Oo 82 (.pick (.t 72) (.t 81) (.k (.bool false)))]) (.cond (.t 82) (.seq (.seq (.quiet [Of 83 2 1,Ol 84 83,Of 85 7 1,Ol 86 85,Om 87 8,Ox 88 4 86 87,Of 89 3 88,Ol 90 89,Oo 91 (.bin .add (.t 90) (.k (.int .i64 6))),Ob 92 .lss 84 91]) (.cond (.t 92) (.exit 1) .skip)) (.ops [Of 93 7 1,Ol 94 93,Om 95 8,Ox 96 4 94 95,Of 97 2 96,Ol 98 97,Of 99 2 9,Os 1 99 98])) .skip)) (.seq (.seq (.ops [Om 100 8,Oo 101 (.bin .lss (.t 100) (.k (.int .i64 0))),Om 102 101,⟨some 103,.fa 7 1 7 (.t 1),some (102,true)⟩,⟨some 104,.ld 1 false (.t 103),some (102,true)⟩,⟨some 105,.lenl (.t 104),some (102,true)⟩,⟨some 106,.bin .geq (.t 105) (.k (.int .i64 40)),some (102,true)⟩,Oo 107 (.pick (.t 102) (.t 106) (.k (.bool false)))]) (.cond (.t 107) (.exit 1) .skip)) (.seq (.ops [Of 108 7 1,Ol 109 108,Od 110 4 9,Oc 111 109 [.t 109,.t 110],Of 112 7 1,Os 1 112 111]) (.ops [Om 113 4,Of 114 0 1,Ol 115 114,Of 116 2 6,Ol 117 116,Of 118 0 6,Ol 119 118,Of 120 2 1,Ol 121 120,Oo 122 (.bld (.agg [.int .i64 0,.str ⟨#[]⟩,.int .i64 0,.nil,.str ⟨#[]⟩,.str ⟨#[]⟩,.int .i64 0]) [(0,0,1,(.k (.int .i64 2))),(1,1,1,(.t 115)),(4,4,1,(.t 117)),(5,5,1,(.t 119)),(6,6,1,(.t 121))]),Oo 123 (.bsl (.agg [.int .i64 0,.str ⟨#[]⟩,.int .i64 0,.nil,.str ⟨#[]⟩,.str ⟨#[]⟩,.int .i64 0]) 1 [(0,(.t 122))]),Oo 124 (.app 7 96 (.t 113) (.t 123)),Om 4 124]))))))))) (.ops [Om 16 5,Oi 17 16,Om 5 17])))))) (.seq (.ops [Od 125 9 1,Om 126 4,Os 9 2 125,Om 3 126]) .ret))))⟩
theorem c82 : compileF Try.prog [] 82 = some cf82 := by kernel_rfl
def MateParcel.N (x : MateParcel) : Go.Ab.D := .agg [.int .i64 x.fKind, .str x.fBerth, .int .i64 x.fSeen, .nil, .str x.fHold, .str x.fCopy, .int .i64 x.fAt]
structure AS where
 asks : List MateAsk
 out : List MateParcel
def askSkip (m : Mate) (r : MateRun) (q : MateWant × Bool) : Bool := ((!q.2 || !wantEq q.1 r.fWant) || q.1.fHold.toList == (⟨#[]⟩ : ByteArray).toList) || decide (askI m.fGives q.1.fHold ≥ 0)
def askAt (asks : List MateAsk) (w : MateWant) : MateAsk := asks.getD (askI asks w.fHold).toNat default
def askSame (asks : List MateAsk) (w : MateWant) : Bool := decide (askI asks w.fHold ≥ 0) && (askAt asks w).fCopy.toList == w.fCopy.toList
def askFull (asks : List MateAsk) (w : MateWant) : Bool := decide (askI asks w.fHold < 0) && decide (asks.length ≥ 40)
def askNew (m : Mate) (asks : List MateAsk) (w : MateWant) : MateAsk := ⟨w.fHold, w.fCopy, if askSame asks w = true then (askAt asks w).fFirst else m.fClock, m.fClock⟩
def askStep (m : Mate) (s : AS) (r : MateRun) : AS :=
 if askSkip m r (wantR m.fWants r.fWant.fCopy) = true then s
 else if (askSame s.asks (wantR m.fWants r.fWant.fCopy).1 && decide (m.fClock < IntKind.wrap .i64 ((askAt s.asks (wantR m.fWants r.fWant.fCopy).1).fAt + 6))) = true then s
 else if askFull s.asks (wantR m.fWants r.fWant.fCopy).1 = true then s
 else ⟨setR s.asks (askNew m s.asks (wantR m.fWants r.fWant.fCopy).1), s.out ++ [⟨2, m.fName, 0, [], (wantR m.fWants r.fWant.fCopy).1.fHold, (wantR m.fWants r.fWant.fCopy).1.fCopy, m.fClock⟩]⟩
def askL (m : Mate) (k : Nat) : AS := (m.fRuns.take k).foldl (askStep m) ⟨m.fAsks, []⟩
theorem askL_succ (m : Mate) {k : Nat} (h : k < m.fRuns.length) : askL m (k + 1) = askStep m (askL m k) (m.fRuns.getD k default) := by
 have e : m.fRuns.getD k default = m.fRuns[k] := by simp [h]
 unfold askL
 rw [e, List.take_succ_eq_append_getElem h, List.foldl_append]
 rfl
theorem askL_len (m : Mate) : ∀ {k : Nat}, k ≤ m.fRuns.length → (askL m k).asks.length ≤ m.fAsks.length + k ∧ (askL m k).out.length ≤ k
 | 0, _ => ⟨Nat.le_refl _, Nat.le_refl _⟩
 | k + 1, hk => by
  have ih := askL_len m (k := k) (by omega)
  rw [askL_succ m (by omega)]
  unfold askStep
  split
  ·omega
  ·split
   ·omega
   ·split
    ·omega
    ·refine ⟨?_, ?_⟩
     ·have := setR_len (askL m k).asks (askNew m (askL m k).asks (wantR m.fWants (m.fRuns.getD k default).fWant.fCopy).1)
      simp only
      omega
     ·simp only [List.length_append, List.length_cons, List.length_nil]
      omega
def asksR (m : Mate) : Mate × List MateParcel := ({ m with fAsks := (askL m m.fRuns.length).asks }, (askL m m.fRuns.length).out)
theorem spec_Asks (m : Mate) (hs : m.lenOk) (hsum : m.fAsks.length + m.fRuns.length ≤ 1048576) : XC Try.prog 82 [m.D] [] (fun d ls => ∃ b c, d = .tup [(asksR m).1.D, .lsl 124 b (asksR m).2.length c] ∧ ls = [(124, b, .arr 7 ((asksR m).2.map MateParcel.N) c)]) := by
 obtain ⟨hw, hr, ha, hg⟩ := hs
 refine XC.intro' hm [124] rfl c82 (Nat.le_of_ble_eq_true rfl) ?_
 conv => whnf
 repeat' (first | (refine g_op ?_; conv => whnf) | (refine And.intro ?_ ?_; (focus exact au0); conv => whnf) | (refine g_seq ?_) | (refine g_ops ?_) | ((first | refine g_nil ?_ | refine fun _ => ?_); conv => whnf) | fail)
 refine XS.go ?_
 repeat' (first | (refine g_op ?_; conv => whnf) | (refine And.intro ?_ ?_; (focus exact au0); conv => whnf) | (refine g_seq ?_) | (refine g_ops ?_) | (refine g_nil ?_; conv => whnf) | fail)
 refine XS.own 4 124 7 rfl fun b0 => ?_
 repeat' (first | (refine g_op ?_; conv => whnf) | (refine And.intro ?_ ?_; (focus exact au0); conv => whnf) | (refine g_seq ?_) | (refine XS.go ?_) | (refine g_ops ?_) | (refine g_loop ?_) | (refine g_nil ?_; conv => whnf) | (refine g_block ?_) | fail)
 refine XLc.mkA (α := Nat × Nat) (fun i => i.1 ≤ m.fRuns.length ∧ (askL m i.1).out.length ≤ i.2) (fun i => m.fRuns.length - i.1) (fun i gs => [.any, .lref 1 (gs 1) [] 0, .lref 2 (gs 2) [] 0, .nil, .lsl 124 (gs 124) (askL m i.1).out.length i.2, .int .i64 (i.1 : Int)]) (fun i gs => [(1, .agg [.str m.fName, .bool m.fUp, .int .i64 m.fClock, .bool m.fKnown, .int .i64 m.fSeen, .ro 7 (m.fWants.map MateWant.D), .ro 11 (m.fRuns.map MateRun.D), .ro 4 ((askL m i.1).asks.map MateAsk.D), .ro 4 (m.fGives.map MateAsk.D)]), (2, .agg [.str ⟨#[]⟩, .bool false, .int .i64 0, .bool false, .int .i64 0, .nil, .nil, .nil, .nil]), (124, .arr 7 ((askL m i.1).out.map MateParcel.N) i.2)]) (0, 0) ⟨Nat.zero_le _, Nat.le_refl _⟩ ⟨?_, ?_⟩ ?_
 ·repeat' (first | exact True.intro | refine And.intro rfl ?_)
 ·exact ⟨rfl, rfl, rfl, True.intro⟩
 intro x gs hI
 obtain ⟨i, cp⟩ := x
 obtain ⟨hi0, hi1⟩ := hI
 simp only at hi0 hi1
 dsimp only
 have hlen := askL_len m hi0
 have hnext := fun h : i < m.fRuns.length => askL_succ m h
 generalize hS : askL m i = S at hi1 hlen hnext ⊢
 have hal : S.asks.length ≤ 1048576 := by omega
 repeat' (first | (refine z_ld1 ?_; first | (refine z_ld rfl rfl rfl rfl au1 au2 ?_; conv => whnf) | (refine z_ld0 rfl ?_; conv => whnf)) | (refine z_op ?_ ?_; (focus exact rfl); conv => whnf) | (refine zs_ops ?_ ?_; (focus exact rfl)) | (refine z_nil fun vals => ?_; conv => whnf) | (refine And.intro ?_ ?_; (focus exact au0); conv => whnf) | (refine g_seq ?_) | (refine XS.go ?_) | (refine g_cond ?_; conv => whnf) | fail)
 refine Br.mk (fun hb => ?_) (fun hb => ?_)
 ·have hlt : i < m.fRuns.length := by simpa using hb
  clear hb
  have hnx := hnext hlt
  clear hnext
  have hlm : (m.fRuns.map MateRun.D).length = m.fRuns.length := List.length_map ..
  have he2 : (m.fRuns.map MateRun.D).getD (i : Int).toNat .any = (m.fRuns.getD i default).D := elt_map hlt
  generalize hr0 : m.fRuns.getD i default = r at he2 hnx
  have cW := spec_Want m.fWants r.fWant.fCopy hw.1
  unfold askStep at hnx
  generalize hq : wantR m.fWants r.fWant.fCopy = q at cW hnx
  have hw1 : IntKind.wrap .i64 ((i : Int) + 1) = ((i + 1 : Nat) : Int) := by rw [wrap_ok (by omega) (by omega)]; rfl
  conv => whnf
  repeat' (first | (refine g_skip ?_; conv => whnf) | fail)
  refine XS.go ?_
  conv => whnf
  repeat' (first | ((rw [he2]; conv => whnf)) | ((refine And.intro True.intro ?_; conv => whnf)) | (refine And.intro ?_ ?_; (focus exact au0); conv => whnf) | (refine g_seq ?_) | (refine g_block ?_) | (refine g_drawn ?_) | ((first | refine d_p ?_ | refine d_e ?_ | refine d_nil ?_ | refine fun _ => ?_ | refine XCL.of_rdr (cW) ?_); conv => whnf) | fail)
  rename_i b6
  refine XS.weakenA (fs := [.any, .lref 1 (gs 1) [] 0, .lref 2 (gs 2) [] 0, .nil, .lsl 124 (gs 124) S.out.length cp, .int .i64 (i : Int), .lref 6 b6 [] 0, .bool q.2]) (ls := [(1, .agg [.str m.fName, .bool m.fUp, .int .i64 m.fClock, .bool m.fKnown, .int .i64 m.fSeen, .ro 7 (m.fWants.map MateWant.D), .ro 11 (m.fRuns.map MateRun.D), .ro 4 (S.asks.map MateAsk.D), .ro 4 (m.fGives.map MateAsk.D)]), (2, .agg [.str ⟨#[]⟩, .bool false, .int .i64 0, .bool false, .int .i64 0, .nil, .nil, .nil, .nil]), (6, q.1.D), (124, .arr 7 (S.out.map MateParcel.N) cp)]) ⟨?_, ?_⟩ ?_
  ·repeat' (first | exact True.intro | refine And.intro rfl ?_)
  ·exact ⟨rfl, rfl, rfl, rfl, True.intro⟩
  have cG := spec_Ask m.fGives q.1.fHold hg.1
  have cA := spec_Ask S.asks q.1.fHold hal
  refine XS.go ?_
  conv => whnf
  repeat' (first | (refine z_ld1g ?_; first | (refine z_ldg rfl rfl rfl rfl rfl rfl rfl (by (repeat intro _); exact ⟨au1, au2⟩) rfl rfl rfl rfl ?_; conv => whnf) | (refine z_ld0g ?_; (conv => whnf); refine And.intro ?_ ?_; (focus exact rfl); conv => whnf)) | (refine z_ix1g ?_; refine z_ixg rfl rfl rfl rfl rfl rfl rfl (by (repeat intro _); refine ⟨?_, ?_⟩ <;> first | omega | (simp only [decide_eq_true_eq, Bool.not_eq_true', Bool.or_eq_false_iff, decide_eq_false_iff_not, Bool.and_eq_true, Bool.not_eq_false'] at *; omega)) ?_) | (refine z_op ?_ ?_; (focus exact rfl); conv => whnf) | (refine z_opg0 ?_; (conv => whnf); refine And.intro ?_ ?_; (focus exact rfl); conv => whnf) | (refine z_pick ?_ ?_; (focus exact rfl); conv => whnf) | (refine zs_quiet ?_ ?_; (focus exact rfl)) | (refine z_nil fun vals => ?_; conv => whnf) | (refine z_callg0 ?_; (conv => whnf); refine And.intro ?_ ?_; (focus exact rfl)) | (refine RC.of (cG) ?_ ?_; (focus exact rfl); conv => whnf) | (refine And.intro ?_ ?_; (focus exact au0); conv => whnf) | (refine g_seq ?_) | fail)
  refine XS.go ?_
  conv => whnf
  repeat' (first | (refine g_cond ?_; conv => whnf) | fail)
  refine Br.mk (fun hb => ?_) (fun hb => ?_)
  ·have hsk : askSkip m r q = true := by rw [← hr0]; exact hb
   rw [if_pos hsk] at hnx
   clear hb
   conv => whnf
   repeat' (first | (refine g_op ?_; conv => whnf) | (refine And.intro ?_ ?_; (focus exact au0); conv => whnf) | (refine XS.go ?_) | (refine g_ops ?_) | ((first | refine g_nil ?_ | refine g_exit ?_); conv => whnf) | fail)
   refine ⟨(i + 1, cp), ⟨hlt, by dsimp only; rw [hnx]; exact hi1⟩, by simp only; omega, ?_, ?_⟩
   ·dsimp only
    rw [hnx]
    repeat' (first | exact True.intro | refine And.intro (congrArg (D.int .i64) hw1) ?_ | refine And.intro rfl ?_)
   ·dsimp only
    rw [hnx]
    exact ⟨rfl, rfl, rfl, True.intro⟩
  have hsk : askSkip m r q = false := by rw [← hr0]; exact hb
  rw [if_neg (by rw [hsk]; exact Bool.false_ne_true)] at hnx
  clear hb
  conv => whnf
  repeat' (first | (refine g_skip ?_; conv => whnf) | fail)
  refine XS.weakenA (fs := [.any, .lref 1 (gs 1) [] 0, .lref 2 (gs 2) [] 0, .nil, .lsl 124 (gs 124) S.out.length cp, .int .i64 (i : Int), .lref 6 b6 [] 0]) (ls := [(1, .agg [.str m.fName, .bool m.fUp, .int .i64 m.fClock, .bool m.fKnown, .int .i64 m.fSeen, .ro 7 (m.fWants.map MateWant.D), .ro 11 (m.fRuns.map MateRun.D), .ro 4 (S.asks.map MateAsk.D), .ro 4 (m.fGives.map MateAsk.D)]), (2, .agg [.str ⟨#[]⟩, .bool false, .int .i64 0, .bool false, .int .i64 0, .nil, .nil, .nil, .nil]), (6, q.1.D), (124, .arr 7 (S.out.map MateParcel.N) cp)]) ⟨?_, ?_⟩ ?_
  ·repeat' (first | exact True.intro | refine And.intro rfl ?_)
  ·exact ⟨rfl, rfl, rfl, rfl, True.intro⟩
  refine XS.go ?_
  conv => whnf
  repeat' (first | (refine g_op ?_; conv => whnf) | (refine And.intro ?_ ?_; (focus exact au0); conv => whnf) | (refine g_seq ?_) | (refine g_ops ?_) | ((first | refine g_nil ?_ | refine XCL.of_rdr (cA) ?_); conv => whnf) | fail)
  refine XS.go ?_
  conv => whnf
  repeat' (first | (refine g_op ?_; conv => whnf) | (refine And.intro ?_ ?_; (focus exact au0); conv => whnf) | (refine g_seq ?_) | (refine g_ops ?_) | ((first | refine g_nil ?_ | refine fun _ => ?_); conv => whnf) | fail)
  rename_i b9
  have hlt3 : askI S.asks q.1.fHold < (S.asks.length : Int) := by
   unfold askI
   rcases idxN_cases (f := askF S.asks q.1.fHold) (k := S.asks.length) (i := 0) with ⟨h1, _⟩ | ⟨j, h1, _, h3, _⟩ <;> rw [h1] <;> omega
  have hla : (S.asks.map MateAsk.D).length = S.asks.length := List.length_map ..
  have d40 : decide (((S.asks.map MateAsk.D).length : Int) ≥ 40) = decide (S.asks.length ≥ 40) := decide_eq_decide.2 (by rw [hla]; omega)
  refine XS.weakenA (fs := [.any, .lref 1 (gs 1) [] 0, .lref 2 (gs 2) [] 0, .nil, .lsl 124 (gs 124) S.out.length cp, .int .i64 (i : Int), .lref 6 b6 [] 0, .any, .int .i64 (askI S.asks q.1.fHold), .lref 9 b9 [] 0]) (ls := [(1, .agg [.str m.fName, .bool m.fUp, .int .i64 m.fClock, .bool m.fKnown, .int .i64 m.fSeen, .ro 7 (m.fWants.map MateWant.D), .ro 11 (m.fRuns.map MateRun.D), .ro 4 (S.asks.map MateAsk.D), .ro 4 (m.fGives.map MateAsk.D)]), (2, .agg [.str ⟨#[]⟩, .bool false, .int .i64 0, .bool false, .int .i64 0, .nil, .nil, .nil, .nil]), (6, q.1.D), (9, .agg [.str q.1.fHold, .str q.1.fCopy, .int .i64 m.fClock, .int .i64 m.fClock]), (124, .arr 7 (S.out.map MateParcel.N) cp)]) ⟨?_, ?_⟩ ?_
  ·repeat' (first | exact True.intro | refine And.intro rfl ?_)
  ·exact ⟨rfl, rfl, rfl, rfl, rfl, True.intro⟩
  refine XS.go ?_
  conv => whnf
  repeat' (first | (refine z_ld1g ?_; first | (refine z_ldg rfl rfl rfl rfl rfl rfl rfl (by (repeat intro _); exact ⟨au1, au2⟩) rfl rfl rfl rfl ?_; conv => whnf) | (refine z_ld0g ?_; (conv => whnf); refine And.intro ?_ ?_; (focus exact rfl); conv => whnf)) | (refine z_ix1g ?_; refine z_ixg rfl rfl rfl rfl rfl rfl rfl (by (repeat intro _); refine ⟨?_, ?_⟩ <;> first | omega | (simp only [decide_eq_true_eq, Bool.not_eq_true', Bool.or_eq_false_iff, decide_eq_false_iff_not, Bool.and_eq_true, Bool.not_eq_false'] at *; omega)) ?_) | (refine z_op ?_ ?_; (focus exact rfl); conv => whnf) | (refine z_opg0 ?_; (conv => whnf); refine And.intro ?_ ?_; (focus exact rfl); conv => whnf) | (refine z_pick ?_ ?_; (focus exact rfl); conv => whnf) | (refine zs_quiet ?_ ?_; (focus exact rfl)) | (refine z_nil fun vals => ?_; conv => whnf) | (refine And.intro ?_ ?_; (focus exact au0); conv => whnf) | (refine g_seq ?_) | fail)
  refine XS.go ?_
  conv => whnf
  repeat' (first | (refine g_cond ?_; conv => whnf) | fail)
  refine Br.mk (fun hb => ?_) (fun hb => ?_)
  ·have hsm : askSame S.asks q.1 = true := hb
   clear hb
   rw [hsm, Bool.true_and] at hnx
   have hge : 0 ≤ askI S.asks q.1.fHold := by
    have p := hsm
    unfold askSame at p
    simp only [Bool.and_eq_true, decide_eq_true_eq] at p
    exact p.1
   have heA : (S.asks.map MateAsk.D).getD (askI S.asks q.1.fHold).toNat .any = (askAt S.asks q.1).D := elt_map (by omega)
   have hA9 : Go.Ab.D.agg [.str q.1.fHold, .str q.1.fCopy, .int .i64 (askAt S.asks q.1).fFirst, .int .i64 m.fClock] = (askNew m S.asks q.1).D := by
    unfold askNew
    rw [if_pos hsm]
    rfl
   conv => whnf
   repeat' (first | (refine z_ld1 ?_; first | (refine z_ld rfl rfl rfl rfl au1 au2 ?_; conv => whnf) | (refine z_ld0 rfl ?_; conv => whnf)) | (refine z_ix1 ?_; first | (refine z_ix rfl rfl rfl rfl rfl ⟨by first | omega | (simp only [decide_eq_true_eq, Bool.not_eq_true', Bool.or_eq_false_iff, decide_eq_false_iff_not, Bool.and_eq_true, Bool.not_eq_false'] at *; omega), by first | omega | (simp only [decide_eq_true_eq, Bool.not_eq_true', Bool.or_eq_false_iff, decide_eq_false_iff_not, Bool.and_eq_true, Bool.not_eq_false'] at *; omega)⟩ ?_; conv => whnf) | (refine z_ix0 rfl rfl ?_; conv => whnf)) | (refine z_op ?_ ?_; (focus exact rfl); conv => whnf) | (refine zs_quiet ?_ ?_; (focus exact rfl)) | (refine z_nil fun vals => ?_; conv => whnf) | (refine And.intro ?_ ?_; (focus exact au0); conv => whnf) | (refine g_seq ?_) | fail)
   refine XS.go ?_
   conv => whnf
   repeat' (first | (refine g_cond ?_; conv => whnf) | fail)
   refine Br.mk (fun hb => ?_) (fun hb => ?_)
   ·have hw6 : decide (m.fClock < IntKind.wrap .i64 ((askAt S.asks q.1).fAt + 6)) = true := hb
    rw [if_pos hw6] at hnx
    clear hb
    conv => whnf
    repeat' (first | (refine g_op ?_; conv => whnf) | (refine And.intro ?_ ?_; (focus exact au0); conv => whnf) | (refine XS.go ?_) | (refine g_ops ?_) | ((first | refine g_nil ?_ | refine g_exit ?_); conv => whnf) | fail)
    refine ⟨(i + 1, cp), ⟨hlt, by dsimp only; rw [hnx]; exact hi1⟩, by simp only; omega, ?_, ?_⟩
    ·dsimp only
     rw [hnx]
     repeat' (first | exact True.intro | refine And.intro (congrArg (D.int .i64) hw1) ?_ | refine And.intro rfl ?_)
    ·dsimp only
     rw [hnx]
     exact ⟨rfl, rfl, rfl, True.intro⟩
   have hw6 : decide (m.fClock < IntKind.wrap .i64 ((askAt S.asks q.1).fAt + 6)) = false := hb
   rw [if_neg (by rw [hw6]; exact Bool.false_ne_true)] at hnx
   clear hb
   conv => whnf
   repeat' (first | (refine g_skip ?_; conv => whnf) | fail)
   refine XS.weakenA (fs := [.any, .lref 1 (gs 1) [] 0, .lref 2 (gs 2) [] 0, .nil, .lsl 124 (gs 124) S.out.length cp, .int .i64 (i : Int), .lref 6 b6 [] 0, .any, .int .i64 (askI S.asks q.1.fHold), .lref 9 b9 [] 0]) (ls := [(1, .agg [.str m.fName, .bool m.fUp, .int .i64 m.fClock, .bool m.fKnown, .int .i64 m.fSeen, .ro 7 (m.fWants.map MateWant.D), .ro 11 (m.fRuns.map MateRun.D), .ro 4 (S.asks.map MateAsk.D), .ro 4 (m.fGives.map MateAsk.D)]), (2, .agg [.str ⟨#[]⟩, .bool false, .int .i64 0, .bool false, .int .i64 0, .nil, .nil, .nil, .nil]), (6, q.1.D), (9, .agg [.str q.1.fHold, .str q.1.fCopy, .int .i64 m.fClock, .int .i64 m.fClock]), (124, .arr 7 (S.out.map MateParcel.N) cp)]) ⟨?_, ?_⟩ ?_
   ·repeat' (first | exact True.intro | refine And.intro rfl ?_)
   ·exact ⟨rfl, rfl, rfl, rfl, rfl, True.intro⟩
   refine XS.go ?_
   conv => whnf
   repeat' (first | ((rw [heA]; conv => whnf)) | (refine g_op ?_; conv => whnf) | (refine And.intro ?_ ?_; (focus exact au0); conv => whnf) | (refine g_ops ?_) | (refine g_nil ?_; conv => whnf) | fail)
   refine XS.weakenA (fs := [.any, .lref 1 (gs 1) [] 0, .lref 2 (gs 2) [] 0, .nil, .lsl 124 (gs 124) S.out.length cp, .int .i64 (i : Int), .lref 6 b6 [] 0, .any, .int .i64 (askI S.asks q.1.fHold), .lref 9 b9 [] 0]) (ls := [(1, .agg [.str m.fName, .bool m.fUp, .int .i64 m.fClock, .bool m.fKnown, .int .i64 m.fSeen, .ro 7 (m.fWants.map MateWant.D), .ro 11 (m.fRuns.map MateRun.D), .ro 4 (S.asks.map MateAsk.D), .ro 4 (m.fGives.map MateAsk.D)]), (2, .agg [.str ⟨#[]⟩, .bool false, .int .i64 0, .bool false, .int .i64 0, .nil, .nil, .nil, .nil]), (6, q.1.D), (9, (askNew m S.asks q.1).D), (124, .arr 7 (S.out.map MateParcel.N) cp)]) ⟨?_, ?_⟩ ?_
   ·repeat' (first | exact True.intro | refine And.intro rfl ?_)
   ·exact ⟨rfl, rfl, rfl, congrArg some hA9, rfl, True.intro⟩
   refine XS.go ?_
   conv => whnf
   repeat' (first | (refine z_ld1g ?_; first | (refine z_ldg rfl rfl rfl rfl rfl rfl rfl (by (repeat intro _); exact ⟨au1, au2⟩) rfl rfl rfl rfl ?_; conv => whnf) | (refine z_ld0g ?_; (conv => whnf); refine And.intro ?_ ?_; (focus exact rfl); conv => whnf)) | (refine z_op ?_ ?_; (focus exact rfl); conv => whnf) | (refine z_opg0 ?_; (conv => whnf); refine And.intro ?_ ?_; (focus exact rfl); conv => whnf) | (refine z_pick ?_ ?_; (focus exact rfl); conv => whnf) | (refine zs_ops ?_ ?_; (focus exact rfl)) | (refine z_nil fun vals => ?_; conv => whnf) | (refine And.intro ?_ ?_; (focus exact au0); conv => whnf) | (refine g_seq ?_) | (refine XS.go ?_) | (refine g_cond ?_; conv => whnf) | fail)
   refine Br.mk (fun hb => ?_) (fun hb => ?_)
   ·have hfull : askFull S.asks q.1 = true := by
     have p := hb
     rw [d40] at p
     exact p
    rw [if_pos hfull] at hnx
    clear hb
    conv => whnf
    repeat' (first | (refine g_op ?_; conv => whnf) | (refine And.intro ?_ ?_; (focus exact au0); conv => whnf) | (refine XS.go ?_) | (refine g_ops ?_) | ((first | refine g_nil ?_ | refine g_exit ?_); conv => whnf) | fail)
    refine ⟨(i + 1, cp), ⟨hlt, by dsimp only; rw [hnx]; exact hi1⟩, by simp only; omega, ?_, ?_⟩
    ·dsimp only
     rw [hnx]
     repeat' (first | exact True.intro | refine And.intro (congrArg (D.int .i64) hw1) ?_ | refine And.intro rfl ?_)
    ·dsimp only
     rw [hnx]
     exact ⟨rfl, rfl, rfl, True.intro⟩
   have hfull : askFull S.asks q.1 = false := by
    have p := hb
    rw [d40] at p
    exact p
   rw [if_neg (by rw [hfull]; exact Bool.false_ne_true)] at hnx
   clear hb
   generalize askNew m S.asks q.1 = A at hnx ⊢
   have cS := spec_Set S.asks A hal
   have hoN := hlen.2
   have hlO : S.out.length = (S.out.map MateParcel.N).length := (List.length_map ..).symm
   have hbO : (S.out.map MateParcel.N).length + [(⟨2, m.fName, 0, [], q.1.fHold, q.1.fCopy, m.fClock⟩ : MateParcel).N].length ≤ 1073741824 := by rw [← hlO]; have := hr.1; simp only [List.length_cons, List.length_nil]; omega
   conv => whnf
   repeat' (first | (refine g_skip ?_; conv => whnf) | fail)
   refine XS.go ?_
   conv => whnf
   repeat' (first | (refine g_op ?_; conv => whnf) | (refine And.intro ?_ ?_; (focus exact au0); conv => whnf) | (refine g_seq ?_) | (refine g_ops ?_) | ((first | refine g_nil ?_ | refine XCL.of_rdr (cS) ?_); conv => whnf) | fail)
   refine XS.go ?_
   conv => whnf
   repeat' (first | ((refine And.intro hlO ?_; conv => whnf)) | ((refine And.intro hbO ?_; conv => whnf)) | ((refine fun n1 b1 c1 hn1 hc1 => ?_; conv => whnf)) | (refine g_op ?_; conv => whnf) | (refine And.intro ?_ ?_; (focus exact au0); conv => whnf) | (refine XS.go ?_) | (refine g_ops ?_) | ((first | refine g_nil ?_ | refine fun _ => ?_); conv => whnf) | fail)
   have hn2 : n1 = (S.out ++ [(⟨2, m.fName, 0, [], q.1.fHold, q.1.fCopy, m.fClock⟩ : MateParcel)]).length := by rw [hn1]; simp
   refine ⟨(i + 1, c1), ⟨hlt, by dsimp only; rw [hnx]; rw [← hn2]; exact hc1⟩, by simp only; omega, ?_, ?_⟩
   ·dsimp only
    rw [hnx]
    repeat' (first | exact True.intro | refine And.intro (congrArg (fun k => D.lsl 124 _ k c1) hn2) ?_ | refine And.intro (congrArg (D.int .i64) hw1) ?_ | refine And.intro rfl ?_)
   ·dsimp only
    rw [hnx]
    exact ⟨rfl, rfl, congrArg (fun l => some (D.arr 7 l c1)) (by rw [List.map_append]; rfl), True.intro⟩
  have hsm : askSame S.asks q.1 = false := hb
  clear hb
  rw [hsm, Bool.false_and, if_neg Bool.false_ne_true] at hnx
  have hA9 : Go.Ab.D.agg [.str q.1.fHold, .str q.1.fCopy, .int .i64 m.fClock, .int .i64 m.fClock] = (askNew m S.asks q.1).D := by
   unfold askNew
   rw [if_neg (by rw [hsm]; exact Bool.false_ne_true)]
   rfl
  conv => whnf
  repeat' (first | (refine g_skip ?_; conv => whnf) | fail)
  refine XS.weakenA (fs := [.any, .lref 1 (gs 1) [] 0, .lref 2 (gs 2) [] 0, .nil, .lsl 124 (gs 124) S.out.length cp, .int .i64 (i : Int), .lref 6 b6 [] 0, .any, .int .i64 (askI S.asks q.1.fHold), .lref 9 b9 [] 0]) (ls := [(1, .agg [.str m.fName, .bool m.fUp, .int .i64 m.fClock, .bool m.fKnown, .int .i64 m.fSeen, .ro 7 (m.fWants.map MateWant.D), .ro 11 (m.fRuns.map MateRun.D), .ro 4 (S.asks.map MateAsk.D), .ro 4 (m.fGives.map MateAsk.D)]), (2, .agg [.str ⟨#[]⟩, .bool false, .int .i64 0, .bool false, .int .i64 0, .nil, .nil, .nil, .nil]), (6, q.1.D), (9, (askNew m S.asks q.1).D), (124, .arr 7 (S.out.map MateParcel.N) cp)]) ⟨?_, ?_⟩ ?_
  ·repeat' (first | exact True.intro | refine And.intro rfl ?_)
  ·exact ⟨rfl, rfl, rfl, congrArg some hA9, rfl, True.intro⟩
  refine XS.go ?_
  conv => whnf
  repeat' (first | (refine z_ld1g ?_; first | (refine z_ldg rfl rfl rfl rfl rfl rfl rfl (by (repeat intro _); exact ⟨au1, au2⟩) rfl rfl rfl rfl ?_; conv => whnf) | (refine z_ld0g ?_; (conv => whnf); refine And.intro ?_ ?_; (focus exact rfl); conv => whnf)) | (refine z_op ?_ ?_; (focus exact rfl); conv => whnf) | (refine z_opg0 ?_; (conv => whnf); refine And.intro ?_ ?_; (focus exact rfl); conv => whnf) | (refine z_pick ?_ ?_; (focus exact rfl); conv => whnf) | (refine zs_ops ?_ ?_; (focus exact rfl)) | (refine z_nil fun vals => ?_; conv => whnf) | (refine And.intro ?_ ?_; (focus exact au0); conv => whnf) | (refine g_seq ?_) | (refine XS.go ?_) | (refine g_cond ?_; conv => whnf) | fail)
  refine Br.mk (fun hb => ?_) (fun hb => ?_)
  ·have hfull : askFull S.asks q.1 = true := by
    have p := hb
    rw [d40] at p
    exact p
   rw [if_pos hfull] at hnx
   clear hb
   conv => whnf
   repeat' (first | (refine g_op ?_; conv => whnf) | (refine And.intro ?_ ?_; (focus exact au0); conv => whnf) | (refine XS.go ?_) | (refine g_ops ?_) | ((first | refine g_nil ?_ | refine g_exit ?_); conv => whnf) | fail)
   refine ⟨(i + 1, cp), ⟨hlt, by dsimp only; rw [hnx]; exact hi1⟩, by simp only; omega, ?_, ?_⟩
   ·dsimp only
    rw [hnx]
    repeat' (first | exact True.intro | refine And.intro (congrArg (D.int .i64) hw1) ?_ | refine And.intro rfl ?_)
   ·dsimp only
    rw [hnx]
    exact ⟨rfl, rfl, rfl, True.intro⟩
  have hfull : askFull S.asks q.1 = false := by
   have p := hb
   rw [d40] at p
   exact p
  rw [if_neg (by rw [hfull]; exact Bool.false_ne_true)] at hnx
  clear hb
  generalize askNew m S.asks q.1 = A at hnx ⊢
  have cS := spec_Set S.asks A hal
  have hoN := hlen.2
  have hlO : S.out.length = (S.out.map MateParcel.N).length := (List.length_map ..).symm
  have hbO : (S.out.map MateParcel.N).length + [(⟨2, m.fName, 0, [], q.1.fHold, q.1.fCopy, m.fClock⟩ : MateParcel).N].length ≤ 1073741824 := by rw [← hlO]; have := hr.1; simp only [List.length_cons, List.length_nil]; omega
  conv => whnf
  repeat' (first | (refine g_skip ?_; conv => whnf) | fail)
  refine XS.go ?_
  conv => whnf
  repeat' (first | (refine g_op ?_; conv => whnf) | (refine And.intro ?_ ?_; (focus exact au0); conv => whnf) | (refine g_seq ?_) | (refine g_ops ?_) | ((first | refine g_nil ?_ | refine XCL.of_rdr (cS) ?_); conv => whnf) | fail)
  refine XS.go ?_
  conv => whnf
  repeat' (first | ((refine And.intro hlO ?_; conv => whnf)) | ((refine And.intro hbO ?_; conv => whnf)) | ((refine fun n1 b1 c1 hn1 hc1 => ?_; conv => whnf)) | (refine g_op ?_; conv => whnf) | (refine And.intro ?_ ?_; (focus exact au0); conv => whnf) | (refine XS.go ?_) | (refine g_ops ?_) | ((first | refine g_nil ?_ | refine fun _ => ?_); conv => whnf) | fail)
  have hn2 : n1 = (S.out ++ [(⟨2, m.fName, 0, [], q.1.fHold, q.1.fCopy, m.fClock⟩ : MateParcel)]).length := by rw [hn1]; simp
  refine ⟨(i + 1, c1), ⟨hlt, by dsimp only; rw [hnx]; rw [← hn2]; exact hc1⟩, by simp only; omega, ?_, ?_⟩
  ·dsimp only
   rw [hnx]
   repeat' (first | exact True.intro | refine And.intro (congrArg (fun k => D.lsl 124 _ k c1) hn2) ?_ | refine And.intro (congrArg (D.int .i64) hw1) ?_ | refine And.intro rfl ?_)
  ·dsimp only
   rw [hnx]
   exact ⟨rfl, rfl, congrArg (fun l => some (D.arr 7 l c1)) (by rw [List.map_append]; rfl), True.intro⟩
 have hin : i = m.fRuns.length := by
  have : ¬ i < m.fRuns.length := by simpa using hb
  omega
 clear hb hnext
 subst hin
 conv => whnf
 repeat' (first | (refine z_ld1 ?_; first | (refine z_ld rfl rfl rfl rfl au1 au2 ?_; conv => whnf) | (refine z_ld0 rfl ?_; conv => whnf)) | (refine z_st1 ?_; first | (refine z_st rfl rfl rfl au1 au2 rfl rfl ?_; conv => whnf) | (refine z_st0 ?_; conv => whnf)) | (refine z_op ?_ ?_; (focus exact rfl); conv => whnf) | (refine zs_ops ?_ ?_; (focus exact rfl)) | (refine z_nil fun vals => ?_; conv => whnf) | (refine And.intro ?_ ?_; (focus exact au0); conv => whnf) | (refine g_seq ?_) | (refine XS.go ?_) | ((first | refine g_ret ?_ | refine g_exit ?_ | refine r_t ?_ | refine r_c ?_ | refine r_nil ?_); conv => whnf) | fail)
 have e : asksR m = ({ m with fAsks := S.asks }, S.out) := by
  unfold asksR
  rw [hS]
 rw [e]
 exact ⟨_, _, rfl, rfl⟩
end Go.Ab
