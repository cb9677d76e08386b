/- Steps towards the law: the machine, contracts of functions and facts of lists. -/
import Derived.Test.YtagleaabhljkfaaMateKM
import Derived.Test.YtagleaabhljkfaaMateX
import Derived.Test.YtagleaabhljkfaaRows
set_option linter.unusedSimpArgs false
set_option linter.unusedVariables false
namespace Go.Ab
open Go Go.RowKit Go.Proofs
attribute [local irreducible] XC Rdr IntKind.wrap xw xos xqs xr xd
set_option maxRecDepth 100000
set_option maxHeartbeats 16000000
def cf85 : CF := ⟨247,[.t 4],(.seq (.ops [Ok 4 (.nil)]) (.seq (.seq (.ops [Om 14 1,Oo 15 (.bin .lss (.t 14) (.k (.int .i64 1))),Om 16 15,⟨some 17,.mv (.t 1),some (16,false)⟩,⟨some 18,.bin .gtr (.t 17) (.k (.int .i64 4)),some (16,false)⟩,Oo 19 (.pick (.t 16) (.k (.bool true)) (.t 18))]) (.cond (.t 19) (.seq (.ops [Ok 4 (.nil)]) .ret) .skip)) (.seq (.seq (.ops [Om 20 0,On 21 20,Of 22 2 21,Ol 23 22,Om 24 1,Ob 25 .add 23 24,Oo 26 (.bin .gtr (.t 25) (.k (.int .i64 1000000)))]) (.cond (.t 26) (.seq (.ops [Om 27 0,On 28 27,Of 29 2 28,⟨none,.st 1 (.t 29) (.k (.int .i64 1000000)),none⟩]) (.seq (.ops [Om 30 0,Oc 31 98 [.t 30,(.k (.bool true))]]) (.seq (.ops [Ok 4 (.nil)]) .ret))) .skip)) (.seq (.ops [Om 32 0,On 33 32,Of 34 2 33,Ol 35 34,Om 36 1,Ob 37 .add 35 36,On 38 32,Of 39 2 38,Os 1 39 37]) (.seq (.drawn [Qm 40 0,Qm 41 0,Qn 42 41,Qf 43 6 42,Ql 44 43,Qm 45 0,Qn 46 45,Qf 47 2 46,Ql 48 47,(Oc 49 32 [.t 44,.t 48],true,[]),Qn 50 40,Qf 51 6 50,Qs 1 51 49]) (.seq (.seq (.ops [Om 52 0,On 53 52,Of 54 1 53,Ol 55 54,Oo 56 (.not (.t 55))]) (.cond (.t 56) (.seq (.ops [Ok 4 (.nil)]) .ret) .skip)) (.seq (.seq (.ops [Om 57 0,On 58 57,Of 59 3 58,Ol 60 59]) (.cond (.t 60) (.ops [Om 61 0,Oc 62 111 [.t 61]]) .skip)) (.seq (.ops [Ok 5 (.nil)]) (.seq (.seq (.ops [Om 63 0,On 64 63,Of 65 6 64,Ol 66 65,Og 67 66,Ok 68 (.int .i64 0)]) (.block 0 (.loop (.seq (.ops [Ob 69 .lss 68 67]) (.seq (.cond (.t 69) .skip (.exit 0)) (.seq (.block 1 (.seq (.ops [Ox 70 11 66 68,Od 71 11 70,Oo 7 (.al (.agg [.agg [.str ⟨#[]⟩,.int .i64 0,.str ⟨#[]⟩,.int .i64 0,.int .i64 0,.int .i64 0,.int .i64 0],.int .i64 0,.int .i64 0,.int .i64 0,.int .i64 0])),Os 11 7 71]) (.seq (.ops [Oo 72 (.fa 0 7 0 (.t 7)),Of 73 2 72,Ol 74 73,Om 8 74]) (.seq (.ops [Om 76 0,Oo 77 (.fa 0 7 0 (.t 7)),Of 78 0 77,Ol 79 78,Oc 80 112 [.t 76,.t 79],Om 75 80,Oo 81 (.ext (.t 75) 0),Oo 82 (.ext (.t 75) 1),Oo 9 (.al (.agg [.str ⟨#[]⟩,.int .i64 0,.str ⟨#[]⟩,.int .i64 0,.int .i64 0,.int .i64 0,.int .i64 0])),Os 7 9 81,Om 10 82]) (.seq (.seq (.ops [Om 83 8,Oo 84 (.bin .eql (.t 83) (.k (.str ⟨#[]⟩))),Om 85 84,⟨some 86,.mv (.t 10),some (85,false)⟩,⟨some 87,.not (.t 86),some (85,false)⟩,Oo 88 (.pick (.t 85) (.k (.bool true)) (.t 87)),Om 89 88,⟨some 90,.ld 7 true (.t 9),some (89,false)⟩,⟨some 91,.fa 0 7 0 (.t 7),some (89,false)⟩,⟨some 92,.ld 7 true (.t 91),some (89,false)⟩,⟨some 93,.cmp true (.agg [.str ⟨#[]⟩,.int .i64 0,.str ⟨#[]⟩,.int .i64 0,.int .i64 0,.int .i64 0,.int .i64 0]) (.t 90) (.t 92),some (89,false)⟩,Oo 94 (.pick (.t 89) (.k (.bool true)) (.t 93)),Om 95 94,⟨some 96,.mv (.t 0),some (95,false)⟩,⟨some 97,.nilc (.t 96),some (95,false)⟩,⟨some 98,.fa 8 1 8 (.t 97),some (95,false)⟩,⟨some 99,.ld 1 false (.t 98),some (95,false)⟩,⟨some 100,.mv (.t 8),some (95,false)⟩,⟨some 101,.call 96 [.t 99,.t 100],some (95,false)⟩,⟨some 102,.bin .geq (.t 101) (.k (.int .i64 0)),some (95,false)⟩,Oo 103 (.pick (.t 95) (.k (.bool true)) (.t 102))]) (.cond (.t 103) (.exit 1) .skip)) (.seq (.ops [Om 104 0,On 105 104,Of 106 7 105,Ol 107 106,Om 108 8,Oc 109 96 [.t 107,.t 108],Om 11 109]) (.seq (.block 2 (.seq (.ops [Om 111 11,Oo 112 (.bin .lss (.t 111) (.k (.int .i64 0))),Om 110 112]) (.cond (.t 110) (.seq (.seq (.ops [Om 113 0,On 114 113,Of 115 7 114,Ol 116 115,Og 117 116,Oo 118 (.bin .geq (.t 117) (.k (.int .i64 40)))]) (.cond (.t 118) (.exit 1) .skip)) (.drawn [Qm 119 0,Qm 120 0,Qn 121 120,Qf 122 7 121,Ql 123 122,Qm 124 8,Qf 125 0 9,Ql 126 125,Qm 127 0,Qn 128 127,Qf 129 2 128,Ql 130 129,Qm 131 0,Qn 132 131,Qf 133 2 132,Ql 134 133,Qo 135 (.bld (.agg [.str ⟨#[]⟩,.str ⟨#[]⟩,.int .i64 0,.int .i64 0]) [(0,0,1,(.t 124)),(1,1,1,(.t 126)),(2,2,1,(.t 130)),(3,3,1,(.t 134))]),(Oc 136 113 [.t 123,.t 135],true,[]),Qn 137 119,Qf 138 7 137,Qs 1 138 136])) (.seq (.quiet [Om 140 0,On 141 140,Of 142 7 141,Ol 143 142,Om 144 11,Ox 145 4 143 144,Of 146 1 145,Ol 147 146,Of 148 0 9,Ol 149 148,Ob 150 .neq 147 149,Om 139 150]) (.cond (.t 139) (.drawn [Qm 151 0,Qn 152 151,Qf 153 7 152,Ql 154 153,Qm 155 11,Qm 156 8,Qf 157 0 9,Ql 158 157,Qm 159 0,Qn 160 159,Qf 161 2 160,Ql 162 161,Qm 163 0,Qn 164 163,Qf 165 2 164,Ql 166 165,Qo 167 (.bld (.agg [.str ⟨#[]⟩,.str ⟨#[]⟩,.int .i64 0,.int .i64 0]) [(0,0,1,(.t 156)),(1,1,1,(.t 158)),(2,2,1,(.t 162)),(3,3,1,(.t 166))]),Qx 168 4 154 155,Qs 4 168 167]) (.seq (.quiet [Om 170 0,On 171 170,Of 172 2 171,Ol 173 172,Om 174 0,On 175 174,Of 176 7 175,Ol 177 176,Om 178 11,Ox 179 4 177 178,Of 180 3 179,Ol 181 180,Oo 182 (.bin .add (.t 181) (.k (.int .i64 6))),Ob 183 .geq 173 182,Om 169 183]) (.cond (.t 169) (.drawn [Qm 184 0,Qn 185 184,Qf 186 7 185,Ql 187 186,Qm 188 11,Qm 189 0,Qn 190 189,Qf 191 2 190,Ql 192 191,Qx 193 4 187 188,Qf 194 3 193,Qs 1 194 192]) (.exit 1)))))))) (.drawn [Qm 195 5,Qm 196 0,Qn 197 196,Qf 198 0 197,Ql 199 198,Qm 200 8,Qf 201 0 9,Ql 202 201,Qm 203 0,Qn 204 203,Qf 205 2 204,Ql 206 205,Qo 207 (.bld (.agg [.int .i64 0,.str ⟨#[]⟩,.int .i64 0,.nil,.str ⟨#[]⟩,.str ⟨#[]⟩,.int .i64 0]) [(0,0,1,(.k (.int .i64 2))),(1,1,1,(.t 199)),(4,4,1,(.t 200)),(5,5,1,(.t 202)),(6,6,1,(.t 206))]),Qo 208 (.bsl (.agg [.int .i64 0,.str ⟨#[]⟩,.int .i64 0,.nil,.str ⟨#[]⟩,.str ⟨#[]⟩,.int .i64 0]) 1 [(0,(.t 207))]),(Oo 209 (.app 7 96 (.t 195) (.t 208)),true,[]),Qm 5 209])))))))) (.ops [Oi 210 68,Om 68 210]))))))) (.seq (.seq (.ops [Om 211 0,On 212 211,Of 213 8 212,Ol 214 213,Og 215 214,Ok 216 (.int .i64 0)]) (.block 3 (.loop (.seq (.ops [Ob 217 .lss 216 215]) (.seq (.cond (.t 217) .skip (.exit 3)) (.seq (.block 4 (.seq (.ops [Ox 218 4 214 216,Od 219 4 218,Oo 13 (.al (.agg [.str ⟨#[]⟩,.str ⟨#[]⟩,.int .i64 0,.int .i64 0])),Os 4 13 219]) (.drawn [Qm 220 5,Qm 221 0,Qn 222 221,Qf 223 0 222,Ql 224 223,Qf 225 0 13,Ql 226 225,Qf 227 1 13,Ql 228 227,Qf 229 3 13,Ql 230 229,Qo 231 (.bld (.agg [.int .i64 0,.str ⟨#[]⟩,.int .i64 0,.nil,.str ⟨#[]⟩,.str ⟨#[]⟩,.int .i64 0]) [(0,0,1,(.k (.int .i64 4))),(1,1,1,(.t 224)),(4,4,1,(.t 226)),(5,5,1,(.t 228)),(6,6,1,(.t 230))]),Qo 232 (.bsl (.agg [.int .i64 0,.str ⟨#[]⟩,.int .i64 0,.nil,.str ⟨#[]⟩,.str ⟨#[]⟩,.int .i64 0]) 1 [(0,(.t 231))]),(Oo 233 (.app 7 96 (.t 220) (.t 232)),true,[]),Qm 5 233]))) (.ops [Oi 234 216,Om 216 234]))))))) (.seq (.drawn [Qm 235 5,Qm 236 0,Qn 237 236,Qf 238 0 237,Ql 239 238,Qm 240 0,Qn 241 240,Qf 242 4 241,Ql 243 242,Qo 244 (.bld (.agg [.int .i64 0,.str ⟨#[]⟩,.int .i64 0,.nil,.str ⟨#[]⟩,.str ⟨#[]⟩,.int .i64 0]) [(0,0,1,(.k (.int .i64 6))),(1,1,1,(.t 239)),(2,2,1,(.t 243))]),Qo 245 (.bsl (.agg [.int .i64 0,.str ⟨#[]⟩,.int .i64 0,.nil,.str ⟨#[]⟩,.str ⟨#[]⟩,.int .i64 0]) 1 [(0,(.t 244))]),(Oo 246 (.app 7 96 (.t 235) (.t 245)),true,[]),Qm 4 246]) .ret)))))))))))⟩
theorem c85 : compileF Try.prog [] 85 = some cf85 := by kernel_rfl
theorem ba_inj {a b : ByteArray} (h : a.toList = b.toList) : a = b := by
 rw [ByteArray.toList_eq, ByteArray.toList_eq] at h
 exact ByteArray.ext (Array.toList_inj.1 h)
theorem wantEq_eq {a b : MateWant} (h : wantEq a b = true) : a = b := by
 obtain ⟨a1, a2, a3, a4, a5, a6, a7⟩ := a
 obtain ⟨b1, b2, b3, b4, b5, b6, b7⟩ := b
 simp only [wantEq, Bool.and_eq_true, beq_iff_eq, and_true] at h
 obtain ⟨h1, rfl, h3, rfl, rfl, rfl, rfl⟩ := h
 rw [ba_inj h1, ba_inj h3]
/-- The lengths and the order of the lists that a tick starts from. -/
structure TK (m : Mate) (r g : Nat) : Prop where
 w : m.fWants.length ≤ 10
 r : m.fRuns.length ≤ r
 a : m.fAsks.length ≤ 40
 g : m.fGives.length ≤ g
 ag : AG m.fAsks m.fGives
theorem TK.valid {m : Mate} (h : validM m = true) : TK m 20 40 := by
 have ag := AG.valid h
 simp only [validM, Bool.and_eq_true, Bool.not_eq_true'] at h
 have hl := c1_facts h.1
 exact ⟨hl.1, hl.2.2.2.1, hl.2.1, hl.2.2.1, ag⟩
theorem TK.len {m : Mate} {r g : Nat} (h : TK m r g) (hr : r ≤ 1000) (hg : g ≤ 1000) : m.lenOk :=
 ⟨⟨by have := h.w; omega, True.intro⟩, ⟨by have := h.r; omega, True.intro⟩, ⟨by have := h.a; omega, True.intro⟩, ⟨by have := h.g; omega, True.intro⟩⟩
theorem TK.tickX {m : Mate} {r g : Nat} (h : TK m r g) (rate : Int) : TK (tickX m rate) r g :=
 ⟨h.w, by show (List.map _ _).length ≤ _; rw [List.length_map]; exact h.r, h.a, h.g, h.ag⟩
theorem liveLen (m : Mate) : ∀ {k : Nat}, k ≤ m.fRuns.length → (liveL m k).asks.length ≤ m.fAsks.length ∧ (liveL m k).gives.length ≤ m.fGives.length + k
 | 0, _ => ⟨Nat.le_refl _, Nat.le_refl _⟩
 | k + 1, hk => by
  have ih := liveLen m (k := k) (by omega)
  rw [liveL_succ m (by omega)]
  unfold liveStep
  split
  ·exact ⟨ih.1, Nat.le_succ_of_le ih.2⟩
  ·split
   ·refine ⟨Nat.le_trans (List.length_filter_le _ _) ih.1, ?_⟩
    show (liveGive _ _).length ≤ _
    unfold liveGive
    split
    ·have := setR_len (liveL m k).gives ((liveL m k).asks.getD (askI (liveL m k).asks (m.fRuns.getD k default).fWant.fHold).toNat default)
     omega
    ·omega
   ·exact ⟨ih.1, Nat.le_succ_of_le ih.2⟩
theorem TK.lives {m : Mate} (h : TK m 20 40) : TK (livesR m) 30 60 := by
 have h1 := liveLen m (Nat.le_refl m.fRuns.length)
 have h2 := beginL_len m.fWants (liveL m m.fRuns.length).runs (Nat.le_refl m.fWants.length)
 have h3 := (liveOk m (h.len (by decide) (by decide)).a.1 (h.len (by decide) (by decide)).g.1 (Nat.le_refl m.fRuns.length)).runs
 have k1 := h.w
 have k2 := h.r
 have k3 := h.a
 have k4 := h.g
 exact ⟨h.w, by show (beginL _ _ _).length ≤ _; omega, by show (liveL _ _).asks.length ≤ _; omega, by show (liveL _ _).gives.length ≤ _; omega, liveAG m h.ag (Nat.le_refl _)⟩
theorem TK.mono {m : Mate} (h : TK m 20 40) : TK m 30 60 := ⟨h.w, by have := h.r; omega, h.a, by have := h.g; omega, h.ag⟩
theorem TK.tickY {m : Mate} (h : TK m 20 40) (rate : Int) : TK (tickY m rate) 30 60 := by
 unfold Go.Ab.tickY
 split
 ·exact (h.tickX rate).lives
 ·exact (h.tickX rate).mono
theorem skip_eq (m : Mate) (r : MateRun) (q : MateWant × Bool) : (((r.fWant.fHold.toList == (⟨#[]⟩ : ByteArray).toList || !q.2) || !wantEq q.1 r.fWant) || decide (askI m.fGives r.fWant.fHold ≥ 0)) = askSkip m r q := by
 unfold askSkip
 cases h2 : q.2 with
 | false => simp
 | true =>
  cases h3 : wantEq q.1 r.fWant with
  | false => simp
  | true => rw [wantEq_eq h3]; simp
theorem ask_eta {x : MateAsk} {h c : ByteArray} (hh : x.fHold.toList = h.toList) (hc : x.fCopy.toList = c.toList) (t : Int) : ({ x with fAt := t } : MateAsk) = ⟨h, c, x.fFirst, t⟩ := by
 obtain ⟨x1, x2, x3, x4⟩ := x
 dsimp only at hh hc ⊢
 rw [ba_inj hh, ba_inj hc]
/-- The step of asking: the five ways. -/
theorem askStep_skip {m : Mate} {s : AS} {r : MateRun} {q : MateWant × Bool} (hq : wantR m.fWants r.fWant.fCopy = q) (h : askSkip m r q = true) : askStep m s r = s := by
 unfold askStep
 rw [hq, if_pos h]
theorem askStep_go {m : Mate} {s : AS} {r : MateRun} {q : MateWant × Bool} (hq : wantR m.fWants r.fWant.fCopy = q) (h : askSkip m r q = false) : q.1 = r.fWant ∧ askI m.fGives r.fWant.fHold < 0 ∧ askStep m s r =
  if (askSame s.asks r.fWant && decide (m.fClock < IntKind.wrap .i64 ((askAt s.asks r.fWant).fAt + 6))) = true then s
  else if askFull s.asks r.fWant = true then s
  else ⟨setR s.asks (askNew m s.asks r.fWant), s.out ++ [⟨2, m.fName, 0, [], r.fWant.fHold, r.fWant.fCopy, m.fClock⟩]⟩ := by
 have h0 := h
 unfold askSkip at h
 simp only [Bool.or_eq_false_iff, Bool.not_eq_false', decide_eq_false_iff_not] at h
 have e := wantEq_eq h.1.1.2
 refine ⟨e, ?_, ?_⟩
 ·have := h.2
  rw [e] at this
  omega
 ·unfold askStep
  rw [hq, if_neg (by rw [h0]; exact Bool.false_ne_true), e]
section
variable {m : Mate} {s : AS} {w : MateWant}
def askGo (m : Mate) (s : AS) (w : MateWant) : AS :=
 if (askSame s.asks w && decide (m.fClock < IntKind.wrap .i64 ((askAt s.asks w).fAt + 6))) = true then s
 else if askFull s.asks w = true then s
 else ⟨setR s.asks (askNew m s.asks w), s.out ++ [⟨2, m.fName, 0, [], w.fHold, w.fCopy, m.fClock⟩]⟩
def askP (m : Mate) (w : MateWant) : MateParcel := ⟨2, m.fName, 0, [], w.fHold, w.fCopy, m.fClock⟩
theorem askGo_full (h : askI s.asks w.fHold = -1) (hl : s.asks.length ≥ 40) : askGo m s w = s := by
 unfold askGo askSame askFull
 rw [h, if_neg (by simp), if_pos (by simp; exact hl)]
theorem askGo_ins (h : askI s.asks w.fHold = -1) (hl : ¬ s.asks.length ≥ 40) : askGo m s w = ⟨insAt s.asks (putI s.asks ⟨w.fHold, w.fCopy, m.fClock, m.fClock⟩) ⟨w.fHold, w.fCopy, m.fClock, m.fClock⟩, s.out ++ [askP m w]⟩ := by
 have e : askNew m s.asks w = ⟨w.fHold, w.fCopy, m.fClock, m.fClock⟩ := by unfold askNew askSame; rw [h]; simp
 have h1 : askI s.asks w.fHold < 0 := by omega
 unfold askGo
 rw [e, setR_ins s.asks _ (askI_neg h1)]
 unfold askSame askFull
 rw [h, if_neg (by simp), if_neg (by simp; omega)]
 rfl
variable {k : Nat}
theorem askGo_other (hG : Sorted s.asks) (h : askI s.asks w.fHold = (k : Int)) (hk : k < s.asks.length) (hc : (s.asks[k].fCopy.toList == w.fCopy.toList) = false) : askGo m s w = ⟨s.asks.set k ⟨w.fHold, w.fCopy, m.fClock, m.fClock⟩, s.out ++ [askP m w]⟩ := by
 obtain ⟨_, he⟩ := askI_nat h
 have ea : askAt s.asks w = s.asks[k] := by unfold askAt; rw [h, Int.toNat_natCast, getD_of hk]
 have es : askSame s.asks w = false := by unfold askSame; rw [ea, hc, Bool.and_false]
 have e : askNew m s.asks w = ⟨w.fHold, w.fCopy, m.fClock, m.fClock⟩ := by unfold askNew; rw [es]; simp
 have ef : askFull s.asks w = false := by unfold askFull; rw [h, decide_eq_false (by omega), Bool.false_and]
 unfold askGo
 rw [es, ef, e, if_neg (by simp), if_neg (by simp), setR_set hG _ hk he]
 rfl
theorem askGo_wait (h : askI s.asks w.fHold = (k : Int)) (hk : k < s.asks.length) (hc : (s.asks[k].fCopy.toList == w.fCopy.toList) = true) (ht : ¬ m.fClock ≥ IntKind.wrap .i64 (s.asks[k].fAt + 6)) : askGo m s w = s := by
 have ea : askAt s.asks w = s.asks[k] := by unfold askAt; rw [h, Int.toNat_natCast, getD_of hk]
 have es : askSame s.asks w = true := by unfold askSame; rw [ea, hc, h, decide_eq_true (by omega)]; rfl
 unfold askGo
 rw [es, ea, if_pos (by rw [Bool.true_and]; exact decide_eq_true (by omega))]
theorem askGo_again (hG : Sorted s.asks) (h : askI s.asks w.fHold = (k : Int)) (hk : k < s.asks.length) (hc : (s.asks[k].fCopy.toList == w.fCopy.toList) = true) (ht : m.fClock ≥ IntKind.wrap .i64 (s.asks[k].fAt + 6)) : askGo m s w = ⟨s.asks.set k { s.asks[k] with fAt := m.fClock }, s.out ++ [askP m w]⟩ := by
 obtain ⟨_, he⟩ := askI_nat h
 have ea : askAt s.asks w = s.asks[k] := by unfold askAt; rw [h, Int.toNat_natCast, getD_of hk]
 have es : askSame s.asks w = true := by unfold askSame; rw [ea, hc, h, decide_eq_true (by omega)]; rfl
 have ef : askFull s.asks w = false := by unfold askFull; rw [h, decide_eq_false (by omega), Bool.false_and]
 have e : askNew m s.asks w = { s.asks[k] with fAt := m.fClock } := by
  unfold askNew
  rw [es, if_pos rfl, ea, ask_eta he (by simpa using hc)]
 unfold askGo
 rw [es, ef, e, ea, if_neg (by rw [Bool.true_and, decide_eq_false (by omega)]; exact Bool.false_ne_true), if_neg (by simp), setR_set hG { s.asks[k] with fAt := m.fClock } hk rfl]
 rfl
end
theorem askAG (m : Mate) (h : AG m.fAsks m.fGives) : ∀ {k : Nat}, k ≤ m.fRuns.length → AG (askL m k).asks m.fGives
 | 0, _ => h
 | k + 1, hk => by
  have ih := askAG m h (k := k) (by omega)
  rw [askL_succ m (by omega)]
  cases hs : askSkip m (m.fRuns.getD k default) (wantR m.fWants (m.fRuns.getD k default).fWant.fCopy) with
  | true => rw [askStep_skip rfl hs]; exact ih
  | false =>
   obtain ⟨_, h2, h3⟩ := askStep_go (s := askL m k) rfl hs
   rw [h3]
   split
   ·exact ih
   ·split
    ·exact ih
    ·exact ih.set _ h2
/-! ### Contracts under other names -/
theorem impl_fallT (x : Mate) (m : Bool) (b d1 d2 d3 d4 e1 e2 e3 e4 : Nat) (hl : x.fRuns.length ≤ 1048576) : XC Try.prog 98 [.lref 5 b [] 0, .bool m] [(5, b, x.O 31 32 33 34 d1 d2 d3 d4 e1 e2 e3 e4), (32, d2, .arr 11 (x.fRuns.map MateRun.D) e2)] (fun d ls => d = .tup [] ∧ ∃ bb cc, ls = [(5, b, fallF x bb (fallL m x.fRuns x.fRuns.length).length cc 47), (32, d2, .arr 11 (x.fRuns.map MateRun.D) e2), (47, bb, .arr 11 ((fallL m x.fRuns x.fRuns.length).map MateRun.D) cc)]) := by
 refine XC.intro' hm [5, 32, 47] rfl c98 (Nat.le_of_ble_eq_true rfl) ?_
 simp only [Mate.O]
 conv => whnf
 repeat' (first | (refine z_st1 ?_; first | (refine z_st rfl rfl rfl au1 au2 rfl rfl ?_; conv => whnf) | (refine z_st0 ?_; conv => whnf)) | (refine z_op ?_ ?_; (focus exact rfl); conv => whnf) | (refine zs_ops ?_ ?_; (focus exact rfl)) | (refine z_nil fun vals => ?_; conv => whnf) | (refine And.intro ?_ ?_; (focus exact au0); conv => whnf) | (refine g_seq ?_) | fail)
 refine XS.go ?_
 repeat' (first | (refine g_op ?_; conv => whnf) | (refine And.intro ?_ ?_; (focus exact au0); conv => whnf) | (refine g_seq ?_) | (refine g_ops ?_) | (refine g_nil ?_; conv => whnf) | fail)
 refine XS.own 4 47 11 rfl fun b0 => ?_
 refine XS.go ?_
 repeat' (first | (refine z_ld1 ?_; first | (refine z_ld rfl rfl rfl rfl au1 au2 ?_; conv => whnf) | (refine z_ld0 rfl ?_; conv => whnf)) | (refine z_op ?_ ?_; (focus exact rfl); conv => whnf) | (refine zs_ops ?_ ?_; (focus exact rfl)) | (refine z_nil fun vals => ?_; conv => whnf) | (refine And.intro ?_ ?_; (focus exact au0); conv => whnf) | (refine g_seq ?_) | (refine XS.go ?_) | (refine g_loop ?_) | (refine g_block ?_) | fail)
 refine XLc.mkG (α := Nat × Nat) (fun i gs => i.1 ≤ x.fRuns.length ∧ (fallL m x.fRuns i.1).length ≤ i.2 ∧ gs 5 = b ∧ gs 32 = d2) (fun i => x.fRuns.length - i.1) (fun i gs => [.lref 5 (gs 5) [] 0, .bool m, .any, .any, .lsl 47 (gs 47) (fallL m x.fRuns i.1).length i.2, .any, .any, .any, .any, .any, .any, .any, .any, .any, .any, .any, .any, .any, .any, .any, .any, .any, .any, .any, .any, .any, .any, .any, .lsl 32 (gs 32) x.fRuns.length e2, .int .i64 (x.fRuns.length : Int), .int .i64 (i.1 : Int)]) (fun i gs => [(5, .agg [.str x.fName, .bool false, .int .i64 x.fClock, .bool false, .int .i64 0, .nil, .lsl 32 (gs 32) x.fRuns.length e2, .nil, .nil]), (32, .arr 11 (x.fRuns.map MateRun.D) e2), (47, .arr 11 ((fallL m x.fRuns i.1).map MateRun.D) i.2)]) (0, 0) ⟨Nat.zero_le _, Nat.le_refl _, rfl, rfl⟩ ?_ ?_
 ·refine ⟨?_, ?_⟩
  ·repeat' (first | exact True.intro | refine And.intro rfl ?_)
  ·exact ⟨rfl, rfl, rfl, True.intro⟩
 intro i gs hI
 obtain ⟨i, cp⟩ := i
 obtain ⟨hi0, hi1, hg1, hg2⟩ := hI
 simp only at hi0 hi1
 dsimp only
 subst hg1 hg2
 repeat' (first | (refine g_op ?_; conv => whnf) | (refine And.intro ?_ ?_; (focus exact au0); conv => whnf) | (refine g_seq ?_) | (refine XS.go ?_) | (refine g_ops ?_) | ((first | refine g_nil ?_ | refine g_cond ?_); conv => whnf) | fail)
 refine Br.mk (fun hb => ?_) (fun hb => ?_)
 ·have hlt : i < x.fRuns.length := by simpa using hb
  have hj0 : i < (x.fRuns.map MateRun.D).length := by rw [List.length_map]; exact hlt
  have he0 : (x.fRuns.map MateRun.D).getD i .any = (x.fRuns.getD i default).D := elt_map hlt
  have hF : (∀ y, fallE m (x.fRuns.getD i default) = some y → fallL m x.fRuns (i + 1) = fallL m x.fRuns i ++ [y]) ∧ (fallE m (x.fRuns.getD i default) = none → fallL m x.fRuns (i + 1) = fallL m x.fRuns i) ∧ (fallL m x.fRuns i).length ≤ x.fRuns.length := ⟨fun y => fallL_some hlt, fallL_none hlt, fallL_len⟩
  generalize fallL m x.fRuns = A at hi1 hF ⊢
  conv => whnf
  repeat' (first | (refine z_ld1 ?_; first | (refine z_ld rfl rfl rfl rfl au1 au2 ?_; conv => whnf) | (refine z_ld0 rfl ?_; conv => whnf)) | (refine z_st1 ?_; first | (refine z_st rfl rfl rfl au1 au2 rfl rfl ?_; conv => whnf) | (refine z_st0 ?_; conv => whnf)) | (refine z_ix1 ?_; first | (refine z_ix rfl rfl rfl rfl rfl ⟨by first | omega | (simp only [decide_eq_true_eq, Bool.not_eq_true', Bool.or_eq_false_iff, decide_eq_false_iff_not, Bool.and_eq_true, Bool.not_eq_false'] at *; omega), by first | omega | (simp only [decide_eq_true_eq, Bool.not_eq_true', Bool.or_eq_false_iff, decide_eq_false_iff_not, Bool.and_eq_true, Bool.not_eq_false'] at *; omega)⟩ ?_; conv => whnf) | (refine z_ix0 rfl rfl ?_; conv => whnf)) | (refine z_op ?_ ?_; (focus exact rfl); conv => whnf) | (refine zs_ops ?_ ?_; (focus exact rfl)) | (refine z_nil fun vals => ?_; conv => whnf) | (refine z_call ?_ ?_; (focus exact rfl)) | (refine z_eff ?_; conv => whnf) | (refine RC.of (impl_Alive (x.fRuns.getD i default)) ?_ ?_; (focus exact rfl); conv => whnf) | (refine g_op ?_; conv => whnf) | (refine And.intro ?_ ?_; (focus exact au0); conv => whnf) | (refine g_seq ?_) | (refine XS.go ?_) | (refine g_ops ?_) | ((first | refine g_nil ?_ | refine g_cond ?_ | refine g_skip ?_ | refine g_exit ?_); conv => whnf) | (refine g_block ?_) | (refine fun _ => ?_; conv => whnf) | (refine Br.mk (fun hb => ?_) (fun hb => ?_) <;> conv => whnf) | fail)
  ·have he := hF.2.1 (fallE_dead (by simpa using hb))
   refine ⟨(i + 1, cp), ⟨by simp only; omega, by simp only; rw [he]; exact hi1, rfl, rfl⟩, by simp only; omega, ?_, ?_⟩
   ·have hw : IntKind.wrap .i64 ((i : Int) + 1) = ((i + 1 : Nat) : Int) := by rw [wrap_ok (by omega) (by omega)]; rfl
    repeat' (first | exact True.intro | refine And.intro (congrArg (D.int .i64) hw) ?_ | refine And.intro rfl ?_ | refine And.intro (congrArg (fun l : List MateRun => D.lsl 47 (gs 47) l.length cp) he.symm) ?_)
   ·exact ⟨rfl, rfl, congrArg (fun l : List MateRun => some (D.arr 11 (l.map MateRun.D) cp)) he.symm, True.intro⟩
  ·have hm : m = true := by assumption
   have he := hF.2.1 (by rw [hm]; exact fallE_free hb)
   refine ⟨(i + 1, cp), ⟨by simp only; omega, by simp only; rw [he]; exact hi1, rfl, rfl⟩, by simp only; omega, ?_, ?_⟩
   ·have hw : IntKind.wrap .i64 ((i : Int) + 1) = ((i + 1 : Nat) : Int) := by rw [wrap_ok (by omega) (by omega)]; rfl
    repeat' (first | exact True.intro | refine And.intro (congrArg (D.int .i64) hw) ?_ | refine And.intro rfl ?_ | refine And.intro (congrArg (fun l : List MateRun => D.lsl 47 (gs 47) l.length cp) he.symm) ?_)
   ·exact ⟨rfl, rfl, congrArg (fun l : List MateRun => some (D.arr 11 (l.map MateRun.D) cp)) he.symm, True.intro⟩
  ·have hm : m = true := by assumption
   have ha : (!alive (x.fRuns.getD i default)) = false := by assumption
   have he := hF.1 { x.fRuns.getD i default with fState := 2, fLeft := 0 } (by rw [fallE_some (by simpa using ha) (fun _ => hb), hm]; rfl)
   have hAl := hF.2.2
   have hln : (A i).length + 1 = (A (i + 1)).length := by rw [he]; simp
   have hmp : ∀ d, d = ({ x.fRuns.getD i default with fState := 2, fLeft := 0 } : MateRun).D → (A i).map MateRun.D ++ [d] = (A (i + 1)).map MateRun.D := fun d h => by rw [h, he, List.map_append]; rfl
   refine ⟨by simp, rfl, ?_⟩
   conv => whnf
   refine ⟨rfl, ?_⟩
   conv => whnf
   refine ⟨rfl, rfl, rfl, ?_⟩
   conv => whnf
   refine ⟨?_, Nat.le_of_ble_eq_true rfl, (by decide), fun n' b' c' hn hc => ?_⟩
   ·show _ + 1 ≤ 1073741824
    rw [List.length_map]; omega
   have hn : n' = (A i).length + 1 := by rw [hn, List.length_map]; rfl
   subst hn
   conv => whnf
   repeat' (first | (refine z_op ?_ ?_; (focus exact rfl); conv => whnf) | ((first | refine z_nil fun vals => ?_ | refine g_op ?_); conv => whnf) | (refine And.intro ?_ ?_; (focus exact au0); conv => whnf) | (refine XS.go ?_) | (refine g_ops ?_) | (refine g_nil ?_; conv => whnf) | fail)
   refine ⟨(i + 1, c'), ⟨by simp only; omega, by simp only; omega, rfl, rfl⟩, by simp only; omega, ?_, ?_⟩
   ·have hw : IntKind.wrap .i64 ((i : Int) + 1) = ((i + 1 : Nat) : Int) := by rw [wrap_ok (by omega) (by omega)]; rfl
    repeat' (first | exact True.intro | refine And.intro (congrArg (D.int .i64) hw) ?_ | refine And.intro rfl ?_ | refine And.intro (congrArg (fun n => D.lsl 47 b' n c') hln) ?_)
   ·exact ⟨rfl, rfl, congrArg (fun l => some (D.arr 11 l c')) (hmp _ rfl), True.intro⟩
  ·have hm : m = false := by simpa using hb
   have ha : (!alive (x.fRuns.getD i default)) = false := by assumption
   have he := hF.1 (x.fRuns.getD i default) (by rw [fallE_some (by simpa using ha) (fun h => by rw [hm] at h; cases h), hm]; rfl)
   have hAl := hF.2.2
   have hln : (A i).length + 1 = (A (i + 1)).length := by rw [he]; simp
   have hmp : ∀ d, d = (x.fRuns.getD i default).D → (A i).map MateRun.D ++ [d] = (A (i + 1)).map MateRun.D := fun d h => by rw [h, he, List.map_append]; rfl
   refine ⟨by simp, rfl, ?_⟩
   conv => whnf
   refine ⟨rfl, ?_⟩
   conv => whnf
   refine ⟨rfl, rfl, rfl, ?_⟩
   conv => whnf
   refine ⟨?_, Nat.le_of_ble_eq_true rfl, (by decide), fun n' b' c' hn hc => ?_⟩
   ·show _ + 1 ≤ 1073741824
    rw [List.length_map]; omega
   have hn : n' = (A i).length + 1 := by rw [hn, List.length_map]; rfl
   subst hn
   conv => whnf
   repeat' (first | (refine z_op ?_ ?_; (focus exact rfl); conv => whnf) | ((first | refine z_nil fun vals => ?_ | refine g_op ?_); conv => whnf) | (refine And.intro ?_ ?_; (focus exact au0); conv => whnf) | (refine XS.go ?_) | (refine g_ops ?_) | (refine g_nil ?_; conv => whnf) | fail)
   refine ⟨(i + 1, c'), ⟨by simp only; omega, by simp only; omega, rfl, rfl⟩, by simp only; omega, ?_, ?_⟩
   ·have hw : IntKind.wrap .i64 ((i : Int) + 1) = ((i + 1 : Nat) : Int) := by rw [wrap_ok (by omega) (by omega)]; rfl
    repeat' (first | exact True.intro | refine And.intro (congrArg (D.int .i64) hw) ?_ | refine And.intro rfl ?_ | refine And.intro (congrArg (fun n => D.lsl 47 b' n c') hln) ?_)
   ·exact ⟨rfl, rfl, congrArg (fun l => some (D.arr 11 l c')) (hmp _ rfl), True.intro⟩
 have hi : i = x.fRuns.length := by
  have : ¬ i < x.fRuns.length := by simpa using hb
  omega
 subst hi
 conv => whnf
 repeat' (first | (refine z_st1 ?_; first | (refine z_st rfl rfl rfl au1 au2 rfl rfl ?_; conv => whnf) | (refine z_st0 ?_; conv => whnf)) | (refine z_op ?_ ?_; (focus exact rfl); conv => whnf) | (refine zs_ops ?_ ?_; (focus exact rfl)) | (refine z_nil fun vals => ?_; conv => whnf) | (refine And.intro ?_ ?_; (focus exact au0); conv => whnf) | (refine XS.go ?_) | ((first | refine g_exit ?_ | refine r_nil ?_); conv => whnf) | fail)
 exact ⟨gs 47, cp, rfl⟩
theorem fallTF (s : Nat) (x : Mate) (m : Bool) (b d1 d2 d3 d4 e1 e2 e3 e4 : Nat) (hl : x.fRuns.length ≤ 1048576) : XC Try.prog 98 [.lref s b [] 0, .bool m] [(s, b, x.O 31 32 33 34 d1 d2 d3 d4 e1 e2 e3 e4), (32, d2, .arr 11 (x.fRuns.map MateRun.D) e2)] (fun d ls => d = .tup [] ∧ ∃ bb cc, ls = [(s, b, fallF x bb (fallL m x.fRuns x.fRuns.length).length cc 47), (32, d2, .arr 11 (x.fRuns.map MateRun.D) e2), (47, bb, .arr 11 ((fallL m x.fRuns x.fRuns.length).map MateRun.D) cc)]) := by
 refine (impl_fallT x m b d1 d2 d3 d4 e1 e2 e3 e4 hl).renm (fun _ _ _ h => h) rfl (fun d ls ⟨h1, bb, cc, h2⟩ => ?_)
 subst h1 h2
 exact ⟨_, _, ⟨rfl, bb, cc, rfl⟩, fun _ _ _ h => HolL.renm rfl h, fun _ _ _ h => h⟩
theorem wdogF (s s2 r : Nat) (xs : List MateRun) (b0 c0 : Nat) (c : Int) (hl : xs.length ≤ 1048576) : XC Try.prog 32 [.lsl s b0 xs.length c0, .int .i64 c] [(s, b0, .arr 11 (xs.map MateRun.D) c0)] (fun d ls => ∃ b c1, d = .lsl r b (xs.map fun r => wdog r c).length c1 ∧ ls = [(s2, b0, .arr 11 (xs.map MateRun.D) c0), (r, b, .arr 11 ((xs.map fun r => wdog r c).map MateRun.D) c1)]) := by
 refine (impl_Watchdog xs b0 c0 c hl).renm (fun _ _ _ h => h) rfl (fun d ls ⟨b, c1, _, h1, h2⟩ => ?_)
 subst h1 h2
 refine ⟨.lsl r b (xs.map fun r => wdog r c).length c1, _, ⟨b, c1, rfl, rfl⟩, fun _ _ _ h => HolL.renm rfl h, fun _ _ _ h => ?_⟩
 rw [List.length_map]
 exact h
/-! ### Where the tick ends early -/
theorem rate_lo {rate : Int} (h : inR rate 1 4 = true) : (decide (rate < 1) || decide (rate > 4)) = false := by
 unfold inR at h
 simp only [Bool.and_eq_true, decide_eq_true_eq] at h
 rw [decide_eq_false (by omega), decide_eq_false (by omega)]
 rfl
theorem rate_hi {rate : Int} (h : inR rate 1 4 = false) : (decide (rate < 1) || decide (rate > 4)) = true := by
 unfold inR at h
 rw [Bool.or_eq_true, decide_eq_true_eq, decide_eq_true_eq]
 simp only [Bool.and_eq_false_iff, decide_eq_false_iff_not] at h
 omega
theorem impl_tick1 (m : Mate) (rate : Int) (b b1 b2 b3 b4 c1 c2 c3 c4 : Nat) (hr : inR rate 1 4 = false) : XC Try.prog 85 [.lref 6 b [] 0, .int .i64 rate] ((6, b, m.O 31 32 33 34 b1 b2 b3 b4 c1 c2 c3 c4) :: m.L 31 32 33 34 b1 b2 b3 b4 c1 c2 c3 c4) (fun d ls => d = .nil ∧ ls = (6, b, m.O 31 32 33 34 b1 b2 b3 b4 c1 c2 c3 c4) :: m.L 31 32 33 34 b1 b2 b3 b4 c1 c2 c3 c4) := by
 have hr2 := rate_hi hr
 refine XC.intro' hm [6, 31, 32, 33, 34] rfl c85 (Nat.le_of_ble_eq_true rfl) ?_
 simp only [Mate.O, Mate.L]
 conv => whnf
 repeat' (first | (refine z_op ?_ ?_; (focus exact rfl); conv => whnf) | (refine z_opg0 ?_; (conv => whnf); refine And.intro ?_ ?_; (focus exact rfl); conv => whnf) | (refine z_pick ?_ ?_; (focus exact rfl); conv => whnf) | (refine zs_ops ?_ ?_; (focus exact rfl)) | ((first | refine z_nil fun vals => ?_ | refine g_op ?_); conv => whnf) | (refine And.intro ?_ ?_; (focus exact au0); conv => whnf) | (refine g_seq ?_) | (refine XS.go ?_) | (refine g_ops ?_) | (refine g_nil ?_; conv => whnf) | (refine Br.t ?_ ?_; (focus (first | assumption | exact rfl)); conv => whnf) | ((first | refine g_cond ?_ | refine g_ret ?_ | refine r_t ?_ | refine r_nil ?_); conv => whnf) | fail)
 first | exact ⟨rfl, rfl⟩ | exact rfl
theorem impl_tick2 (m : Mate) (rate : Int) (b b1 b2 b3 b4 c1 c2 c3 c4 : Nat) (hr : inR rate 1 4 = true) (hl : m.fRuns.length ≤ 1048576) (hk : decide (IntKind.wrap .i64 (m.fClock + rate) > 1000000) = true) : XC Try.prog 85 [.lref 6 b [] 0, .int .i64 rate] ((6, b, m.O 31 32 33 34 b1 b2 b3 b4 c1 c2 c3 c4) :: m.L 31 32 33 34 b1 b2 b3 b4 c1 c2 c3 c4) (fun d ls => d = .nil ∧ ∃ bb cc, ls = [(6, b, fallF { m with fClock := 1000000 } bb (fallL true m.fRuns m.fRuns.length).length cc 47), (47, bb, .arr 11 ((fallL true m.fRuns m.fRuns.length).map MateRun.D) cc)]) := by
 have hr2 := rate_lo hr
 have hF := fallTF 6 { m with fClock := 1000000 } true b b1 b2 b3 b4 c1 c2 c3 c4 hl
 simp only [Mate.O] at hF
 refine XC.intro' hm [6, 47] rfl c85 (Nat.le_of_ble_eq_true rfl) ?_
 simp only [Mate.O, Mate.L]
 conv => whnf
 repeat' (first | (refine z_ld1 ?_; first | (refine z_ld rfl rfl rfl rfl au1 au2 ?_; conv => whnf) | (refine z_ld0 rfl ?_; conv => whnf)) | (refine z_st1 ?_; first | (refine z_st rfl rfl rfl au1 au2 rfl rfl ?_; conv => whnf) | (refine z_st0 ?_; conv => whnf)) | (refine z_op ?_ ?_; (focus exact rfl); conv => whnf) | (refine z_opg0 ?_; (conv => whnf); refine And.intro ?_ ?_; (focus exact rfl); conv => whnf) | (refine z_pick ?_ ?_; (focus exact rfl); conv => whnf) | (refine zs_ops ?_ ?_; (focus exact rfl)) | ((first | refine z_nil fun vals => ?_ | refine g_op ?_); conv => whnf) | (refine And.intro ?_ ?_; (focus exact au0); conv => whnf) | (refine g_seq ?_) | (refine XS.go ?_) | (refine g_ops ?_) | (refine g_nil ?_; conv => whnf) | (refine Br.t ?_ ?_; (focus (first | assumption | exact rfl)); conv => whnf) | (refine Br.f ?_ ?_; (focus (first | assumption | exact rfl)); conv => whnf) | ((first | refine g_cond ?_ | refine g_skip ?_); conv => whnf) | fail)
 refine XCL.of_XC (ls := [(6, b, .agg [.str m.fName, .bool m.fUp, .int .i64 1000000, .bool m.fKnown, .int .i64 m.fSeen, .lsl 31 b1 m.fWants.length c1, .lsl 32 b2 m.fRuns.length c2, .lsl 33 b3 m.fAsks.length c3, .lsl 34 b4 m.fGives.length c4]), (32, b2, .arr 11 (m.fRuns.map MateRun.D) c2)]) ⟨rfl, rfl, rfl, rfl, rfl, rfl, True.intro⟩ (hF.mono fun d ls h => ?_)
 obtain ⟨rfl, bb, cc, rfl⟩ := h
 conv => whnf
 repeat' (first | (refine g_op ?_; conv => whnf) | (refine And.intro ?_ ?_; (focus exact au0); conv => whnf) | (refine g_seq ?_) | (refine XS.go ?_) | (refine g_ops ?_) | ((first | refine g_nil ?_ | refine g_ret ?_ | refine r_t ?_ | refine r_nil ?_); conv => whnf) | fail)
 first | exact ⟨rfl, bb, cc, rfl⟩ | exact ⟨bb, cc, rfl⟩
theorem impl_tick3 (m : Mate) (rate : Int) (b b1 b2 b3 b4 c1 c2 c3 c4 : Nat) (hr : inR rate 1 4 = true) (hl : m.fRuns.length ≤ 1048576) (hk : decide (IntKind.wrap .i64 (m.fClock + rate) > 1000000) = false) (hu : m.fUp = false) : XC Try.prog 85 [.lref 6 b [] 0, .int .i64 rate] ((6, b, m.O 31 32 33 34 b1 b2 b3 b4 c1 c2 c3 c4) :: m.L 31 32 33 34 b1 b2 b3 b4 c1 c2 c3 c4) (fun d ls => d = .nil ∧ ∃ d2 e2, ls = (6, b, (tickX m rate).O 31 32 33 34 b1 d2 b3 b4 c1 e2 c3 c4) :: (tickX m rate).L 31 32 33 34 b1 d2 b3 b4 c1 e2 c3 c4) := by
 have hr2 := rate_lo hr
 have hu2 : (!m.fUp) = true := by rw [hu]; rfl
 have hW := wdogF 32 39 32 m.fRuns b2 c2 (IntKind.wrap .i64 (m.fClock + rate)) hl
 unfold tickX
 generalize (m.fRuns.map fun r => wdog r (IntKind.wrap .i64 (m.fClock + rate))) = ys at hW ⊢
 refine XC.intro' hm [6, 31, 32, 33, 34] rfl c85 (Nat.le_of_ble_eq_true rfl) ?_
 simp only [Mate.O, Mate.L]
 conv => whnf
 repeat' (first | (refine g_op ?_; conv => whnf) | (refine And.intro ?_ ?_; (focus exact au0); conv => whnf) | (refine g_seq ?_) | (refine g_ops ?_) | (refine g_nil ?_; conv => whnf) | fail)
 refine XS.go ?_
 conv => whnf
 repeat' (first | (refine z_op ?_ ?_; (focus exact rfl); conv => whnf) | (refine z_opg0 ?_; (conv => whnf); refine And.intro ?_ ?_; (focus exact rfl); conv => whnf) | (refine z_pick ?_ ?_; (focus exact rfl); conv => whnf) | (refine zs_ops ?_ ?_; (focus exact rfl)) | (refine z_nil fun vals => ?_; conv => whnf) | (refine And.intro ?_ ?_; (focus exact au0); conv => whnf) | (refine g_seq ?_) | fail)
 refine XS.go ?_
 conv => whnf
 repeat' (first | (refine Br.f ?_ ?_; (focus (first | assumption | exact rfl)); conv => whnf) | ((first | refine g_cond ?_ | refine g_skip ?_); conv => whnf) | fail)
 refine XS.go ?_
 conv => whnf
 repeat' (first | (refine z_ld1 ?_; first | (refine z_ld rfl rfl rfl rfl au1 au2 ?_; conv => whnf) | (refine z_ld0 rfl ?_; conv => whnf)) | (refine z_op ?_ ?_; (focus exact rfl); conv => whnf) | (refine zs_ops ?_ ?_; (focus exact rfl)) | (refine z_nil fun vals => ?_; conv => whnf) | (refine And.intro ?_ ?_; (focus exact au0); conv => whnf) | (refine g_seq ?_) | fail)
 refine XS.go ?_
 conv => whnf
 repeat' (first | (refine Br.f ?_ ?_; (focus (first | assumption | exact rfl)); conv => whnf) | ((first | refine g_cond ?_ | refine g_skip ?_); conv => whnf) | fail)
 refine XS.weakenA (fs := [.lref 6 b [] 0, .int .i64 rate]) (ls := [(6, .agg [.str m.fName, .bool m.fUp, .int .i64 m.fClock, .bool m.fKnown, .int .i64 m.fSeen, .lsl 31 b1 m.fWants.length c1, .lsl 32 b2 m.fRuns.length c2, .lsl 33 b3 m.fAsks.length c3, .lsl 34 b4 m.fGives.length c4]), (31, .arr 7 (m.fWants.map MateWant.D) c1), (32, .arr 11 (m.fRuns.map MateRun.D) c2), (33, .arr 4 (m.fAsks.map MateAsk.D) c3), (34, .arr 4 (m.fGives.map MateAsk.D) c4)]) ⟨?_, ?_⟩ ?_
 ·repeat' (first | exact True.intro | refine And.intro rfl ?_)
 ·exact ⟨rfl, rfl, rfl, rfl, rfl, True.intro⟩
 refine XS.go ?_
 conv => whnf
 repeat' (first | (refine z_ld1 ?_; first | (refine z_ld rfl rfl rfl rfl au1 au2 ?_; conv => whnf) | (refine z_ld0 rfl ?_; conv => whnf)) | (refine z_st1 ?_; first | (refine z_st rfl rfl rfl au1 au2 rfl rfl ?_; conv => whnf) | (refine z_st0 ?_; conv => whnf)) | (refine z_op ?_ ?_; (focus exact rfl); conv => whnf) | (refine zs_ops ?_ ?_; (focus exact rfl)) | (refine z_nil fun vals => ?_; conv => whnf) | (refine And.intro ?_ ?_; (focus exact au0); conv => whnf) | (refine g_seq ?_) | fail)
 refine XS.weakenA (fs := [.lref 6 b [] 0, .int .i64 rate]) (ls := [(6, .agg [.str m.fName, .bool m.fUp, .int .i64 (IntKind.wrap .i64 (m.fClock + rate)), .bool m.fKnown, .int .i64 m.fSeen, .lsl 31 b1 m.fWants.length c1, .lsl 32 b2 m.fRuns.length c2, .lsl 33 b3 m.fAsks.length c3, .lsl 34 b4 m.fGives.length c4]), (31, .arr 7 (m.fWants.map MateWant.D) c1), (32, .arr 11 (m.fRuns.map MateRun.D) c2), (33, .arr 4 (m.fAsks.map MateAsk.D) c3), (34, .arr 4 (m.fGives.map MateAsk.D) c4)]) ⟨?_, ?_⟩ ?_
 ·repeat' (first | exact True.intro | refine And.intro rfl ?_)
 ·exact ⟨rfl, rfl, rfl, rfl, rfl, True.intro⟩
 refine XS.go ?_
 conv => whnf
 repeat' (first | (refine And.intro ?_ ?_; (focus exact au0); conv => whnf) | (refine g_seq ?_) | (refine g_drawn ?_) | ((first | refine d_p ?_ | refine d_e ?_); conv => whnf) | fail)
 refine XCL.of_XC (ls := [(32, b2, .arr 11 (m.fRuns.map MateRun.D) c2)]) ⟨rfl, rfl, rfl, True.intro⟩ (hW.mono fun d ls h => ?_)
 obtain ⟨bw, cw, rfl, rfl⟩ := h
 conv => whnf
 repeat' (first | ((refine And.intro True.intro ?_; conv => whnf)) | (refine And.intro ?_ ?_; (focus exact au0); conv => whnf) | ((first | refine d_p ?_ | refine d_e ?_ | refine d_nil ?_); conv => whnf) | fail)
 refine XS.weakenA (fs := [.lref 6 b [] 0, .int .i64 rate]) (ls := [(6, .agg [.str m.fName, .bool m.fUp, .int .i64 (IntKind.wrap .i64 (m.fClock + rate)), .bool m.fKnown, .int .i64 m.fSeen, .lsl 31 b1 m.fWants.length c1, .lsl 32 bw ys.length cw, .lsl 33 b3 m.fAsks.length c3, .lsl 34 b4 m.fGives.length c4]), (31, .arr 7 (m.fWants.map MateWant.D) c1), (32, .arr 11 (ys.map MateRun.D) cw), (33, .arr 4 (m.fAsks.map MateAsk.D) c3), (34, .arr 4 (m.fGives.map MateAsk.D) c4)]) ⟨?_, ?_⟩ ?_
 ·repeat' (first | exact True.intro | refine And.intro rfl ?_)
 ·exact ⟨rfl, rfl, rfl, rfl, rfl, True.intro⟩
 refine XS.go ?_
 conv => whnf
 repeat' (first | (refine z_ld1 ?_; first | (refine z_ld rfl rfl rfl rfl au1 au2 ?_; conv => whnf) | (refine z_ld0 rfl ?_; conv => whnf)) | (refine z_op ?_ ?_; (focus exact rfl); conv => whnf) | (refine zs_ops ?_ ?_; (focus exact rfl)) | ((first | refine z_nil fun vals => ?_ | refine g_op ?_); conv => whnf) | (refine And.intro ?_ ?_; (focus exact au0); conv => whnf) | (refine g_seq ?_) | (refine XS.go ?_) | (refine g_ops ?_) | (refine g_nil ?_; conv => whnf) | (refine Br.t ?_ ?_; (focus (first | assumption | exact rfl)); conv => whnf) | ((first | refine g_cond ?_ | refine g_ret ?_ | refine r_t ?_ | refine r_nil ?_); conv => whnf) | fail)
 first | exact ⟨rfl, bw, cw, rfl⟩ | exact ⟨bw, cw, rfl⟩
end Go.Ab
