/- Steps towards the law: the machine, contracts of functions and facts of lists. -/
import Derived.Test.YtagleaabhljkfaaMateR
import Derived.Test.YtagleaabhljkfaaMateE
import Derived.Test.YtagleaabhljkfaaRows
set_option linter.unusedSimpArgs false
set_option linter.unusedVariables false
namespace Go.Ab
open Go Go.RowKit Go.Proofs
attribute [local irreducible] XC Rdr IntKind.wrap xw xos xqs xr xd
set_option maxRecDepth 100000
set_option maxHeartbeats 16000000
def cf84 : CF := ⟨20,[.c 2 9 true],(.seq (.ops [Oo 1 (.bx (.t 0)),Oo 2 (.al (.agg [.str ⟨#[]⟩,.bool false,.int .i64 0,.bool false,.int .i64 0,.nil,.nil,.nil,.nil]))]) (.seq (.ops [Of 3 5 1,Ol 4 3,Oo 5 (.app 7 72 (.k (.nil)) (.t 4)),Of 6 5 1,Os 1 6 5]) (.seq (.ops [Of 7 6 1,Ol 8 7,Oo 9 (.app 11 104 (.k (.nil)) (.t 8)),Of 10 6 1,Os 1 10 9]) (.seq (.ops [Of 11 7 1,Ol 12 11,Oo 13 (.app 4 48 (.k (.nil)) (.t 12)),Of 14 7 1,Os 1 14 13]) (.seq (.ops [Of 15 8 1,Ol 16 15,Oo 17 (.app 4 48 (.k (.nil)) (.t 16)),Of 18 8 1,Os 1 18 17]) (.seq (.ops [Od 19 9 1,Os 9 2 19]) .ret))))))⟩
theorem c84 : compileF Try.prog [] 84 = some cf84 := by kernel_rfl
def cf79 : CF := ⟨24,[.c 2 9 true],(.seq (.ops [Oo 1 (.bx (.t 0)),Oo 2 (.al (.agg [.str ⟨#[]⟩,.bool false,.int .i64 0,.bool false,.int .i64 0,.nil,.nil,.nil,.nil]))]) (.seq (.ops [Oo 3 (.bsl (.agg [.str ⟨#[]⟩,.int .i64 0,.str ⟨#[]⟩,.int .i64 0,.int .i64 0,.int .i64 0,.int .i64 0]) 0 []),Of 4 5 1,Ol 5 4,Oo 6 (.app 7 72 (.t 3) (.t 5)),Of 7 5 1,Os 1 7 6]) (.seq (.ops [Oo 8 (.bsl (.agg [.agg [.str ⟨#[]⟩,.int .i64 0,.str ⟨#[]⟩,.int .i64 0,.int .i64 0,.int .i64 0,.int .i64 0],.int .i64 0,.int .i64 0,.int .i64 0,.int .i64 0]) 0 []),Of 9 6 1,Ol 10 9,Oo 11 (.app 11 104 (.t 8) (.t 10)),Of 12 6 1,Os 1 12 11]) (.seq (.ops [Oo 13 (.bsl (.agg [.str ⟨#[]⟩,.str ⟨#[]⟩,.int .i64 0,.int .i64 0]) 0 []),Of 14 7 1,Ol 15 14,Oo 16 (.app 4 48 (.t 13) (.t 15)),Of 17 7 1,Os 1 17 16]) (.seq (.ops [Oo 18 (.bsl (.agg [.str ⟨#[]⟩,.str ⟨#[]⟩,.int .i64 0,.int .i64 0]) 0 []),Of 19 8 1,Ol 20 19,Oo 21 (.app 4 48 (.t 18) (.t 20)),Of 22 8 1,Os 1 22 21]) (.seq (.ops [Od 23 9 1,Os 9 2 23]) .ret))))))⟩
theorem c79 : compileF Try.prog [] 79 = some cf79 := by kernel_rfl
def cf41 : CF := ⟨22,[.t 4],(.seq (.ops [Oo 2 (.bx (.t 0)),Ok 4 (.int .i64 0)]) (.seq (.ops [Of 5 5 2,Ol 6 5,Om 7 1,Oc 8 87 [.t 6,.t 7],Om 1 8]) (.seq (.ops [Of 9 6 2,Ol 10 9,Om 11 1,Oc 12 33 [.t 10,.t 11],Om 1 12]) (.seq (.ops [Of 13 7 2,Ol 14 13,Om 15 1,Oc 16 88 [.t 14,.t 15],Om 1 16]) (.seq (.ops [Of 17 8 2,Ol 18 17,Om 19 1,Oc 20 88 [.t 18,.t 19],Om 1 20]) (.seq (.ops [Om 21 1,Om 4 21]) .ret))))))⟩
theorem c41 : compileF Try.prog [] 41 = some cf41 := by kernel_rfl
def cf43 : CF := ⟨30,[.t 4],(.seq (.ops [Oo 2 (.bx (.t 0)),Ok 4 (.int .i64 0)]) (.seq (.ops [Of 5 5 2,Ol 6 5,Om 7 1,Oc 8 89 [.t 6,.t 7],Om 1 8]) (.seq (.seq (.ops [Om 9 1,Oo 10 (.bin .lss (.t 9) (.k (.int .i64 0)))]) (.cond (.t 10) (.seq (.ops [Ok 4 (.int .i64 (-1))]) .ret) .skip)) (.seq (.ops [Of 11 6 2,Ol 12 11,Om 13 1,Oc 14 34 [.t 12,.t 13],Om 1 14]) (.seq (.seq (.ops [Om 15 1,Oo 16 (.bin .lss (.t 15) (.k (.int .i64 0)))]) (.cond (.t 16) (.seq (.ops [Ok 4 (.int .i64 (-1))]) .ret) .skip)) (.seq (.ops [Of 17 7 2,Ol 18 17,Om 19 1,Oc 20 90 [.t 18,.t 19],Om 1 20]) (.seq (.seq (.ops [Om 21 1,Oo 22 (.bin .lss (.t 21) (.k (.int .i64 0)))]) (.cond (.t 22) (.seq (.ops [Ok 4 (.int .i64 (-1))]) .ret) .skip)) (.seq (.ops [Of 23 8 2,Ol 24 23,Om 25 1,Oc 26 90 [.t 24,.t 25],Om 1 26]) (.seq (.seq (.ops [Om 27 1,Oo 28 (.bin .lss (.t 27) (.k (.int .i64 0)))]) (.cond (.t 28) (.seq (.ops [Ok 4 (.int .i64 (-1))]) .ret) .skip)) (.seq (.ops [Om 29 1,Om 4 29]) .ret))))))))))⟩
theorem c43 : compileF Try.prog [] 43 = some cf43 := by kernel_rfl
theorem tox_MateWantS (t : Nat) (l : List MateWant) (hs : l.length ≤ 1048576 ∧ ∀ y ∈ l, y.small) : XC Try.prog 20 [.ro 7 (l.map MateWant.D)] [] (fun d ls => ∃ b, d = .lsl t b l.length l.length ∧ ls = [(t, b, .arr 7 (l.map MateWant.D) l.length)]) := by
 have h := toS_xc hm c20 (zs := [.str ⟨#[]⟩, .int .i64 0, .str ⟨#[]⟩, .int .i64 0, .int .i64 0, .int .i64 0, .int .i64 0]) (ds := l.map MateWant.D) rfl (by decide) (by decide) (by simpa using hs.1) (fun d hd => by obtain ⟨x, hx, rfl⟩ := List.mem_map.1 hd; exact ⟨_, rfl, rfl, to_MateWant x (hs.2 x hx)⟩)
 rw [List.length_map] at h
 refine h.ren (fun _ _ _ h => h) rfl (fun d ls ⟨b, h1, h2⟩ => ?_)
 subst h1 h2
 exact ⟨_, _, ⟨b, rfl, rfl⟩, fun _ _ _ h => HolL.ren rfl h, fun _ _ _ h => h⟩
theorem markx_MateWantS (s : Nat) (xs : List MateWant) (b0 c0 : Nat) (k : Int) (hk : 1 ≤ k) (hl : xs.length ≤ 1048576) (hB : k + (7 * xs.length : Nat) ≤ 50000000) : XC Try.prog 87 [.lsl s b0 xs.length c0, .int .i64 k] [(s, b0, .arr 7 (xs.map MateWant.D) c0)] (fun d ls => d = .int .i64 (k + (7 * xs.length : Nat)) ∧ ls = [(s, b0, .arr 7 ((mkS mk_MateWant 7 xs k).map MateWant.D) c0)]) := by
 refine (mark_MateWantS xs b0 c0 k hk hl hB).ren (fun _ _ _ h => h) rfl (fun d ls ⟨h1, h2⟩ => ?_)
 subst h1 h2
 exact ⟨_, _, ⟨rfl, rfl⟩, fun _ _ _ h => HolL.ren rfl h, fun _ _ _ h => h⟩
theorem tox_MateRunS (t : Nat) (l : List MateRun) (hs : l.length ≤ 1048576 ∧ ∀ y ∈ l, y.small) : XC Try.prog 25 [.ro 11 (l.map MateRun.D)] [] (fun d ls => ∃ b, d = .lsl t b l.length l.length ∧ ls = [(t, b, .arr 11 (l.map MateRun.D) l.length)]) := by
 have h := toS_xc hm c25 (zs := [.agg [.str ⟨#[]⟩, .int .i64 0, .str ⟨#[]⟩, .int .i64 0, .int .i64 0, .int .i64 0, .int .i64 0], .int .i64 0, .int .i64 0, .int .i64 0, .int .i64 0]) (ds := l.map MateRun.D) rfl (by decide) (by decide) (by simpa using hs.1) (fun d hd => by obtain ⟨x, hx, rfl⟩ := List.mem_map.1 hd; exact ⟨_, rfl, rfl, to_MateRun x (hs.2 x hx)⟩)
 rw [List.length_map] at h
 refine h.ren (fun _ _ _ h => h) rfl (fun d ls ⟨b, h1, h2⟩ => ?_)
 subst h1 h2
 exact ⟨_, _, ⟨b, rfl, rfl⟩, fun _ _ _ h => HolL.ren rfl h, fun _ _ _ h => h⟩
theorem markx_MateRunS (s : Nat) (xs : List MateRun) (b0 c0 : Nat) (k : Int) (hk : 1 ≤ k) (hl : xs.length ≤ 1048576) (hB : k + (11 * xs.length : Nat) ≤ 50000000) : XC Try.prog 33 [.lsl s b0 xs.length c0, .int .i64 k] [(s, b0, .arr 11 (xs.map MateRun.D) c0)] (fun d ls => d = .int .i64 (k + (11 * xs.length : Nat)) ∧ ls = [(s, b0, .arr 11 ((mkS mk_MateRun 11 xs k).map MateRun.D) c0)]) := by
 refine (mark_MateRunS xs b0 c0 k hk hl hB).ren (fun _ _ _ h => h) rfl (fun d ls ⟨h1, h2⟩ => ?_)
 subst h1 h2
 exact ⟨_, _, ⟨rfl, rfl⟩, fun _ _ _ h => HolL.ren rfl h, fun _ _ _ h => h⟩
theorem tox_MateAskS (t : Nat) (l : List MateAsk) (hs : l.length ≤ 1048576 ∧ ∀ y ∈ l, y.small) : XC Try.prog 83 [.ro 4 (l.map MateAsk.D)] [] (fun d ls => ∃ b, d = .lsl t b l.length l.length ∧ ls = [(t, b, .arr 4 (l.map MateAsk.D) l.length)]) := by
 have h := toS_xc hm c83 (zs := [.str ⟨#[]⟩, .str ⟨#[]⟩, .int .i64 0, .int .i64 0]) (ds := l.map MateAsk.D) rfl (by decide) (by decide) (by simpa using hs.1) (fun d hd => by obtain ⟨x, hx, rfl⟩ := List.mem_map.1 hd; exact ⟨_, rfl, rfl, to_MateAsk x (hs.2 x hx)⟩)
 rw [List.length_map] at h
 refine h.ren (fun _ _ _ h => h) rfl (fun d ls ⟨b, h1, h2⟩ => ?_)
 subst h1 h2
 exact ⟨_, _, ⟨b, rfl, rfl⟩, fun _ _ _ h => HolL.ren rfl h, fun _ _ _ h => h⟩
theorem markx_MateAskS (s : Nat) (xs : List MateAsk) (b0 c0 : Nat) (k : Int) (hk : 1 ≤ k) (hl : xs.length ≤ 1048576) (hB : k + (4 * xs.length : Nat) ≤ 50000000) : XC Try.prog 88 [.lsl s b0 xs.length c0, .int .i64 k] [(s, b0, .arr 4 (xs.map MateAsk.D) c0)] (fun d ls => d = .int .i64 (k + (4 * xs.length : Nat)) ∧ ls = [(s, b0, .arr 4 ((mkS mk_MateAsk 4 xs k).map MateAsk.D) c0)]) := by
 refine (mark_MateAskS xs b0 c0 k hk hl hB).ren (fun _ _ _ h => h) rfl (fun d ls ⟨h1, h2⟩ => ?_)
 subst h1 h2
 exact ⟨_, _, ⟨rfl, rfl⟩, fun _ _ _ h => HolL.ren rfl h, fun _ _ _ h => h⟩
def Mate.O (x : Mate) (s1 s2 s3 s4 b1 b2 b3 b4 c1 c2 c3 c4 : Nat) : Go.Ab.D := .agg [.str x.fName, .bool x.fUp, .int .i64 x.fClock, .bool x.fKnown, .int .i64 x.fSeen, .lsl s1 b1 x.fWants.length c1, .lsl s2 b2 x.fRuns.length c2, .lsl s3 b3 x.fAsks.length c3, .lsl s4 b4 x.fGives.length c4]
def Mate.L (x : Mate) (s1 s2 s3 s4 b1 b2 b3 b4 c1 c2 c3 c4 : Nat) : List Go.Ab.Loan := [(s1, b1, .arr 7 (x.fWants.map MateWant.D) c1), (s2, b2, .arr 11 (x.fRuns.map MateRun.D) c2), (s3, b3, .arr 4 (x.fAsks.map MateAsk.D) c3), (s4, b4, .arr 4 (x.fGives.map MateAsk.D) c4)]
theorem tox_Mate0 (x : Mate) (hs : x.small) : XC Try.prog 37 [x.D] [] (fun d ls => ∃ b1 b2 b3 b4, d = x.O 31 32 33 34 b1 b2 b3 b4 x.fWants.length x.fRuns.length x.fAsks.length x.fGives.length ∧ ls = x.L 31 32 33 34 b1 b2 b3 b4 x.fWants.length x.fRuns.length x.fAsks.length x.fGives.length) := by
 refine XC.intro' hm [31, 32, 33, 34] rfl c37 (Nat.le_of_ble_eq_true rfl) ?_
 conv => whnf
 repeat' (first | (refine g_op ?_; conv => whnf) | (refine And.intro ?_ ?_; (focus exact au0); conv => whnf) | (refine g_seq ?_) | (refine XS.go ?_) | (refine g_ops ?_) | ((first | refine g_nil ?_ | refine fun _ => ?_); conv => whnf) | fail)
 refine XCL.of_XC (ls := []) True.intro ((tox_MateWantS 31 x.fWants hs.fWants).mono fun d ls h => ?_)
 obtain ⟨b1, rfl, rfl⟩ := h
 conv => whnf
 repeat' (first | (refine g_op ?_; conv => whnf) | (refine And.intro ?_ ?_; (focus exact au0); conv => whnf) | (refine g_seq ?_) | (refine XS.go ?_) | (refine g_ops ?_) | (refine g_nil ?_; conv => whnf) | fail)
 refine XCL.of_XC (ls := []) True.intro ((tox_MateRunS 32 x.fRuns hs.fRuns).mono fun d ls h => ?_)
 obtain ⟨b2, rfl, rfl⟩ := h
 conv => whnf
 repeat' (first | (refine g_op ?_; conv => whnf) | (refine And.intro ?_ ?_; (focus exact au0); conv => whnf) | (refine g_seq ?_) | (refine XS.go ?_) | (refine g_ops ?_) | (refine g_nil ?_; conv => whnf) | fail)
 refine XCL.of_XC (ls := []) True.intro ((tox_MateAskS 33 x.fAsks hs.fAsks).mono fun d ls h => ?_)
 obtain ⟨b3, rfl, rfl⟩ := h
 conv => whnf
 repeat' (first | (refine g_op ?_; conv => whnf) | (refine And.intro ?_ ?_; (focus exact au0); conv => whnf) | (refine g_seq ?_) | (refine XS.go ?_) | (refine g_ops ?_) | (refine g_nil ?_; conv => whnf) | fail)
 refine XCL.of_XC (ls := []) True.intro ((tox_MateAskS 34 x.fGives hs.fGives).mono fun d ls h => ?_)
 obtain ⟨b4, rfl, rfl⟩ := h
 conv => whnf
 repeat' (first | (refine g_op ?_; conv => whnf) | (refine And.intro ?_ ?_; (focus exact au0); conv => whnf) | (refine g_seq ?_) | (refine XS.go ?_) | (refine g_ops ?_) | ((first | refine g_nil ?_ | refine g_ret ?_ | refine r_c ?_ | refine r_nil ?_); conv => whnf) | fail)
 exact ⟨b1, b2, b3, b4, rfl, rfl⟩
theorem Bor.mateO {st : St} {x : Mate} {s1 s2 s3 s4 b1 b2 b3 b4 c1 c2 c3 c4 k1 k2 k3 k4 : Nat} (h1 : st.lc s1 = some (.arr 7 (x.fWants.map MateWant.D) k1)) (h2 : st.lc s2 = some (.arr 11 (x.fRuns.map MateRun.D) k2)) (h3 : st.lc s3 = some (.arr 4 (x.fAsks.map MateAsk.D) k3)) (h4 : st.lc s4 = some (.arr 4 (x.fGives.map MateAsk.D) k4))
  (g1 : st.gen s1 = b1) (g2 : st.gen s2 = b2) (g3 : st.gen s3 = b3) (g4 : st.gen s4 = b4) : Bor st (x.O s1 s2 s3 s4 b1 b2 b3 b4 c1 c2 c3 c4) x.D :=
 Bor.agg (.cons (Bor.refl _ _) (.cons (Bor.refl _ _) (.cons (Bor.refl _ _) (.cons (Bor.refl _ _) (.cons (Bor.refl _ _) (.cons (Bor.rowM h1 g1 rfl (fun _ => rfl)) (.cons (Bor.rowM h2 g2 rfl (fun _ => rfl)) (.cons (Bor.rowM h3 g3 rfl (fun _ => rfl)) (.cons (Bor.rowM h4 g4 rfl (fun _ => rfl)) .nil))))))))) rfl rfl rfl
def mateZ : D := .agg [.str ⟨#[]⟩, .bool false, .int .i64 0, .bool false, .int .i64 0, .nil, .nil, .nil, .nil]
theorem mateZ_ro (U : Nat → Prop) (w : World) (v : Value) (h : RelV U w mateZ v) : RelV U w (default : Mate).D v :=
 RelV.aggImp (RelF.imp (fun _ h => h) (RelF.imp (fun _ h => h) (RelF.imp (fun _ h => h) (RelF.imp (fun _ h => h) (RelF.imp (fun _ h => h) (RelF.imp (fun _ h => nil_ro h) (RelF.imp (fun _ h => nil_ro h) (RelF.imp (fun _ h => nil_ro h) (RelF.imp (fun _ h => nil_ro h) (fun _ h => h)))))))))) v h
theorem mateZ_own (s1 s2 s3 s4 : Nat) (U : Nat → Prop) (w : World) (v : Value) (h : RelV U w mateZ v) : RelV U w ((default : Mate).O s1 s2 s3 s4 0 0 0 0 0 0 0 0) v :=
 RelV.aggImp (RelF.imp (fun _ h => h) (RelF.imp (fun _ h => h) (RelF.imp (fun _ h => h) (RelF.imp (fun _ h => h) (RelF.imp (fun _ h => h) (RelF.imp (fun _ h => nil_lsl h) (RelF.imp (fun _ h => nil_lsl h) (RelF.imp (fun _ h => nil_lsl h) (RelF.imp (fun _ h => nil_lsl h) (fun _ h => h)))))))))) v h
theorem mateZ_hol (s1 s2 s3 s4 : Nat) (U : Nat → Prop) (w : World) : HolL U w ((default : Mate).L s1 s2 s3 s4 0 0 0 0 0 0 0 0) [] :=
 .snil _ _ _ (.snil _ _ _ (.snil _ _ _ (.snil _ _ _ rfl)))
end Go.Ab
