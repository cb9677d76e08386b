/- Steps towards the law: contracts of functions and facts of lists. -/
import Derived.Test.YtjajdgljjompgaaPiloMR
import Derived.Test.YtjajdgljjompgaaPiloME
import Derived.Test.YtjajdgljjompgaaAb11
import Derived.Test.YtjajdgljjompgaaRows
set_option linter.unusedSimpArgs false
set_option linter.unusedVariables false
namespace Go.Ab
open Go Go.RowKit Go.Proofs
attribute [local irreducible] XC Rdr IntKind.wrap xw xos xqs xr xd
set_option maxRecDepth 100000

/-- laws.markMate -/
def cf26 : CF := ⟨22, [.t 4],
  (.seq (.ops [⟨some 2, .bx (.t 0), none⟩,
    ⟨some 4, .mv (.k (.int .i64 0)), none⟩])
  (.seq (.ops [⟨some 5, .fa 5 1 5 (.t 2), none⟩,
    ⟨some 6, .ld 1 false (.t 5), none⟩,
    ⟨some 7, .mv (.t 1), none⟩,
    ⟨some 8, .call 54 [(.t 6), (.t 7)], none⟩,
    ⟨some 1, .mv (.t 8), none⟩])
  (.seq (.ops [⟨some 9, .fa 6 1 6 (.t 2), none⟩,
    ⟨some 10, .ld 1 false (.t 9), none⟩,
    ⟨some 11, .mv (.t 1), none⟩,
    ⟨some 12, .call 55 [(.t 10), (.t 11)], none⟩,
    ⟨some 1, .mv (.t 12), none⟩])
  (.seq (.ops [⟨some 13, .fa 7 1 7 (.t 2), none⟩,
    ⟨some 14, .ld 1 false (.t 13), none⟩,
    ⟨some 15, .mv (.t 1), none⟩,
    ⟨some 16, .call 56 [(.t 14), (.t 15)], none⟩,
    ⟨some 1, .mv (.t 16), none⟩])
  (.seq (.ops [⟨some 17, .fa 8 1 8 (.t 2), none⟩,
    ⟨some 18, .ld 1 false (.t 17), none⟩,
    ⟨some 19, .mv (.t 1), none⟩,
    ⟨some 20, .call 56 [(.t 18), (.t 19)], none⟩,
    ⟨some 1, .mv (.t 20), none⟩])
  (.seq (.ops [⟨some 21, .mv (.t 1), none⟩,
    ⟨some 4, .mv (.t 21), none⟩])
  .ret))))))⟩
theorem c26 : compileF Try.prog [] 26 = some cf26 := by kernel_rfl
theorem tox_MateWantS (t : Nat) (l : List MateWant) (hs : l.length ≤ 1048576 ∧ ∀ y ∈ l, y.small) : XC Try.prog 45 [.ro 7 (l.map MateWant.D)] [] (fun d ls => ∃ b, d = .lsl t b l.length l.length ∧ ls = [(t, b, .arr 7 (l.map MateWant.D) l.length)]) := by
  have h := toS_xc hm c45 (zs := [.str ⟨#[]⟩, .int .i64 0, .str ⟨#[]⟩, .int .i64 0, .int .i64 0, .int .i64 0, .int .i64 0]) (ds := l.map MateWant.D) rfl (by decide) (by decide) (by simpa using hs.1) (fun d hd => by obtain ⟨x, hx, rfl⟩ := List.mem_map.1 hd; exact ⟨_, rfl, rfl, to_MateWant x (hs.2 x hx)⟩)
  rw [List.length_map] at h
  refine h.ren (fun _ _ _ h => h) rfl (fun d ls ⟨b, h1, h2⟩ => ?_)
  subst h1 h2
  exact ⟨_, _, ⟨b, rfl, rfl⟩, fun _ _ _ h => HolL.ren rfl h, fun _ _ _ h => h⟩
theorem markx_MateWantS (s : Nat) (xs : List MateWant) (b0 c0 : Nat) (k : Int) (hk : 1 ≤ k) (hl : xs.length ≤ 1048576) (hB : k + (7 * xs.length : Nat) ≤ 50000000) : XC Try.prog 54 [.lsl s b0 xs.length c0, .int .i64 k] [(s, b0, .arr 7 (xs.map MateWant.D) c0)] (fun d ls => d = .int .i64 (k + (7 * xs.length : Nat)) ∧ ls = [(s, b0, .arr 7 ((mkS mk_MateWant 7 xs k).map MateWant.D) c0)]) := by
  refine (mark_MateWantS xs b0 c0 k hk hl hB).ren (fun _ _ _ h => h) rfl (fun d ls ⟨h1, h2⟩ => ?_)
  subst h1 h2
  exact ⟨_, _, ⟨rfl, rfl⟩, fun _ _ _ h => HolL.ren rfl h, fun _ _ _ h => h⟩
theorem tox_MateRunS (t : Nat) (l : List MateRun) (hs : l.length ≤ 1048576 ∧ ∀ y ∈ l, y.small) : XC Try.prog 46 [.ro 11 (l.map MateRun.D)] [] (fun d ls => ∃ b, d = .lsl t b l.length l.length ∧ ls = [(t, b, .arr 11 (l.map MateRun.D) l.length)]) := by
  have h := toS_xc hm c46 (zs := [.agg [.str ⟨#[]⟩, .int .i64 0, .str ⟨#[]⟩, .int .i64 0, .int .i64 0, .int .i64 0, .int .i64 0], .int .i64 0, .int .i64 0, .int .i64 0, .int .i64 0]) (ds := l.map MateRun.D) rfl (by decide) (by decide) (by simpa using hs.1) (fun d hd => by obtain ⟨x, hx, rfl⟩ := List.mem_map.1 hd; exact ⟨_, rfl, rfl, to_MateRun x (hs.2 x hx)⟩)
  rw [List.length_map] at h
  refine h.ren (fun _ _ _ h => h) rfl (fun d ls ⟨b, h1, h2⟩ => ?_)
  subst h1 h2
  exact ⟨_, _, ⟨b, rfl, rfl⟩, fun _ _ _ h => HolL.ren rfl h, fun _ _ _ h => h⟩
theorem markx_MateRunS (s : Nat) (xs : List MateRun) (b0 c0 : Nat) (k : Int) (hk : 1 ≤ k) (hl : xs.length ≤ 1048576) (hB : k + (11 * xs.length : Nat) ≤ 50000000) : XC Try.prog 55 [.lsl s b0 xs.length c0, .int .i64 k] [(s, b0, .arr 11 (xs.map MateRun.D) c0)] (fun d ls => d = .int .i64 (k + (11 * xs.length : Nat)) ∧ ls = [(s, b0, .arr 11 ((mkS mk_MateRun 11 xs k).map MateRun.D) c0)]) := by
  refine (mark_MateRunS xs b0 c0 k hk hl hB).ren (fun _ _ _ h => h) rfl (fun d ls ⟨h1, h2⟩ => ?_)
  subst h1 h2
  exact ⟨_, _, ⟨rfl, rfl⟩, fun _ _ _ h => HolL.ren rfl h, fun _ _ _ h => h⟩
theorem tox_MateAskS (t : Nat) (l : List MateAsk) (hs : l.length ≤ 1048576 ∧ ∀ y ∈ l, y.small) : XC Try.prog 47 [.ro 4 (l.map MateAsk.D)] [] (fun d ls => ∃ b, d = .lsl t b l.length l.length ∧ ls = [(t, b, .arr 4 (l.map MateAsk.D) l.length)]) := by
  have h := toS_xc hm c47 (zs := [.str ⟨#[]⟩, .str ⟨#[]⟩, .int .i64 0, .int .i64 0]) (ds := l.map MateAsk.D) rfl (by decide) (by decide) (by simpa using hs.1) (fun d hd => by obtain ⟨x, hx, rfl⟩ := List.mem_map.1 hd; exact ⟨_, rfl, rfl, to_MateAsk x (hs.2 x hx)⟩)
  rw [List.length_map] at h
  refine h.ren (fun _ _ _ h => h) rfl (fun d ls ⟨b, h1, h2⟩ => ?_)
  subst h1 h2
  exact ⟨_, _, ⟨b, rfl, rfl⟩, fun _ _ _ h => HolL.ren rfl h, fun _ _ _ h => h⟩
theorem markx_MateAskS (s : Nat) (xs : List MateAsk) (b0 c0 : Nat) (k : Int) (hk : 1 ≤ k) (hl : xs.length ≤ 1048576) (hB : k + (4 * xs.length : Nat) ≤ 50000000) : XC Try.prog 56 [.lsl s b0 xs.length c0, .int .i64 k] [(s, b0, .arr 4 (xs.map MateAsk.D) c0)] (fun d ls => d = .int .i64 (k + (4 * xs.length : Nat)) ∧ ls = [(s, b0, .arr 4 ((mkS mk_MateAsk 4 xs k).map MateAsk.D) c0)]) := by
  refine (mark_MateAskS xs b0 c0 k hk hl hB).ren (fun _ _ _ h => h) rfl (fun d ls ⟨h1, h2⟩ => ?_)
  subst h1 h2
  exact ⟨_, _, ⟨rfl, rfl⟩, fun _ _ _ h => HolL.ren rfl h, fun _ _ _ h => h⟩
def Mate.O (x : Mate) (s1 s2 s3 s4 b1 b2 b3 b4 c1 c2 c3 c4 : Nat) : Go.Ab.D := .agg [.str x.fName, .bool x.fUp, .int .i64 x.fClock, .bool x.fKnown, .int .i64 x.fSeen, .lsl s1 b1 x.fWants.length c1, .lsl s2 b2 x.fRuns.length c2, .lsl s3 b3 x.fAsks.length c3, .lsl s4 b4 x.fGives.length c4]
def Mate.L (x : Mate) (s1 s2 s3 s4 b1 b2 b3 b4 c1 c2 c3 c4 : Nat) : List Go.Ab.Loan := [(s1, b1, .arr 7 (x.fWants.map MateWant.D) c1), (s2, b2, .arr 11 (x.fRuns.map MateRun.D) c2), (s3, b3, .arr 4 (x.fAsks.map MateAsk.D) c3), (s4, b4, .arr 4 (x.fGives.map MateAsk.D) c4)]
set_option maxHeartbeats 4000000 in
theorem tox_Mate0 (x : Mate) (hs : x.small) : XC Try.prog 22 [x.D] [] (fun d ls => ∃ b1 b2 b3 b4, d = x.O 31 32 33 34 b1 b2 b3 b4 x.fWants.length x.fRuns.length x.fAsks.length x.fGives.length ∧ ls = x.L 31 32 33 34 b1 b2 b3 b4 x.fWants.length x.fRuns.length x.fAsks.length x.fGives.length) := by
  refine XC.intro' hm [31, 32, 33, 34] rfl c22 (Nat.le_of_ble_eq_true rfl) ?_
  conv => whnf
  repeat' (first | (refine g_op ?_; conv => whnf) | (refine And.intro ?_ ?_; (focus (first | exact rfl | exact Nat.le_of_ble_eq_true rfl | decide | omega | fail)); conv => whnf) | (refine g_seq ?_) | (refine XS.go ?_) | (refine g_ops ?_) | (refine g_nil ?_; conv => whnf) | (refine fun _ => ?_; conv => whnf) | fail)
  refine XCL.of_XC (ls := []) True.intro ((tox_MateWantS 31 x.fWants hs.fWants).mono fun d ls h => ?_)
  obtain ⟨b1, rfl, rfl⟩ := h
  conv => whnf
  repeat' (first | (refine g_op ?_; conv => whnf) | (refine And.intro ?_ ?_; (focus (first | exact rfl | exact Nat.le_of_ble_eq_true rfl | decide | omega | fail)); conv => whnf) | (refine g_seq ?_) | (refine XS.go ?_) | (refine g_ops ?_) | (refine g_nil ?_; conv => whnf) | fail)
  refine XCL.of_XC (ls := []) True.intro ((tox_MateRunS 32 x.fRuns hs.fRuns).mono fun d ls h => ?_)
  obtain ⟨b2, rfl, rfl⟩ := h
  conv => whnf
  repeat' (first | (refine g_op ?_; conv => whnf) | (refine And.intro ?_ ?_; (focus (first | exact rfl | exact Nat.le_of_ble_eq_true rfl | decide | omega | fail)); conv => whnf) | (refine g_seq ?_) | (refine XS.go ?_) | (refine g_ops ?_) | (refine g_nil ?_; conv => whnf) | fail)
  refine XCL.of_XC (ls := []) True.intro ((tox_MateAskS 33 x.fAsks hs.fAsks).mono fun d ls h => ?_)
  obtain ⟨b3, rfl, rfl⟩ := h
  conv => whnf
  repeat' (first | (refine g_op ?_; conv => whnf) | (refine And.intro ?_ ?_; (focus (first | exact rfl | exact Nat.le_of_ble_eq_true rfl | decide | omega | fail)); conv => whnf) | (refine g_seq ?_) | (refine XS.go ?_) | (refine g_ops ?_) | (refine g_nil ?_; conv => whnf) | fail)
  refine XCL.of_XC (ls := []) True.intro ((tox_MateAskS 34 x.fGives hs.fGives).mono fun d ls h => ?_)
  obtain ⟨b4, rfl, rfl⟩ := h
  conv => whnf
  repeat' (first | (refine g_op ?_; conv => whnf) | (refine And.intro ?_ ?_; (focus (first | exact rfl | exact Nat.le_of_ble_eq_true rfl | decide | omega | fail)); conv => whnf) | (refine g_seq ?_) | (refine XS.go ?_) | (refine g_ops ?_) | (refine g_nil ?_; conv => whnf) | (refine g_ret ?_; conv => whnf) | (refine r_c ?_; conv => whnf) | (refine r_nil ?_; conv => whnf) | fail)
  exact ⟨b1, b2, b3, b4, rfl, rfl⟩
theorem Bor.mateO {st : St} {x : Mate} {s1 s2 s3 s4 b1 b2 b3 b4 c1 c2 c3 c4 k1 k2 k3 k4 : Nat} (h1 : st.lc s1 = some (.arr 7 (x.fWants.map MateWant.D) k1)) (h2 : st.lc s2 = some (.arr 11 (x.fRuns.map MateRun.D) k2)) (h3 : st.lc s3 = some (.arr 4 (x.fAsks.map MateAsk.D) k3)) (h4 : st.lc s4 = some (.arr 4 (x.fGives.map MateAsk.D) k4))
    (g1 : st.gen s1 = b1) (g2 : st.gen s2 = b2) (g3 : st.gen s3 = b3) (g4 : st.gen s4 = b4) : Bor st (x.O s1 s2 s3 s4 b1 b2 b3 b4 c1 c2 c3 c4) x.D :=
  Bor.agg (.cons (Bor.refl _ _) (.cons (Bor.refl _ _) (.cons (Bor.refl _ _) (.cons (Bor.refl _ _) (.cons (Bor.refl _ _) (.cons (Bor.rowM h1 g1 rfl (fun _ => rfl)) (.cons (Bor.rowM h2 g2 rfl (fun _ => rfl)) (.cons (Bor.rowM h3 g3 rfl (fun _ => rfl)) (.cons (Bor.rowM h4 g4 rfl (fun _ => rfl)) .nil))))))))) rfl rfl rfl
def mkM (x : Mate) (k : Int) : Mate := { x with fWants := mkS mk_MateWant 7 x.fWants k, fRuns := mkS mk_MateRun 11 x.fRuns (k + (7 * x.fWants.length : Nat)), fAsks := mkS mk_MateAsk 4 x.fAsks ((k + (7 * x.fWants.length : Nat)) + (11 * x.fRuns.length : Nat)), fGives := mkS mk_MateAsk 4 x.fGives (((k + (7 * x.fWants.length : Nat)) + (11 * x.fRuns.length : Nat)) + (4 * x.fAsks.length : Nat)) }
def mkMK (x : Mate) (k : Int) : Int := ((((k + (7 * x.fWants.length : Nat)) + (11 * x.fRuns.length : Nat)) + (4 * x.fAsks.length : Nat)) + (4 * x.fGives.length : Nat))
set_option maxHeartbeats 4000000 in
theorem mark_Mate0 (x : Mate) (b1 b2 b3 b4 c1 c2 c3 c4 : Nat) (k : Int) (hk : 1 ≤ k) (hs : x.small) (hB : mkMK x k ≤ 50000000) : XC Try.prog 26 [x.O 31 32 33 34 b1 b2 b3 b4 c1 c2 c3 c4, .int .i64 k] (x.L 31 32 33 34 b1 b2 b3 b4 c1 c2 c3 c4) (fun d ls => d = .int .i64 (mkMK x k) ∧ ls = (mkM x k).L 31 32 33 34 b1 b2 b3 b4 c1 c2 c3 c4) := by
  have l1 := hs.fWants.1
  have l2 := hs.fRuns.1
  have l3 := hs.fAsks.1
  have l4 := hs.fGives.1
  unfold mkMK at hB
  refine XC.intro' hm [31, 32, 33, 34] rfl c26 (Nat.le_of_ble_eq_true rfl) ?_
  conv => whnf
  repeat' (first | (refine g_op ?_; conv => whnf) | (refine And.intro ?_ ?_; (focus (first | exact rfl | exact Nat.le_of_ble_eq_true rfl | decide | omega | fail)); conv => whnf) | (refine g_seq ?_) | (refine XS.go ?_) | (refine g_ops ?_) | (refine g_nil ?_; conv => whnf) | (refine fun _ => ?_; conv => whnf) | fail)
  refine XCL.of_XC (ls := [(31, b1, .arr 7 (x.fWants.map MateWant.D) c1)]) ⟨rfl, rfl, rfl, True.intro⟩ ((markx_MateWantS 31 x.fWants b1 c1 k (by omega) l1 (by omega)).mono fun d ls h => ?_)
  obtain ⟨rfl, rfl⟩ := h
  conv => whnf
  repeat' (first | (refine g_op ?_; conv => whnf) | (refine And.intro ?_ ?_; (focus (first | exact rfl | exact Nat.le_of_ble_eq_true rfl | decide | omega | fail)); conv => whnf) | (refine g_seq ?_) | (refine XS.go ?_) | (refine g_ops ?_) | (refine g_nil ?_; conv => whnf) | fail)
  refine XCL.of_XC (ls := [(32, b2, .arr 11 (x.fRuns.map MateRun.D) c2)]) ⟨rfl, rfl, rfl, True.intro⟩ ((markx_MateRunS 32 x.fRuns b2 c2 (k + (7 * x.fWants.length : Nat)) (by omega) l2 (by omega)).mono fun d ls h => ?_)
  obtain ⟨rfl, rfl⟩ := h
  conv => whnf
  repeat' (first | (refine g_op ?_; conv => whnf) | (refine And.intro ?_ ?_; (focus (first | exact rfl | exact Nat.le_of_ble_eq_true rfl | decide | omega | fail)); conv => whnf) | (refine g_seq ?_) | (refine XS.go ?_) | (refine g_ops ?_) | (refine g_nil ?_; conv => whnf) | fail)
  refine XCL.of_XC (ls := [(33, b3, .arr 4 (x.fAsks.map MateAsk.D) c3)]) ⟨rfl, rfl, rfl, True.intro⟩ ((markx_MateAskS 33 x.fAsks b3 c3 ((k + (7 * x.fWants.length : Nat)) + (11 * x.fRuns.length : Nat)) (by omega) l3 (by omega)).mono fun d ls h => ?_)
  obtain ⟨rfl, rfl⟩ := h
  conv => whnf
  repeat' (first | (refine g_op ?_; conv => whnf) | (refine And.intro ?_ ?_; (focus (first | exact rfl | exact Nat.le_of_ble_eq_true rfl | decide | omega | fail)); conv => whnf) | (refine g_seq ?_) | (refine XS.go ?_) | (refine g_ops ?_) | (refine g_nil ?_; conv => whnf) | fail)
  refine XCL.of_XC (ls := [(34, b4, .arr 4 (x.fGives.map MateAsk.D) c4)]) ⟨rfl, rfl, rfl, True.intro⟩ ((markx_MateAskS 34 x.fGives b4 c4 (((k + (7 * x.fWants.length : Nat)) + (11 * x.fRuns.length : Nat)) + (4 * x.fAsks.length : Nat)) (by omega) l4 (by omega)).mono fun d ls h => ?_)
  obtain ⟨rfl, rfl⟩ := h
  conv => whnf
  repeat' (first | (refine g_op ?_; conv => whnf) | (refine And.intro ?_ ?_; (focus (first | exact rfl | exact Nat.le_of_ble_eq_true rfl | decide | omega | fail)); conv => whnf) | (refine g_seq ?_) | (refine XS.go ?_) | (refine g_ops ?_) | (refine g_nil ?_; conv => whnf) | (refine g_ret ?_; conv => whnf) | (refine r_t ?_; conv => whnf) | (refine r_nil ?_; conv => whnf) | fail)
  first | exact ⟨rfl, rfl⟩ | exact rfl
theorem mark_MateG (s1 s2 s3 s4 : Nat) (x : Mate) (b1 b2 b3 b4 c1 c2 c3 c4 : Nat) (k : Int) (hk : 1 ≤ k) (hs : x.small) (hB : mkMK x k ≤ 50000000) : XC Try.prog 26 [x.O s1 s2 s3 s4 b1 b2 b3 b4 c1 c2 c3 c4, .int .i64 k] (x.L s1 s2 s3 s4 b1 b2 b3 b4 c1 c2 c3 c4) (fun d ls => d = .int .i64 (mkMK x k) ∧ ls = (mkM x k).L s1 s2 s3 s4 b1 b2 b3 b4 c1 c2 c3 c4) := by
  refine (mark_Mate0 x b1 b2 b3 b4 c1 c2 c3 c4 k hk hs hB).ren (fun _ _ _ h => h) rfl (fun d ls ⟨h1, h2⟩ => ?_)
  subst h1 h2
  exact ⟨_, _, ⟨rfl, rfl⟩, fun _ _ _ h => HolL.ren rfl h, fun _ _ _ h => h⟩
theorem tox_MateG (s1 s2 s3 s4 : Nat) (x : Mate) (hs : x.small) : XC Try.prog 22 [x.D] [] (fun d ls => ∃ b1 b2 b3 b4, d = x.O s1 s2 s3 s4 b1 b2 b3 b4 x.fWants.length x.fRuns.length x.fAsks.length x.fGives.length ∧ ls = x.L s1 s2 s3 s4 b1 b2 b3 b4 x.fWants.length x.fRuns.length x.fAsks.length x.fGives.length) := by
  refine (tox_Mate0 x hs).ren (fun _ _ _ h => h) rfl (fun d ls ⟨b1, b2, b3, b4, h1, h2⟩ => ?_)
  subst h1 h2
  exact ⟨_, _, ⟨b1, b2, b3, b4, rfl, rfl⟩, fun _ _ _ h => HolL.ren rfl h, fun _ _ _ h => h⟩
theorem frz_mate (x : Mate) (b1 b2 b3 b4 c1 c2 c3 c4 e1 e2 e3 e4 : Nat) : frzVs (x.L 31 32 33 34 b1 b2 b3 b4 e1 e2 e3 e4) [x.O 31 32 33 34 b1 b2 b3 b4 c1 c2 c3 c4] = [x.D] := by
  have t1 : (D.frozs (x.fWants.map MateWant.D)).take x.fWants.length = x.fWants.map MateWant.D := by rw [D.frozs_map (fun _ => rfl), List.take_of_length_le (by simp)]
  have t2 : (D.frozs (x.fRuns.map MateRun.D)).take x.fRuns.length = x.fRuns.map MateRun.D := by rw [D.frozs_map (fun _ => rfl), List.take_of_length_le (by simp)]
  have t3 : (D.frozs (x.fAsks.map MateAsk.D)).take x.fAsks.length = x.fAsks.map MateAsk.D := by rw [D.frozs_map (fun _ => rfl), List.take_of_length_le (by simp)]
  have t4 : (D.frozs (x.fGives.map MateAsk.D)).take x.fGives.length = x.fGives.map MateAsk.D := by rw [D.frozs_map (fun _ => rfl), List.take_of_length_le (by simp)]
  show [D.agg [.str x.fName, .bool x.fUp, .int .i64 x.fClock, .bool x.fKnown, .int .i64 x.fSeen, .ro 7 ((D.frozs (x.fWants.map MateWant.D)).take x.fWants.length), .ro 11 ((D.frozs (x.fRuns.map MateRun.D)).take x.fRuns.length), .ro 4 ((D.frozs (x.fAsks.map MateAsk.D)).take x.fAsks.length), .ro 4 ((D.frozs (x.fGives.map MateAsk.D)).take x.fGives.length)]] = [x.D]
  rw [t1, t2, t3, t4]
  rfl
theorem ok_mate (x : Mate) (b1 b2 b3 b4 c1 c2 c3 c4 e1 e2 e3 e4 : Nat) : okVs (x.L 31 32 33 34 b1 b2 b3 b4 e1 e2 e3 e4) [x.O 31 32 33 34 b1 b2 b3 b4 c1 c2 c3 c4] :=
  ⟨⟨True.intro, True.intro, True.intro, True.intro, True.intro, ⟨rfl, Nat.le_of_eq (by simp)⟩, ⟨rfl, Nat.le_of_eq (by simp)⟩, ⟨rfl, Nat.le_of_eq (by simp)⟩, ⟨rfl, Nat.le_of_eq (by simp)⟩, True.intro⟩, True.intro⟩
end Go.Ab
