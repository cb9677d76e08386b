/- Steps towards the law: contracts of functions and facts of lists. -/
import Derived.Test.YtagleaabhljkfaaMateTB
import Derived.Test.YtagleaabhljkfaaRows
set_option linter.unusedSimpArgs false
set_option linter.unusedVariables false
namespace Go.Ab
open Go Go.RowKit Go.Proofs
attribute [local irreducible] XC Rdr IntKind.wrap xw xos xqs xr xd
set_option maxRecDepth 100000

/-- impl.MateTake -/
def cf57 : CF := ⟨15, [.c 4 9 true],
  (.seq (.ops [⟨some 2, .bx (.t 0), none⟩,
    ⟨some 3, .bx (.t 1), none⟩,
    ⟨some 4, .al (.agg [.str ⟨#[]⟩, .bool false, .int .i64 0, .bool false, .int .i64 0, .nil, .nil, .nil, .nil]), none⟩])
  (.seq (.seq (.ops [⟨some 6, .ld 9 true (.t 2), none⟩,
    ⟨some 7, .call 46 [(.t 6)], none⟩,
    ⟨some 8, .not (.t 7), none⟩])
  (.cond (.t 8)
  (.seq (.ops [⟨some 9, .bld (.agg [.str ⟨#[]⟩, .bool false, .int .i64 0, .bool false, .int .i64 0, .nil, .nil, .nil, .nil]) [], none⟩,
    ⟨none, .st 9 (.t 4) (.t 9), none⟩])
  .ret)
  .skip))
  (.seq (.ops [⟨some 10, .ld 9 true (.t 2), none⟩,
    ⟨some 11, .call 84 [(.t 10)], none⟩,
    ⟨some 5, .al (.agg [.str ⟨#[]⟩, .bool false, .int .i64 0, .bool false, .int .i64 0, .nil, .nil, .nil, .nil]), none⟩,
    ⟨none, .st 9 (.t 5) (.t 11), none⟩])
  (.seq (.ops [⟨some 12, .ld 7 true (.t 3), none⟩,
    ⟨some 13, .call 103 [(.t 5), (.t 12)], none⟩])
  (.seq (.ops [⟨some 14, .ld 9 true (.t 5), none⟩,
    ⟨none, .st 9 (.t 4) (.t 14), none⟩])
  .ret)))))⟩
theorem c57 : compileF Try.prog [] 57 = some cf57 := by kernel_rfl
set_option maxHeartbeats 4000000 in
theorem impl_CloneF0 (x : Mate) (hs : x.small) : XC Try.prog 84 [x.D] [] (fun d ls => ∃ d1 d2 d3 d4 e1 e2 e3 e4, d = x.O 5 9 13 17 d1 d2 d3 d4 e1 e2 e3 e4 ∧ ls = x.L 5 9 13 17 d1 d2 d3 d4 e1 e2 e3 e4) := by
  refine XC.intro' hm [5, 9, 13, 17] rfl c84 (Nat.le_of_ble_eq_true rfl) ?_
  have l1 := hs.fWants.1
  have l2 := hs.fRuns.1
  have l3 := hs.fAsks.1
  have l4 := hs.fGives.1
  conv => whnf
  repeat' (first | (refine g_op ?_; conv => whnf) | (refine And.intro ?_ ?_; (focus (first | exact rfl | exact Nat.le_of_ble_eq_true rfl | decide | omega | fail)); conv => whnf) | (refine g_seq ?_) | (refine XS.go ?_) | (refine g_ops ?_) | (refine g_nil ?_; conv => whnf) | (refine fun _ => ?_; conv => whnf) | fail)
  refine ⟨by show 0 + _ ≤ _; rw [List.length_map]; omega, Nat.le_of_ble_eq_true rfl, by decide, fun n1 d1 e1 hn1 hc1 => ?_⟩
  have hm1 : n1 = x.fWants.length := by rw [hn1]; show 0 + _ = _; simp
  clear hn1
  subst hm1
  conv => whnf
  repeat' (first | (refine g_op ?_; conv => whnf) | (refine And.intro ?_ ?_; (focus (first | exact rfl | exact Nat.le_of_ble_eq_true rfl | decide | omega | fail)); conv => whnf) | (refine g_seq ?_) | (refine XS.go ?_) | (refine g_ops ?_) | (refine g_nil ?_; conv => whnf) | fail)
  refine ⟨by show 0 + _ ≤ _; rw [List.length_map]; omega, Nat.le_of_ble_eq_true rfl, by decide, fun n2 d2 e2 hn2 hc2 => ?_⟩
  have hm2 : n2 = x.fRuns.length := by rw [hn2]; show 0 + _ = _; simp
  clear hn2
  subst hm2
  conv => whnf
  repeat' (first | (refine g_op ?_; conv => whnf) | (refine And.intro ?_ ?_; (focus (first | exact rfl | exact Nat.le_of_ble_eq_true rfl | decide | omega | fail)); conv => whnf) | (refine g_seq ?_) | (refine XS.go ?_) | (refine g_ops ?_) | (refine g_nil ?_; conv => whnf) | fail)
  refine ⟨by show 0 + _ ≤ _; rw [List.length_map]; omega, Nat.le_of_ble_eq_true rfl, by decide, fun n3 d3 e3 hn3 hc3 => ?_⟩
  have hm3 : n3 = x.fAsks.length := by rw [hn3]; show 0 + _ = _; simp
  clear hn3
  subst hm3
  conv => whnf
  repeat' (first | (refine g_op ?_; conv => whnf) | (refine And.intro ?_ ?_; (focus (first | exact rfl | exact Nat.le_of_ble_eq_true rfl | decide | omega | fail)); conv => whnf) | (refine g_seq ?_) | (refine XS.go ?_) | (refine g_ops ?_) | (refine g_nil ?_; conv => whnf) | fail)
  refine ⟨by show 0 + _ ≤ _; rw [List.length_map]; omega, Nat.le_of_ble_eq_true rfl, by decide, fun n4 d4 e4 hn4 hc4 => ?_⟩
  have hm4 : n4 = x.fGives.length := by rw [hn4]; show 0 + _ = _; simp
  clear hn4
  subst hm4
  conv => whnf
  repeat' (first | (refine g_op ?_; conv => whnf) | (refine And.intro ?_ ?_; (focus (first | exact rfl | exact Nat.le_of_ble_eq_true rfl | decide | omega | fail)); conv => whnf) | (refine g_seq ?_) | (refine XS.go ?_) | (refine g_ops ?_) | (refine g_nil ?_; conv => whnf) | (refine g_ret ?_; conv => whnf) | (refine r_c ?_; conv => whnf) | (refine r_nil ?_; conv => whnf) | fail)
  exact ⟨d1, d2, d3, d4, e1, e2, e3, e4, rfl, rfl⟩
set_option maxHeartbeats 4000000 in
theorem impl_CloneF (x : Mate) (hs : x.small) : XC Try.prog 84 [x.D] [] (fun d ls => ∃ d1 d2 d3 d4 e1 e2 e3 e4, d = x.O 31 32 33 34 d1 d2 d3 d4 e1 e2 e3 e4 ∧ ls = x.L 31 32 33 34 d1 d2 d3 d4 e1 e2 e3 e4) := by
  have h : XC Try.prog 84 [x.D] [] (fun d ls => ∃ d1 d2 d3 d4 e1 e2 e3 e4, d = x.O 5 9 13 17 d1 d2 d3 d4 e1 e2 e3 e4 ∧ ls = x.L 5 9 13 17 d1 d2 d3 d4 e1 e2 e3 e4) := impl_CloneF0 x hs
  refine h.ren (fun _ _ _ h => h) rfl (fun d ls ⟨d1, d2, d3, d4, e1, e2, e3, e4, h1, h2⟩ => ?_)
  subst h1 h2
  exact ⟨_, _, ⟨d1, d2, d3, d4, e1, e2, e3, e4, rfl, rfl⟩, fun _ _ _ h => HolL.ren rfl h, fun _ _ _ h => h⟩
set_option maxHeartbeats 4000000 in
theorem spec_CopyX0 (x : Mate) (hs : x.small) : XC Try.prog 79 [x.D] [] (fun d ls => ∃ d1 d2 d3 d4 e1 e2 e3 e4, d = x.O 6 11 16 21 d1 d2 d3 d4 e1 e2 e3 e4 ∧ ls = x.L 6 11 16 21 d1 d2 d3 d4 e1 e2 e3 e4) := by
  refine XC.intro' hm [6, 11, 16, 21] rfl c79 (Nat.le_of_ble_eq_true rfl) ?_
  have l1 := hs.fWants.1
  have l2 := hs.fRuns.1
  have l3 := hs.fAsks.1
  have l4 := hs.fGives.1
  conv => whnf
  repeat' (first | (refine g_op ?_; conv => whnf) | (refine And.intro ?_ ?_; (focus (first | exact rfl | exact Nat.le_of_ble_eq_true rfl | decide | omega | fail)); conv => whnf) | (refine g_seq ?_) | (refine XS.go ?_) | (refine g_ops ?_) | (refine g_nil ?_; conv => whnf) | (refine fun _ => ?_; conv => whnf) | fail)
  refine ⟨by show 0 + _ ≤ _; rw [List.length_map]; omega, Nat.le_of_ble_eq_true rfl, by decide, fun n1 d1 e1 hn1 hc1 => ?_⟩
  have hm1 : n1 = x.fWants.length := by rw [hn1]; show 0 + _ = _; simp
  clear hn1
  subst hm1
  conv => whnf
  repeat' (first | (refine g_op ?_; conv => whnf) | (refine And.intro ?_ ?_; (focus (first | exact rfl | exact Nat.le_of_ble_eq_true rfl | decide | omega | fail)); conv => whnf) | (refine g_seq ?_) | (refine XS.go ?_) | (refine g_ops ?_) | (refine g_nil ?_; conv => whnf) | fail)
  refine ⟨by show 0 + _ ≤ _; rw [List.length_map]; omega, Nat.le_of_ble_eq_true rfl, by decide, fun n2 d2 e2 hn2 hc2 => ?_⟩
  have hm2 : n2 = x.fRuns.length := by rw [hn2]; show 0 + _ = _; simp
  clear hn2
  subst hm2
  conv => whnf
  repeat' (first | (refine g_op ?_; conv => whnf) | (refine And.intro ?_ ?_; (focus (first | exact rfl | exact Nat.le_of_ble_eq_true rfl | decide | omega | fail)); conv => whnf) | (refine g_seq ?_) | (refine XS.go ?_) | (refine g_ops ?_) | (refine g_nil ?_; conv => whnf) | fail)
  refine ⟨by show 0 + _ ≤ _; rw [List.length_map]; omega, Nat.le_of_ble_eq_true rfl, by decide, fun n3 d3 e3 hn3 hc3 => ?_⟩
  have hm3 : n3 = x.fAsks.length := by rw [hn3]; show 0 + _ = _; simp
  clear hn3
  subst hm3
  conv => whnf
  repeat' (first | (refine g_op ?_; conv => whnf) | (refine And.intro ?_ ?_; (focus (first | exact rfl | exact Nat.le_of_ble_eq_true rfl | decide | omega | fail)); conv => whnf) | (refine g_seq ?_) | (refine XS.go ?_) | (refine g_ops ?_) | (refine g_nil ?_; conv => whnf) | fail)
  refine ⟨by show 0 + _ ≤ _; rw [List.length_map]; omega, Nat.le_of_ble_eq_true rfl, by decide, fun n4 d4 e4 hn4 hc4 => ?_⟩
  have hm4 : n4 = x.fGives.length := by rw [hn4]; show 0 + _ = _; simp
  clear hn4
  subst hm4
  conv => whnf
  repeat' (first | (refine g_op ?_; conv => whnf) | (refine And.intro ?_ ?_; (focus (first | exact rfl | exact Nat.le_of_ble_eq_true rfl | decide | omega | fail)); conv => whnf) | (refine g_seq ?_) | (refine XS.go ?_) | (refine g_ops ?_) | (refine g_nil ?_; conv => whnf) | (refine g_ret ?_; conv => whnf) | (refine r_c ?_; conv => whnf) | (refine r_nil ?_; conv => whnf) | fail)
  exact ⟨d1, d2, d3, d4, e1, e2, e3, e4, rfl, rfl⟩
set_option maxHeartbeats 4000000 in
theorem spec_CopyX (x : Mate) (hs : x.small) : XC Try.prog 79 [x.D] [] (fun d ls => ∃ d1 d2 d3 d4 e1 e2 e3 e4, d = x.O 31 32 33 34 d1 d2 d3 d4 e1 e2 e3 e4 ∧ ls = x.L 31 32 33 34 d1 d2 d3 d4 e1 e2 e3 e4) := by
  have h : XC Try.prog 79 [x.D] [] (fun d ls => ∃ d1 d2 d3 d4 e1 e2 e3 e4, d = x.O 6 11 16 21 d1 d2 d3 d4 e1 e2 e3 e4 ∧ ls = x.L 6 11 16 21 d1 d2 d3 d4 e1 e2 e3 e4) := spec_CopyX0 x hs
  refine h.ren (fun _ _ _ h => h) rfl (fun d ls ⟨d1, d2, d3, d4, e1, e2, e3, e4, h1, h2⟩ => ?_)
  subst h1 h2
  exact ⟨_, _, ⟨d1, d2, d3, d4, e1, e2, e3, e4, rfl, rfl⟩, fun _ _ _ h => HolL.ren rfl h, fun _ _ _ h => h⟩
def takeR (x : Mate) (p : MateParcel) : Mate := if validM x then takeM x p else default
def KO (R : Mate) (s1 s2 s3 s4 : Nat) (d : Go.Ab.D) (ls : List Loan) : Prop := ∃ b1 b2 b3 b4 c1 c2 c3 c4, d = R.O s1 s2 s3 s4 b1 b2 b3 b4 c1 c2 c3 c4 ∧ ls = R.L s1 s2 s3 s4 b1 b2 b3 b4 c1 c2 c3 c4
theorem XC.names {f : FuncId} {ds : List Go.Ab.D} {R : Mate} {s1 s2 s3 s4 : Nat} (t1 t2 t3 t4 : Nat) (h : XC Try.prog f ds [] (KO R s1 s2 s3 s4)) : XC Try.prog f ds [] (KO R t1 t2 t3 t4) := by
  refine h.ren (fun _ _ _ h => h) rfl (fun d ls ⟨d1, d2, d3, d4, e1, e2, e3, e4, h1, h2⟩ => ?_)
  subst h1 h2
  exact ⟨_, _, ⟨d1, d2, d3, d4, e1, e2, e3, e4, rfl, rfl⟩, fun _ _ _ h => HolL.ren rfl h, fun _ _ _ h => h⟩
theorem takeM_told {x : Mate} {p : MateParcel} (hI : idle x p = false) (hk : p.fKind = 1) (ht : told x p = true) : takeM x p = { x with fKnown := true, fSeen := p.fSeen, fWants := p.fWants } := by
  rw [takeM, if_neg (by rw [hI]; exact Bool.false_ne_true), if_pos hk, if_pos ht]
set_option maxHeartbeats 4000000 in
theorem impl_TakeX (x : Mate) (p : MateParcel) (hs : x.small) (hp : p.fWants.length ≤ 1048576) : XC Try.prog 57 [x.D, p.D] [] (KO (takeR x p) 41 42 43 44) := by
  have hq := impl_MateValid x
  cases hv : validM x with
  | false =>
    rw [hv] at hq
    have e : takeR x p = default := by simp [takeR, hv]
    rw [e]
    have h : XC Try.prog 57 [x.D, p.D] [] (fun d ls => d = mateZ ∧ ls = []) := by
      refine XC.intro' hm [] rfl c57 (Nat.le_of_ble_eq_true rfl) ?_
      conv => whnf
      repeat' (first | (refine g_op ?_; conv => whnf) | (refine And.intro ?_ ?_; (focus (first | exact rfl | exact Nat.le_of_ble_eq_true rfl | decide | omega | fail)); conv => whnf) | (refine g_seq ?_) | (refine XS.go ?_) | (refine g_ops ?_) | (refine g_nil ?_; conv => whnf) | (refine Br.t ?_ ?_; (focus (first | assumption | exact rfl)); conv => whnf) | (refine g_cond ?_; conv => whnf) | (refine g_ret ?_; conv => whnf) | (refine r_c ?_; conv => whnf) | (refine r_nil ?_; conv => whnf) | (refine fun _ => ?_; conv => whnf) | (refine XCL.of_rdr (hq) ?_; conv => whnf) | fail)
    refine h.ren (fun _ _ _ h => h) rfl (fun d l ⟨h1, h2⟩ => ?_)
    subst h1 h2
    refine ⟨_, _, ⟨0, 0, 0, 0, 0, 0, 0, 0, rfl, rfl⟩, fun U w F h => ?_, mateZ_own _ _ _ _⟩
    have h : F = [] := h
    subst h
    exact mateZ_hol _ _ _ _ U w
  | true =>
    rw [hv] at hq
    have e : takeR x p = takeM x p := by simp [takeR, hv]
    rw [e]
    by_cases hT : idle x p = false ∧ p.fKind = 1 ∧ told x p = true
    · obtain ⟨hI, hk, ht⟩ := hT
      rw [takeM_told hI hk ht]
      refine XC.names 41 42 43 44 (s1 := 56) (s2 := 32) (s3 := 33) (s4 := 34) ?_
      refine XC.intro' hm [56, 32, 33, 34] rfl c57 (Nat.le_of_ble_eq_true rfl) ?_
      conv => whnf
      repeat' (first | (refine g_op ?_; conv => whnf) | (refine And.intro ?_ ?_; (focus (first | exact rfl | exact Nat.le_of_ble_eq_true rfl | decide | omega | fail)); conv => whnf) | (refine g_seq ?_) | (refine XS.go ?_) | (refine g_ops ?_) | (refine g_nil ?_; conv => whnf) | (refine Br.f ?_ ?_; (focus (first | assumption | exact rfl)); conv => whnf) | (refine g_cond ?_; conv => whnf) | (refine g_skip ?_; conv => whnf) | (refine fun _ => ?_; conv => whnf) | (refine XCL.of_rdr (hq) ?_; conv => whnf) | fail)
      refine XCL.of_XC (ls := []) True.intro ((impl_CloneF x hs).mono fun d ls h => ?_)
      obtain ⟨d1, d2, d3, d4, e1, e2, e3, e4, rfl, rfl⟩ := h
      conv => whnf
      repeat' (first | (refine g_op ?_; conv => whnf) | (refine And.intro ?_ ?_; (focus (first | exact rfl | exact Nat.le_of_ble_eq_true rfl | decide | omega | fail)); conv => whnf) | (refine g_seq ?_) | (refine XS.go ?_) | (refine g_ops ?_) | (refine g_nil ?_; conv => whnf) | (refine fun _ => ?_; conv => whnf) | fail)
      refine XCL.of_XC (ls := (5, _, x.O 31 32 33 34 d1 d2 d3 d4 e1 e2 e3 e4) :: x.L 31 32 33 34 d1 d2 d3 d4 e1 e2 e3 e4) ⟨rfl, rfl, rfl, rfl, rfl, rfl, rfl, rfl, rfl, rfl, rfl, rfl, rfl, rfl, rfl, True.intro⟩ ((impl_takeA x p _ d1 d2 d3 d4 e1 e2 e3 e4 hp hI hk ht).mono fun d ls h => ?_)
      obtain ⟨rfl, b', c', rfl⟩ := h
      conv => whnf
      repeat' (first | (refine g_op ?_; conv => whnf) | (refine And.intro ?_ ?_; (focus (first | exact rfl | exact Nat.le_of_ble_eq_true rfl | decide | omega | fail)); conv => whnf) | (refine g_seq ?_) | (refine XS.go ?_) | (refine g_ops ?_) | (refine g_nil ?_; conv => whnf) | (refine g_ret ?_; conv => whnf) | (refine r_c ?_; conv => whnf) | (refine r_nil ?_; conv => whnf) | fail)
      exact ⟨b', d2, d3, d4, c', e2, e3, e4, rfl, rfl⟩
    · refine XC.names 41 42 43 44 (s1 := 31) (s2 := 32) (s3 := 33) (s4 := 34) ?_
      refine XC.intro' hm [31, 32, 33, 34] rfl c57 (Nat.le_of_ble_eq_true rfl) ?_
      have hB := fun b d1 d2 d3 d4 e1 e2 e3 e4 => impl_takeB x p b d1 d2 d3 d4 e1 e2 e3 e4 hs hT
      generalize takeM x p = T at hB ⊢
      conv => whnf
      repeat' (first | (refine g_op ?_; conv => whnf) | (refine And.intro ?_ ?_; (focus (first | exact rfl | exact Nat.le_of_ble_eq_true rfl | decide | omega | fail)); conv => whnf) | (refine g_seq ?_) | (refine XS.go ?_) | (refine g_ops ?_) | (refine g_nil ?_; conv => whnf) | (refine Br.f ?_ ?_; (focus (first | assumption | exact rfl)); conv => whnf) | (refine g_cond ?_; conv => whnf) | (refine g_skip ?_; conv => whnf) | (refine fun _ => ?_; conv => whnf) | (refine XCL.of_rdr (hq) ?_; conv => whnf) | fail)
      refine XCL.of_XC (ls := []) True.intro ((impl_CloneF x hs).mono fun d ls h => ?_)
      obtain ⟨d1, d2, d3, d4, e1, e2, e3, e4, rfl, rfl⟩ := h
      conv => whnf
      repeat' (first | (refine g_op ?_; conv => whnf) | (refine And.intro ?_ ?_; (focus (first | exact rfl | exact Nat.le_of_ble_eq_true rfl | decide | omega | fail)); conv => whnf) | (refine g_seq ?_) | (refine XS.go ?_) | (refine g_ops ?_) | (refine g_nil ?_; conv => whnf) | (refine fun _ => ?_; conv => whnf) | fail)
      refine XCL.of_XC (ls := (5, _, x.O 31 32 33 34 d1 d2 d3 d4 e1 e2 e3 e4) :: x.L 31 32 33 34 d1 d2 d3 d4 e1 e2 e3 e4) ⟨rfl, rfl, rfl, rfl, rfl, rfl, rfl, rfl, rfl, rfl, rfl, rfl, rfl, rfl, rfl, True.intro⟩ ((hB _ d1 d2 d3 d4 e1 e2 e3 e4).mono fun d ls h => ?_)
      obtain ⟨rfl, rfl⟩ := h
      conv => whnf
      repeat' (first | (refine g_op ?_; conv => whnf) | (refine And.intro ?_ ?_; (focus (first | exact rfl | exact Nat.le_of_ble_eq_true rfl | decide | omega | fail)); conv => whnf) | (refine g_seq ?_) | (refine XS.go ?_) | (refine g_ops ?_) | (refine g_nil ?_; conv => whnf) | (refine g_ret ?_; conv => whnf) | (refine r_c ?_; conv => whnf) | (refine r_nil ?_; conv => whnf) | fail)
      exact ⟨d1, d2, d3, d4, e1, e2, e3, e4, rfl, rfl⟩
theorem KO.frz {R : Mate} {d : Go.Ab.D} {ls : List Loan} (h : KO R 41 42 43 44 d ls) : okV ls d ∧ frzV ls d = R.D := by
  obtain ⟨b1, b2, b3, b4, c1, c2, c3, c4, rfl, rfl⟩ := h
  refine ⟨⟨True.intro, True.intro, True.intro, True.intro, True.intro, ⟨rfl, Nat.le_of_eq (by simp)⟩, ⟨rfl, Nat.le_of_eq (by simp)⟩, ⟨rfl, Nat.le_of_eq (by simp)⟩, ⟨rfl, Nat.le_of_eq (by simp)⟩, True.intro⟩, ?_⟩
  have t1 : (D.frozs (R.fWants.map MateWant.D)).take R.fWants.length = R.fWants.map MateWant.D := by rw [D.frozs_map (fun _ => rfl), List.take_of_length_le (by simp)]
  have t2 : (D.frozs (R.fRuns.map MateRun.D)).take R.fRuns.length = R.fRuns.map MateRun.D := by rw [D.frozs_map (fun _ => rfl), List.take_of_length_le (by simp)]
  have t3 : (D.frozs (R.fAsks.map MateAsk.D)).take R.fAsks.length = R.fAsks.map MateAsk.D := by rw [D.frozs_map (fun _ => rfl), List.take_of_length_le (by simp)]
  have t4 : (D.frozs (R.fGives.map MateAsk.D)).take R.fGives.length = R.fGives.map MateAsk.D := by rw [D.frozs_map (fun _ => rfl), List.take_of_length_le (by simp)]
  show D.agg [.str R.fName, .bool R.fUp, .int .i64 R.fClock, .bool R.fKnown, .int .i64 R.fSeen, .ro 7 ((D.frozs (R.fWants.map MateWant.D)).take R.fWants.length), .ro 11 ((D.frozs (R.fRuns.map MateRun.D)).take R.fRuns.length), .ro 4 ((D.frozs (R.fAsks.map MateAsk.D)).take R.fAsks.length), .ro 4 ((D.frozs (R.fGives.map MateAsk.D)).take R.fGives.length)] = R.D
  rw [t1, t2, t3, t4]
  rfl
theorem impl_Take (x : Mate) (p : MateParcel) (hs : x.small) (hp : p.fWants.length ≤ 1048576) : Rdr Try.prog 57 [x.D, p.D] (takeR x p).D := Rdr.of_XCF ((impl_TakeX x p hs hp).mono fun _ _ h => h.frz)
end Go.Ab
