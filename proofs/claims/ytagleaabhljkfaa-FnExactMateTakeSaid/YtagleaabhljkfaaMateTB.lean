/- Steps towards the law: contracts of functions and facts of lists. -/
import Derived.Test.YtagleaabhljkfaaMateTA
import Derived.Test.YtagleaabhljkfaaRows
set_option linter.unusedSimpArgs false
set_option linter.unusedVariables false
namespace Go.Ab
open Go Go.RowKit Go.Proofs
attribute [local irreducible] XC Rdr IntKind.wrap xw xos xqs xr xd
set_option maxRecDepth 100000

/-- laws.szMateParcel -/
def cf54 : CF := ⟨33, [.t 4],
  (.seq (.ops [⟨some 2, .bx (.t 0), none⟩,
    ⟨some 4, .mv (.k (.int .i64 0)), none⟩])
  (.seq (.ops [⟨some 5, .mv (.t 1), none⟩,
    ⟨some 6, .fa 1 1 1 (.t 2), none⟩,
    ⟨some 7, .ld 1 false (.t 6), none⟩,
    ⟨some 8, .lens (.t 7), none⟩,
    ⟨some 9, .bin .sub (.t 5) (.t 8), none⟩,
    ⟨some 1, .mv (.t 9), none⟩])
  (.seq (.seq (.ops [⟨some 10, .mv (.t 1), none⟩,
    ⟨some 11, .bin .lss (.t 10) (.k (.int .i64 0)), none⟩])
  (.cond (.t 11)
  (.seq (.ops [⟨some 4, .mv (.k (.int .i64 (-1))), none⟩])
  .ret)
  .skip))
  (.seq (.ops [⟨some 12, .fa 3 1 3 (.t 2), none⟩,
    ⟨some 13, .ld 1 false (.t 12), none⟩,
    ⟨some 14, .mv (.t 1), none⟩,
    ⟨some 15, .call 18 [(.t 13), (.t 14)], none⟩,
    ⟨some 1, .mv (.t 15), none⟩])
  (.seq (.seq (.ops [⟨some 16, .mv (.t 1), none⟩,
    ⟨some 17, .bin .lss (.t 16) (.k (.int .i64 0)), none⟩])
  (.cond (.t 17)
  (.seq (.ops [⟨some 4, .mv (.k (.int .i64 (-1))), none⟩])
  .ret)
  .skip))
  (.seq (.ops [⟨some 18, .mv (.t 1), none⟩,
    ⟨some 19, .fa 4 1 4 (.t 2), none⟩,
    ⟨some 20, .ld 1 false (.t 19), none⟩,
    ⟨some 21, .lens (.t 20), none⟩,
    ⟨some 22, .bin .sub (.t 18) (.t 21), none⟩,
    ⟨some 1, .mv (.t 22), none⟩])
  (.seq (.seq (.ops [⟨some 23, .mv (.t 1), none⟩,
    ⟨some 24, .bin .lss (.t 23) (.k (.int .i64 0)), none⟩])
  (.cond (.t 24)
  (.seq (.ops [⟨some 4, .mv (.k (.int .i64 (-1))), none⟩])
  .ret)
  .skip))
  (.seq (.ops [⟨some 25, .mv (.t 1), none⟩,
    ⟨some 26, .fa 5 1 5 (.t 2), none⟩,
    ⟨some 27, .ld 1 false (.t 26), none⟩,
    ⟨some 28, .lens (.t 27), none⟩,
    ⟨some 29, .bin .sub (.t 25) (.t 28), none⟩,
    ⟨some 1, .mv (.t 29), none⟩])
  (.seq (.seq (.ops [⟨some 30, .mv (.t 1), none⟩,
    ⟨some 31, .bin .lss (.t 30) (.k (.int .i64 0)), none⟩])
  (.cond (.t 31)
  (.seq (.ops [⟨some 4, .mv (.k (.int .i64 (-1))), none⟩])
  .ret)
  .skip))
  (.seq (.ops [⟨some 32, .mv (.t 1), none⟩,
    ⟨some 4, .mv (.t 32), none⟩])
  .ret))))))))))⟩
theorem c54 : compileF Try.prog [] 54 = some cf54 := by kernel_rfl
/-- laws.toMateParcel -/
def cf56 : CF := ⟨27, [.c 2 7 true],
  (.seq (.ops [⟨some 1, .bx (.t 0), none⟩,
    ⟨some 2, .al (.agg [.int .i64 0, .str ⟨#[]⟩, .int .i64 0, .nil, .str ⟨#[]⟩, .str ⟨#[]⟩, .int .i64 0]), none⟩])
  (.seq (.ops [⟨some 3, .al (.agg [.int .i64 0, .str ⟨#[]⟩, .int .i64 0, .nil, .str ⟨#[]⟩, .str ⟨#[]⟩, .int .i64 0]), none⟩])
  (.seq (.ops [⟨some 4, .fa 0 1 0 (.t 1), none⟩,
    ⟨some 5, .ld 1 false (.t 4), none⟩,
    ⟨some 6, .fa 0 1 0 (.t 3), none⟩,
    ⟨none, .st 1 (.t 6) (.t 5), none⟩])
  (.seq (.ops [⟨some 7, .fa 1 1 1 (.t 1), none⟩,
    ⟨some 8, .ld 1 false (.t 7), none⟩,
    ⟨some 9, .fa 1 1 1 (.t 3), none⟩,
    ⟨none, .st 1 (.t 9) (.t 8), none⟩])
  (.seq (.ops [⟨some 10, .fa 2 1 2 (.t 1), none⟩,
    ⟨some 11, .ld 1 false (.t 10), none⟩,
    ⟨some 12, .fa 2 1 2 (.t 3), none⟩,
    ⟨none, .st 1 (.t 12) (.t 11), none⟩])
  (.seq (.ops [⟨some 13, .fa 3 1 3 (.t 1), none⟩,
    ⟨some 14, .ld 1 false (.t 13), none⟩,
    ⟨some 15, .call 20 [(.t 14)], none⟩,
    ⟨some 16, .fa 3 1 3 (.t 3), none⟩,
    ⟨none, .st 1 (.t 16) (.t 15), none⟩])
  (.seq (.ops [⟨some 17, .fa 4 1 4 (.t 1), none⟩,
    ⟨some 18, .ld 1 false (.t 17), none⟩,
    ⟨some 19, .fa 4 1 4 (.t 3), none⟩,
    ⟨none, .st 1 (.t 19) (.t 18), none⟩])
  (.seq (.ops [⟨some 20, .fa 5 1 5 (.t 1), none⟩,
    ⟨some 21, .ld 1 false (.t 20), none⟩,
    ⟨some 22, .fa 5 1 5 (.t 3), none⟩,
    ⟨none, .st 1 (.t 22) (.t 21), none⟩])
  (.seq (.ops [⟨some 23, .fa 6 1 6 (.t 1), none⟩,
    ⟨some 24, .ld 1 false (.t 23), none⟩,
    ⟨some 25, .fa 6 1 6 (.t 3), none⟩,
    ⟨none, .st 1 (.t 25) (.t 24), none⟩])
  (.seq (.ops [⟨some 26, .ld 7 true (.t 3), none⟩,
    ⟨none, .st 7 (.t 2) (.t 26), none⟩])
  .ret))))))))))⟩
theorem c56 : compileF Try.prog [] 56 = some cf56 := by kernel_rfl
/-- laws.eqMateParcel -/
def cf58 : CF := ⟨41, [.t 4],
  (.seq (.ops [⟨some 2, .bx (.t 0), none⟩,
    ⟨some 3, .bx (.t 1), none⟩,
    ⟨some 4, .mv (.k (.bool false)), none⟩])
  (.seq (.seq (.ops [⟨some 5, .fa 0 1 0 (.t 2), none⟩,
    ⟨some 6, .ld 1 false (.t 5), none⟩,
    ⟨some 7, .fa 0 1 0 (.t 3), none⟩,
    ⟨some 8, .ld 1 false (.t 7), none⟩,
    ⟨some 9, .bin .neq (.t 6) (.t 8), none⟩])
  (.cond (.t 9)
  (.seq (.ops [⟨some 4, .mv (.k (.bool false)), none⟩])
  .ret)
  .skip))
  (.seq (.seq (.ops [⟨some 10, .fa 1 1 1 (.t 2), none⟩,
    ⟨some 11, .ld 1 false (.t 10), none⟩,
    ⟨some 12, .fa 1 1 1 (.t 3), none⟩,
    ⟨some 13, .ld 1 false (.t 12), none⟩,
    ⟨some 14, .bin .neq (.t 11) (.t 13), none⟩])
  (.cond (.t 14)
  (.seq (.ops [⟨some 4, .mv (.k (.bool false)), none⟩])
  .ret)
  .skip))
  (.seq (.seq (.ops [⟨some 15, .fa 2 1 2 (.t 2), none⟩,
    ⟨some 16, .ld 1 false (.t 15), none⟩,
    ⟨some 17, .fa 2 1 2 (.t 3), none⟩,
    ⟨some 18, .ld 1 false (.t 17), none⟩,
    ⟨some 19, .bin .neq (.t 16) (.t 18), none⟩])
  (.cond (.t 19)
  (.seq (.ops [⟨some 4, .mv (.k (.bool false)), none⟩])
  .ret)
  .skip))
  (.seq (.seq (.ops [⟨some 20, .fa 3 1 3 (.t 2), none⟩,
    ⟨some 21, .ld 1 false (.t 20), none⟩,
    ⟨some 22, .fa 3 1 3 (.t 3), none⟩,
    ⟨some 23, .ld 1 false (.t 22), none⟩,
    ⟨some 24, .call 22 [(.t 21), (.t 23)], none⟩,
    ⟨some 25, .not (.t 24), none⟩])
  (.cond (.t 25)
  (.seq (.ops [⟨some 4, .mv (.k (.bool false)), none⟩])
  .ret)
  .skip))
  (.seq (.seq (.ops [⟨some 26, .fa 4 1 4 (.t 2), none⟩,
    ⟨some 27, .ld 1 false (.t 26), none⟩,
    ⟨some 28, .fa 4 1 4 (.t 3), none⟩,
    ⟨some 29, .ld 1 false (.t 28), none⟩,
    ⟨some 30, .bin .neq (.t 27) (.t 29), none⟩])
  (.cond (.t 30)
  (.seq (.ops [⟨some 4, .mv (.k (.bool false)), none⟩])
  .ret)
  .skip))
  (.seq (.seq (.ops [⟨some 31, .fa 5 1 5 (.t 2), none⟩,
    ⟨some 32, .ld 1 false (.t 31), none⟩,
    ⟨some 33, .fa 5 1 5 (.t 3), none⟩,
    ⟨some 34, .ld 1 false (.t 33), none⟩,
    ⟨some 35, .bin .neq (.t 32) (.t 34), none⟩])
  (.cond (.t 35)
  (.seq (.ops [⟨some 4, .mv (.k (.bool false)), none⟩])
  .ret)
  .skip))
  (.seq (.seq (.ops [⟨some 36, .fa 6 1 6 (.t 2), none⟩,
    ⟨some 37, .ld 1 false (.t 36), none⟩,
    ⟨some 38, .fa 6 1 6 (.t 3), none⟩,
    ⟨some 39, .ld 1 false (.t 38), none⟩,
    ⟨some 40, .bin .neq (.t 37) (.t 39), none⟩])
  (.cond (.t 40)
  (.seq (.ops [⟨some 4, .mv (.k (.bool false)), none⟩])
  .ret)
  .skip))
  (.seq (.ops [⟨some 4, .mv (.k (.bool true)), none⟩])
  .ret)))))))))⟩
theorem c58 : compileF Try.prog [] 58 = some cf58 := by kernel_rfl
structure MateParcel where
  fKind : Int
  fBerth : ByteArray
  fSeen : Int
  fWants : (List MateWant)
  fHold : ByteArray
  fCopy : ByteArray
  fAt : Int
def MateParcel.D (x : MateParcel) : D := .agg [.int .i64 x.fKind, .str x.fBerth, .int .i64 x.fSeen, .ro 7 (x.fWants.map MateWant.D), .str x.fHold, .str x.fCopy, .int .i64 x.fAt]
instance : Inhabited MateParcel := ⟨⟨0, ⟨#[]⟩, 0, [], ⟨#[]⟩, ⟨#[]⟩, 0⟩⟩
structure MateParcel.wf (x : MateParcel) : Prop where
  fBerth : x.fBerth.size ≤ 9223372036854775807
  fWants : x.fWants.length ≤ 9223372036854775807 ∧ ∀ y ∈ x.fWants, y.wf
  fHold : x.fHold.size ≤ 9223372036854775807
  fCopy : x.fCopy.size ≤ 9223372036854775807
structure MateParcel.small (x : MateParcel) : Prop where
  fWants : x.fWants.length ≤ 1048576 ∧ ∀ y ∈ x.fWants, y.small
theorem MateParcel.len (x : MateParcel) : x.D.len = 7 := rfl
theorem args_MateParcel {d : D} (h : Has (.st [.int .i64, .str, .int .i64, .sl 7 (.st [.str, .int .i64, .str, .int .i64, .int .i64, .int .i64, .int .i64]), .str, .str, .int .i64]) d) : ∃ x : MateParcel, d = x.D ∧ x.wf := by
  rw [Has] at h
  obtain ⟨_, rfl, h⟩ := h
  simp only [HasF] at h
  obtain ⟨_, _, rfl, hKind, _, _, rfl, hBerth, _, _, rfl, hSeen, _, _, rfl, hWants, _, _, rfl, hHold, _, _, rfl, hCopy, _, _, rfl, hAt, rfl⟩ := h
  rw [Has] at hKind
  obtain ⟨vKind, rfl, _⟩ := hKind
  rw [Has] at hBerth
  obtain ⟨vBerth, rfl, wBerth⟩ := hBerth
  rw [Has] at hSeen
  obtain ⟨vSeen, rfl, _⟩ := hSeen
  obtain ⟨vWants, rfl, wWants⟩ := args_MateWantS hWants
  rw [Has] at hHold
  obtain ⟨vHold, rfl, wHold⟩ := hHold
  rw [Has] at hCopy
  obtain ⟨vCopy, rfl, wCopy⟩ := hCopy
  rw [Has] at hAt
  obtain ⟨vAt, rfl, _⟩ := hAt
  exact ⟨⟨vKind, vBerth, vSeen, vWants, vHold, vCopy, vAt⟩, rfl, ⟨wBerth, wWants, wHold, wCopy⟩⟩
theorem sz_MateParcel (x : MateParcel) (k : Int) (hw : x.wf) (h0 : 0 ≤ k) (h1 : k ≤ 1048576) : XC Try.prog 54 [x.D, .int .i64 k] [] (fun d ls => ls = [] ∧ ∃ n, d = .int .i64 n ∧ (0 ≤ n → n ≤ k ∧ x.small)) := by
  refine XC.intro' hm [] rfl c54 (Nat.le_of_ble_eq_true rfl) ?_
  conv => whnf
  repeat' (first | (refine g_op ?_; conv => whnf) | (refine And.intro ?_ ?_; (focus (first | exact rfl | exact Nat.le_of_ble_eq_true rfl | decide | omega | fail)); conv => whnf) | (refine g_seq ?_) | (refine XS.go ?_) | (refine g_ops ?_) | (refine g_nil ?_; conv => whnf) | (refine g_cond ?_; conv => whnf) | (refine fun _ => ?_; conv => whnf) | fail)
  have q1 := hw.fBerth
  have e1 : IntKind.wrap .i64 (k - (x.fBerth.size : Int)) = k - (x.fBerth.size : Int) := wrap_ok (by omega) (by omega)
  rw [e1]
  refine Br.mk (fun hb => ?_) (fun hb => ?_)
  · conv => whnf
    repeat' (first | (refine g_op ?_; conv => whnf) | (refine And.intro ?_ ?_; (focus (first | exact rfl | exact Nat.le_of_ble_eq_true rfl | decide | omega | fail)); conv => whnf) | (refine g_seq ?_) | (refine XS.go ?_) | (refine g_ops ?_) | (refine g_nil ?_; conv => whnf) | (refine g_ret ?_; conv => whnf) | (refine r_t ?_; conv => whnf) | (refine r_nil ?_; conv => whnf) | fail)
    exact ⟨_, rfl, fun h => absurd h (by decide)⟩
  have p1 : 0 ≤ (k - (x.fBerth.size : Int)) := Int.not_lt.1 (of_decide_eq_false hb)
  conv => whnf
  repeat' (first | (refine g_op ?_; conv => whnf) | (refine And.intro ?_ ?_; (focus (first | exact rfl | exact Nat.le_of_ble_eq_true rfl | decide | omega | fail)); conv => whnf) | (refine g_seq ?_) | (refine XS.go ?_) | (refine g_ops ?_) | (refine g_skip ?_; conv => whnf) | fail)
  refine XCL.ask (sz_MateWantS x.fWants _ hw.fWants (by omega) (by omega)) (fun d h => ?_)
  obtain ⟨n2, rfl, m2⟩ := h
  conv => whnf
  repeat' (first | (refine g_op ?_; conv => whnf) | (refine And.intro ?_ ?_; (focus (first | exact rfl | exact Nat.le_of_ble_eq_true rfl | decide | omega | fail)); conv => whnf) | (refine g_seq ?_) | (refine XS.go ?_) | (refine g_ops ?_) | (refine g_nil ?_; conv => whnf) | (refine g_cond ?_; conv => whnf) | fail)
  refine Br.mk (fun hb => ?_) (fun hb => ?_)
  · conv => whnf
    repeat' (first | (refine g_op ?_; conv => whnf) | (refine And.intro ?_ ?_; (focus (first | exact rfl | exact Nat.le_of_ble_eq_true rfl | decide | omega | fail)); conv => whnf) | (refine g_seq ?_) | (refine XS.go ?_) | (refine g_ops ?_) | (refine g_nil ?_; conv => whnf) | (refine g_ret ?_; conv => whnf) | (refine r_t ?_; conv => whnf) | (refine r_nil ?_; conv => whnf) | fail)
    exact ⟨_, rfl, fun h => absurd h (by decide)⟩
  have p2 : 0 ≤ n2 := Int.not_lt.1 (of_decide_eq_false hb)
  obtain ⟨l2, s2⟩ := m2 p2
  conv => whnf
  repeat' (first | (refine g_op ?_; conv => whnf) | (refine And.intro ?_ ?_; (focus (first | exact rfl | exact Nat.le_of_ble_eq_true rfl | decide | omega | fail)); conv => whnf) | (refine g_seq ?_) | (refine XS.go ?_) | (refine g_ops ?_) | (refine g_nil ?_; conv => whnf) | (refine g_cond ?_; conv => whnf) | (refine g_skip ?_; conv => whnf) | fail)
  have q3 := hw.fHold
  have e3 : IntKind.wrap .i64 (n2 - (x.fHold.size : Int)) = n2 - (x.fHold.size : Int) := wrap_ok (by omega) (by omega)
  rw [e3]
  refine Br.mk (fun hb => ?_) (fun hb => ?_)
  · conv => whnf
    repeat' (first | (refine g_op ?_; conv => whnf) | (refine And.intro ?_ ?_; (focus (first | exact rfl | exact Nat.le_of_ble_eq_true rfl | decide | omega | fail)); conv => whnf) | (refine g_seq ?_) | (refine XS.go ?_) | (refine g_ops ?_) | (refine g_nil ?_; conv => whnf) | (refine g_ret ?_; conv => whnf) | (refine r_t ?_; conv => whnf) | (refine r_nil ?_; conv => whnf) | fail)
    exact ⟨_, rfl, fun h => absurd h (by decide)⟩
  have p3 : 0 ≤ (n2 - (x.fHold.size : Int)) := Int.not_lt.1 (of_decide_eq_false hb)
  conv => whnf
  repeat' (first | (refine g_op ?_; conv => whnf) | (refine And.intro ?_ ?_; (focus (first | exact rfl | exact Nat.le_of_ble_eq_true rfl | decide | omega | fail)); conv => whnf) | (refine g_seq ?_) | (refine XS.go ?_) | (refine g_ops ?_) | (refine g_nil ?_; conv => whnf) | (refine g_cond ?_; conv => whnf) | (refine g_skip ?_; conv => whnf) | fail)
  have q4 := hw.fCopy
  have e4 : IntKind.wrap .i64 ((n2 - (x.fHold.size : Int)) - (x.fCopy.size : Int)) = (n2 - (x.fHold.size : Int)) - (x.fCopy.size : Int) := wrap_ok (by omega) (by omega)
  rw [e4]
  refine Br.mk (fun hb => ?_) (fun hb => ?_)
  · conv => whnf
    repeat' (first | (refine g_op ?_; conv => whnf) | (refine And.intro ?_ ?_; (focus (first | exact rfl | exact Nat.le_of_ble_eq_true rfl | decide | omega | fail)); conv => whnf) | (refine g_seq ?_) | (refine XS.go ?_) | (refine g_ops ?_) | (refine g_nil ?_; conv => whnf) | (refine g_ret ?_; conv => whnf) | (refine r_t ?_; conv => whnf) | (refine r_nil ?_; conv => whnf) | fail)
    exact ⟨_, rfl, fun h => absurd h (by decide)⟩
  have p4 : 0 ≤ ((n2 - (x.fHold.size : Int)) - (x.fCopy.size : Int)) := Int.not_lt.1 (of_decide_eq_false hb)
  conv => whnf
  repeat' (first | (refine g_op ?_; conv => whnf) | (refine And.intro ?_ ?_; (focus (first | exact rfl | exact Nat.le_of_ble_eq_true rfl | decide | omega | fail)); conv => whnf) | (refine g_seq ?_) | (refine XS.go ?_) | (refine g_ops ?_) | (refine g_nil ?_; conv => whnf) | (refine g_skip ?_; conv => whnf) | (refine g_ret ?_; conv => whnf) | (refine r_t ?_; conv => whnf) | (refine r_nil ?_; conv => whnf) | fail)
  exact ⟨_, rfl, fun _ => ⟨by omega, ⟨s2⟩⟩⟩
theorem to_MateParcel (x : MateParcel) (hs : x.small) : Rdr Try.prog 56 [x.D] x.D := by
  refine Rdr.intro' hm c56 (Nat.le_of_ble_eq_true rfl) ?_
  conv => whnf
  repeat' (first | (refine g_op ?_; conv => whnf) | (refine And.intro ?_ ?_; (focus (first | exact rfl | exact Nat.le_of_ble_eq_true rfl | decide | omega | fail)); conv => whnf) | (refine g_seq ?_) | (refine XS.go ?_) | (refine g_ops ?_) | (refine g_nil ?_; conv => whnf) | (refine g_ret ?_; conv => whnf) | (refine r_c ?_; conv => whnf) | (refine r_nil ?_; conv => whnf) | (refine fun _ => ?_; conv => whnf) | (refine XCL.of_rdr (to_MateWantS x.fWants hs.fWants) ?_; conv => whnf) | fail)
  all_goals rfl
theorem eq_MateParcel (x : MateParcel) (hs : x.small) : Rdr Try.prog 58 [x.D, x.D] (.bool true) := by
  refine Rdr.intro' hm c58 (Nat.le_of_ble_eq_true rfl) ?_
  conv => whnf
  repeat' (first | (refine g_op ?_; conv => whnf) | (refine And.intro ?_ ?_; (focus (first | exact rfl | exact Nat.le_of_ble_eq_true rfl | decide | omega | fail)); conv => whnf) | (refine g_seq ?_) | (refine XS.go ?_) | (refine g_ops ?_) | (refine g_nil ?_; conv => whnf) | (refine Br.f ?_ ?_; (focus (first | assumption | exact rfl)); conv => whnf) | (refine g_cond ?_; conv => whnf) | (refine g_skip ?_; conv => whnf) | (refine g_ret ?_; conv => whnf) | (refine r_t ?_; conv => whnf) | (refine r_nil ?_; conv => whnf) | (refine fun _ => ?_; conv => whnf) | (refine Br.f (by simp) ?_; conv => whnf) | (refine XCL.of_rdr (eq_MateWantS x.fWants hs.fWants) ?_; conv => whnf) | fail)
  all_goals rfl
/-- (*impl.Mate).take -/
def cf103 : CF := ⟨168, [],
  (.seq (.ops [⟨some 3, .bx (.t 1), none⟩])
  (.seq (.seq (.quiet [⟨some 7, .mv (.t 0), none⟩,
    ⟨some 8, .nilc (.t 7), none⟩,
    ⟨some 9, .fa 1 1 1 (.t 8), none⟩,
    ⟨some 10, .ld 1 false (.t 9), none⟩,
    ⟨some 11, .not (.t 10), none⟩,
    ⟨some 12, .mv (.t 11), none⟩,
    ⟨some 13, .fa 1 1 1 (.t 3), some (12, false)⟩,
    ⟨some 14, .ld 1 false (.t 13), some (12, false)⟩,
    ⟨some 15, .mv (.t 0), some (12, false)⟩,
    ⟨some 16, .nilc (.t 15), some (12, false)⟩,
    ⟨some 17, .fa 0 1 0 (.t 16), some (12, false)⟩,
    ⟨some 18, .ld 1 false (.t 17), some (12, false)⟩,
    ⟨some 19, .bin .neq (.t 14) (.t 18), some (12, false)⟩,
    ⟨some 20, .pick (.t 12) (.k (.bool true)) (.t 19), none⟩])
  (.cond (.t 20)
  .ret
  .skip))
  (.seq (.ops [⟨some 21, .fa 0 1 0 (.t 3), none⟩,
    ⟨some 22, .ld 1 false (.t 21), none⟩])
  (.block 0 (.seq (.ops [⟨some 24, .bin .eql (.t 22) (.k (.int .i64 1)), none⟩,
    ⟨some 23, .mv (.t 24), none⟩])
  (.cond (.t 23)
  (.seq (.quiet [⟨some 25, .fa 2 1 2 (.t 3), none⟩,
    ⟨some 26, .ld 1 false (.t 25), none⟩,
    ⟨some 27, .mv (.t 0), none⟩,
    ⟨some 28, .nilc (.t 27), none⟩,
    ⟨some 29, .fa 4 1 4 (.t 28), none⟩,
    ⟨some 30, .ld 1 false (.t 29), none⟩,
    ⟨some 31, .bin .gtr (.t 26) (.t 30), none⟩,
    ⟨some 32, .mv (.t 31), none⟩,
    ⟨some 33, .mv (.t 0), some (32, false)⟩,
    ⟨some 34, .nilc (.t 33), some (32, false)⟩,
    ⟨some 35, .fa 3 1 3 (.t 34), some (32, false)⟩,
    ⟨some 36, .ld 1 false (.t 35), some (32, false)⟩,
    ⟨some 37, .not (.t 36), some (32, false)⟩,
    ⟨some 38, .pick (.t 32) (.k (.bool true)) (.t 37), none⟩,
    ⟨some 39, .mv (.t 38), none⟩,
    ⟨some 40, .fa 3 1 3 (.t 3), some (39, true)⟩,
    ⟨some 41, .ld 1 false (.t 40), some (39, true)⟩,
    ⟨some 42, .call 21 [(.t 41)], some (39, true)⟩,
    ⟨some 43, .pick (.t 39) (.t 42) (.k (.bool false)), none⟩,
    ⟨some 44, .mv (.t 43), none⟩,
    ⟨some 45, .fa 2 1 2 (.t 3), some (44, true)⟩,
    ⟨some 46, .ld 1 false (.t 45), some (44, true)⟩,
    ⟨some 47, .call 66 [(.t 46), (.k (.int .i64 1)), (.k (.int .i64 1000000))], some (44, true)⟩,
    ⟨some 48, .pick (.t 44) (.t 47) (.k (.bool false)), none⟩])
  (.cond (.t 48)
  (.drawn [(⟨some 49, .mv (.t 0), none⟩, false, []),
    (⟨some 50, .mv (.t 0), none⟩, false, []),
    (⟨some 51, .mv (.t 0), none⟩, false, []),
    (⟨some 52, .fa 2 1 2 (.t 3), none⟩, false, []),
    (⟨some 53, .ld 1 false (.t 52), none⟩, false, []),
    (⟨some 54, .fa 3 1 3 (.t 3), none⟩, false, []),
    (⟨some 55, .ld 1 false (.t 54), none⟩, false, []),
    (⟨some 56, .app 7 72 (.k (.nil)) (.t 55), none⟩, true, [(.t 52)]),
    (⟨some 57, .nilc (.t 49), none⟩, false, []),
    (⟨some 58, .fa 3 1 3 (.t 57), none⟩, false, []),
    (⟨none, .st 1 (.t 58) (.k (.bool true)), none⟩, true, [(.t 52)]),
    (⟨some 59, .nilc (.t 50), none⟩, false, []),
    (⟨some 60, .fa 4 1 4 (.t 59), none⟩, false, []),
    (⟨none, .st 1 (.t 60) (.t 53), none⟩, true, []),
    (⟨some 61, .nilc (.t 51), none⟩, false, []),
    (⟨some 62, .fa 5 1 5 (.t 61), none⟩, false, []),
    (⟨none, .st 1 (.t 62) (.t 56), none⟩, true, [])])
  .skip))
  (.seq (.ops [⟨some 64, .bin .eql (.t 22) (.k (.int .i64 3)), none⟩,
    ⟨some 63, .mv (.t 64), none⟩])
  (.cond (.t 63)
  (.seq (.quiet [⟨some 65, .mv (.t 0), none⟩,
    ⟨some 66, .nilc (.t 65), none⟩,
    ⟨some 67, .fa 7 1 7 (.t 66), none⟩,
    ⟨some 68, .ld 1 false (.t 67), none⟩,
    ⟨some 69, .fa 4 1 4 (.t 3), none⟩,
    ⟨some 70, .ld 1 false (.t 69), none⟩,
    ⟨some 71, .call 96 [(.t 68), (.t 70)], none⟩,
    ⟨some 4, .mv (.t 71), none⟩])
  (.seq (.seq (.quiet [⟨some 72, .mv (.t 4), none⟩,
    ⟨some 73, .bin .lss (.t 72) (.k (.int .i64 0)), none⟩,
    ⟨some 74, .mv (.t 73), none⟩,
    ⟨some 75, .mv (.t 0), some (74, false)⟩,
    ⟨some 76, .nilc (.t 75), some (74, false)⟩,
    ⟨some 77, .fa 7 1 7 (.t 76), some (74, false)⟩,
    ⟨some 78, .ld 1 false (.t 77), some (74, false)⟩,
    ⟨some 79, .mv (.t 4), some (74, false)⟩,
    ⟨some 80, .ix 4 (.t 78) (.t 79), some (74, false)⟩,
    ⟨some 81, .fa 1 1 1 (.t 80), some (74, false)⟩,
    ⟨some 82, .ld 1 false (.t 81), some (74, false)⟩,
    ⟨some 83, .fa 5 1 5 (.t 3), some (74, false)⟩,
    ⟨some 84, .ld 1 false (.t 83), some (74, false)⟩,
    ⟨some 85, .bin .neq (.t 82) (.t 84), some (74, false)⟩,
    ⟨some 86, .pick (.t 74) (.k (.bool true)) (.t 85), none⟩,
    ⟨some 87, .mv (.t 86), none⟩,
    ⟨some 88, .fa 6 1 6 (.t 3), some (87, false)⟩,
    ⟨some 89, .ld 1 false (.t 88), some (87, false)⟩,
    ⟨some 90, .mv (.t 0), some (87, false)⟩,
    ⟨some 91, .nilc (.t 90), some (87, false)⟩,
    ⟨some 92, .fa 7 1 7 (.t 91), some (87, false)⟩,
    ⟨some 93, .ld 1 false (.t 92), some (87, false)⟩,
    ⟨some 94, .mv (.t 4), some (87, false)⟩,
    ⟨some 95, .ix 4 (.t 93) (.t 94), some (87, false)⟩,
    ⟨some 96, .fa 2 1 2 (.t 95), some (87, false)⟩,
    ⟨some 97, .ld 1 false (.t 96), some (87, false)⟩,
    ⟨some 98, .bin .lss (.t 89) (.t 97), some (87, false)⟩,
    ⟨some 99, .pick (.t 87) (.k (.bool true)) (.t 98), none⟩,
    ⟨some 100, .mv (.t 99), none⟩,
    ⟨some 101, .fa 6 1 6 (.t 3), some (100, false)⟩,
    ⟨some 102, .ld 1 false (.t 101), some (100, false)⟩,
    ⟨some 103, .mv (.t 0), some (100, false)⟩,
    ⟨some 104, .nilc (.t 103), some (100, false)⟩,
    ⟨some 105, .fa 7 1 7 (.t 104), some (100, false)⟩,
    ⟨some 106, .ld 1 false (.t 105), some (100, false)⟩,
    ⟨some 107, .mv (.t 4), some (100, false)⟩,
    ⟨some 108, .ix 4 (.t 106) (.t 107), some (100, false)⟩,
    ⟨some 109, .fa 3 1 3 (.t 108), some (100, false)⟩,
    ⟨some 110, .ld 1 false (.t 109), some (100, false)⟩,
    ⟨some 111, .bin .gtr (.t 102) (.t 110), some (100, false)⟩,
    ⟨some 112, .pick (.t 100) (.k (.bool true)) (.t 111), none⟩])
  (.cond (.t 112)
  .ret
  .skip))
  (.seq (.ops [⟨some 113, .mv (.t 0), none⟩,
    ⟨some 114, .nilc (.t 113), none⟩,
    ⟨some 115, .fa 6 1 6 (.t 114), none⟩,
    ⟨some 116, .ld 1 false (.t 115), none⟩,
    ⟨some 117, .lenl (.t 116), none⟩,
    ⟨some 118, .mv (.k (.int .i64 0)), none⟩])
  (.block 1 (.loop (.seq (.ops [⟨some 119, .bin .lss (.t 118) (.t 117), none⟩])
  (.seq (.cond (.t 119)
  .skip
  (.exit 1))
  (.seq (.block 2 (.seq (.ops [⟨some 120, .mv (.t 118), none⟩,
    ⟨some 5, .mv (.t 120), none⟩])
  (.seq (.ops [⟨some 121, .mv (.t 0), none⟩,
    ⟨some 122, .nilc (.t 121), none⟩,
    ⟨some 123, .fa 6 1 6 (.t 122), none⟩,
    ⟨some 124, .ld 1 false (.t 123), none⟩,
    ⟨some 125, .mv (.t 5), none⟩,
    ⟨some 126, .ix 11 (.t 124) (.t 125), none⟩,
    ⟨some 6, .mv (.t 126), none⟩])
  (.seq (.quiet [⟨some 127, .mv (.t 6), none⟩,
    ⟨some 128, .nilc (.t 127), none⟩,
    ⟨some 129, .fa 0 7 0 (.t 128), none⟩,
    ⟨some 130, .fa 2 1 2 (.t 129), none⟩,
    ⟨some 131, .ld 1 false (.t 130), none⟩,
    ⟨some 132, .fa 4 1 4 (.t 3), none⟩,
    ⟨some 133, .ld 1 false (.t 132), none⟩,
    ⟨some 134, .bin .eql (.t 131) (.t 133), none⟩,
    ⟨some 135, .mv (.t 134), none⟩,
    ⟨some 136, .mv (.t 6), some (135, true)⟩,
    ⟨some 137, .nilc (.t 136), some (135, true)⟩,
    ⟨some 138, .fa 0 7 0 (.t 137), some (135, true)⟩,
    ⟨some 139, .fa 0 1 0 (.t 138), some (135, true)⟩,
    ⟨some 140, .ld 1 false (.t 139), some (135, true)⟩,
    ⟨some 141, .fa 5 1 5 (.t 3), some (135, true)⟩,
    ⟨some 142, .ld 1 false (.t 141), some (135, true)⟩,
    ⟨some 143, .bin .eql (.t 140) (.t 142), some (135, true)⟩,
    ⟨some 144, .pick (.t 135) (.t 143) (.k (.bool false)), none⟩])
  (.cond (.t 144)
  (.drawn [(⟨some 145, .mv (.t 6), none⟩, false, []),
    (⟨some 146, .mv (.t 6), none⟩, false, []),
    (⟨some 147, .nilc (.t 146), none⟩, false, []),
    (⟨some 148, .fa 10 1 4 (.t 147), none⟩, false, []),
    (⟨some 149, .ld 1 false (.t 148), none⟩, false, []),
    (⟨some 150, .fa 6 1 6 (.t 3), none⟩, false, []),
    (⟨some 151, .ld 1 false (.t 150), none⟩, false, []),
    (⟨some 152, .bin .add (.t 151) (.k (.int .i64 16)), none⟩, false, []),
    (⟨some 153, .mnx true (.t 149) (.t 152), none⟩, false, []),
    (⟨some 154, .nilc (.t 145), none⟩, false, []),
    (⟨some 155, .fa 10 1 4 (.t 154), none⟩, false, []),
    (⟨none, .st 1 (.t 155) (.t 153), none⟩, true, [])])
  .skip)))))
  (.ops [⟨some 156, .bin .add (.t 118) (.k (.int .i64 1)), none⟩,
    ⟨some 118, .mv (.t 156), none⟩])))))))))
  (.seq (.ops [⟨some 158, .bin .eql (.t 22) (.k (.int .i64 5)), none⟩,
    ⟨some 157, .mv (.t 158), none⟩])
  (.cond (.t 157)
  (.ops [⟨some 159, .mv (.t 0), none⟩,
    ⟨some 160, .mv (.t 0), none⟩,
    ⟨some 161, .nilc (.t 160), none⟩,
    ⟨some 162, .fa 8 1 8 (.t 161), none⟩,
    ⟨some 163, .ld 1 false (.t 162), none⟩,
    ⟨some 164, .fnm 120 [(.t 3)], none⟩,
    ⟨some 165, .call 119 [(.t 163), (.t 164)], none⟩,
    ⟨some 166, .nilc (.t 159), none⟩,
    ⟨some 167, .fa 8 1 8 (.t 166), none⟩,
    ⟨none, .st 1 (.t 167) (.t 165), none⟩])
  .skip))))))))))⟩
theorem c103 : compileF Try.prog [] 103 = some cf103 := by kernel_rfl
/-- (*impl.Mate).take$1 -/
def cf120 : CF := ⟨16, [.t 3],
  (.seq (.ops [⟨some 2, .bx (.t 0), none⟩,
    ⟨some 3, .mv (.k (.bool false)), none⟩])
  (.seq (.ops [⟨some 4, .fa 0 1 0 (.t 2), none⟩,
    ⟨some 5, .ld 1 false (.t 4), none⟩,
    ⟨some 6, .fa 4 1 4 (.t 1), none⟩,
    ⟨some 7, .ld 1 false (.t 6), none⟩,
    ⟨some 8, .bin .eql (.t 5) (.t 7), none⟩,
    ⟨some 9, .mv (.t 8), none⟩,
    ⟨some 10, .fa 3 1 3 (.t 2), some (9, true)⟩,
    ⟨some 11, .ld 1 false (.t 10), some (9, true)⟩,
    ⟨some 12, .fa 6 1 6 (.t 1), some (9, true)⟩,
    ⟨some 13, .ld 1 false (.t 12), some (9, true)⟩,
    ⟨some 14, .bin .eql (.t 11) (.t 13), some (9, true)⟩,
    ⟨some 15, .pick (.t 9) (.t 14) (.k (.bool false)), none⟩,
    ⟨some 3, .mv (.t 15), none⟩])
  .ret))⟩
theorem c120 : compileF Try.prog [] 120 = some cf120 := by kernel_rfl
section
variable {P : Program} {n : Nat} {st : St} {K : St → Prop}
theorem d_ld {dst : Option Nat} {sz k b j o : Nat} {ag : Bool} {x : Opd} {rs : List Opd} {os : List (COp × Bool × List Opd)} {p : List Nat} {es cp : Nat} {ds : List Go.Ab.D} {el : Go.Ab.D} (hx : x.ev st = .lref k b (j :: p) o) (hl : st.lc k = some (.arr es ds cp)) (hb : st.gen k = b) (hj : j < ds.length) (hel : ds.getD j .any = el)
    (h : xpart sz ag o (j * es) (el.at p) fun d => putS n dst d st fun st2 => xd P n os st2 K) : xd P n ((⟨dst, .ld sz ag x, none⟩, false, rs) :: os) st K := by
  refine d_p ?_
  show xload st sz ag (x.ev st) _
  rw [hx]
  refine ⟨hb, ?_⟩
  rw [hl]
  refine ⟨hj, ?_⟩
  rw [hel]
  exact h
theorem d_st {sz k b j o : Nat} {x y : Opd} {os : List (COp × Bool × List Opd)} {p : List Nat} {es cp : Nat} {ds : List Go.Ab.D} {el d0 : Go.Ab.D} {o' : Nat} (hx : x.ev st = .lref k b (j :: p) o) (hl : st.lc k = some (.arr es ds cp)) (hb : st.gen k = b) (hj : j < ds.length) (hel : ds.getD j .any = el)
    (hat : el.at p = some (d0, o')) (hoo : j * es + o' = o) (h : deepK (y.ev st) fun d => d.memB = true ∧ d.len = sz ∧ xset (el.set p d) fun c' => deepK c' fun c' => xd P n os (st.setLc k (.arr es (ds.set j c') cp)) K) : xd P n ((⟨none, .st sz x y, none⟩, true, []) :: os) st K := by
  refine d_e ?_
  rw [deepK_eq] at h
  show xo P none st (fun d st' => True ∧ putS n none d st' fun st2 => xd P n os st2 K) (.st sz x y)
  simp only [xo, deepK_eq]
  refine ⟨h.1, h.2.1, ?_⟩
  rw [hx, xst_eq]
  refine ⟨hb, ?_⟩
  rw [hl]
  refine ⟨hj, ?_, ?_⟩
  · rw [hel, hat]; exact hoo
  · rw [hel]
    have h2 := h.2.2
    unfold xset at h2 ⊢
    split at h2
    · rw [deepK_eq] at h2
      show True ∧ putS n none .undef _ _
      rw [putS_eq]
      exact ⟨True.intro, h2⟩
    · exact h2.elim
end
theorem askI_lt (xs : List MateAsk) (hold : ByteArray) {m : Nat} (h : askI xs hold = Int.ofNat m) : m < xs.length := by
  rcases idxN_cases (f := askF xs hold) (k := xs.length) (i := 0) with ⟨h1, _⟩ | ⟨j, h1, _, h3, _⟩
  · have : (-1 : Int) = Int.ofNat m := h1.symm.trans h
    cases this
  · have : ((j : Nat) : Int) = Int.ofNat m := h1.symm.trans h
    have : j = m := by injection this
    omega
def delQ (p : MateParcel) (a : MateAsk) : Bool := a.fHold.toList == p.fHold.toList && a.fAt == p.fAt
def updU (p : MateParcel) (r : MateRun) : MateRun := if (r.fWant.fHold.toList == p.fHold.toList && r.fWant.fCopy.toList == p.fCopy.toList) = true then { r with fUntil := max r.fUntil (IntKind.wrap .i64 (p.fAt + 16)) } else r
def idle (x : Mate) (p : MateParcel) : Bool := !x.fUp || p.fBerth.toList != x.fName.toList
def told (x : Mate) (p : MateParcel) : Bool := (decide (p.fSeen > x.fSeen) || !x.fKnown) && wantsOk p.fWants && inR p.fSeen 1 1000000
def denied (x : Mate) (p : MateParcel) (k : Int) : Bool := decide (k < 0) || (x.fAsks.getD k.toNat default).fCopy.toList != p.fCopy.toList || decide (p.fAt < (x.fAsks.getD k.toNat default).fFirst) || decide (p.fAt > (x.fAsks.getD k.toNat default).fAt)
def takeM (x : Mate) (p : MateParcel) : Mate :=
  if idle x p = true then x
  else if p.fKind = 1 then (if told x p = true then { x with fKnown := true, fSeen := p.fSeen, fWants := p.fWants } else x)
  else if p.fKind = 3 then (if denied x p (askI x.fAsks p.fHold) = true then x else { x with fRuns := x.fRuns.map (updU p) })
  else if p.fKind = 5 then { x with fGives := x.fGives.filter fun a => !delQ p a }
  else x
theorem impl_delQ (p : MateParcel) (a : MateAsk) : Rdr Try.prog 120 (a.D :: [.cref p.D]) (.bool (delQ p a)) := by
  refine Rdr.intro' hm c120 (Nat.le_of_ble_eq_true rfl) ?_
  conv => whnf
  repeat' (first | (refine z_ld1 ?_; first | (refine z_ld rfl rfl rfl rfl (by first | (simp only [List.length_set]; assumption) | assumption | omega) (by first | exact elt_set (by first | assumption | (simp only [List.length_set]; assumption)) | assumption) ?_; conv => whnf) | (refine z_ld0 rfl ?_; conv => whnf)) | (refine z_ld1g ?_; first | (refine z_ldg rfl rfl rfl rfl rfl rfl rfl (by (repeat intro _); exact ⟨(by first | (simp only [List.length_set]; assumption) | assumption | omega), (by first | exact elt_set (by first | assumption | (simp only [List.length_set]; assumption)) | assumption)⟩) rfl rfl rfl rfl ?_; conv => whnf) | (refine z_ld0g ?_; (conv => whnf); refine And.intro ?_ ?_; (focus exact rfl); conv => whnf)) | (refine z_op ?_ ?_; (focus exact rfl); conv => whnf) | (refine z_opg0 ?_; (conv => whnf); refine And.intro ?_ ?_; (focus exact rfl); conv => whnf) | (refine z_pick ?_ ?_; (focus exact rfl); conv => whnf) | (refine zs_ops ?_ ?_; (focus exact rfl)) | (refine z_nil fun vals => ?_; conv => whnf) | (refine g_op ?_; conv => whnf) | (refine And.intro ?_ ?_; (focus (first | exact rfl | exact Nat.le_of_ble_eq_true rfl | decide | omega | fail)); conv => whnf) | (refine g_seq ?_) | (refine XS.go ?_) | (refine g_ops ?_) | (refine g_nil ?_; conv => whnf) | (refine g_ret ?_; conv => whnf) | (refine r_t ?_; conv => whnf) | (refine r_nil ?_; conv => whnf) | (refine fun _ => ?_; conv => whnf) | fail)
  (conv => lhs; whnf)
  rfl
set_option maxHeartbeats 8000000 in
theorem impl_takeA (x : Mate) (p : MateParcel) (b b1 b2 b3 b4 c1 c2 c3 c4 : Nat) (hl : p.fWants.length ≤ 1048576) (hI : idle x p = false) (hk : p.fKind = 1) (ht : told x p = true) :
    XC Try.prog 103 [.lref 5 b [] 0, p.D] ((5, b, x.O 31 32 33 34 b1 b2 b3 b4 c1 c2 c3 c4) :: x.L 31 32 33 34 b1 b2 b3 b4 c1 c2 c3 c4) (fun d ls => d = .tup [] ∧ ∃ b' c', ls = (5, b, ({ x with fKnown := true, fSeen := p.fSeen, fWants := p.fWants } : Mate).O 56 32 33 34 b' b2 b3 b4 c' c2 c3 c4) :: ({ x with fKnown := true, fSeen := p.fSeen, fWants := p.fWants } : Mate).L 56 32 33 34 b' b2 b3 b4 c' c2 c3 c4) := by
  refine XC.intro' hm [5, 56, 32, 33, 34] rfl c103 (Nat.le_of_ble_eq_true rfl) ?_
  simp only [Mate.O, Mate.L]
  conv => whnf
  repeat' (first | (refine g_op ?_; conv => whnf) | (refine And.intro ?_ ?_; (focus (first | exact rfl | exact Nat.le_of_ble_eq_true rfl | decide | omega | fail)); conv => whnf) | (refine g_seq ?_) | (refine g_ops ?_) | (refine g_nil ?_; conv => whnf) | (refine fun _ => ?_; conv => whnf) | fail)
  refine XS.freezeB 3 rfl ?_
  refine XS.go ?_
  repeat' (first | (refine z_ld1 ?_; first | (refine z_ld rfl rfl rfl rfl (by first | (simp only [List.length_set]; assumption) | assumption | omega) (by first | exact elt_set (by first | assumption | (simp only [List.length_set]; assumption)) | assumption) ?_; conv => whnf) | (refine z_ld0 rfl ?_; conv => whnf)) | (refine z_ld1g ?_; first | (refine z_ldg rfl rfl rfl rfl rfl rfl rfl (by (repeat intro _); exact ⟨(by first | (simp only [List.length_set]; assumption) | assumption | omega), (by first | exact elt_set (by first | assumption | (simp only [List.length_set]; assumption)) | assumption)⟩) rfl rfl rfl rfl ?_; conv => whnf) | (refine z_ld0g ?_; (conv => whnf); refine And.intro ?_ ?_; (focus exact rfl); conv => whnf)) | (refine z_op ?_ ?_; (focus exact rfl); conv => whnf) | (refine z_opg0 ?_; (conv => whnf); refine And.intro ?_ ?_; (focus exact rfl); conv => whnf) | (refine z_pick ?_ ?_; (focus exact rfl); conv => whnf) | (refine zs_ops ?_ ?_; (focus exact rfl)) | (refine zs_quiet ?_ ?_; (focus exact rfl)) | (refine z_nil fun vals => ?_; conv => whnf) | (refine g_op ?_; conv => whnf) | (refine And.intro ?_ ?_; (focus (first | exact rfl | exact Nat.le_of_ble_eq_true rfl | decide | omega | fail)); conv => whnf) | (refine g_seq ?_) | (refine XS.go ?_) | (refine g_ops ?_) | (refine g_nil ?_; conv => whnf) | (refine Br.f ?_ ?_; (focus (first | assumption | exact rfl)); conv => whnf) | (refine g_cond ?_; conv => whnf) | (refine g_skip ?_; conv => whnf) | (refine g_block ?_) | fail)
  refine Br.t (by simp [hk]) ?_
  conv => whnf
  repeat' (first | (refine z_ld1 ?_; first | (refine z_ld rfl rfl rfl rfl (by first | (simp only [List.length_set]; assumption) | assumption | omega) (by first | exact elt_set (by first | assumption | (simp only [List.length_set]; assumption)) | assumption) ?_; conv => whnf) | (refine z_ld0 rfl ?_; conv => whnf)) | (refine z_ld1g ?_; first | (refine z_ldg rfl rfl rfl rfl rfl rfl rfl (by (repeat intro _); exact ⟨(by first | (simp only [List.length_set]; assumption) | assumption | omega), (by first | exact elt_set (by first | assumption | (simp only [List.length_set]; assumption)) | assumption)⟩) rfl rfl rfl rfl ?_; conv => whnf) | (refine z_ld0g ?_; (conv => whnf); refine And.intro ?_ ?_; (focus exact rfl); conv => whnf)) | (refine z_op ?_ ?_; (focus exact rfl); conv => whnf) | (refine z_opg0 ?_; (conv => whnf); refine And.intro ?_ ?_; (focus exact rfl); conv => whnf) | (refine z_pick ?_ ?_; (focus exact rfl); conv => whnf) | (refine zs_quiet ?_ ?_; (focus exact rfl)) | (refine z_nil fun vals => ?_; conv => whnf) | (refine z_callg0 ?_; (conv => whnf); refine And.intro ?_ ?_; (focus exact rfl)) | (refine RC.of (impl_WantsOk p.fWants) ?_ ?_; (focus exact rfl); conv => whnf) | (refine RC.of (impl_within _ _ _) ?_ ?_; (focus exact rfl); conv => whnf) | (refine And.intro ?_ ?_; (focus (first | exact rfl | exact Nat.le_of_ble_eq_true rfl | decide | omega | fail)); conv => whnf) | (refine g_seq ?_) | (refine XS.go ?_) | (refine Br.t ?_ ?_; (focus (first | assumption | exact rfl)); conv => whnf) | (refine g_cond ?_; conv => whnf) | (refine g_drawn ?_) | (refine d_p ?_; conv => whnf) | (refine d_e ?_; conv => whnf) | fail)
  refine ⟨by show 0 + _ ≤ _; rw [List.length_map]; omega, Nat.le_of_ble_eq_true rfl, by decide, fun n1 d1 e1 hn1 hc1 => ?_⟩
  have hm1 : n1 = p.fWants.length := by rw [hn1]; show 0 + _ = _; simp
  clear hn1
  subst hm1
  conv => whnf
  repeat' (first | ((refine And.intro True.intro ?_; conv => whnf)) | (refine And.intro ?_ ?_; (focus (first | exact rfl | exact Nat.le_of_ble_eq_true rfl | decide | omega | fail)); conv => whnf) | (refine d_p ?_; conv => whnf) | (refine d_e ?_; conv => whnf) | (refine d_nil ?_; conv => whnf) | (refine r_nil ?_; conv => whnf) | fail)
  first | exact ⟨rfl, d1, e1, rfl⟩ | exact ⟨d1, e1, rfl⟩
theorem take_O (x : Mate) (p : MateParcel) (b b1 b2 b3 b4 c1 c2 c3 c4 : Nat) : ((5, b, ({ x with fRuns := x.fRuns.map (updU p) } : Mate).O 31 32 33 34 b1 b2 b3 b4 c1 c2 c3 c4) :: ({ x with fRuns := x.fRuns.map (updU p) } : Mate).L 31 32 33 34 b1 b2 b3 b4 c1 c2 c3 c4 : List Go.Ab.Loan) = [(5, b, .agg [.str x.fName, .bool x.fUp, .int .i64 x.fClock, .bool x.fKnown, .int .i64 x.fSeen, .lsl 31 b1 x.fWants.length c1, .lsl 32 b2 x.fRuns.length c2, .lsl 33 b3 x.fAsks.length c3, .lsl 34 b4 x.fGives.length c4]), (31, b1, .arr 7 (x.fWants.map MateWant.D) c1), (32, b2, .arr 11 ((x.fRuns.map (updU p)).map MateRun.D) c2), (33, b3, .arr 4 (x.fAsks.map MateAsk.D) c3), (34, b4, .arr 4 (x.fGives.map MateAsk.D) c4)] := by
  simp only [Mate.O, Mate.L, List.length_map]
set_option maxHeartbeats 8000000 in
theorem impl_takeB (x : Mate) (p : MateParcel) (b b1 b2 b3 b4 c1 c2 c3 c4 : Nat) (hs : x.small) (hN : ¬ (idle x p = false ∧ p.fKind = 1 ∧ told x p = true)) :
    XC Try.prog 103 [.lref 5 b [] 0, p.D] ((5, b, x.O 31 32 33 34 b1 b2 b3 b4 c1 c2 c3 c4) :: x.L 31 32 33 34 b1 b2 b3 b4 c1 c2 c3 c4) (fun d ls => d = .tup [] ∧ ls = (5, b, (takeM x p).O 31 32 33 34 b1 b2 b3 b4 c1 c2 c3 c4) :: (takeM x p).L 31 32 33 34 b1 b2 b3 b4 c1 c2 c3 c4) := by
  refine XC.intro' hm [5, 31, 32, 33, 34] rfl c103 (Nat.le_of_ble_eq_true rfl) ?_
  have l2 := hs.fRuns.1
  have l3 := hs.fAsks.1
  have l4 := hs.fGives.1
  simp only [Mate.O, Mate.L]
  conv => whnf
  repeat' (first | (refine g_op ?_; conv => whnf) | (refine And.intro ?_ ?_; (focus (first | exact rfl | exact Nat.le_of_ble_eq_true rfl | decide | omega | fail)); conv => whnf) | (refine g_seq ?_) | (refine g_ops ?_) | (refine g_nil ?_; conv => whnf) | (refine fun _ => ?_; conv => whnf) | fail)
  refine XS.freezeB 3 rfl ?_
  refine XS.go ?_
  repeat' (first | (refine z_ld1 ?_; first | (refine z_ld rfl rfl rfl rfl (by first | (simp only [List.length_set]; assumption) | assumption | omega) (by first | exact elt_set (by first | assumption | (simp only [List.length_set]; assumption)) | assumption) ?_; conv => whnf) | (refine z_ld0 rfl ?_; conv => whnf)) | (refine z_ld1g ?_; first | (refine z_ldg rfl rfl rfl rfl rfl rfl rfl (by (repeat intro _); exact ⟨(by first | (simp only [List.length_set]; assumption) | assumption | omega), (by first | exact elt_set (by first | assumption | (simp only [List.length_set]; assumption)) | assumption)⟩) rfl rfl rfl rfl ?_; conv => whnf) | (refine z_ld0g ?_; (conv => whnf); refine And.intro ?_ ?_; (focus exact rfl); conv => whnf)) | (refine z_op ?_ ?_; (focus exact rfl); conv => whnf) | (refine z_opg0 ?_; (conv => whnf); refine And.intro ?_ ?_; (focus exact rfl); conv => whnf) | (refine z_pick ?_ ?_; (focus exact rfl); conv => whnf) | (refine zs_quiet ?_ ?_; (focus exact rfl)) | (refine z_nil fun vals => ?_; conv => whnf) | (refine And.intro ?_ ?_; (focus (first | exact rfl | exact Nat.le_of_ble_eq_true rfl | decide | omega | fail)); conv => whnf) | (refine g_seq ?_) | (refine XS.go ?_) | (refine g_cond ?_; conv => whnf) | fail)
  refine Br.mk (fun hI => ?_) (fun hI => ?_)
  · have hI : idle x p = true := hI
    have e : takeM x p = x := by rw [takeM, if_pos hI]
    rw [e]
    conv => whnf
    repeat' (first | (refine And.intro ?_ ?_; (focus (first | exact rfl | exact Nat.le_of_ble_eq_true rfl | decide | omega | fail)); conv => whnf) | (refine g_ret ?_; conv => whnf) | (refine r_nil ?_; conv => whnf) | fail)
    first | exact ⟨rfl, rfl⟩ | exact rfl
  have hI : idle x p = false := hI
  have e0 : takeM x p = if p.fKind = 1 then (if told x p = true then { x with fKnown := true, fSeen := p.fSeen, fWants := p.fWants } else x) else if p.fKind = 3 then (if denied x p (askI x.fAsks p.fHold) = true then x else { x with fRuns := x.fRuns.map (updU p) }) else if p.fKind = 5 then { x with fGives := x.fGives.filter fun a => !delQ p a } else x := by rw [takeM, if_neg (by rw [hI]; exact Bool.false_ne_true)]
  rw [e0]
  clear e0
  conv => whnf
  repeat' (first | (refine z_ld1 ?_; first | (refine z_ld rfl rfl rfl rfl (by first | (simp only [List.length_set]; assumption) | assumption | omega) (by first | exact elt_set (by first | assumption | (simp only [List.length_set]; assumption)) | assumption) ?_; conv => whnf) | (refine z_ld0 rfl ?_; conv => whnf)) | (refine z_op ?_ ?_; (focus exact rfl); conv => whnf) | (refine zs_ops ?_ ?_; (focus exact rfl)) | (refine z_nil fun vals => ?_; conv => whnf) | (refine g_op ?_; conv => whnf) | (refine And.intro ?_ ?_; (focus (first | exact rfl | exact Nat.le_of_ble_eq_true rfl | decide | omega | fail)); conv => whnf) | (refine g_seq ?_) | (refine XS.go ?_) | (refine g_ops ?_) | (refine g_nil ?_; conv => whnf) | (refine g_cond ?_; conv => whnf) | (refine g_skip ?_; conv => whnf) | (refine g_block ?_) | fail)
  refine Br.mk (fun hk => ?_) (fun hk => ?_)
  · have hk1 : p.fKind = 1 := by simpa using hk
    have ht : told x p = false := by
      cases h : told x p with
      | false => rfl
      | true => exact absurd ⟨hI, hk1, h⟩ hN
    rw [if_pos hk1, if_neg (by rw [ht]; exact Bool.false_ne_true)]
    conv => whnf
    repeat' (first | (refine z_ld1 ?_; first | (refine z_ld rfl rfl rfl rfl (by first | (simp only [List.length_set]; assumption) | assumption | omega) (by first | exact elt_set (by first | assumption | (simp only [List.length_set]; assumption)) | assumption) ?_; conv => whnf) | (refine z_ld0 rfl ?_; conv => whnf)) | (refine z_ld1g ?_; first | (refine z_ldg rfl rfl rfl rfl rfl rfl rfl (by (repeat intro _); exact ⟨(by first | (simp only [List.length_set]; assumption) | assumption | omega), (by first | exact elt_set (by first | assumption | (simp only [List.length_set]; assumption)) | assumption)⟩) rfl rfl rfl rfl ?_; conv => whnf) | (refine z_ld0g ?_; (conv => whnf); refine And.intro ?_ ?_; (focus exact rfl); conv => whnf)) | (refine z_op ?_ ?_; (focus exact rfl); conv => whnf) | (refine z_opg0 ?_; (conv => whnf); refine And.intro ?_ ?_; (focus exact rfl); conv => whnf) | (refine z_pick ?_ ?_; (focus exact rfl); conv => whnf) | (refine zs_quiet ?_ ?_; (focus exact rfl)) | (refine z_nil fun vals => ?_; conv => whnf) | (refine z_callg0 ?_; (conv => whnf); refine And.intro ?_ ?_; (focus exact rfl)) | (refine RC.of (impl_WantsOk p.fWants) ?_ ?_; (focus exact rfl); conv => whnf) | (refine RC.of (impl_within _ _ _) ?_ ?_; (focus exact rfl); conv => whnf) | (refine And.intro ?_ ?_; (focus (first | exact rfl | exact Nat.le_of_ble_eq_true rfl | decide | omega | fail)); conv => whnf) | (refine g_seq ?_) | (refine XS.go ?_) | (refine Br.f ?_ ?_; (focus (first | assumption | exact rfl)); conv => whnf) | (refine g_cond ?_; conv => whnf) | (refine g_skip ?_; conv => whnf) | (refine r_nil ?_; conv => whnf) | fail)
    first | exact ⟨rfl, rfl⟩ | exact rfl
  have hk1 : ¬ p.fKind = 1 := by simpa using hk
  rw [if_neg hk1]
  clear hk hN
  conv => whnf
  repeat' (first | (refine g_op ?_; conv => whnf) | (refine And.intro ?_ ?_; (focus (first | exact rfl | exact Nat.le_of_ble_eq_true rfl | decide | omega | fail)); conv => whnf) | (refine g_seq ?_) | (refine XS.go ?_) | (refine g_ops ?_) | (refine g_nil ?_; conv => whnf) | (refine g_cond ?_; conv => whnf) | fail)
  refine Br.mk (fun hk => ?_) (fun hk => ?_)
  · have hk3 : p.fKind = 3 := by simpa using hk
    rw [if_pos hk3]
    have hA := impl_AskAt x.fAsks p.fHold l3
    cases hq : askI x.fAsks p.fHold with
    | negSucc m =>
      rw [hq] at hA
      have hdec : decide (Int.negSucc m < 0) = true := decide_eq_true (Int.negSucc_lt_zero m)
      rw [if_pos (show denied x p (Int.negSucc m) = true by rw [denied, decide_eq_true (Int.negSucc_lt_zero m)]; rfl)]
      conv => whnf
      repeat' (first | (refine z_skipT ?_ ?_; (focus ((conv => lhs; whnf); done)); (conv => whnf); refine And.intro ?_ ?_; (focus exact rfl)) | (refine z_pickT ?_ ?_ ?_; (focus ((conv => lhs; whnf); done)); (focus exact rfl); (conv => whnf)) | ((refine RC.ofB hA (.cons (Bor.rowM rfl rfl rfl (fun _ => rfl)) (.cons (Bor.refl _ _) .nil)) rfl ?_; conv => whnf)) | ((refine z_skipT (congrArg Go.Ab.D.bool hdec) ?_; (conv => whnf); refine And.intro ?_ ?_; (focus exact rfl))) | ((refine z_pickT (congrArg Go.Ab.D.bool hdec) ?_ ?_; (focus exact rfl); (conv => whnf))) | (refine z_ld1 ?_; first | (refine z_ld rfl rfl rfl rfl (by first | (simp only [List.length_set]; assumption) | assumption | omega) (by first | exact elt_set (by first | assumption | (simp only [List.length_set]; assumption)) | assumption) ?_; conv => whnf) | (refine z_ld0 rfl ?_; conv => whnf)) | (refine z_op ?_ ?_; (focus exact rfl); conv => whnf) | (refine zs_quiet ?_ ?_; (focus exact rfl)) | (refine z_nil fun vals => ?_; conv => whnf) | (refine z_call ?_ ?_; (focus exact rfl)) | (refine And.intro ?_ ?_; (focus (first | exact rfl | exact Nat.le_of_ble_eq_true rfl | decide | omega | fail)); conv => whnf) | (refine g_seq ?_) | (refine XS.go ?_) | (refine Br.t ?_ ?_; (focus (first | assumption | exact rfl)); conv => whnf) | (refine g_cond ?_; conv => whnf) | (refine g_ret ?_; conv => whnf) | (refine r_nil ?_; conv => whnf) | fail)
      first | exact ⟨rfl, rfl⟩ | exact rfl
    | ofNat m =>
      rw [hq] at hA
      have hm0 : (0 : Int) ≤ Int.ofNat m := Int.natCast_nonneg m
      have hml : m < x.fAsks.length := askI_lt x.fAsks p.fHold hq
      have hm1 : Int.ofNat m < ((x.fAsks.length : Nat) : Int) := by
        show ((m : Nat) : Int) < _
        omega
      have hj0 : (Int.ofNat m).toNat < (x.fAsks.map MateAsk.D).length := by rw [List.length_map]; exact hml
      have he0 : (x.fAsks.map MateAsk.D).getD (Int.ofNat m).toNat .any = (x.fAsks.getD (Int.ofNat m).toNat default).D := elt_map hml
      conv => whnf
      repeat' (first | ((refine RC.ofB hA (.cons (Bor.rowM rfl rfl rfl (fun _ => rfl)) (.cons (Bor.refl _ _) .nil)) rfl ?_; conv => whnf)) | ((refine And.intro hm0 ?_; conv => whnf)) | ((refine And.intro hm1 ?_; conv => whnf)) | (refine z_ld1 ?_; first | (refine z_ld rfl rfl rfl rfl (by first | (simp only [List.length_set]; assumption) | assumption | omega) (by first | exact elt_set (by first | assumption | (simp only [List.length_set]; assumption)) | assumption) ?_; conv => whnf) | (refine z_ld0 rfl ?_; conv => whnf)) | (refine z_ld1g ?_; first | (refine z_ldg rfl rfl rfl rfl rfl rfl rfl (by (repeat intro _); exact ⟨(by first | (simp only [List.length_set]; assumption) | assumption | omega), (by first | exact elt_set (by first | assumption | (simp only [List.length_set]; assumption)) | assumption)⟩) rfl rfl rfl rfl ?_; conv => whnf) | (refine z_ld0g ?_; (conv => whnf); refine And.intro ?_ ?_; (focus exact rfl); conv => whnf)) | (refine z_op ?_ ?_; (focus exact rfl); conv => whnf) | (refine z_opg0 ?_; (conv => whnf); refine And.intro ?_ ?_; (focus exact rfl); conv => whnf) | (refine z_pick ?_ ?_; (focus exact rfl); conv => whnf) | (refine zs_quiet ?_ ?_; (focus exact rfl)) | (refine z_nil fun vals => ?_; conv => whnf) | (refine z_call ?_ ?_; (focus exact rfl)) | (refine And.intro ?_ ?_; (focus (first | exact rfl | exact Nat.le_of_ble_eq_true rfl | decide | omega | fail)); conv => whnf) | (refine g_seq ?_) | (refine XS.go ?_) | (refine g_cond ?_; conv => whnf) | fail)
      refine Br.mk (fun hd => ?_) (fun hd => ?_)
      · rw [if_pos (show denied x p (Int.ofNat m) = true from hd)]
        conv => whnf
        repeat' (first | (refine And.intro ?_ ?_; (focus (first | exact rfl | exact Nat.le_of_ble_eq_true rfl | decide | omega | fail)); conv => whnf) | (refine g_ret ?_; conv => whnf) | (refine r_nil ?_; conv => whnf) | fail)
        first | exact ⟨rfl, rfl⟩ | exact rfl
      rw [if_neg (by rw [show denied x p (Int.ofNat m) = false from hd]; exact Bool.false_ne_true)]
      clear hd hj0 he0 hm0 hm1 hA hml
      conv => whnf
      repeat' (first | (refine z_ld1 ?_; first | (refine z_ld rfl rfl rfl rfl (by first | (simp only [List.length_set]; assumption) | assumption | omega) (by first | exact elt_set (by first | assumption | (simp only [List.length_set]; assumption)) | assumption) ?_; conv => whnf) | (refine z_ld0 rfl ?_; conv => whnf)) | (refine z_op ?_ ?_; (focus exact rfl); conv => whnf) | (refine zs_ops ?_ ?_; (focus exact rfl)) | (refine z_nil fun vals => ?_; conv => whnf) | (refine And.intro ?_ ?_; (focus (first | exact rfl | exact Nat.le_of_ble_eq_true rfl | decide | omega | fail)); conv => whnf) | (refine g_seq ?_) | (refine XS.go ?_) | (refine g_loop ?_) | (refine g_skip ?_; conv => whnf) | (refine g_block ?_) | fail)
      refine XLc.mkG (α := Nat) (fun i gs => i ≤ x.fRuns.length ∧ gs 5 = b ∧ gs 31 = b1 ∧ gs 32 = b2 ∧ gs 33 = b3 ∧ gs 34 = b4) (fun i => x.fRuns.length - i) (fun i gs => [.lref 5 (gs 5) [] 0, .any, .any, .cref p.D, .any, .any, .any, .any, .any, .any, .any, .any, .any, .any, .any, .any, .any, .any, .any, .any, .any, .any, .any, .any, .any, .any, .any, .any, .any, .any, .any, .any, .any, .any, .any, .any, .any, .any, .any, .any, .any, .any, .any, .any, .any, .any, .any, .any, .any, .any, .any, .any, .any, .any, .any, .any, .any, .any, .any, .any, .any, .any, .any, .any, .any, .any, .any, .any, .any, .any, .any, .any, .any, .any, .any, .any, .any, .any, .any, .any, .any, .any, .any, .any, .any, .any, .any, .any, .any, .any, .any, .any, .any, .any, .any, .any, .any, .any, .any, .any, .any, .any, .any, .any, .any, .any, .any, .any, .any, .any, .any, .any, .any, .any, .any, .any, .any, .int .i64 (x.fRuns.length : Int), .int .i64 (i : Int)]) (fun i gs => [(5, .agg [.str x.fName, .bool x.fUp, .int .i64 x.fClock, .bool x.fKnown, .int .i64 x.fSeen, .lsl 31 b1 x.fWants.length c1, .lsl 32 b2 x.fRuns.length c2, .lsl 33 b3 x.fAsks.length c3, .lsl 34 b4 x.fGives.length c4]), (31, .arr 7 (x.fWants.map MateWant.D) c1), (32, .arr 11 ((part (updU p) x.fRuns i).map MateRun.D) c2), (33, .arr 4 (x.fAsks.map MateAsk.D) c3), (34, .arr 4 (x.fGives.map MateAsk.D) c4)]) 0 ⟨Nat.zero_le _, rfl, rfl, rfl, rfl, rfl⟩ ?_ ?_
      · refine ⟨?_, ?_⟩
        · repeat' (first | exact True.intro | refine And.intro rfl ?_)
        · exact ⟨rfl, rfl, rfl, rfl, rfl, True.intro⟩
      intro i gs hIn
      obtain ⟨hi0, g0, g1, g2, g3, g4⟩ := hIn
      subst g0 g1 g2 g3 g4
      repeat' (first | (refine g_op ?_; conv => whnf) | (refine And.intro ?_ ?_; (focus (first | exact rfl | exact Nat.le_of_ble_eq_true rfl | decide | omega | fail)); conv => whnf) | (refine g_seq ?_) | (refine XS.go ?_) | (refine g_ops ?_) | (refine g_nil ?_; conv => whnf) | (refine g_cond ?_; conv => whnf) | fail)
      refine Br.mk (fun hb => ?_) (fun hb => ?_)
      · have hlt : i < x.fRuns.length := by simpa using hb
        have hj0 : i < ((part (updU p) x.fRuns i).map MateRun.D).length := by rw [List.length_map, part_len]; exact hlt
        have he0 : ((part (updU p) x.fRuns i).map MateRun.D).getD i .any = (x.fRuns.getD i default).D := by
          rw [elt_map (by rw [part_len]; exact hlt), part_get _ _ hlt]
        have hfin : ∀ d, d = (updU p (x.fRuns.getD i default)).D → ((part (updU p) x.fRuns i).map MateRun.D).set i d = (part (updU p) x.fRuns (i + 1)).map MateRun.D := fun d h => by
          rw [h, ← part_set (updU p) default hlt, List.map_set]
        have hsame : updU p (x.fRuns.getD i default) = x.fRuns.getD i default → (part (updU p) x.fRuns i).map MateRun.D = (part (updU p) x.fRuns (i + 1)).map MateRun.D := fun h => by
          rw [← part_set (updU p) default hlt, h, ← part_get (updU p) default hlt]
          congr 1
          have hq : i < (part (updU p) x.fRuns i).length := by rw [part_len]; exact hlt
          rw [show (part (updU p) x.fRuns i).getD i default = (part (updU p) x.fRuns i)[i] by simp [hq]]
          simp
        have hwr : ((i : Nat) : Int) < ((x.fRuns.length : Nat) : Int) := by omega
        clear hb
        conv => whnf
        repeat' (first | (refine z_ld1 ?_; first | (refine z_ld rfl rfl rfl rfl (by first | (simp only [List.length_set]; assumption) | assumption | omega) (by first | exact elt_set (by first | assumption | (simp only [List.length_set]; assumption)) | assumption) ?_; conv => whnf) | (refine z_ld0 rfl ?_; conv => whnf)) | (refine z_ld1g ?_; first | (refine z_ldg rfl rfl rfl rfl rfl rfl rfl (by (repeat intro _); exact ⟨(by first | (simp only [List.length_set]; assumption) | assumption | omega), (by first | exact elt_set (by first | assumption | (simp only [List.length_set]; assumption)) | assumption)⟩) rfl rfl rfl rfl ?_; conv => whnf) | (refine z_ld0g ?_; (conv => whnf); refine And.intro ?_ ?_; (focus exact rfl); conv => whnf)) | (refine z_ix1 ?_; first | (refine z_ix rfl rfl rfl rfl rfl ⟨by first | omega | (simp only [decide_eq_true_eq, Bool.not_eq_true', Bool.or_eq_false_iff, decide_eq_false_iff_not, Bool.and_eq_true, Bool.not_eq_false'] at *; omega), by first | omega | (simp only [decide_eq_true_eq, Bool.not_eq_true', Bool.or_eq_false_iff, decide_eq_false_iff_not, Bool.and_eq_true, Bool.not_eq_false'] at *; omega)⟩ ?_; conv => whnf) | (refine z_ix0 rfl rfl ?_; conv => whnf)) | (refine z_op ?_ ?_; (focus exact rfl); conv => whnf) | (refine z_opg0 ?_; (conv => whnf); refine And.intro ?_ ?_; (focus exact rfl); conv => whnf) | (refine z_pick ?_ ?_; (focus exact rfl); conv => whnf) | (refine zs_ops ?_ ?_; (focus exact rfl)) | (refine zs_quiet ?_ ?_; (focus exact rfl)) | (refine z_nil fun vals => ?_; conv => whnf) | (refine g_op ?_; conv => whnf) | (refine And.intro ?_ ?_; (focus (first | exact rfl | exact Nat.le_of_ble_eq_true rfl | decide | omega | fail)); conv => whnf) | (refine g_seq ?_) | (refine XS.go ?_) | (refine g_ops ?_) | (refine g_nil ?_; conv => whnf) | (refine g_cond ?_; conv => whnf) | (refine g_skip ?_; conv => whnf) | (refine g_block ?_) | fail)
        refine Br.mk (fun hb => ?_) (fun hb => ?_)
        · have hu : updU p (x.fRuns.getD i default) = { x.fRuns.getD i default with fUntil := max (x.fRuns.getD i default).fUntil (IntKind.wrap .i64 (p.fAt + 16)) } := if_pos hb
          clear hb
          conv => whnf
          repeat' (first | ((refine d_ld rfl rfl rfl hj0 he0 ?_; conv => whnf)) | ((refine d_st rfl rfl rfl hj0 he0 rfl rfl ?_; conv => whnf)) | (refine g_op ?_; conv => whnf) | (refine And.intro ?_ ?_; (focus (first | exact rfl | exact Nat.le_of_ble_eq_true rfl | decide | omega | fail)); conv => whnf) | (refine XS.go ?_) | (refine g_ops ?_) | (refine g_nil ?_; conv => whnf) | (refine g_drawn ?_) | (refine d_p ?_; conv => whnf) | (refine d_nil ?_; conv => whnf) | fail)
          refine ⟨i + 1, ⟨hlt, rfl, rfl, rfl, rfl, rfl⟩, by omega, ?_, ?_⟩
          · have hw : IntKind.wrap .i64 ((i : Int) + 1) = ((i + 1 : Nat) : Int) := by rw [wrap_ok (by omega) (by omega)]; rfl
            repeat' (first | exact True.intro | refine And.intro (congrArg (D.int .i64) hw) ?_ | refine And.intro rfl ?_)
          · exact ⟨rfl, rfl, congrArg (fun l => some (D.arr 11 l c2)) (hfin _ (by rw [hu]; rfl)), rfl, rfl, True.intro⟩
        · have hu : updU p (x.fRuns.getD i default) = x.fRuns.getD i default := if_neg (by rw [hb]; exact Bool.false_ne_true)
          clear hb
          conv => whnf
          repeat' (first | (refine g_op ?_; conv => whnf) | (refine And.intro ?_ ?_; (focus (first | exact rfl | exact Nat.le_of_ble_eq_true rfl | decide | omega | fail)); conv => whnf) | (refine XS.go ?_) | (refine g_ops ?_) | (refine g_nil ?_; conv => whnf) | (refine g_skip ?_; conv => whnf) | fail)
          refine ⟨i + 1, ⟨hlt, rfl, rfl, rfl, rfl, rfl⟩, by omega, ?_, ?_⟩
          · have hw : IntKind.wrap .i64 ((i : Int) + 1) = ((i + 1 : Nat) : Int) := by rw [wrap_ok (by omega) (by omega)]; rfl
            repeat' (first | exact True.intro | refine And.intro (congrArg (D.int .i64) hw) ?_ | refine And.intro rfl ?_)
          · exact ⟨rfl, rfl, congrArg (fun l => some (D.arr 11 l c2)) (hsame hu), rfl, rfl, True.intro⟩
      have hi : i = x.fRuns.length := by
        have : ¬ i < x.fRuns.length := by simpa using hb
        omega
      subst hi
      rw [part_all]
      clear hb
      conv => whnf
      repeat' (first | (refine And.intro ?_ ?_; (focus (first | exact rfl | exact Nat.le_of_ble_eq_true rfl | decide | omega | fail)); conv => whnf) | (refine g_exit ?_; conv => whnf) | (refine r_nil ?_; conv => whnf) | fail)
      exact (take_O x p _ _ _ _ _ _ _ _ _).symm
  have hk3 : ¬ p.fKind = 3 := by simpa using hk
  rw [if_neg hk3]
  clear hk
  conv => whnf
  repeat' (first | (refine g_op ?_; conv => whnf) | (refine And.intro ?_ ?_; (focus (first | exact rfl | exact Nat.le_of_ble_eq_true rfl | decide | omega | fail)); conv => whnf) | (refine g_seq ?_) | (refine XS.go ?_) | (refine g_ops ?_) | (refine g_nil ?_; conv => whnf) | (refine g_cond ?_; conv => whnf) | fail)
  refine Br.mk (fun hk => ?_) (fun hk => ?_)
  · have hk5 : p.fKind = 5 := by simpa using hk
    rw [if_pos hk5]
    conv => whnf
    repeat' (first | (refine g_op ?_; conv => whnf) | (refine And.intro ?_ ?_; (focus (first | exact rfl | exact Nat.le_of_ble_eq_true rfl | decide | omega | fail)); conv => whnf) | (refine g_ops ?_) | fail)
    refine XCL.of_XC (ls := [(34, b4, .arr 4 (x.fGives.map MateAsk.D) c4)]) ⟨rfl, rfl, rfl, True.intro⟩ ((delF_MateAsk 120 [.cref p.D] (delQ p) rfl (impl_delQ p) 34 x.fGives b4 c4 l4).mono fun d ls h => ?_)
    obtain ⟨rfl, rfl⟩ := h
    conv => whnf
    repeat' (first | (refine g_op ?_; conv => whnf) | (refine And.intro ?_ ?_; (focus (first | exact rfl | exact Nat.le_of_ble_eq_true rfl | decide | omega | fail)); conv => whnf) | (refine g_nil ?_; conv => whnf) | (refine r_nil ?_; conv => whnf) | fail)
    first | exact ⟨rfl, rfl⟩ | exact rfl
  have hk5 : ¬ p.fKind = 5 := by simpa using hk
  rw [if_neg hk5]
  conv => whnf
  repeat' (first | (refine And.intro ?_ ?_; (focus (first | exact rfl | exact Nat.le_of_ble_eq_true rfl | decide | omega | fail)); conv => whnf) | (refine g_skip ?_; conv => whnf) | (refine r_nil ?_; conv => whnf) | fail)
  first | exact ⟨rfl, rfl⟩ | exact rfl
end Go.Ab
