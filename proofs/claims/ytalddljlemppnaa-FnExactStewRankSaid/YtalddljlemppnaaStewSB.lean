/- Steps towards the law: contracts of functions and facts of lists. -/
import Derived.Test.YtalddljlemppnaaStewS
import Derived.Test.YtalddljlemppnaaRows
set_option linter.unusedSimpArgs false
set_option linter.unusedVariables false
namespace Go.Ab
open Go Go.RowKit Go.Proofs
attribute [local irreducible] XC Rdr IntKind.wrap xw xos xqs xr xd
set_option maxRecDepth 100000

/-- laws.markStewBook -/
def cf40 : CF := ⟨18, [.t 4],
  (.seq (.ops [⟨some 2, .bx (.t 0), none⟩,
    ⟨some 4, .mv (.k (.int .i64 0)), none⟩])
  (.seq (.ops [⟨some 5, .fa 1 1 1 (.t 2), none⟩,
    ⟨some 6, .ld 1 false (.t 5), none⟩,
    ⟨some 7, .mv (.t 1), none⟩,
    ⟨some 8, .call 104 [(.t 6), (.t 7)], none⟩,
    ⟨some 1, .mv (.t 8), none⟩])
  (.seq (.ops [⟨some 9, .fa 2 1 2 (.t 2), none⟩,
    ⟨some 10, .ld 1 false (.t 9), none⟩,
    ⟨some 11, .mv (.t 1), none⟩,
    ⟨some 12, .call 105 [(.t 10), (.t 11)], none⟩,
    ⟨some 1, .mv (.t 12), none⟩])
  (.seq (.ops [⟨some 13, .fa 3 1 3 (.t 2), none⟩,
    ⟨some 14, .ld 1 false (.t 13), none⟩,
    ⟨some 15, .mv (.t 1), none⟩,
    ⟨some 16, .call 106 [(.t 14), (.t 15)], none⟩,
    ⟨some 1, .mv (.t 16), none⟩])
  (.seq (.ops [⟨some 17, .mv (.t 1), none⟩,
    ⟨some 4, .mv (.t 17), none⟩])
  .ret)))))⟩
theorem c40 : compileF Try.prog [] 40 = some cf40 := by kernel_rfl
/-- laws.heldStewBook -/
def cf49 : CF := ⟨24, [.t 4],
  (.seq (.ops [⟨some 2, .bx (.t 0), none⟩,
    ⟨some 4, .mv (.k (.int .i64 0)), none⟩])
  (.seq (.ops [⟨some 5, .fa 1 1 1 (.t 2), none⟩,
    ⟨some 6, .ld 1 false (.t 5), none⟩,
    ⟨some 7, .mv (.t 1), none⟩,
    ⟨some 8, .call 112 [(.t 6), (.t 7)], none⟩,
    ⟨some 1, .mv (.t 8), none⟩])
  (.seq (.seq (.ops [⟨some 9, .mv (.t 1), none⟩,
    ⟨some 10, .bin .lss (.t 9) (.k (.int .i64 0)), none⟩])
  (.cond (.t 10)
  (.seq (.ops [⟨some 4, .mv (.k (.int .i64 (-1))), none⟩])
  .ret)
  .skip))
  (.seq (.ops [⟨some 11, .fa 2 1 2 (.t 2), none⟩,
    ⟨some 12, .ld 1 false (.t 11), none⟩,
    ⟨some 13, .mv (.t 1), none⟩,
    ⟨some 14, .call 113 [(.t 12), (.t 13)], none⟩,
    ⟨some 1, .mv (.t 14), none⟩])
  (.seq (.seq (.ops [⟨some 15, .mv (.t 1), none⟩,
    ⟨some 16, .bin .lss (.t 15) (.k (.int .i64 0)), none⟩])
  (.cond (.t 16)
  (.seq (.ops [⟨some 4, .mv (.k (.int .i64 (-1))), none⟩])
  .ret)
  .skip))
  (.seq (.ops [⟨some 17, .fa 3 1 3 (.t 2), none⟩,
    ⟨some 18, .ld 1 false (.t 17), none⟩,
    ⟨some 19, .mv (.t 1), none⟩,
    ⟨some 20, .call 114 [(.t 18), (.t 19)], none⟩,
    ⟨some 1, .mv (.t 20), none⟩])
  (.seq (.seq (.ops [⟨some 21, .mv (.t 1), none⟩,
    ⟨some 22, .bin .lss (.t 21) (.k (.int .i64 0)), none⟩])
  (.cond (.t 22)
  (.seq (.ops [⟨some 4, .mv (.k (.int .i64 (-1))), none⟩])
  .ret)
  .skip))
  (.seq (.ops [⟨some 23, .mv (.t 1), none⟩,
    ⟨some 4, .mv (.t 23), none⟩])
  .ret))))))))⟩
theorem c49 : compileF Try.prog [] 49 = some cf49 := by kernel_rfl
/-- laws.markIntS -/
def cf41 : CF := ⟨19, [.t 4],
  (.seq (.ops [⟨some 4, .mv (.k (.int .i64 0)), none⟩])
  (.seq (.seq (.ops [⟨some 5, .mv (.k (.int .i64 0)), none⟩])
  (.block 0 (.loop (.seq (.seq (.ops [⟨some 6, .mv (.t 5), none⟩,
    ⟨some 7, .mv (.t 0), none⟩,
    ⟨some 8, .lenl (.t 7), none⟩,
    ⟨some 9, .bin .lss (.t 6) (.t 8), none⟩])
  (.cond (.t 9)
  .skip
  (.exit 0)))
  (.seq (.block 1 (.seq (.ops [⟨some 12, .mv (.t 0), none⟩,
    ⟨some 13, .mv (.t 5), none⟩,
    ⟨some 14, .mv (.t 1), none⟩,
    ⟨some 15, .ix 1 (.t 12) (.t 13), none⟩,
    ⟨none, .st 1 (.t 15) (.t 14), none⟩])
  (.ops [⟨some 16, .mv (.t 1), none⟩,
    ⟨some 17, .bin .add (.t 16) (.k (.int .i64 1)), none⟩,
    ⟨some 1, .mv (.t 17), none⟩])))
  (.ops [⟨some 10, .mv (.t 5), none⟩,
    ⟨some 11, .bin .add (.t 10) (.k (.int .i64 1)), none⟩,
    ⟨some 5, .mv (.t 11), none⟩]))))))
  (.seq (.ops [⟨some 18, .mv (.t 1), none⟩,
    ⟨some 4, .mv (.t 18), none⟩])
  .ret)))⟩
theorem c41 : compileF Try.prog [] 41 = some cf41 := by kernel_rfl
/-- laws.heldIntS -/
def cf42 : CF := ⟨21, [.t 4],
  (.seq (.ops [⟨some 4, .mv (.k (.int .i64 0)), none⟩])
  (.seq (.seq (.ops [⟨some 5, .mv (.k (.int .i64 0)), none⟩])
  (.block 0 (.loop (.seq (.seq (.ops [⟨some 6, .mv (.t 5), none⟩,
    ⟨some 7, .mv (.t 0), none⟩,
    ⟨some 8, .lenl (.t 7), none⟩,
    ⟨some 9, .bin .lss (.t 6) (.t 8), none⟩])
  (.cond (.t 9)
  .skip
  (.exit 0)))
  (.seq (.block 1 (.seq (.seq (.ops [⟨some 12, .mv (.t 0), none⟩,
    ⟨some 13, .mv (.t 5), none⟩,
    ⟨some 14, .ix 1 (.t 12) (.t 13), none⟩,
    ⟨some 15, .ld 1 false (.t 14), none⟩,
    ⟨some 16, .mv (.t 1), none⟩,
    ⟨some 17, .bin .neq (.t 15) (.t 16), none⟩])
  (.cond (.t 17)
  (.seq (.ops [⟨some 4, .mv (.k (.int .i64 (-1))), none⟩])
  .ret)
  .skip))
  (.ops [⟨some 18, .mv (.t 1), none⟩,
    ⟨some 19, .bin .add (.t 18) (.k (.int .i64 1)), none⟩,
    ⟨some 1, .mv (.t 19), none⟩])))
  (.ops [⟨some 10, .mv (.t 5), none⟩,
    ⟨some 11, .bin .add (.t 10) (.k (.int .i64 1)), none⟩,
    ⟨some 5, .mv (.t 11), none⟩]))))))
  (.seq (.ops [⟨some 20, .mv (.t 1), none⟩,
    ⟨some 4, .mv (.t 20), none⟩])
  .ret)))⟩
theorem c42 : compileF Try.prog [] 42 = some cf42 := by kernel_rfl
def StewBook.O (x : StewBook) (s1 s2 s3 b1 b2 b3 c1 c2 c3 : Nat) : Go.Ab.D := .agg [.int .i64 x.fNow, .lsl s1 b1 x.fServices.length c1, .lsl s2 b2 x.fCopies.length c2, .lsl s3 b3 x.fBerths.length c3]
def StewBook.L (x : StewBook) (s1 s2 s3 b1 b2 b3 c1 c2 c3 : Nat) : List Go.Ab.Loan := [(s1, b1, .arr 13 (x.fServices.map StewService.D) c1), (s2, b2, .arr 7 (x.fCopies.map StewCopy.D) c2), (s3, b3, .arr 2 (x.fBerths.map StewBerth.D) c3)]
theorem Bor.bookO {st : St} {x : StewBook} {s1 s2 s3 b1 b2 b3 c1 c2 c3 k1 k2 k3 : Nat} (h1 : st.lc s1 = some (.arr 13 (x.fServices.map StewService.D) k1)) (h2 : st.lc s2 = some (.arr 7 (x.fCopies.map StewCopy.D) k2)) (h3 : st.lc s3 = some (.arr 2 (x.fBerths.map StewBerth.D) k3))
    (g1 : st.gen s1 = b1) (g2 : st.gen s2 = b2) (g3 : st.gen s3 = b3) : Bor st (x.O s1 s2 s3 b1 b2 b3 c1 c2 c3) x.D :=
  Bor.agg (.cons (Bor.refl _ _) (.cons (Bor.rowM h1 g1 rfl (fun _ => rfl)) (.cons (Bor.rowM h2 g2 rfl (fun _ => rfl)) (.cons (Bor.rowM h3 g3 rfl (fun _ => rfl)) .nil)))) rfl rfl rfl
def mkB (x : StewBook) (k : Int) : StewBook := { x with fServices := mkS mk_StewService 13 x.fServices k, fCopies := mkS mk_StewCopy 7 x.fCopies (k + (13 * x.fServices.length : Nat)), fBerths := mkS mk_StewBerth 2 x.fBerths ((k + (13 * x.fServices.length : Nat)) + (7 * x.fCopies.length : Nat)) }
def mkBK (x : StewBook) (k : Int) : Int := (((k + (13 * x.fServices.length : Nat)) + (7 * x.fCopies.length : Nat)) + (2 * x.fBerths.length : Nat))
theorem Bor.bookM {st : St} {x : StewBook} {k : Int} {s1 s2 s3 b1 b2 b3 c1 c2 c3 k1 k2 k3 : Nat} (h1 : st.lc s1 = some (.arr 13 ((mkB x k).fServices.map StewService.D) k1)) (h2 : st.lc s2 = some (.arr 7 ((mkB x k).fCopies.map StewCopy.D) k2)) (h3 : st.lc s3 = some (.arr 2 ((mkB x k).fBerths.map StewBerth.D) k3))
    (g1 : st.gen s1 = b1) (g2 : st.gen s2 = b2) (g3 : st.gen s3 = b3) : Bor st (x.O s1 s2 s3 b1 b2 b3 c1 c2 c3) (mkB x k).D :=
  Bor.agg (.cons (Bor.refl _ _) (.cons (Bor.rowM h1 g1 mkS_len.symm (fun _ => rfl)) (.cons (Bor.rowM h2 g2 mkS_len.symm (fun _ => rfl)) (.cons (Bor.rowM h3 g3 mkS_len.symm (fun _ => rfl)) .nil)))) rfl rfl rfl
set_option maxHeartbeats 4000000 in
theorem tox_Book0 (x : StewBook) (hs : x.small) : XC Try.prog 23 [x.D] [] (fun d ls => ∃ b1 b2 b3, d = x.O 31 32 33 b1 b2 b3 x.fServices.length x.fCopies.length x.fBerths.length ∧ ls = x.L 31 32 33 b1 b2 b3 x.fServices.length x.fCopies.length x.fBerths.length) := by
  refine XC.intro' hm [31, 32, 33] rfl c23 (Nat.le_of_ble_eq_true rfl) ?_
  conv => whnf
  repeat' (first | (refine g_op ?_; conv => whnf) | (refine And.intro ?_ ?_; (focus (first | exact rfl | exact Nat.le_of_ble_eq_true rfl | decide | omega | fail)); conv => whnf) | (refine g_seq ?_) | (refine XS.go ?_) | (refine g_ops ?_) | (refine g_nil ?_; conv => whnf) | (refine fun _ => ?_; conv => whnf) | fail)
  refine XCL.of_XC (ls := []) True.intro ((tox_StewServiceS 31 x.fServices hs.fServices).mono fun d ls h => ?_)
  obtain ⟨b1, rfl, rfl⟩ := h
  conv => whnf
  repeat' (first | (refine g_op ?_; conv => whnf) | (refine And.intro ?_ ?_; (focus (first | exact rfl | exact Nat.le_of_ble_eq_true rfl | decide | omega | fail)); conv => whnf) | (refine g_seq ?_) | (refine XS.go ?_) | (refine g_ops ?_) | (refine g_nil ?_; conv => whnf) | fail)
  refine XCL.of_XC (ls := []) True.intro ((tox_StewCopyS 32 x.fCopies hs.fCopies).mono fun d ls h => ?_)
  obtain ⟨b2, rfl, rfl⟩ := h
  conv => whnf
  repeat' (first | (refine g_op ?_; conv => whnf) | (refine And.intro ?_ ?_; (focus (first | exact rfl | exact Nat.le_of_ble_eq_true rfl | decide | omega | fail)); conv => whnf) | (refine g_seq ?_) | (refine XS.go ?_) | (refine g_ops ?_) | (refine g_nil ?_; conv => whnf) | fail)
  refine XCL.of_XC (ls := []) True.intro ((tox_StewBerthS 33 x.fBerths hs.fBerths).mono fun d ls h => ?_)
  obtain ⟨b3, rfl, rfl⟩ := h
  conv => whnf
  repeat' (first | (refine g_op ?_; conv => whnf) | (refine And.intro ?_ ?_; (focus (first | exact rfl | exact Nat.le_of_ble_eq_true rfl | decide | omega | fail)); conv => whnf) | (refine g_seq ?_) | (refine XS.go ?_) | (refine g_ops ?_) | (refine g_nil ?_; conv => whnf) | (refine g_ret ?_; conv => whnf) | (refine r_c ?_; conv => whnf) | (refine r_nil ?_; conv => whnf) | fail)
  exact ⟨b1, b2, b3, rfl, rfl⟩
theorem tox_Book (s1 s2 s3 : Nat) (x : StewBook) (hs : x.small) : XC Try.prog 23 [x.D] [] (fun d ls => ∃ b1 b2 b3, d = x.O s1 s2 s3 b1 b2 b3 x.fServices.length x.fCopies.length x.fBerths.length ∧ ls = x.L s1 s2 s3 b1 b2 b3 x.fServices.length x.fCopies.length x.fBerths.length) := by
  refine (tox_Book0 x hs).ren (fun _ _ _ h => h) rfl (fun d ls ⟨b1, b2, b3, h1, h2⟩ => ?_)
  subst h1 h2
  exact ⟨_, _, ⟨b1, b2, b3, rfl, rfl⟩, fun _ _ _ h => HolL.ren rfl h, fun _ _ _ h => h⟩
set_option maxHeartbeats 4000000 in
theorem mark_Book0 (x : StewBook) (b1 b2 b3 c1 c2 c3 : Nat) (k : Int) (hk : 1 ≤ k) (hs : x.small) (hB : mkBK x k ≤ 50000000) : XC Try.prog 40 [x.O 31 32 33 b1 b2 b3 c1 c2 c3, .int .i64 k] (x.L 31 32 33 b1 b2 b3 c1 c2 c3) (fun d ls => d = .int .i64 (mkBK x k) ∧ ls = (mkB x k).L 31 32 33 b1 b2 b3 c1 c2 c3) := by
  have l1 := hs.fServices.1
  have l2 := hs.fCopies.1
  have l3 := hs.fBerths.1
  unfold mkBK at hB
  refine XC.intro' hm [31, 32, 33] rfl c40 (Nat.le_of_ble_eq_true rfl) ?_
  conv => whnf
  repeat' (first | (refine g_op ?_; conv => whnf) | (refine And.intro ?_ ?_; (focus (first | exact rfl | exact Nat.le_of_ble_eq_true rfl | decide | omega | fail)); conv => whnf) | (refine g_seq ?_) | (refine XS.go ?_) | (refine g_ops ?_) | (refine g_nil ?_; conv => whnf) | (refine fun _ => ?_; conv => whnf) | fail)
  refine XCL.of_XC (ls := [(31, b1, .arr 13 (x.fServices.map StewService.D) c1)]) ⟨rfl, rfl, rfl, True.intro⟩ ((markx_StewServiceS 31 x.fServices b1 c1 k (by omega) l1 (by omega)).mono fun d ls h => ?_)
  obtain ⟨rfl, rfl⟩ := h
  conv => whnf
  repeat' (first | (refine g_op ?_; conv => whnf) | (refine And.intro ?_ ?_; (focus (first | exact rfl | exact Nat.le_of_ble_eq_true rfl | decide | omega | fail)); conv => whnf) | (refine g_seq ?_) | (refine XS.go ?_) | (refine g_ops ?_) | (refine g_nil ?_; conv => whnf) | fail)
  refine XCL.of_XC (ls := [(32, b2, .arr 7 (x.fCopies.map StewCopy.D) c2)]) ⟨rfl, rfl, rfl, True.intro⟩ ((markx_StewCopyS 32 x.fCopies b2 c2 (k + (13 * x.fServices.length : Nat)) (by omega) l2 (by omega)).mono fun d ls h => ?_)
  obtain ⟨rfl, rfl⟩ := h
  conv => whnf
  repeat' (first | (refine g_op ?_; conv => whnf) | (refine And.intro ?_ ?_; (focus (first | exact rfl | exact Nat.le_of_ble_eq_true rfl | decide | omega | fail)); conv => whnf) | (refine g_seq ?_) | (refine XS.go ?_) | (refine g_ops ?_) | (refine g_nil ?_; conv => whnf) | fail)
  refine XCL.of_XC (ls := [(33, b3, .arr 2 (x.fBerths.map StewBerth.D) c3)]) ⟨rfl, rfl, rfl, True.intro⟩ ((markx_StewBerthS 33 x.fBerths b3 c3 ((k + (13 * x.fServices.length : Nat)) + (7 * x.fCopies.length : Nat)) (by omega) l3 (by omega)).mono fun d ls h => ?_)
  obtain ⟨rfl, rfl⟩ := h
  conv => whnf
  repeat' (first | (refine g_op ?_; conv => whnf) | (refine And.intro ?_ ?_; (focus (first | exact rfl | exact Nat.le_of_ble_eq_true rfl | decide | omega | fail)); conv => whnf) | (refine g_seq ?_) | (refine XS.go ?_) | (refine g_ops ?_) | (refine g_nil ?_; conv => whnf) | (refine g_ret ?_; conv => whnf) | (refine r_t ?_; conv => whnf) | (refine r_nil ?_; conv => whnf) | fail)
  first | exact ⟨rfl, rfl⟩ | exact rfl
theorem mark_Book (s1 s2 s3 : Nat) (x : StewBook) (b1 b2 b3 c1 c2 c3 : Nat) (k : Int) (hk : 1 ≤ k) (hs : x.small) (hB : mkBK x k ≤ 50000000) : XC Try.prog 40 [x.O s1 s2 s3 b1 b2 b3 c1 c2 c3, .int .i64 k] (x.L s1 s2 s3 b1 b2 b3 c1 c2 c3) (fun d ls => d = .int .i64 (mkBK x k) ∧ ls = (mkB x k).L s1 s2 s3 b1 b2 b3 c1 c2 c3) := by
  refine (mark_Book0 x b1 b2 b3 c1 c2 c3 k hk hs hB).ren (fun _ _ _ h => h) rfl (fun d ls ⟨h1, h2⟩ => ?_)
  subst h1 h2
  exact ⟨_, _, ⟨rfl, rfl⟩, fun _ _ _ h => HolL.ren rfl h, fun _ _ _ h => h⟩
theorem mkBK_bd (x : StewBook) (hs : x.small) : 0 ≤ mkBK x 1 ∧ mkBK x 1 ≤ 50000000 := by
  have l1 := hs.fServices.1
  have l2 := hs.fCopies.1
  have l3 := hs.fBerths.1
  unfold mkBK
  omega
set_option maxHeartbeats 4000000 in
theorem held_Book (x : StewBook) (k : Int) (hk : 1 ≤ k) (hs : x.small) (hB : mkBK x k ≤ 50000000) : Rdr Try.prog 49 [(mkB x k).D, .int .i64 k] (.int .i64 (mkBK x k)) := by
  have l1 := hs.fServices.1
  have l2 := hs.fCopies.1
  have l3 := hs.fBerths.1
  unfold mkBK at hB
  have q1 := held_StewServiceS x.fServices k (by omega) l1 (by omega)
  have p1 : decide ((k + (13 * x.fServices.length : Nat)) < 0) = false := by simp; omega
  have q2 := held_StewCopyS x.fCopies (k + (13 * x.fServices.length : Nat)) (by omega) l2 (by omega)
  have p2 : decide (((k + (13 * x.fServices.length : Nat)) + (7 * x.fCopies.length : Nat)) < 0) = false := by simp; omega
  have q3 := held_StewBerthS x.fBerths ((k + (13 * x.fServices.length : Nat)) + (7 * x.fCopies.length : Nat)) (by omega) l3 (by omega)
  have p3 : decide ((((k + (13 * x.fServices.length : Nat)) + (7 * x.fCopies.length : Nat)) + (2 * x.fBerths.length : Nat)) < 0) = false := by simp; omega
  refine Rdr.intro' hm c49 (Nat.le_of_ble_eq_true rfl) ?_
  conv => whnf
  repeat' (first | (refine g_op ?_; conv => whnf) | (refine And.intro ?_ ?_; (focus (first | exact rfl | exact Nat.le_of_ble_eq_true rfl | decide | omega | fail)); conv => whnf) | (refine g_seq ?_) | (refine XS.go ?_) | (refine g_ops ?_) | (refine g_nil ?_; conv => whnf) | (refine Br.f ?_ ?_; (focus (first | assumption | exact rfl)); conv => whnf) | (refine g_cond ?_; conv => whnf) | (refine g_skip ?_; conv => whnf) | (refine g_ret ?_; conv => whnf) | (refine r_t ?_; conv => whnf) | (refine r_nil ?_; conv => whnf) | (refine fun _ => ?_; conv => whnf) | (refine XCL.of_rdr (q1) ?_; conv => whnf) | (refine XCL.of_rdr (q2) ?_; conv => whnf) | (refine XCL.of_rdr (q3) ?_; conv => whnf) | fail)
  rfl
/-! Marks of numbers. -/
def mk_Int (_ k : Int) : Int := k
set_option maxHeartbeats 8000000 in
theorem mark_IntS (xs : List Int) (b0 c0 : Nat) (k : Int) (hk : 1 ≤ k) (hl : xs.length ≤ 1048576) (hB : k + (1 * xs.length : Nat) ≤ 50000000) : XC Try.prog 41 [.lsl 0 b0 xs.length c0, .int .i64 k] [(0, b0, .arr 1 (xs.map (D.int .i64)) c0)] (fun d ls => d = .int .i64 (k + (1 * xs.length : Nat)) ∧ ls = [(0, b0, .arr 1 ((mkS mk_Int 1 xs k).map (D.int .i64)) c0)]) := by
  refine XC.intro' hm [0] rfl c41 (Nat.le_of_ble_eq_true rfl) ?_
  conv => whnf
  repeat' (first | (refine g_op ?_; conv => whnf) | (refine And.intro ?_ ?_; (focus (first | exact rfl | exact Nat.le_of_ble_eq_true rfl | decide | omega | fail)); conv => whnf) | (refine g_seq ?_) | (refine XS.go ?_) | (refine g_ops ?_) | (refine g_loop ?_) | (refine g_nil ?_; conv => whnf) | (refine g_block ?_) | fail)
  refine XLc.mkG (α := Nat) (fun i gs => i ≤ xs.length ∧ gs 0 = b0) (fun i => xs.length - i) (fun i gs => [.lsl 0 (gs 0) xs.length c0, .int .i64 (k + (1 * i : Nat)), .any, .any, .any, .int .i64 (i : Int)]) (fun i gs => [(0, .arr 1 ((mkP mk_Int 1 xs k i).map (D.int .i64)) c0)]) 0 ⟨Nat.zero_le _, rfl⟩ ?_ ?_
  · refine ⟨?_, ?_⟩
    · repeat' (first | exact True.intro | refine And.intro rfl ?_ | refine And.intro (congrArg (D.int .i64) (by simp)) ?_)
    · exact And.intro (by rw [mkP_zero]; rfl) True.intro
  intro i gs hI
  obtain ⟨hi0, hg⟩ := hI
  subst hg
  repeat' (first | (refine g_op ?_; conv => whnf) | (refine And.intro ?_ ?_; (focus (first | exact rfl | exact Nat.le_of_ble_eq_true rfl | decide | omega | fail)); conv => whnf) | (refine g_seq ?_) | (refine XS.go ?_) | (refine g_ops ?_) | (refine g_nil ?_; conv => whnf) | (refine g_cond ?_; conv => whnf) | fail)
  refine Br.mk (fun hb => ?_) (fun hb => ?_)
  · have hlt : i < xs.length := by simpa using hb
    have hj0 : i < ((mkP mk_Int 1 xs k i).map (D.int .i64)).length := by rw [List.length_map, mkP_len]; exact hlt
    have he0 : ((mkP mk_Int 1 xs k i).map (D.int .i64)).getD i .any = D.int .i64 (xs.getD i default) := by
      rw [elt_map (by rw [mkP_len]; exact hlt), mkP_get _ hlt]
    have hfin : ∀ d, d = D.int .i64 (mk_Int (xs.getD i default) (k + (1 * i : Nat))) → ((mkP mk_Int 1 xs k i).map (D.int .i64)).set i d = (mkP mk_Int 1 xs k (i + 1)).map (D.int .i64) := fun d h => by
      rw [h, ← mkP_set default hlt, List.map_set]
    have hKe : k + (1 * (i + 1) : Nat) = k + (1 * i : Nat) + 1 := by omega
    have hK0 : 1 ≤ k + (1 * i : Nat) := by omega
    have hK1 : k + (1 * i : Nat) + 1 ≤ 50000000 := by omega
    generalize hK : k + (1 * i : Nat) = K at hfin hK0 hK1 hKe ⊢
    have hw1 : IntKind.wrap .i64 (K + 1) = (K + 1) := wrap_ok (by omega) (by omega)
    conv => whnf
    repeat' (first | (refine z_st1 ?_; first | (refine z_st rfl rfl rfl (by first | (simp only [List.length_set]; assumption) | assumption | omega) (by first | exact elt_set (by first | assumption | (simp only [List.length_set]; assumption)) | assumption) rfl rfl ?_; conv => whnf) | (refine z_st0 ?_; conv => whnf)) | (refine z_ix1 ?_; first | (refine z_ix rfl rfl rfl rfl rfl ⟨by first | omega | (simp only [decide_eq_true_eq, Bool.not_eq_true', Bool.or_eq_false_iff, decide_eq_false_iff_not, Bool.and_eq_true, Bool.not_eq_false'] at *; omega), by first | omega | (simp only [decide_eq_true_eq, Bool.not_eq_true', Bool.or_eq_false_iff, decide_eq_false_iff_not, Bool.and_eq_true, Bool.not_eq_false'] at *; omega)⟩ ?_; conv => whnf) | (refine z_ix0 rfl rfl ?_; conv => whnf)) | (refine z_op ?_ ?_; (focus exact rfl); conv => whnf) | (refine zs_ops ?_ ?_; (focus exact rfl)) | (refine z_nil fun vals => ?_; conv => whnf) | (refine g_op ?_; conv => whnf) | (refine And.intro ?_ ?_; (focus (first | exact rfl | exact Nat.le_of_ble_eq_true rfl | decide | omega | fail)); conv => whnf) | (refine g_seq ?_) | (refine XS.go ?_) | (refine g_ops ?_) | (refine g_nil ?_; conv => whnf) | (refine g_skip ?_; conv => whnf) | (refine g_block ?_) | fail)
    have hw : IntKind.wrap .i64 ((i : Int) + 1) = ((i + 1 : Nat) : Int) := by rw [wrap_ok (by omega) (by omega)]; rfl
    refine ⟨i + 1, ⟨by omega, rfl⟩, by omega, ?_, ?_⟩
    · repeat' (first | exact True.intro | refine And.intro (congrArg (D.int .i64) hw) ?_ | refine And.intro rfl ?_ | refine And.intro (congrArg (D.int .i64) (by simp only [hw1]; omega)) ?_)
    · refine And.intro ?_ True.intro
      refine congrArg (fun l => some (D.arr 1 l c0)) ?_
      exact hfin _ rfl
  have hi : i = xs.length := by
    have : ¬ i < xs.length := by simpa using hb
    omega
  subst hi
  rw [mkP_all]
  conv => whnf
  repeat' (first | (refine g_op ?_; conv => whnf) | (refine And.intro ?_ ?_; (focus (first | exact rfl | exact Nat.le_of_ble_eq_true rfl | decide | omega | fail)); conv => whnf) | (refine g_seq ?_) | (refine XS.go ?_) | (refine g_ops ?_) | (refine g_nil ?_; conv => whnf) | (refine g_ret ?_; conv => whnf) | (refine g_exit ?_; conv => whnf) | (refine r_t ?_; conv => whnf) | (refine r_nil ?_; conv => whnf) | fail)
  first | exact ⟨rfl, rfl⟩ | exact rfl
theorem markx_IntS (s : Nat) (xs : List Int) (b0 c0 : Nat) (k : Int) (hk : 1 ≤ k) (hl : xs.length ≤ 1048576) (hB : k + (1 * xs.length : Nat) ≤ 50000000) : XC Try.prog 41 [.lsl s b0 xs.length c0, .int .i64 k] [(s, b0, .arr 1 (xs.map (D.int .i64)) c0)] (fun d ls => d = .int .i64 (k + (1 * xs.length : Nat)) ∧ ls = [(s, b0, .arr 1 ((mkS mk_Int 1 xs k).map (D.int .i64)) c0)]) := by
  refine (mark_IntS xs b0 c0 k hk hl hB).ren (fun _ _ _ h => h) rfl (fun d ls ⟨h1, h2⟩ => ?_)
  subst h1 h2
  exact ⟨_, _, ⟨rfl, rfl⟩, fun _ _ _ h => HolL.ren rfl h, fun _ _ _ h => h⟩
set_option maxHeartbeats 8000000 in
theorem held_IntS (xs : List Int) (k : Int) (hk : 1 ≤ k) (hl : xs.length ≤ 1048576) (hB : k + (1 * xs.length : Nat) ≤ 50000000) : Rdr Try.prog 42 [.ro 1 ((mkS mk_Int 1 xs k).map (D.int .i64)), .int .i64 k] (.int .i64 (k + (1 * xs.length : Nat))) := by
  have hml : (mkS mk_Int 1 xs k).length = xs.length := mkS_len
  refine Rdr.intro' hm c42 (Nat.le_of_ble_eq_true rfl) ?_
  conv => whnf
  repeat' (first | (refine g_op ?_; conv => whnf) | (refine And.intro ?_ ?_; (focus (first | exact rfl | exact Nat.le_of_ble_eq_true rfl | decide | omega | fail)); conv => whnf) | (refine g_seq ?_) | (refine XS.go ?_) | (refine g_ops ?_) | (refine g_loop ?_) | (refine g_nil ?_; conv => whnf) | (refine g_block ?_) | fail)
  refine XLc.mkA (α := Nat) (fun i => i ≤ xs.length) (fun i => xs.length - i) (fun i gs => [.ro 1 ((mkS mk_Int 1 xs k).map (D.int .i64)), .int .i64 (k + (1 * i : Nat)), .any, .any, .any, .int .i64 (i : Int)]) (fun i gs => []) 0 (Nat.zero_le _) ?_ ?_
  · refine ⟨?_, True.intro⟩
    · repeat' (first | exact True.intro | refine And.intro rfl ?_ | refine And.intro (congrArg (D.int .i64) (by simp)) ?_)
  intro i gs hi0
  repeat' (first | (refine g_op ?_; conv => whnf) | (refine And.intro ?_ ?_; (focus (first | exact rfl | exact Nat.le_of_ble_eq_true rfl | decide | omega | fail)); conv => whnf) | (refine g_seq ?_) | (refine XS.go ?_) | (refine g_ops ?_) | (refine g_nil ?_; conv => whnf) | (refine g_cond ?_; conv => whnf) | fail)
  refine Br.mk (fun hb => ?_) (fun hb => ?_)
  · have hlt : i < xs.length := by simpa [mkS_len] using hb
    have hel : (mkS mk_Int 1 xs k).getD i default = mk_Int (xs.getD i default) (k + (1 * i : Nat)) := mkS_get default hlt
    have hlt' : i < (mkS mk_Int 1 xs k).length := by rw [hml]; exact hlt
    have hKe : k + (1 * (i + 1) : Nat) = k + (1 * i : Nat) + 1 := by omega
    have hK0 : 1 ≤ k + (1 * i : Nat) := by omega
    have hK1 : k + (1 * i : Nat) + 1 ≤ 50000000 := by omega
    generalize hK : k + (1 * i : Nat) = K at hel hK0 hK1 hKe ⊢
    have hw1 : IntKind.wrap .i64 (K + 1) = (K + 1) := wrap_ok (by omega) (by omega)
    conv => whnf
    repeat' (first | (refine z_ld1 ?_; first | (refine z_ld rfl rfl rfl rfl (by first | (simp only [List.length_set]; assumption) | assumption | omega) (by first | exact elt_set (by first | assumption | (simp only [List.length_set]; assumption)) | assumption) ?_; conv => whnf) | (refine z_ld0 rfl ?_; conv => whnf)) | (refine z_ix1 ?_; first | (refine z_ix rfl rfl rfl rfl rfl ⟨by first | omega | (simp only [decide_eq_true_eq, Bool.not_eq_true', Bool.or_eq_false_iff, decide_eq_false_iff_not, Bool.and_eq_true, Bool.not_eq_false'] at *; omega), by first | omega | (simp only [decide_eq_true_eq, Bool.not_eq_true', Bool.or_eq_false_iff, decide_eq_false_iff_not, Bool.and_eq_true, Bool.not_eq_false'] at *; omega)⟩ ?_; conv => whnf) | (refine z_ix0 rfl rfl ?_; conv => whnf)) | (refine z_op ?_ ?_; (focus exact rfl); conv => whnf) | (refine zs_ops ?_ ?_; (focus exact rfl)) | (refine z_nil fun vals => ?_; conv => whnf) | (refine And.intro ?_ ?_; (focus (first | exact rfl | exact Nat.le_of_ble_eq_true rfl | decide | omega | fail)); conv => whnf) | (refine g_seq ?_) | (refine XS.go ?_) | (refine g_cond ?_; conv => whnf) | (refine g_skip ?_; conv => whnf) | (refine g_block ?_) | fail)
    refine Br.f ?_ ?_
    · simp only [Int.toNat_natCast, hel, mk_Int] <;> simp
    conv => whnf
    repeat' (first | (refine g_op ?_; conv => whnf) | (refine And.intro ?_ ?_; (focus (first | exact rfl | exact Nat.le_of_ble_eq_true rfl | decide | omega | fail)); conv => whnf) | (refine XS.go ?_) | (refine g_ops ?_) | (refine g_nil ?_; conv => whnf) | (refine g_skip ?_; conv => whnf) | fail)
    have hw : IntKind.wrap .i64 ((i : Int) + 1) = ((i + 1 : Nat) : Int) := by rw [wrap_ok (by omega) (by omega)]; rfl
    refine ⟨i + 1, by omega, by omega, ?_, True.intro⟩
    · repeat' (first | exact True.intro | refine And.intro (congrArg (D.int .i64) hw) ?_ | refine And.intro rfl ?_ | refine And.intro (congrArg (D.int .i64) (by simp only [hw1]; omega)) ?_)
  have hi : i = xs.length := by
    have : ¬ i < xs.length := by simpa [mkS_len] using hb
    omega
  subst hi
  conv => whnf
  repeat' (first | (refine g_op ?_; conv => whnf) | (refine And.intro ?_ ?_; (focus (first | exact rfl | exact Nat.le_of_ble_eq_true rfl | decide | omega | fail)); conv => whnf) | (refine g_seq ?_) | (refine XS.go ?_) | (refine g_ops ?_) | (refine g_nil ?_; conv => whnf) | (refine g_ret ?_; conv => whnf) | (refine g_exit ?_; conv => whnf) | (refine r_t ?_; conv => whnf) | (refine r_nil ?_; conv => whnf) | fail)
  rfl
end Go.Ab
