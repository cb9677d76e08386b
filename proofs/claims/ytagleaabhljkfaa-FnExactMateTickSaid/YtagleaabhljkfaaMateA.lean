/- Steps towards the law: the machine, contracts of functions and facts of lists. -/
import Derived.Test.YtagleaabhljkfaaMateT
import Derived.Test.YtagleaabhljkfaaRows
set_option linter.unusedSimpArgs false
set_option linter.unusedVariables false
namespace Go.Ab
open Go Go.RowKit Go.Proofs
attribute [local irreducible] XC Rdr IntKind.wrap xw xos xqs xr xd
set_option maxRecDepth 100000
set_option maxHeartbeats 16000000
def cf66 : CF := ⟨15,[.t 6],(.seq (.ops [Ok 6 (.bool false)]) (.seq (.ops [Om 7 0,Om 8 1,Ob 9 .geq 7 8,Om 10 9,⟨some 11,.mv (.t 0),some (10,true)⟩,⟨some 12,.mv (.t 2),some (10,true)⟩,⟨some 13,.bin .leq (.t 11) (.t 12),some (10,true)⟩,Oo 14 (.pick (.t 10) (.t 13) (.k (.bool false))),Om 6 14]) .ret))⟩
theorem c66 : compileF Try.prog [] 66 = some cf66 := by kernel_rfl
def cf80 : CF := ⟨15,[.t 6],(.seq (.ops [Ok 6 (.bool false)]) (.seq (.ops [Om 7 0,Om 8 1,Ob 9 .geq 7 8,Om 10 9,⟨some 11,.mv (.t 0),some (10,true)⟩,⟨some 12,.mv (.t 2),some (10,true)⟩,⟨some 13,.bin .leq (.t 11) (.t 12),some (10,true)⟩,Oo 14 (.pick (.t 10) (.t 13) (.k (.bool false))),Om 6 14]) .ret))⟩
theorem c80 : compileF Try.prog [] 80 = some cf80 := by kernel_rfl
def cf94 : CF := ⟨28,[.t 2],(.seq (.ops [Ok 2 (.bool false)]) (.seq (.seq (.ops [Om 4 0,Oo 5 (.lens (.t 4)),Oo 6 (.bin .lss (.t 5) (.k (.int .i64 1))),Om 7 6,⟨some 8,.mv (.t 0),some (7,false)⟩,⟨some 9,.lens (.t 8),some (7,false)⟩,⟨some 10,.bin .gtr (.t 9) (.k (.int .i64 20)),some (7,false)⟩,Oo 11 (.pick (.t 7) (.k (.bool true)) (.t 10))]) (.cond (.t 11) (.seq (.ops [Ok 2 (.bool false)]) .ret) .skip)) (.seq (.seq (.ops [Om 12 0,Oo 13 (.lens (.t 12)),Ok 14 (.int .i64 0)]) (.block 0 (.loop (.seq (.ops [Ob 15 .lss 14 13]) (.seq (.cond (.t 15) .skip (.exit 0)) (.seq (.block 1 (.seq (.ops [Om 16 14,Om 3 16]) (.seq (.ops [Om 17 0,Om 18 3,Oo 19 (.sx (.t 17) (.t 18)),Oo 20 (.bin .lss (.t 19) (.k (.int .u8 33))),Om 21 20,⟨some 22,.mv (.t 0),some (21,false)⟩,⟨some 23,.mv (.t 3),some (21,false)⟩,⟨some 24,.sx (.t 22) (.t 23),some (21,false)⟩,⟨some 25,.bin .gtr (.t 24) (.k (.int .u8 126)),some (21,false)⟩,Oo 26 (.pick (.t 21) (.k (.bool true)) (.t 25))]) (.cond (.t 26) (.seq (.ops [Ok 2 (.bool false)]) .ret) .skip)))) (.ops [Oi 27 14,Om 14 27]))))))) (.seq (.ops [Ok 2 (.bool true)]) .ret))))⟩
theorem c94 : compileF Try.prog [] 94 = some cf94 := by kernel_rfl
def cf91 : CF := ⟨24,[.t 2],(.seq (.ops [Ok 2 (.bool false)]) (.seq (.seq (.ops [Om 4 0,Oo 5 (.lens (.t 4)),Oc 6 80 [.t 5,(.k (.int .i64 1)),(.k (.int .i64 20))],Oo 7 (.not (.t 6))]) (.cond (.t 7) (.seq (.ops [Ok 2 (.bool false)]) .ret) .skip)) (.seq (.seq (.ops [Ok 3 (.int .i64 0)]) (.block 0 (.loop (.seq (.seq (.ops [Om 8 3,Om 9 0,Oo 10 (.lens (.t 9)),Ob 11 .lss 8 10]) (.cond (.t 11) .skip (.exit 0))) (.seq (.block 1 (.seq (.ops [Om 14 0,Om 15 3,Oo 16 (.sx (.t 14) (.t 15)),Oo 17 (.bin .lss (.t 16) (.k (.int .u8 33))),Om 18 17,⟨some 19,.mv (.t 0),some (18,false)⟩,⟨some 20,.mv (.t 3),some (18,false)⟩,⟨some 21,.sx (.t 19) (.t 20),some (18,false)⟩,⟨some 22,.bin .gtr (.t 21) (.k (.int .u8 126)),some (18,false)⟩,Oo 23 (.pick (.t 18) (.k (.bool true)) (.t 22))]) (.cond (.t 23) (.seq (.ops [Ok 2 (.bool false)]) .ret) .skip))) (.ops [Om 12 3,Oi 13 12,Om 3 13])))))) (.seq (.ops [Ok 2 (.bool true)]) .ret))))⟩
theorem c91 : compileF Try.prog [] 91 = some cf91 := by kernel_rfl
def cf105 : CF := ⟨9,[.t 2],(.seq (.ops [Ok 2 (.bool false)]) (.seq (.ops [Om 3 0,Oc 4 94 [.t 3],Om 5 4,⟨some 6,.mv (.t 0),some (5,true)⟩,⟨some 7,.bin .neq (.t 6) (.k (.str ⟨#[42]⟩)),some (5,true)⟩,Oo 8 (.pick (.t 5) (.t 7) (.k (.bool false))),Om 2 8]) .ret))⟩
theorem c105 : compileF Try.prog [] 105 = some cf105 := by kernel_rfl
def cf104 : CF := ⟨9,[.t 2],(.seq (.ops [Ok 2 (.bool false)]) (.seq (.ops [Om 3 0,Oc 4 91 [.t 3],Om 5 4,⟨some 6,.mv (.t 0),some (5,true)⟩,⟨some 7,.bin .neq (.t 6) (.k (.str ⟨#[42]⟩)),some (5,true)⟩,Oo 8 (.pick (.t 5) (.t 7) (.k (.bool false))),Om 2 8]) .ret))⟩
theorem c104 : compileF Try.prog [] 104 = some cf104 := by kernel_rfl
def cf63 : CF := ⟨41,[.t 2],(.seq (.ops [Oo 1 (.bx (.t 0)),Ok 2 (.bool false)]) (.seq (.ops [Of 3 0 1,Ol 4 3,Oc 5 94 [.t 4],Om 6 5,⟨some 7,.fa 1 1 1 (.t 1),some (6,true)⟩,⟨some 8,.ld 1 false (.t 7),some (6,true)⟩,⟨some 9,.call 66 [.t 8,(.k (.int .i64 1)),(.k (.int .i64 1000000))],some (6,true)⟩,Oo 10 (.pick (.t 6) (.t 9) (.k (.bool false))),Om 11 10,⟨some 12,.fa 2 1 2 (.t 1),some (11,true)⟩,⟨some 13,.ld 1 false (.t 12),some (11,true)⟩,⟨some 14,.bin .eql (.t 13) (.k (.str ⟨#[]⟩)),some (11,true)⟩,⟨some 15,.mv (.t 14),some (11,true)⟩,⟨some 16,.fa 2 1 2 (.t 1),some (15,false)⟩,⟨some 17,.ld 1 false (.t 16),some (15,false)⟩,⟨some 18,.call 105 [.t 17],some (15,false)⟩,⟨some 19,.pick (.t 15) (.k (.bool true)) (.t 18),some (11,true)⟩,Oo 20 (.pick (.t 11) (.t 19) (.k (.bool false))),Om 21 20,⟨some 22,.fa 3 1 3 (.t 1),some (21,true)⟩,⟨some 23,.ld 1 false (.t 22),some (21,true)⟩,⟨some 24,.call 66 [.t 23,(.k (.int .i64 0)),(.k (.int .i64 100))],some (21,true)⟩,Oo 25 (.pick (.t 21) (.t 24) (.k (.bool false))),Om 26 25,⟨some 27,.fa 4 1 4 (.t 1),some (26,true)⟩,⟨some 28,.ld 1 false (.t 27),some (26,true)⟩,⟨some 29,.call 66 [.t 28,(.k (.int .i64 0)),(.k (.int .i64 100))],some (26,true)⟩,Oo 30 (.pick (.t 26) (.t 29) (.k (.bool false))),Om 31 30,⟨some 32,.fa 5 1 5 (.t 1),some (31,true)⟩,⟨some 33,.ld 1 false (.t 32),some (31,true)⟩,⟨some 34,.call 66 [.t 33,(.k (.int .i64 0)),(.k (.int .i64 100))],some (31,true)⟩,Oo 35 (.pick (.t 31) (.t 34) (.k (.bool false))),Om 36 35,⟨some 37,.fa 6 1 6 (.t 1),some (36,true)⟩,⟨some 38,.ld 1 false (.t 37),some (36,true)⟩,⟨some 39,.call 66 [.t 38,(.k (.int .i64 0)),(.k (.int .i64 100))],some (36,true)⟩,Oo 40 (.pick (.t 36) (.t 39) (.k (.bool false))),Om 2 40]) .ret))⟩
theorem c63 : compileF Try.prog [] 63 = some cf63 := by kernel_rfl
def cf62 : CF := ⟨41,[.t 2],(.seq (.ops [Oo 1 (.bx (.t 0)),Ok 2 (.bool false)]) (.seq (.ops [Of 3 0 1,Ol 4 3,Oc 5 91 [.t 4],Om 6 5,⟨some 7,.fa 1 1 1 (.t 1),some (6,true)⟩,⟨some 8,.ld 1 false (.t 7),some (6,true)⟩,⟨some 9,.call 80 [.t 8,(.k (.int .i64 1)),(.k (.int .i64 1000000))],some (6,true)⟩,Oo 10 (.pick (.t 6) (.t 9) (.k (.bool false))),Om 11 10,⟨some 12,.fa 2 1 2 (.t 1),some (11,true)⟩,⟨some 13,.ld 1 false (.t 12),some (11,true)⟩,⟨some 14,.bin .eql (.t 13) (.k (.str ⟨#[]⟩)),some (11,true)⟩,⟨some 15,.mv (.t 14),some (11,true)⟩,⟨some 16,.fa 2 1 2 (.t 1),some (15,false)⟩,⟨some 17,.ld 1 false (.t 16),some (15,false)⟩,⟨some 18,.call 104 [.t 17],some (15,false)⟩,⟨some 19,.pick (.t 15) (.k (.bool true)) (.t 18),some (11,true)⟩,Oo 20 (.pick (.t 11) (.t 19) (.k (.bool false))),Om 21 20,⟨some 22,.fa 3 1 3 (.t 1),some (21,true)⟩,⟨some 23,.ld 1 false (.t 22),some (21,true)⟩,⟨some 24,.call 80 [.t 23,(.k (.int .i64 0)),(.k (.int .i64 100))],some (21,true)⟩,Oo 25 (.pick (.t 21) (.t 24) (.k (.bool false))),Om 26 25,⟨some 27,.fa 4 1 4 (.t 1),some (26,true)⟩,⟨some 28,.ld 1 false (.t 27),some (26,true)⟩,⟨some 29,.call 80 [.t 28,(.k (.int .i64 0)),(.k (.int .i64 100))],some (26,true)⟩,Oo 30 (.pick (.t 26) (.t 29) (.k (.bool false))),Om 31 30,⟨some 32,.fa 5 1 5 (.t 1),some (31,true)⟩,⟨some 33,.ld 1 false (.t 32),some (31,true)⟩,⟨some 34,.call 80 [.t 33,(.k (.int .i64 0)),(.k (.int .i64 100))],some (31,true)⟩,Oo 35 (.pick (.t 31) (.t 34) (.k (.bool false))),Om 36 35,⟨some 37,.fa 6 1 6 (.t 1),some (36,true)⟩,⟨some 38,.ld 1 false (.t 37),some (36,true)⟩,⟨some 39,.call 80 [.t 38,(.k (.int .i64 0)),(.k (.int .i64 100))],some (36,true)⟩,Oo 40 (.pick (.t 36) (.t 39) (.k (.bool false))),Om 2 40]) .ret))⟩
theorem c62 : compileF Try.prog [] 62 = some cf62 := by kernel_rfl
def okc (b : Int) : Bool := !(decide (b < 33) || decide (b > 126))
def nameOk (s : ByteArray) : Bool := inR s.size 1 20 && allN (fun i => okc (byteAt s i)) s.size 0
def holdOk (s : ByteArray) : Bool := nameOk s && !(s.toList == (ByteArray.mk #[42]).toList)
def wantOk (w : MateWant) : Bool := nameOk w.fCopy && inR w.fVersion 1 1000000 && ((w.fHold.toList == (ByteArray.mk #[]).toList) || holdOk w.fHold) && inR w.fPull 0 100 && inR w.fStart 0 100 && inR w.fDies 0 100 && inR w.fGrace 0 100
theorem impl_within (n lo hi : Int) : Rdr Try.prog 66 [.int .i64 n, .int .i64 lo, .int .i64 hi] (.bool (inR n lo hi)) := by
 refine Rdr.intro' hm c66 (Nat.le_of_ble_eq_true rfl) ?_
 conv => whnf
 repeat' (first | (refine z_op ?_ ?_; (focus exact rfl); conv => whnf) | (refine z_opg0 ?_; (conv => whnf); refine And.intro ?_ ?_; (focus exact rfl); conv => whnf) | (refine z_pick ?_ ?_; (focus exact rfl); conv => whnf) | (refine zs_ops ?_ ?_; (focus exact rfl)) | ((first | refine z_nil fun vals => ?_ | refine g_op ?_); conv => whnf) | (refine And.intro ?_ ?_; (focus exact au0); conv => whnf) | (refine g_seq ?_) | (refine XS.go ?_) | (refine g_ops ?_) | ((first | refine g_nil ?_ | refine g_ret ?_ | refine r_t ?_ | refine r_nil ?_); conv => whnf) | fail)
 all_goals (conv => lhs; whnf)
 all_goals refine congrArg D.bool ?_
 all_goals first | (refine (Bool.eq_false_iff.mpr fun h => ?_).symm; simp_all [inR]; done) | (refine Bool.eq_false_iff.mpr fun h => ?_; simp_all [inR]; done) | (simp_all [inR]; done) | (simp_all [inR]; omega) | (refine (Bool.eq_false_iff.mpr fun h => ?_).symm; simp_all [inR]; omega) | (refine Bool.eq_false_iff.mpr fun h => ?_; simp_all [inR]; omega) | (rw [Bool.eq_iff_iff]; constructor <;> intro h <;> simp_all [inR] <;> omega) | fail
theorem spec_In (n lo hi : Int) : Rdr Try.prog 80 [.int .i64 n, .int .i64 lo, .int .i64 hi] (.bool (inR n lo hi)) := by
 refine Rdr.intro' hm c80 (Nat.le_of_ble_eq_true rfl) ?_
 conv => whnf
 repeat' (first | (refine z_op ?_ ?_; (focus exact rfl); conv => whnf) | (refine z_opg0 ?_; (conv => whnf); refine And.intro ?_ ?_; (focus exact rfl); conv => whnf) | (refine z_pick ?_ ?_; (focus exact rfl); conv => whnf) | (refine zs_ops ?_ ?_; (focus exact rfl)) | ((first | refine z_nil fun vals => ?_ | refine g_op ?_); conv => whnf) | (refine And.intro ?_ ?_; (focus exact au0); conv => whnf) | (refine g_seq ?_) | (refine XS.go ?_) | (refine g_ops ?_) | ((first | refine g_nil ?_ | refine g_ret ?_ | refine r_t ?_ | refine r_nil ?_); conv => whnf) | fail)
 all_goals (conv => lhs; whnf)
 all_goals refine congrArg D.bool ?_
 all_goals first | (refine (Bool.eq_false_iff.mpr fun h => ?_).symm; simp_all [inR]; done) | (refine Bool.eq_false_iff.mpr fun h => ?_; simp_all [inR]; done) | (simp_all [inR]; done) | (simp_all [inR]; omega) | (refine (Bool.eq_false_iff.mpr fun h => ?_).symm; simp_all [inR]; omega) | (refine Bool.eq_false_iff.mpr fun h => ?_; simp_all [inR]; omega) | (rw [Bool.eq_iff_iff]; constructor <;> intro h <;> simp_all [inR] <;> omega) | fail
theorem impl_mName (s : ByteArray) : Rdr Try.prog 94 [.str s] (.bool (nameOk s)) := by
 refine Rdr.intro' hm c94 (Nat.le_of_ble_eq_true rfl) ?_
 conv => whnf
 repeat' (first | (refine z_op ?_ ?_; (focus exact rfl); conv => whnf) | (refine z_opg0 ?_; (conv => whnf); refine And.intro ?_ ?_; (focus exact rfl); conv => whnf) | (refine z_pick ?_ ?_; (focus exact rfl); conv => whnf) | (refine zs_ops ?_ ?_; (focus exact rfl)) | ((first | refine z_nil fun vals => ?_ | refine g_op ?_); conv => whnf) | (refine And.intro ?_ ?_; (focus exact au0); conv => whnf) | (refine g_seq ?_) | (refine XS.go ?_) | (refine g_ops ?_) | ((first | refine g_nil ?_ | refine g_cond ?_); conv => whnf) | fail)
 refine Br.mk (fun hb => ?_) (fun hb => ?_)
 ·have hn : inR s.size 1 20 = false := by simp at hb; simp [inR]; omega
  conv => whnf
  repeat' (first | (refine g_op ?_; conv => whnf) | (refine And.intro ?_ ?_; (focus exact au0); conv => whnf) | (refine g_seq ?_) | (refine XS.go ?_) | (refine g_ops ?_) | ((first | refine g_nil ?_ | refine g_ret ?_ | refine r_t ?_ | refine r_nil ?_); conv => whnf) | fail)
  conv => lhs; whnf
  simp only [nameOk, hn, Bool.false_and]
 have hn : inR s.size 1 20 = true := by simp at hb; simp [inR]; omega
 have hsz : s.size ≤ 20 := by simp [inR] at hn; omega
 conv => whnf
 repeat' (first | (refine g_op ?_; conv => whnf) | (refine And.intro ?_ ?_; (focus exact au0); conv => whnf) | (refine g_seq ?_) | (refine XS.go ?_) | (refine g_ops ?_) | (refine g_loop ?_) | ((first | refine g_nil ?_ | refine g_skip ?_); conv => whnf) | (refine g_block ?_) | fail)
 refine XLc.mkL (α := Nat) (fun i => i ≤ s.size ∧ nameOk s = (allN (fun i => okc (byteAt s i)) (s.size - i) i && true)) (fun i => s.size - i) (fun i gs => [.str s, .any, .any, .any, .any, .any, .any, .any, .any, .any, .any, .any, .any, .int .i64 (s.size : Int), .int .i64 (i : Int)]) (fun i gs => []) 0 ⟨Nat.zero_le _, by simp [nameOk, hn]⟩ ?_ ?_
 ·refine ⟨?_, ?_⟩
  ·repeat' (first | exact True.intro | refine And.intro rfl ?_)
  ·repeat' (first | exact True.intro | refine And.intro rfl ?_)
 intro i gs hI
 obtain ⟨hi, hN⟩ := hI
 repeat' (first | (refine g_op ?_; conv => whnf) | (refine And.intro ?_ ?_; (focus exact au0); conv => whnf) | (refine g_seq ?_) | (refine XS.go ?_) | (refine g_ops ?_) | ((first | refine g_nil ?_ | refine g_cond ?_); conv => whnf) | fail)
 refine Br.mk (fun hb => ?_) (fun hb => ?_)
 ·have hlt : i < s.size := by simpa using hb
  have hw : IntKind.wrap .i64 ((i : Int) + 1) = ((i + 1 : Nat) : Int) := by rw [wrap_ok (by omega) (by omega)]; rfl
  have hw1 : IntKind.wrap .i64 ((i : Int) - 1) = (i : Int) - 1 := wrap_ok (by omega) (by omega)
  have hbad := fun h => allN_bad (f := fun i => okc (byteAt s i)) hlt hN h
  have hgood := fun h => allN_good (f := fun i => okc (byteAt s i)) hlt hN h
  clear hN hb
  all_goals conv => whnf
  repeat' (first | (refine z_op ?_ ?_; (focus exact rfl); conv => whnf) | (refine z_opg0 ?_; (conv => whnf); refine And.intro ?_ ?_; (focus exact rfl); conv => whnf) | (refine z_pick ?_ ?_; (focus exact rfl); conv => whnf) | (refine zs_ops ?_ ?_; (focus exact rfl)) | ((first | refine z_nil fun vals => ?_ | refine g_op ?_); conv => whnf) | (refine And.intro ?_ ?_; (focus exact au0); conv => whnf) | (refine g_seq ?_) | (refine XS.go ?_) | (refine g_ops ?_) | ((first | refine g_nil ?_ | refine g_cond ?_ | refine g_skip ?_ | refine g_ret ?_); conv => whnf) | (refine g_block ?_) | ((first | refine r_t ?_ | refine r_nil ?_); conv => whnf) | (refine Br.mk (fun hb => ?_) (fun hb => ?_) <;> conv => whnf) | fail)
  all_goals
   first
   |(refine ⟨(), hbad ?_, ⟨?_, True.intro⟩⟩
     ·clear hbad hgood hw
      first | (first | (refine (Bool.eq_false_iff.mpr fun h => ?_).symm; simp_all [okc]; done) | (refine Bool.eq_false_iff.mpr fun h => ?_; simp_all [okc]; done) | (simp_all [okc]; done) | (simp_all [okc]; omega) | (refine (Bool.eq_false_iff.mpr fun h => ?_).symm; simp_all [okc]; omega) | (refine Bool.eq_false_iff.mpr fun h => ?_; simp_all [okc]; omega) | (rw [Bool.eq_iff_iff]; constructor <;> intro h <;> simp_all [okc] <;> omega) | fail) | (rcases Nat.eq_zero_or_pos i with h0 | h0 <;> simp_all [okc] <;> omega) | (fail) | fail
     ·repeat' (first | exact True.intro | refine And.intro rfl ?_))
   |(conv => lhs; whnf
     refine congrArg D.bool (hbad ?_)
     clear hbad hgood hw
     first | (first | (refine (Bool.eq_false_iff.mpr fun h => ?_).symm; simp_all [okc]; done) | (refine Bool.eq_false_iff.mpr fun h => ?_; simp_all [okc]; done) | (simp_all [okc]; done) | (simp_all [okc]; omega) | (refine (Bool.eq_false_iff.mpr fun h => ?_).symm; simp_all [okc]; omega) | (refine Bool.eq_false_iff.mpr fun h => ?_; simp_all [okc]; omega) | (rw [Bool.eq_iff_iff]; constructor <;> intro h <;> simp_all [okc] <;> omega) | fail) | (rcases Nat.eq_zero_or_pos i with h0 | h0 <;> simp_all [okc] <;> omega) | (fail) | fail)
   |(refine ⟨i + 1, ⟨by omega, ?_⟩, by omega, ?_, ?_⟩
     ·refine hgood ?_
      clear hbad hgood hw
      first | (first | (refine (Bool.eq_false_iff.mpr fun h => ?_).symm; simp_all [okc]; done) | (refine Bool.eq_false_iff.mpr fun h => ?_; simp_all [okc]; done) | (simp_all [okc]; done) | (simp_all [okc]; omega) | (refine (Bool.eq_false_iff.mpr fun h => ?_).symm; simp_all [okc]; omega) | (refine Bool.eq_false_iff.mpr fun h => ?_; simp_all [okc]; omega) | (rw [Bool.eq_iff_iff]; constructor <;> intro h <;> simp_all [okc] <;> omega) | fail) | (rcases Nat.eq_zero_or_pos i with h0 | h0 <;> simp_all [okc] <;> omega) | (fail) | fail
     ·repeat' (first | exact True.intro | refine And.intro (congrArg (D.int .i64) hw) ?_ | refine And.intro rfl ?_)
     ·repeat' (first | exact True.intro | refine And.intro rfl ?_))
 have hge : ¬ i < s.size := by simpa using hb
 have hend : nameOk s = true := by rw [hN, allN_end hge, Bool.true_and]
 clear hN
 conv => whnf
 repeat' (first | (refine g_op ?_; conv => whnf) | (refine And.intro ?_ ?_; (focus exact au0); conv => whnf) | (refine g_seq ?_) | (refine XS.go ?_) | (refine g_ops ?_) | ((first | refine g_nil ?_ | refine g_ret ?_ | refine g_exit ?_ | refine r_t ?_ | refine r_nil ?_); conv => whnf) | fail)
 conv => lhs; whnf
 rw [hend]
theorem spec_NameOk (s : ByteArray) : Rdr Try.prog 91 [.str s] (.bool (nameOk s)) := by
 refine Rdr.intro' hm c91 (Nat.le_of_ble_eq_true rfl) ?_
 conv => whnf
 repeat' (first | (refine g_op ?_; conv => whnf) | (refine And.intro ?_ ?_; (focus exact au0); conv => whnf) | (refine g_seq ?_) | (refine XS.go ?_) | (refine g_ops ?_) | ((first | refine g_nil ?_ | refine g_cond ?_ | refine XCL.of_rdr (spec_In _ _ _) ?_); conv => whnf) | fail)
 refine Br.mk (fun hb => ?_) (fun hb => ?_)
 ·have hn : inR s.size 1 20 = false := by simpa using hb
  conv => whnf
  repeat' (first | (refine g_op ?_; conv => whnf) | (refine And.intro ?_ ?_; (focus exact au0); conv => whnf) | (refine g_seq ?_) | (refine XS.go ?_) | (refine g_ops ?_) | ((first | refine g_nil ?_ | refine g_ret ?_ | refine r_t ?_ | refine r_nil ?_); conv => whnf) | fail)
  conv => lhs; whnf
  simp only [nameOk, hn, Bool.false_and]
 have hn : inR s.size 1 20 = true := by simpa using hb
 have hsz : s.size ≤ 20 := by simp [inR] at hn; omega
 conv => whnf
 repeat' (first | (refine g_op ?_; conv => whnf) | (refine And.intro ?_ ?_; (focus exact au0); conv => whnf) | (refine g_seq ?_) | (refine XS.go ?_) | (refine g_ops ?_) | (refine g_loop ?_) | ((first | refine g_nil ?_ | refine g_skip ?_); conv => whnf) | (refine g_block ?_) | fail)
 refine XLc.mkL (α := Nat) (fun i => i ≤ s.size ∧ nameOk s = (allN (fun i => okc (byteAt s i)) (s.size - i) i && true)) (fun i => s.size - i) (fun i gs => [.str s, .any, .any, .int .i64 (i : Int)]) (fun i gs => []) 0 ⟨Nat.zero_le _, by simp [nameOk, hn]⟩ ?_ ?_
 ·refine ⟨?_, ?_⟩
  ·repeat' (first | exact True.intro | refine And.intro rfl ?_)
  ·repeat' (first | exact True.intro | refine And.intro rfl ?_)
 intro i gs hI
 obtain ⟨hi, hN⟩ := hI
 repeat' (first | (refine g_op ?_; conv => whnf) | (refine And.intro ?_ ?_; (focus exact au0); conv => whnf) | (refine g_seq ?_) | (refine XS.go ?_) | (refine g_ops ?_) | ((first | refine g_nil ?_ | refine g_cond ?_); conv => whnf) | fail)
 refine Br.mk (fun hb => ?_) (fun hb => ?_)
 ·have hlt : i < s.size := by simpa using hb
  have hw : IntKind.wrap .i64 ((i : Int) + 1) = ((i + 1 : Nat) : Int) := by rw [wrap_ok (by omega) (by omega)]; rfl
  have hw1 : IntKind.wrap .i64 ((i : Int) - 1) = (i : Int) - 1 := wrap_ok (by omega) (by omega)
  have hbad := fun h => allN_bad (f := fun i => okc (byteAt s i)) hlt hN h
  have hgood := fun h => allN_good (f := fun i => okc (byteAt s i)) hlt hN h
  clear hN hb
  all_goals conv => whnf
  repeat' (first | (refine z_op ?_ ?_; (focus exact rfl); conv => whnf) | (refine z_opg0 ?_; (conv => whnf); refine And.intro ?_ ?_; (focus exact rfl); conv => whnf) | (refine z_pick ?_ ?_; (focus exact rfl); conv => whnf) | (refine zs_ops ?_ ?_; (focus exact rfl)) | ((first | refine z_nil fun vals => ?_ | refine g_op ?_); conv => whnf) | (refine And.intro ?_ ?_; (focus exact au0); conv => whnf) | (refine g_seq ?_) | (refine XS.go ?_) | (refine g_ops ?_) | ((first | refine g_nil ?_ | refine g_cond ?_ | refine g_skip ?_ | refine g_ret ?_); conv => whnf) | (refine g_block ?_) | ((first | refine r_t ?_ | refine r_nil ?_); conv => whnf) | (refine Br.mk (fun hb => ?_) (fun hb => ?_) <;> conv => whnf) | fail)
  all_goals
   first
   |(refine ⟨(), hbad ?_, ⟨?_, True.intro⟩⟩
     ·clear hbad hgood hw
      first | (first | (refine (Bool.eq_false_iff.mpr fun h => ?_).symm; simp_all [okc]; done) | (refine Bool.eq_false_iff.mpr fun h => ?_; simp_all [okc]; done) | (simp_all [okc]; done) | (simp_all [okc]; omega) | (refine (Bool.eq_false_iff.mpr fun h => ?_).symm; simp_all [okc]; omega) | (refine Bool.eq_false_iff.mpr fun h => ?_; simp_all [okc]; omega) | (rw [Bool.eq_iff_iff]; constructor <;> intro h <;> simp_all [okc] <;> omega) | fail) | (rcases Nat.eq_zero_or_pos i with h0 | h0 <;> simp_all [okc] <;> omega) | (fail) | fail
     ·repeat' (first | exact True.intro | refine And.intro rfl ?_))
   |(conv => lhs; whnf
     refine congrArg D.bool (hbad ?_)
     clear hbad hgood hw
     first | (first | (refine (Bool.eq_false_iff.mpr fun h => ?_).symm; simp_all [okc]; done) | (refine Bool.eq_false_iff.mpr fun h => ?_; simp_all [okc]; done) | (simp_all [okc]; done) | (simp_all [okc]; omega) | (refine (Bool.eq_false_iff.mpr fun h => ?_).symm; simp_all [okc]; omega) | (refine Bool.eq_false_iff.mpr fun h => ?_; simp_all [okc]; omega) | (rw [Bool.eq_iff_iff]; constructor <;> intro h <;> simp_all [okc] <;> omega) | fail) | (rcases Nat.eq_zero_or_pos i with h0 | h0 <;> simp_all [okc] <;> omega) | (fail) | fail)
   |(refine ⟨i + 1, ⟨by omega, ?_⟩, by omega, ?_, ?_⟩
     ·refine hgood ?_
      clear hbad hgood hw
      first | (first | (refine (Bool.eq_false_iff.mpr fun h => ?_).symm; simp_all [okc]; done) | (refine Bool.eq_false_iff.mpr fun h => ?_; simp_all [okc]; done) | (simp_all [okc]; done) | (simp_all [okc]; omega) | (refine (Bool.eq_false_iff.mpr fun h => ?_).symm; simp_all [okc]; omega) | (refine Bool.eq_false_iff.mpr fun h => ?_; simp_all [okc]; omega) | (rw [Bool.eq_iff_iff]; constructor <;> intro h <;> simp_all [okc] <;> omega) | fail) | (rcases Nat.eq_zero_or_pos i with h0 | h0 <;> simp_all [okc] <;> omega) | (fail) | fail
     ·repeat' (first | exact True.intro | refine And.intro (congrArg (D.int .i64) hw) ?_ | refine And.intro rfl ?_)
     ·repeat' (first | exact True.intro | refine And.intro rfl ?_))
 have hge : ¬ i < s.size := by simpa using hb
 have hend : nameOk s = true := by rw [hN, allN_end hge, Bool.true_and]
 clear hN
 conv => whnf
 repeat' (first | (refine g_op ?_; conv => whnf) | (refine And.intro ?_ ?_; (focus exact au0); conv => whnf) | (refine g_seq ?_) | (refine XS.go ?_) | (refine g_ops ?_) | ((first | refine g_nil ?_ | refine g_ret ?_ | refine g_exit ?_ | refine r_t ?_ | refine r_nil ?_); conv => whnf) | fail)
 conv => lhs; whnf
 rw [hend]
theorem impl_mHold (s : ByteArray) : Rdr Try.prog 105 [.str s] (.bool (holdOk s)) := by
 refine Rdr.intro' hm c105 (Nat.le_of_ble_eq_true rfl) ?_
 conv => whnf
 repeat' (first | (refine z_op ?_ ?_; (focus exact rfl); conv => whnf) | (refine z_opg0 ?_; (conv => whnf); refine And.intro ?_ ?_; (focus exact rfl); conv => whnf) | (refine z_pick ?_ ?_; (focus exact rfl); conv => whnf) | (refine zs_ops ?_ ?_; (focus exact rfl)) | (refine z_nil fun vals => ?_; conv => whnf) | (refine z_call ?_ ?_; (focus exact rfl)) | (refine RC.of (impl_mName _) ?_ ?_; (focus exact rfl); conv => whnf) | (refine g_op ?_; conv => whnf) | (refine And.intro ?_ ?_; (focus exact au0); conv => whnf) | (refine g_seq ?_) | (refine XS.go ?_) | (refine g_ops ?_) | ((first | refine g_nil ?_ | refine g_ret ?_ | refine r_t ?_ | refine r_nil ?_); conv => whnf) | fail)
 all_goals (conv => lhs; whnf)
 all_goals refine congrArg D.bool ?_
 all_goals first | (refine (Bool.eq_false_iff.mpr fun h => ?_).symm; simp_all [holdOk]; done) | (refine Bool.eq_false_iff.mpr fun h => ?_; simp_all [holdOk]; done) | (simp_all [holdOk]; done) | (simp_all [holdOk]; omega) | (refine (Bool.eq_false_iff.mpr fun h => ?_).symm; simp_all [holdOk]; omega) | (refine Bool.eq_false_iff.mpr fun h => ?_; simp_all [holdOk]; omega) | (rw [Bool.eq_iff_iff]; constructor <;> intro h <;> simp_all [holdOk] <;> omega) | fail
theorem spec_HoldOk (s : ByteArray) : Rdr Try.prog 104 [.str s] (.bool (holdOk s)) := by
 refine Rdr.intro' hm c104 (Nat.le_of_ble_eq_true rfl) ?_
 conv => whnf
 repeat' (first | (refine z_op ?_ ?_; (focus exact rfl); conv => whnf) | (refine z_opg0 ?_; (conv => whnf); refine And.intro ?_ ?_; (focus exact rfl); conv => whnf) | (refine z_pick ?_ ?_; (focus exact rfl); conv => whnf) | (refine zs_ops ?_ ?_; (focus exact rfl)) | (refine z_nil fun vals => ?_; conv => whnf) | (refine z_call ?_ ?_; (focus exact rfl)) | (refine RC.of (spec_NameOk _) ?_ ?_; (focus exact rfl); conv => whnf) | (refine g_op ?_; conv => whnf) | (refine And.intro ?_ ?_; (focus exact au0); conv => whnf) | (refine g_seq ?_) | (refine XS.go ?_) | (refine g_ops ?_) | ((first | refine g_nil ?_ | refine g_ret ?_ | refine r_t ?_ | refine r_nil ?_); conv => whnf) | fail)
 all_goals (conv => lhs; whnf)
 all_goals refine congrArg D.bool ?_
 all_goals first | (refine (Bool.eq_false_iff.mpr fun h => ?_).symm; simp_all [holdOk]; done) | (refine Bool.eq_false_iff.mpr fun h => ?_; simp_all [holdOk]; done) | (simp_all [holdOk]; done) | (simp_all [holdOk]; omega) | (refine (Bool.eq_false_iff.mpr fun h => ?_).symm; simp_all [holdOk]; omega) | (refine Bool.eq_false_iff.mpr fun h => ?_; simp_all [holdOk]; omega) | (rw [Bool.eq_iff_iff]; constructor <;> intro h <;> simp_all [holdOk] <;> omega) | fail
theorem impl_mWantOk (w : MateWant) : Rdr Try.prog 63 [w.D] (.bool (wantOk w)) := by
 refine Rdr.intro' hm c63 (Nat.le_of_ble_eq_true rfl) ?_
 conv => whnf
 repeat' (first | (refine z_ld1 ?_; first | (refine z_ld rfl rfl rfl rfl au1 au2 ?_; conv => whnf) | (refine z_ld0 rfl ?_; conv => whnf)) | (refine z_ld1g ?_; first | (refine z_ldg rfl rfl rfl rfl rfl rfl rfl (by (repeat intro _); exact ⟨au1, au2⟩) rfl rfl rfl rfl ?_; conv => whnf) | (refine z_ld0g ?_; (conv => whnf); refine And.intro ?_ ?_; (focus exact rfl); conv => whnf)) | (refine z_op ?_ ?_; (focus exact rfl); conv => whnf) | (refine z_opg0 ?_; (conv => whnf); refine And.intro ?_ ?_; (focus exact rfl); conv => whnf) | (refine z_pick ?_ ?_; (focus exact rfl); conv => whnf) | (refine z_pickg ?_; (conv => whnf); refine And.intro ?_ ?_; (focus exact rfl); conv => whnf) | (refine zs_ops ?_ ?_; (focus exact rfl)) | (refine z_nil fun vals => ?_; conv => whnf) | (refine z_call ?_ ?_; (focus exact rfl)) | (refine z_callg0 ?_; (conv => whnf); refine And.intro ?_ ?_; (focus exact rfl)) | (refine RC.of (impl_mName _) ?_ ?_; (focus exact rfl); conv => whnf) | (refine RC.of (impl_within _ _ _) ?_ ?_; (focus exact rfl); conv => whnf) | (refine RC.of (impl_mHold _) ?_ ?_; (focus exact rfl); conv => whnf) | (refine g_op ?_; conv => whnf) | (refine And.intro ?_ ?_; (focus exact au0); conv => whnf) | (refine g_seq ?_) | (refine XS.go ?_) | (refine g_ops ?_) | ((first | refine g_nil ?_ | refine g_ret ?_ | refine r_t ?_ | refine r_nil ?_ | refine fun _ => ?_); conv => whnf) | fail)
 (conv => lhs; whnf)
 rfl
theorem spec_WantOk (w : MateWant) : Rdr Try.prog 62 [w.D] (.bool (wantOk w)) := by
 refine Rdr.intro' hm c62 (Nat.le_of_ble_eq_true rfl) ?_
 conv => whnf
 repeat' (first | (refine z_ld1 ?_; first | (refine z_ld rfl rfl rfl rfl au1 au2 ?_; conv => whnf) | (refine z_ld0 rfl ?_; conv => whnf)) | (refine z_ld1g ?_; first | (refine z_ldg rfl rfl rfl rfl rfl rfl rfl (by (repeat intro _); exact ⟨au1, au2⟩) rfl rfl rfl rfl ?_; conv => whnf) | (refine z_ld0g ?_; (conv => whnf); refine And.intro ?_ ?_; (focus exact rfl); conv => whnf)) | (refine z_op ?_ ?_; (focus exact rfl); conv => whnf) | (refine z_opg0 ?_; (conv => whnf); refine And.intro ?_ ?_; (focus exact rfl); conv => whnf) | (refine z_pick ?_ ?_; (focus exact rfl); conv => whnf) | (refine z_pickg ?_; (conv => whnf); refine And.intro ?_ ?_; (focus exact rfl); conv => whnf) | (refine zs_ops ?_ ?_; (focus exact rfl)) | (refine z_nil fun vals => ?_; conv => whnf) | (refine z_call ?_ ?_; (focus exact rfl)) | (refine z_callg0 ?_; (conv => whnf); refine And.intro ?_ ?_; (focus exact rfl)) | (refine RC.of (spec_NameOk _) ?_ ?_; (focus exact rfl); conv => whnf) | (refine RC.of (spec_In _ _ _) ?_ ?_; (focus exact rfl); conv => whnf) | (refine RC.of (spec_HoldOk _) ?_ ?_; (focus exact rfl); conv => whnf) | (refine g_op ?_; conv => whnf) | (refine And.intro ?_ ?_; (focus exact au0); conv => whnf) | (refine g_seq ?_) | (refine XS.go ?_) | (refine g_ops ?_) | ((first | refine g_nil ?_ | refine g_ret ?_ | refine r_t ?_ | refine r_nil ?_ | refine fun _ => ?_); conv => whnf) | fail)
 (conv => lhs; whnf)
 rfl
end Go.Ab
