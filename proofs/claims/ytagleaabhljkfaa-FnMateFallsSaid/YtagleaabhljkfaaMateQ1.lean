/- Steps towards the law: the machine, contracts of functions and facts of lists. -/
import Derived.Test.YtagleaabhljkfaaAb10
import Derived.Test.YtagleaabhljkfaaRows
import Derived.Test.YtagleaabhljkfaaAb11
set_option linter.unusedSimpArgs false
set_option linter.unusedVariables false
namespace Go.Ab
open Go Go.RowKit Go.Proofs
attribute [local irreducible] XC Rdr IntKind.wrap xw xos xqs xr xd
set_option maxRecDepth 100000
theorem hm : Try.prog.follows .mixedOrders = true := by kernel_rfl
structure MateWant where
 fCopy : ByteArray
 fVersion : Int
 fHold : ByteArray
 fPull : Int
 fStart : Int
 fDies : Int
 fGrace : Int
def MateWant.D (x : MateWant) : D := .agg [.str x.fCopy, .int .i64 x.fVersion, .str x.fHold, .int .i64 x.fPull, .int .i64 x.fStart, .int .i64 x.fDies, .int .i64 x.fGrace]
instance : Inhabited MateWant := ⟨⟨⟨#[]⟩, 0, ⟨#[]⟩, 0, 0, 0, 0⟩⟩
structure MateWant.small (x : MateWant) : Prop where
end Go.Ab
set_option linter.unusedSimpArgs false
set_option linter.unusedVariables false
namespace Go.Ab
open Go Go.RowKit Go.Proofs
attribute [local irreducible] XC Rdr IntKind.wrap xw xos xqs xr xd
set_option maxRecDepth 100000
set_option maxHeartbeats 16000000
def cf66 : CF := ⟨15,[.t 6],(.seq (.ops [Ok 6 (.bool false)]) (.seq (.ops [Om 7 0,Om 8 1,Ob 9 .geq 7 8,Om 10 9,⟨some 11,.mv (.t 0),some (10,true)⟩,⟨some 12,.mv (.t 2),some (10,true)⟩,⟨some 13,.bin .leq (.t 11) (.t 12),some (10,true)⟩,Oo 14 (.pick (.t 10) (.t 13) (.k (.bool false))),Om 6 14]) .ret))⟩
theorem c66 : compileF Try.prog [] 66 = some cf66 := by kernel_rfl
def cf80 : CF := ⟨15,[.t 6],(.seq (.ops [Ok 6 (.bool false)]) (.seq (.ops [Om 7 0,Om 8 1,Ob 9 .geq 7 8,Om 10 9,⟨some 11,.mv (.t 0),some (10,true)⟩,⟨some 12,.mv (.t 2),some (10,true)⟩,⟨some 13,.bin .leq (.t 11) (.t 12),some (10,true)⟩,Oo 14 (.pick (.t 10) (.t 13) (.k (.bool false))),Om 6 14]) .ret))⟩
theorem c80 : compileF Try.prog [] 80 = some cf80 := by kernel_rfl
def cf94 : CF := ⟨28,[.t 2],(.seq (.ops [Ok 2 (.bool false)]) (.seq (.seq (.ops [Om 4 0,Oo 5 (.lens (.t 4)),Oo 6 (.bin .lss (.t 5) (.k (.int .i64 1))),Om 7 6,⟨some 8,.mv (.t 0),some (7,false)⟩,⟨some 9,.lens (.t 8),some (7,false)⟩,⟨some 10,.bin .gtr (.t 9) (.k (.int .i64 20)),some (7,false)⟩,Oo 11 (.pick (.t 7) (.k (.bool true)) (.t 10))]) (.cond (.t 11) (.seq (.ops [Ok 2 (.bool false)]) .ret) .skip)) (.seq (.seq (.ops [Om 12 0,Oo 13 (.lens (.t 12)),Ok 14 (.int .i64 0)]) (.block 0 (.loop (.seq (.ops [Ob 15 .lss 14 13]) (.seq (.cond (.t 15) .skip (.exit 0)) (.seq (.block 1 (.seq (.ops [Om 16 14,Om 3 16]) (.seq (.ops [Om 17 0,Om 18 3,Oo 19 (.sx (.t 17) (.t 18)),Oo 20 (.bin .lss (.t 19) (.k (.int .u8 33))),Om 21 20,⟨some 22,.mv (.t 0),some (21,false)⟩,⟨some 23,.mv (.t 3),some (21,false)⟩,⟨some 24,.sx (.t 22) (.t 23),some (21,false)⟩,⟨some 25,.bin .gtr (.t 24) (.k (.int .u8 126)),some (21,false)⟩,Oo 26 (.pick (.t 21) (.k (.bool true)) (.t 25))]) (.cond (.t 26) (.seq (.ops [Ok 2 (.bool false)]) .ret) .skip)))) (.ops [Oi 27 14,Om 14 27]))))))) (.seq (.ops [Ok 2 (.bool true)]) .ret))))⟩
theorem c94 : compileF Try.prog [] 94 = some cf94 := by kernel_rfl
def cf91 : CF := ⟨24,[.t 2],(.seq (.ops [Ok 2 (.bool false)]) (.seq (.seq (.ops [Om 4 0,Oo 5 (.lens (.t 4)),Oc 6 80 [.t 5,(.k (.int .i64 1)),(.k (.int .i64 20))],Oo 7 (.not (.t 6))]) (.cond (.t 7) (.seq (.ops [Ok 2 (.bool false)]) .ret) .skip)) (.seq (.seq (.ops [Ok 3 (.int .i64 0)]) (.block 0 (.loop (.seq (.seq (.ops [Om 8 3,Om 9 0,Oo 10 (.lens (.t 9)),Ob 11 .lss 8 10]) (.cond (.t 11) .skip (.exit 0))) (.seq (.block 1 (.seq (.ops [Om 14 0,Om 15 3,Oo 16 (.sx (.t 14) (.t 15)),Oo 17 (.bin .lss (.t 16) (.k (.int .u8 33))),Om 18 17,⟨some 19,.mv (.t 0),some (18,false)⟩,⟨some 20,.mv (.t 3),some (18,false)⟩,⟨some 21,.sx (.t 19) (.t 20),some (18,false)⟩,⟨some 22,.bin .gtr (.t 21) (.k (.int .u8 126)),some (18,false)⟩,Oo 23 (.pick (.t 18) (.k (.bool true)) (.t 22))]) (.cond (.t 23) (.seq (.ops [Ok 2 (.bool false)]) .ret) .skip))) (.ops [Om 12 3,Oi 13 12,Om 3 13])))))) (.seq (.ops [Ok 2 (.bool true)]) .ret))))⟩
theorem c91 : compileF Try.prog [] 91 = some cf91 := by kernel_rfl
def cf105 : CF := ⟨9,[.t 2],(.seq (.ops [Ok 2 (.bool false)]) (.seq (.ops [Om 3 0,Oc 4 94 [.t 3],Om 5 4,⟨some 6,.mv (.t 0),some (5,true)⟩,⟨some 7,.bin .neq (.t 6) (.k (.str ⟨#[42]⟩)),some (5,true)⟩,Oo 8 (.pick (.t 5) (.t 7) (.k (.bool false))),Om 2 8]) .ret))⟩
theorem c105 : compileF Try.prog [] 105 = some cf105 := by kernel_rfl
def cf104 : CF := ⟨9,[.t 2],(.seq (.ops [Ok 2 (.bool false)]) (.seq (.ops [Om 3 0,Oc 4 91 [.t 3],Om 5 4,⟨some 6,.mv (.t 0),some (5,true)⟩,⟨some 7,.bin .neq (.t 6) (.k (.str ⟨#[42]⟩)),some (5,true)⟩,Oo 8 (.pick (.t 5) (.t 7) (.k (.bool false))),Om 2 8]) .ret))⟩
theorem c104 : compileF Try.prog [] 104 = some cf104 := by kernel_rfl
def cf63 : CF := ⟨41,[.t 2],(.seq (.ops [Oo 1 (.bx (.t 0)),Ok 2 (.bool false)]) (.seq (.ops [Of 3 0 1,Ol 4 3,Oc 5 94 [.t 4],Om 6 5,⟨some 7,.fa 1 1 1 (.t 1),some (6,true)⟩,⟨some 8,.ld 1 false (.t 7),some (6,true)⟩,⟨some 9,.call 66 [.t 8,(.k (.int .i64 1)),(.k (.int .i64 1000000))],some (6,true)⟩,Oo 10 (.pick (.t 6) (.t 9) (.k (.bool false))),Om 11 10,⟨some 12,.fa 2 1 2 (.t 1),some (11,true)⟩,⟨some 13,.ld 1 false (.t 12),some (11,true)⟩,⟨some 14,.bin .eql (.t 13) (.k (.str ⟨#[]⟩)),some (11,true)⟩,⟨some 15,.mv (.t 14),some (11,true)⟩,⟨some 16,.fa 2 1 2 (.t 1),some (15,false)⟩,⟨some 17,.ld 1 false (.t 16),some (15,false)⟩,⟨some 18,.call 105 [.t 17],some (15,false)⟩,⟨some 19,.pick (.t 15) (.k (.bool true)) (.t 18),some (11,true)⟩,Oo 20 (.pick (.t 11) (.t 19) (.k (.bool false))),Om 21 20,⟨some 22,.fa 3 1 3 (.t 1),some (21,true)⟩,⟨some 23,.ld 1 false (.t 22),some (21,true)⟩,⟨some 24,.call 66 [.t 23,(.k (.int .i64 0)),(.k (.int .i64 100))],some (21,true)⟩,Oo 25 (.pick (.t 21) (.t 24) (.k (.bool false))),Om 26 25,⟨some 27,.fa 4 1 4 (.t 1),some (26,true)⟩,⟨some 28,.ld 1 false (.t 27),some (26,true)⟩,⟨some 29,.call 66 [.t 28,(.k (.int .i64 0)),(.k (.int .i64 100))],some (26,true)⟩,Oo 30 (.pick (.t 26) (.t 29) (.k (.bool false))),Om 31 30,⟨some 32,.fa 5 1 5 (.t 1),some (31,true)⟩,⟨some 33,.ld 1 false (.t 32),some (31,true)⟩,⟨some 34,.call 66 [.t 33,(.k (.int .i64 0)),(.k (.int .i64 100))],some (31,true)⟩,Oo 35 (.pick (.t 31) (.t 34) (.k (.bool false))),Om 36 35,⟨some 37,.fa 6 1 6 (.t 1),some (36,true)⟩,⟨some 38,.ld 1 false (.t 37),some (36,true)⟩,⟨some 39,.call 66 [.t 38,(.k (.int .i64 0)),(.k (.int .i64 100))],some (36,true)⟩,Oo 40 (.pick (.t 36) (.t 39) (.k (.bool false))),Om 2 40]) .ret))⟩
theorem c63 : compileF Try.prog [] 63 = some cf63 := by kernel_rfl
def cf62 : CF := ⟨41,[.t 2],(.seq (.ops [Oo 1 (.bx (.t 0)),Ok 2 (.bool false)]) (.seq (.ops [Of 3 0 1,Ol 4 3,Oc 5 91 [.t 4],Om 6 5,⟨some 7,.fa 1 1 1 (.t 1),some (6,true)⟩,⟨some 8,.ld 1 false (.t 7),some (6,true)⟩,⟨some 9,.call 80 [.t 8,(.k (.int .i64 1)),(.k (.int .i64 1000000))],some (6,true)⟩,Oo 10 (.pick (.t 6) (.t 9) (.k (.bool false))),Om 11 10,⟨some 12,.fa 2 1 2 (.t 1),some (11,true)⟩,⟨some 13,.ld 1 false (.t 12),some (11,true)⟩,⟨some 14,.bin .eql (.t 13) (.k (.str ⟨#[]⟩)),some (11,true)⟩,⟨some 15,.mv (.t 14),some (11,true)⟩,⟨some 16,.fa 2 1 2 (.t 1),some (15,false)⟩,⟨some 17,.ld 1 false (.t 16),some (15,false)⟩,⟨some 18,.call 104 [.t 17],some (15,false)⟩,⟨some 19,.pick (.t 15) (.k (.bool true)) (.t 18),some (11,true)⟩,Oo 20 (.pick (.t 11) (.t 19) (.k (.bool false))),Om 21 20,⟨some 22,.fa 3 1 3 (.t 1),some (21,true)⟩,⟨some 23,.ld 1 false (.t 22),some (21,true)⟩,⟨some 24,.call 80 [.t 23,(.k (.int .i64 0)),(.k (.int .i64 100))],some (21,true)⟩,Oo 25 (.pick (.t 21) (.t 24) (.k (.bool false))),Om 26 25,⟨some 27,.fa 4 1 4 (.t 1),some (26,true)⟩,⟨some 28,.ld 1 false (.t 27),some (26,true)⟩,⟨some 29,.call 80 [.t 28,(.k (.int .i64 0)),(.k (.int .i64 100))],some (26,true)⟩,Oo 30 (.pick (.t 26) (.t 29) (.k (.bool false))),Om 31 30,⟨some 32,.fa 5 1 5 (.t 1),some (31,true)⟩,⟨some 33,.ld 1 false (.t 32),some (31,true)⟩,⟨some 34,.call 80 [.t 33,(.k (.int .i64 0)),(.k (.int .i64 100))],some (31,true)⟩,Oo 35 (.pick (.t 31) (.t 34) (.k (.bool false))),Om 36 35,⟨some 37,.fa 6 1 6 (.t 1),some (36,true)⟩,⟨some 38,.ld 1 false (.t 37),some (36,true)⟩,⟨some 39,.call 80 [.t 38,(.k (.int .i64 0)),(.k (.int .i64 100))],some (36,true)⟩,Oo 40 (.pick (.t 36) (.t 39) (.k (.bool false))),Om 2 40]) .ret))⟩
theorem c62 : compileF Try.prog [] 62 = some cf62 := by kernel_rfl
def okc (b : Int) : Bool := !(decide (b < 33) || decide (b > 126))
def nameOk (s : ByteArray) : Bool := inR s.size 1 20 && allN (fun i => okc (byteAt s i)) s.size 0
def holdOk (s : ByteArray) : Bool := nameOk s && !(s.toList == (ByteArray.mk #[42]).toList)
def wantOk (w : MateWant) : Bool := nameOk w.fCopy && inR w.fVersion 1 1000000 && ((w.fHold.toList == (ByteArray.mk #[]).toList) || holdOk w.fHold) && inR w.fPull 0 100 && inR w.fStart 0 100 && inR w.fDies 0 100 && inR w.fGrace 0 100
theorem impl_within (n lo hi : Int) : Rdr Try.prog 66 [.int .i64 n, .int .i64 lo, .int .i64 hi] (.bool (inR n lo hi)) := by
 refine Rdr.intro' hm c66 (Nat.le_of_ble_eq_true rfl) ?_
 conv => whnf
 repeat' (first | (refine z_op ?_ ?_; (focus exact rfl); conv => whnf) | (refine z_opg0 ?_; (conv => whnf); refine And.intro ?_ ?_; (focus exact rfl); conv => whnf) | (refine z_pick ?_ ?_; (focus exact rfl); conv => whnf) | (refine zs_ops ?_ ?_; (focus exact rfl)) | ((first | refine z_nil fun vals => ?_ | refine g_op ?_); conv => whnf) | (refine And.intro ?_ ?_; (focus exact au0); conv => whnf) | (refine g_seq ?_) | (refine XS.go ?_) | (refine g_ops ?_) | ((first | refine g_nil ?_ | refine g_ret ?_ | refine r_t ?_ | refine r_nil ?_); conv => whnf) | fail)
 all_goals (conv => lhs; whnf)
 all_goals refine congrArg D.bool ?_
 all_goals first | (refine (Bool.eq_false_iff.mpr fun h => ?_).symm; simp_all [inR]; done) | (refine Bool.eq_false_iff.mpr fun h => ?_; simp_all [inR]; done) | (simp_all [inR]; done) | (simp_all [inR]; omega) | (refine (Bool.eq_false_iff.mpr fun h => ?_).symm; simp_all [inR]; omega) | (refine Bool.eq_false_iff.mpr fun h => ?_; simp_all [inR]; omega) | (rw [Bool.eq_iff_iff]; constructor <;> intro h <;> simp_all [inR] <;> omega) | fail
theorem spec_In (n lo hi : Int) : Rdr Try.prog 80 [.int .i64 n, .int .i64 lo, .int .i64 hi] (.bool (inR n lo hi)) := by
 refine Rdr.intro' hm c80 (Nat.le_of_ble_eq_true rfl) ?_
 conv => whnf
 repeat' (first | (refine z_op ?_ ?_; (focus exact rfl); conv => whnf) | (refine z_opg0 ?_; (conv => whnf); refine And.intro ?_ ?_; (focus exact rfl); conv => whnf) | (refine z_pick ?_ ?_; (focus exact rfl); conv => whnf) | (refine zs_ops ?_ ?_; (focus exact rfl)) | ((first | refine z_nil fun vals => ?_ | refine g_op ?_); conv => whnf) | (refine And.intro ?_ ?_; (focus exact au0); conv => whnf) | (refine g_seq ?_) | (refine XS.go ?_) | (refine g_ops ?_) | ((first | refine g_nil ?_ | refine g_ret ?_ | refine r_t ?_ | refine r_nil ?_); conv => whnf) | fail)
 all_goals (conv => lhs; whnf)
 all_goals refine congrArg D.bool ?_
 all_goals first | (refine (Bool.eq_false_iff.mpr fun h => ?_).symm; simp_all [inR]; done) | (refine Bool.eq_false_iff.mpr fun h => ?_; simp_all [inR]; done) | (simp_all [inR]; done) | (simp_all [inR]; omega) | (refine (Bool.eq_false_iff.mpr fun h => ?_).symm; simp_all [inR]; omega) | (refine Bool.eq_false_iff.mpr fun h => ?_; simp_all [inR]; omega) | (rw [Bool.eq_iff_iff]; constructor <;> intro h <;> simp_all [inR] <;> omega) | fail
theorem impl_mName (s : ByteArray) : Rdr Try.prog 94 [.str s] (.bool (nameOk s)) := by
 refine Rdr.intro' hm c94 (Nat.le_of_ble_eq_true rfl) ?_
 conv => whnf
 repeat' (first | (refine z_op ?_ ?_; (focus exact rfl); conv => whnf) | (refine z_opg0 ?_; (conv => whnf); refine And.intro ?_ ?_; (focus exact rfl); conv => whnf) | (refine z_pick ?_ ?_; (focus exact rfl); conv => whnf) | (refine zs_ops ?_ ?_; (focus exact rfl)) | ((first | refine z_nil fun vals => ?_ | refine g_op ?_); conv => whnf) | (refine And.intro ?_ ?_; (focus exact au0); conv => whnf) | (refine g_seq ?_) | (refine XS.go ?_) | (refine g_ops ?_) | ((first | refine g_nil ?_ | refine g_cond ?_); conv => whnf) | fail)
 refine Br.mk (fun hb => ?_) (fun hb => ?_)
 ·have hn : inR s.size 1 20 = false := by simp at hb; simp [inR]; omega
  conv => whnf
  repeat' (first | (refine g_op ?_; conv => whnf) | (refine And.intro ?_ ?_; (focus exact au0); conv => whnf) | (refine g_seq ?_) | (refine XS.go ?_) | (refine g_ops ?_) | ((first | refine g_nil ?_ | refine g_ret ?_ | refine r_t ?_ | refine r_nil ?_); conv => whnf) | fail)
  conv => lhs; whnf
  simp only [nameOk, hn, Bool.false_and]
 have hn : inR s.size 1 20 = true := by simp at hb; simp [inR]; omega
 have hsz : s.size ≤ 20 := by simp [inR] at hn; omega
 conv => whnf
 repeat' (first | (refine g_op ?_; conv => whnf) | (refine And.intro ?_ ?_; (focus exact au0); conv => whnf) | (refine g_seq ?_) | (refine XS.go ?_) | (refine g_ops ?_) | (refine g_loop ?_) | ((first | refine g_nil ?_ | refine g_skip ?_); conv => whnf) | (refine g_block ?_) | fail)
 refine XLc.mkL (α := Nat) (fun i => i ≤ s.size ∧ nameOk s = (allN (fun i => okc (byteAt s i)) (s.size - i) i && true)) (fun i => s.size - i) (fun i gs => [.str s, .any, .any, .any, .any, .any, .any, .any, .any, .any, .any, .any, .any, .int .i64 (s.size : Int), .int .i64 (i : Int)]) (fun i gs => []) 0 ⟨Nat.zero_le _, by simp [nameOk, hn]⟩ ?_ ?_
 ·refine ⟨?_, ?_⟩
  ·repeat' (first | exact True.intro | refine And.intro rfl ?_)
  ·repeat' (first | exact True.intro | refine And.intro rfl ?_)
 intro i gs hI
 obtain ⟨hi, hN⟩ := hI
 repeat' (first | (refine g_op ?_; conv => whnf) | (refine And.intro ?_ ?_; (focus exact au0); conv => whnf) | (refine g_seq ?_) | (refine XS.go ?_) | (refine g_ops ?_) | ((first | refine g_nil ?_ | refine g_cond ?_); conv => whnf) | fail)
 refine Br.mk (fun hb => ?_) (fun hb => ?_)
 ·have hlt : i < s.size := by simpa using hb
  have hw : IntKind.wrap .i64 ((i : Int) + 1) = ((i + 1 : Nat) : Int) := by rw [wrap_ok (by omega) (by omega)]; rfl
  have hw1 : IntKind.wrap .i64 ((i : Int) - 1) = (i : Int) - 1 := wrap_ok (by omega) (by omega)
  have hbad := fun h => allN_bad (f := fun i => okc (byteAt s i)) hlt hN h
  have hgood := fun h => allN_good (f := fun i => okc (byteAt s i)) hlt hN h
  clear hN hb
  all_goals conv => whnf
  repeat' (first | (refine z_op ?_ ?_; (focus exact rfl); conv => whnf) | (refine z_opg0 ?_; (conv => whnf); refine And.intro ?_ ?_; (focus exact rfl); conv => whnf) | (refine z_pick ?_ ?_; (focus exact rfl); conv => whnf) | (refine zs_ops ?_ ?_; (focus exact rfl)) | ((first | refine z_nil fun vals => ?_ | refine g_op ?_); conv => whnf) | (refine And.intro ?_ ?_; (focus exact au0); conv => whnf) | (refine g_seq ?_) | (refine XS.go ?_) | (refine g_ops ?_) | ((first | refine g_nil ?_ | refine g_cond ?_ | refine g_skip ?_ | refine g_ret ?_); conv => whnf) | (refine g_block ?_) | ((first | refine r_t ?_ | refine r_nil ?_); conv => whnf) | (refine Br.mk (fun hb => ?_) (fun hb => ?_) <;> conv => whnf) | fail)
  all_goals
   first
   |(refine ⟨(), hbad ?_, ⟨?_, True.intro⟩⟩
     ·clear hbad hgood hw
      first | (first | (refine (Bool.eq_false_iff.mpr fun h => ?_).symm; simp_all [okc]; done) | (refine Bool.eq_false_iff.mpr fun h => ?_; simp_all [okc]; done) | (simp_all [okc]; done) | (simp_all [okc]; omega) | (refine (Bool.eq_false_iff.mpr fun h => ?_).symm; simp_all [okc]; omega) | (refine Bool.eq_false_iff.mpr fun h => ?_; simp_all [okc]; omega) | (rw [Bool.eq_iff_iff]; constructor <;> intro h <;> simp_all [okc] <;> omega) | fail) | (rcases Nat.eq_zero_or_pos i with h0 | h0 <;> simp_all [okc] <;> omega) | (fail) | fail
     ·repeat' (first | exact True.intro | refine And.intro rfl ?_))
   |(conv => lhs; whnf
     refine congrArg D.bool (hbad ?_)
     clear hbad hgood hw
     first | (first | (refine (Bool.eq_false_iff.mpr fun h => ?_).symm; simp_all [okc]; done) | (refine Bool.eq_false_iff.mpr fun h => ?_; simp_all [okc]; done) | (simp_all [okc]; done) | (simp_all [okc]; omega) | (refine (Bool.eq_false_iff.mpr fun h => ?_).symm; simp_all [okc]; omega) | (refine Bool.eq_false_iff.mpr fun h => ?_; simp_all [okc]; omega) | (rw [Bool.eq_iff_iff]; constructor <;> intro h <;> simp_all [okc] <;> omega) | fail) | (rcases Nat.eq_zero_or_pos i with h0 | h0 <;> simp_all [okc] <;> omega) | (fail) | fail)
   |(refine ⟨i + 1, ⟨by omega, ?_⟩, by omega, ?_, ?_⟩
     ·refine hgood ?_
      clear hbad hgood hw
      first | (first | (refine (Bool.eq_false_iff.mpr fun h => ?_).symm; simp_all [okc]; done) | (refine Bool.eq_false_iff.mpr fun h => ?_; simp_all [okc]; done) | (simp_all [okc]; done) | (simp_all [okc]; omega) | (refine (Bool.eq_false_iff.mpr fun h => ?_).symm; simp_all [okc]; omega) | (refine Bool.eq_false_iff.mpr fun h => ?_; simp_all [okc]; omega) | (rw [Bool.eq_iff_iff]; constructor <;> intro h <;> simp_all [okc] <;> omega) | fail) | (rcases Nat.eq_zero_or_pos i with h0 | h0 <;> simp_all [okc] <;> omega) | (fail) | fail
     ·repeat' (first | exact True.intro | refine And.intro (congrArg (D.int .i64) hw) ?_ | refine And.intro rfl ?_)
     ·repeat' (first | exact True.intro | refine And.intro rfl ?_))
 have hge : ¬ i < s.size := by simpa using hb
 have hend : nameOk s = true := by rw [hN, allN_end hge, Bool.true_and]
 clear hN
 conv => whnf
 repeat' (first | (refine g_op ?_; conv => whnf) | (refine And.intro ?_ ?_; (focus exact au0); conv => whnf) | (refine g_seq ?_) | (refine XS.go ?_) | (refine g_ops ?_) | ((first | refine g_nil ?_ | refine g_ret ?_ | refine g_exit ?_ | refine r_t ?_ | refine r_nil ?_); conv => whnf) | fail)
 conv => lhs; whnf
 rw [hend]
theorem spec_NameOk (s : ByteArray) : Rdr Try.prog 91 [.str s] (.bool (nameOk s)) := by
 refine Rdr.intro' hm c91 (Nat.le_of_ble_eq_true rfl) ?_
 conv => whnf
 repeat' (first | (refine g_op ?_; conv => whnf) | (refine And.intro ?_ ?_; (focus exact au0); conv => whnf) | (refine g_seq ?_) | (refine XS.go ?_) | (refine g_ops ?_) | ((first | refine g_nil ?_ | refine g_cond ?_ | refine XCL.of_rdr (spec_In _ _ _) ?_); conv => whnf) | fail)
 refine Br.mk (fun hb => ?_) (fun hb => ?_)
 ·have hn : inR s.size 1 20 = false := by simpa using hb
  conv => whnf
  repeat' (first | (refine g_op ?_; conv => whnf) | (refine And.intro ?_ ?_; (focus exact au0); conv => whnf) | (refine g_seq ?_) | (refine XS.go ?_) | (refine g_ops ?_) | ((first | refine g_nil ?_ | refine g_ret ?_ | refine r_t ?_ | refine r_nil ?_); conv => whnf) | fail)
  conv => lhs; whnf
  simp only [nameOk, hn, Bool.false_and]
 have hn : inR s.size 1 20 = true := by simpa using hb
 have hsz : s.size ≤ 20 := by simp [inR] at hn; omega
 conv => whnf
 repeat' (first | (refine g_op ?_; conv => whnf) | (refine And.intro ?_ ?_; (focus exact au0); conv => whnf) | (refine g_seq ?_) | (refine XS.go ?_) | (refine g_ops ?_) | (refine g_loop ?_) | ((first | refine g_nil ?_ | refine g_skip ?_); conv => whnf) | (refine g_block ?_) | fail)
 refine XLc.mkL (α := Nat) (fun i => i ≤ s.size ∧ nameOk s = (allN (fun i => okc (byteAt s i)) (s.size - i) i && true)) (fun i => s.size - i) (fun i gs => [.str s, .any, .any, .int .i64 (i : Int)]) (fun i gs => []) 0 ⟨Nat.zero_le _, by simp [nameOk, hn]⟩ ?_ ?_
 ·refine ⟨?_, ?_⟩
  ·repeat' (first | exact True.intro | refine And.intro rfl ?_)
  ·repeat' (first | exact True.intro | refine And.intro rfl ?_)
 intro i gs hI
 obtain ⟨hi, hN⟩ := hI
 repeat' (first | (refine g_op ?_; conv => whnf) | (refine And.intro ?_ ?_; (focus exact au0); conv => whnf) | (refine g_seq ?_) | (refine XS.go ?_) | (refine g_ops ?_) | ((first | refine g_nil ?_ | refine g_cond ?_); conv => whnf) | fail)
 refine Br.mk (fun hb => ?_) (fun hb => ?_)
 ·have hlt : i < s.size := by simpa using hb
  have hw : IntKind.wrap .i64 ((i : Int) + 1) = ((i + 1 : Nat) : Int) := by rw [wrap_ok (by omega) (by omega)]; rfl
  have hw1 : IntKind.wrap .i64 ((i : Int) - 1) = (i : Int) - 1 := wrap_ok (by omega) (by omega)
  have hbad := fun h => allN_bad (f := fun i => okc (byteAt s i)) hlt hN h
  have hgood := fun h => allN_good (f := fun i => okc (byteAt s i)) hlt hN h
  clear hN hb
  all_goals conv => whnf
  repeat' (first | (refine z_op ?_ ?_; (focus exact rfl); conv => whnf) | (refine z_opg0 ?_; (conv => whnf); refine And.intro ?_ ?_; (focus exact rfl); conv => whnf) | (refine z_pick ?_ ?_; (focus exact rfl); conv => whnf) | (refine zs_ops ?_ ?_; (focus exact rfl)) | ((first | refine z_nil fun vals => ?_ | refine g_op ?_); conv => whnf) | (refine And.intro ?_ ?_; (focus exact au0); conv => whnf) | (refine g_seq ?_) | (refine XS.go ?_) | (refine g_ops ?_) | ((first | refine g_nil ?_ | refine g_cond ?_ | refine g_skip ?_ | refine g_ret ?_); conv => whnf) | (refine g_block ?_) | ((first | refine r_t ?_ | refine r_nil ?_); conv => whnf) | (refine Br.mk (fun hb => ?_) (fun hb => ?_) <;> conv => whnf) | fail)
  all_goals
   first
   |(refine ⟨(), hbad ?_, ⟨?_, True.intro⟩⟩
     ·clear hbad hgood hw
      first | (first | (refine (Bool.eq_false_iff.mpr fun h => ?_).symm; simp_all [okc]; done) | (refine Bool.eq_false_iff.mpr fun h => ?_; simp_all [okc]; done) | (simp_all [okc]; done) | (simp_all [okc]; omega) | (refine (Bool.eq_false_iff.mpr fun h => ?_).symm; simp_all [okc]; omega) | (refine Bool.eq_false_iff.mpr fun h => ?_; simp_all [okc]; omega) | (rw [Bool.eq_iff_iff]; constructor <;> intro h <;> simp_all [okc] <;> omega) | fail) | (rcases Nat.eq_zero_or_pos i with h0 | h0 <;> simp_all [okc] <;> omega) | (fail) | fail
     ·repeat' (first | exact True.intro | refine And.intro rfl ?_))
   |(conv => lhs; whnf
     refine congrArg D.bool (hbad ?_)
     clear hbad hgood hw
     first | (first | (refine (Bool.eq_false_iff.mpr fun h => ?_).symm; simp_all [okc]; done) | (refine Bool.eq_false_iff.mpr fun h => ?_; simp_all [okc]; done) | (simp_all [okc]; done) | (simp_all [okc]; omega) | (refine (Bool.eq_false_iff.mpr fun h => ?_).symm; simp_all [okc]; omega) | (refine Bool.eq_false_iff.mpr fun h => ?_; simp_all [okc]; omega) | (rw [Bool.eq_iff_iff]; constructor <;> intro h <;> simp_all [okc] <;> omega) | fail) | (rcases Nat.eq_zero_or_pos i with h0 | h0 <;> simp_all [okc] <;> omega) | (fail) | fail)
   |(refine ⟨i + 1, ⟨by omega, ?_⟩, by omega, ?_, ?_⟩
     ·refine hgood ?_
      clear hbad hgood hw
      first | (first | (refine (Bool.eq_false_iff.mpr fun h => ?_).symm; simp_all [okc]; done) | (refine Bool.eq_false_iff.mpr fun h => ?_; simp_all [okc]; done) | (simp_all [okc]; done) | (simp_all [okc]; omega) | (refine (Bool.eq_false_iff.mpr fun h => ?_).symm; simp_all [okc]; omega) | (refine Bool.eq_false_iff.mpr fun h => ?_; simp_all [okc]; omega) | (rw [Bool.eq_iff_iff]; constructor <;> intro h <;> simp_all [okc] <;> omega) | fail) | (rcases Nat.eq_zero_or_pos i with h0 | h0 <;> simp_all [okc] <;> omega) | (fail) | fail
     ·repeat' (first | exact True.intro | refine And.intro (congrArg (D.int .i64) hw) ?_ | refine And.intro rfl ?_)
     ·repeat' (first | exact True.intro | refine And.intro rfl ?_))
 have hge : ¬ i < s.size := by simpa using hb
 have hend : nameOk s = true := by rw [hN, allN_end hge, Bool.true_and]
 clear hN
 conv => whnf
 repeat' (first | (refine g_op ?_; conv => whnf) | (refine And.intro ?_ ?_; (focus exact au0); conv => whnf) | (refine g_seq ?_) | (refine XS.go ?_) | (refine g_ops ?_) | ((first | refine g_nil ?_ | refine g_ret ?_ | refine g_exit ?_ | refine r_t ?_ | refine r_nil ?_); conv => whnf) | fail)
 conv => lhs; whnf
 rw [hend]
theorem impl_mHold (s : ByteArray) : Rdr Try.prog 105 [.str s] (.bool (holdOk s)) := by
 refine Rdr.intro' hm c105 (Nat.le_of_ble_eq_true rfl) ?_
 conv => whnf
 repeat' (first | (refine z_op ?_ ?_; (focus exact rfl); conv => whnf) | (refine z_opg0 ?_; (conv => whnf); refine And.intro ?_ ?_; (focus exact rfl); conv => whnf) | (refine z_pick ?_ ?_; (focus exact rfl); conv => whnf) | (refine zs_ops ?_ ?_; (focus exact rfl)) | (refine z_nil fun vals => ?_; conv => whnf) | (refine z_call ?_ ?_; (focus exact rfl)) | (refine RC.of (impl_mName _) ?_ ?_; (focus exact rfl); conv => whnf) | (refine g_op ?_; conv => whnf) | (refine And.intro ?_ ?_; (focus exact au0); conv => whnf) | (refine g_seq ?_) | (refine XS.go ?_) | (refine g_ops ?_) | ((first | refine g_nil ?_ | refine g_ret ?_ | refine r_t ?_ | refine r_nil ?_); conv => whnf) | fail)
 all_goals (conv => lhs; whnf)
 all_goals refine congrArg D.bool ?_
 all_goals first | (refine (Bool.eq_false_iff.mpr fun h => ?_).symm; simp_all [holdOk]; done) | (refine Bool.eq_false_iff.mpr fun h => ?_; simp_all [holdOk]; done) | (simp_all [holdOk]; done) | (simp_all [holdOk]; omega) | (refine (Bool.eq_false_iff.mpr fun h => ?_).symm; simp_all [holdOk]; omega) | (refine Bool.eq_false_iff.mpr fun h => ?_; simp_all [holdOk]; omega) | (rw [Bool.eq_iff_iff]; constructor <;> intro h <;> simp_all [holdOk] <;> omega) | fail
theorem spec_HoldOk (s : ByteArray) : Rdr Try.prog 104 [.str s] (.bool (holdOk s)) := by
 refine Rdr.intro' hm c104 (Nat.le_of_ble_eq_true rfl) ?_
 conv => whnf
 repeat' (first | (refine z_op ?_ ?_; (focus exact rfl); conv => whnf) | (refine z_opg0 ?_; (conv => whnf); refine And.intro ?_ ?_; (focus exact rfl); conv => whnf) | (refine z_pick ?_ ?_; (focus exact rfl); conv => whnf) | (refine zs_ops ?_ ?_; (focus exact rfl)) | (refine z_nil fun vals => ?_; conv => whnf) | (refine z_call ?_ ?_; (focus exact rfl)) | (refine RC.of (spec_NameOk _) ?_ ?_; (focus exact rfl); conv => whnf) | (refine g_op ?_; conv => whnf) | (refine And.intro ?_ ?_; (focus exact au0); conv => whnf) | (refine g_seq ?_) | (refine XS.go ?_) | (refine g_ops ?_) | ((first | refine g_nil ?_ | refine g_ret ?_ | refine r_t ?_ | refine r_nil ?_); conv => whnf) | fail)
 all_goals (conv => lhs; whnf)
 all_goals refine congrArg D.bool ?_
 all_goals first | (refine (Bool.eq_false_iff.mpr fun h => ?_).symm; simp_all [holdOk]; done) | (refine Bool.eq_false_iff.mpr fun h => ?_; simp_all [holdOk]; done) | (simp_all [holdOk]; done) | (simp_all [holdOk]; omega) | (refine (Bool.eq_false_iff.mpr fun h => ?_).symm; simp_all [holdOk]; omega) | (refine Bool.eq_false_iff.mpr fun h => ?_; simp_all [holdOk]; omega) | (rw [Bool.eq_iff_iff]; constructor <;> intro h <;> simp_all [holdOk] <;> omega) | fail
theorem impl_mWantOk (w : MateWant) : Rdr Try.prog 63 [w.D] (.bool (wantOk w)) := by
 refine Rdr.intro' hm c63 (Nat.le_of_ble_eq_true rfl) ?_
 conv => whnf
 repeat' (first | (refine z_ld1 ?_; first | (refine z_ld rfl rfl rfl rfl au1 au2 ?_; conv => whnf) | (refine z_ld0 rfl ?_; conv => whnf)) | (refine z_ld1g ?_; first | (refine z_ldg rfl rfl rfl rfl rfl rfl rfl (by (repeat intro _); exact ⟨au1, au2⟩) rfl rfl rfl rfl ?_; conv => whnf) | (refine z_ld0g ?_; (conv => whnf); refine And.intro ?_ ?_; (focus exact rfl); conv => whnf)) | (refine z_op ?_ ?_; (focus exact rfl); conv => whnf) | (refine z_opg0 ?_; (conv => whnf); refine And.intro ?_ ?_; (focus exact rfl); conv => whnf) | (refine z_pick ?_ ?_; (focus exact rfl); conv => whnf) | (refine z_pickg ?_; (conv => whnf); refine And.intro ?_ ?_; (focus exact rfl); conv => whnf) | (refine zs_ops ?_ ?_; (focus exact rfl)) | (refine z_nil fun vals => ?_; conv => whnf) | (refine z_call ?_ ?_; (focus exact rfl)) | (refine z_callg0 ?_; (conv => whnf); refine And.intro ?_ ?_; (focus exact rfl)) | (refine RC.of (impl_mName _) ?_ ?_; (focus exact rfl); conv => whnf) | (refine RC.of (impl_within _ _ _) ?_ ?_; (focus exact rfl); conv => whnf) | (refine RC.of (impl_mHold _) ?_ ?_; (focus exact rfl); conv => whnf) | (refine g_op ?_; conv => whnf) | (refine And.intro ?_ ?_; (focus exact au0); conv => whnf) | (refine g_seq ?_) | (refine XS.go ?_) | (refine g_ops ?_) | ((first | refine g_nil ?_ | refine g_ret ?_ | refine r_t ?_ | refine r_nil ?_ | refine fun _ => ?_); conv => whnf) | fail)
 (conv => lhs; whnf)
 rfl
theorem spec_WantOk (w : MateWant) : Rdr Try.prog 62 [w.D] (.bool (wantOk w)) := by
 refine Rdr.intro' hm c62 (Nat.le_of_ble_eq_true rfl) ?_
 conv => whnf
 repeat' (first | (refine z_ld1 ?_; first | (refine z_ld rfl rfl rfl rfl au1 au2 ?_; conv => whnf) | (refine z_ld0 rfl ?_; conv => whnf)) | (refine z_ld1g ?_; first | (refine z_ldg rfl rfl rfl rfl rfl rfl rfl (by (repeat intro _); exact ⟨au1, au2⟩) rfl rfl rfl rfl ?_; conv => whnf) | (refine z_ld0g ?_; (conv => whnf); refine And.intro ?_ ?_; (focus exact rfl); conv => whnf)) | (refine z_op ?_ ?_; (focus exact rfl); conv => whnf) | (refine z_opg0 ?_; (conv => whnf); refine And.intro ?_ ?_; (focus exact rfl); conv => whnf) | (refine z_pick ?_ ?_; (focus exact rfl); conv => whnf) | (refine z_pickg ?_; (conv => whnf); refine And.intro ?_ ?_; (focus exact rfl); conv => whnf) | (refine zs_ops ?_ ?_; (focus exact rfl)) | (refine z_nil fun vals => ?_; conv => whnf) | (refine z_call ?_ ?_; (focus exact rfl)) | (refine z_callg0 ?_; (conv => whnf); refine And.intro ?_ ?_; (focus exact rfl)) | (refine RC.of (spec_NameOk _) ?_ ?_; (focus exact rfl); conv => whnf) | (refine RC.of (spec_In _ _ _) ?_ ?_; (focus exact rfl); conv => whnf) | (refine RC.of (spec_HoldOk _) ?_ ?_; (focus exact rfl); conv => whnf) | (refine g_op ?_; conv => whnf) | (refine And.intro ?_ ?_; (focus exact au0); conv => whnf) | (refine g_seq ?_) | (refine XS.go ?_) | (refine g_ops ?_) | ((first | refine g_nil ?_ | refine g_ret ?_ | refine r_t ?_ | refine r_nil ?_ | refine fun _ => ?_); conv => whnf) | fail)
 (conv => lhs; whnf)
 rfl
end Go.Ab
set_option linter.unusedSimpArgs false
set_option linter.unusedVariables false
namespace Go.Ab
open Go Go.RowKit Go.Proofs
attribute [local irreducible] XC Rdr IntKind.wrap xw xos xqs xr xd
set_option maxRecDepth 100000
set_option maxHeartbeats 16000000
def cf19 : CF := ⟨62,[.t 2],(.seq (.ops [Ok 2 (.bool false)]) (.seq (.seq (.ops [Om 5 0,Og 6 5,Oo 7 (.bin .gtr (.t 6) (.k (.int .i64 10)))]) (.cond (.t 7) (.seq (.ops [Ok 2 (.bool false)]) .ret) .skip)) (.seq (.seq (.ops [Ok 3 (.int .i64 0)]) (.block 0 (.loop (.seq (.seq (.ops [Om 8 3,Om 9 0,Og 10 9,Ob 11 .lss 8 10]) (.cond (.t 11) .skip (.exit 0))) (.seq (.block 1 (.seq (.seq (.quiet [Om 14 0,Om 15 3,Ox 16 7 14 15,Od 17 7 16,Oc 18 62 [.t 17],Oo 19 (.not (.t 18)),Om 20 19,⟨some 21,.mv (.t 3),some (20,false)⟩,⟨some 22,.bin .gtr (.t 21) (.k (.int .i64 0)),some (20,false)⟩,⟨some 23,.mv (.t 22),some (20,false)⟩,⟨some 24,.mv (.t 0),some (23,true)⟩,⟨some 25,.mv (.t 3),some (23,true)⟩,⟨some 26,.bin .sub (.t 25) (.k (.int .i64 1)),some (23,true)⟩,⟨some 27,.ix 7 (.t 24) (.t 26),some (23,true)⟩,⟨some 28,.fa 0 1 0 (.t 27),some (23,true)⟩,⟨some 29,.ld 1 false (.t 28),some (23,true)⟩,⟨some 30,.mv (.t 0),some (23,true)⟩,⟨some 31,.mv (.t 3),some (23,true)⟩,⟨some 32,.ix 7 (.t 30) (.t 31),some (23,true)⟩,⟨some 33,.fa 0 1 0 (.t 32),some (23,true)⟩,⟨some 34,.ld 1 false (.t 33),some (23,true)⟩,⟨some 35,.bin .geq (.t 29) (.t 34),some (23,true)⟩,⟨some 36,.pick (.t 23) (.t 35) (.k (.bool false)),some (20,false)⟩,Oo 37 (.pick (.t 20) (.k (.bool true)) (.t 36))]) (.cond (.t 37) (.seq (.ops [Ok 2 (.bool false)]) .ret) .skip)) (.seq (.ops [Ok 4 (.int .i64 0)]) (.block 2 (.loop (.seq (.seq (.ops [Om 38 4,Om 39 3,Ob 40 .lss 38 39]) (.cond (.t 40) .skip (.exit 2))) (.seq (.block 3 (.seq (.quiet [Om 43 0,Om 44 3,Ox 45 7 43 44,Of 46 2 45,Ol 47 46,Oo 48 (.bin .neq (.t 47) (.k (.str ⟨#[]⟩))),Om 49 48,⟨some 50,.mv (.t 0),some (49,true)⟩,⟨some 51,.mv (.t 4),some (49,true)⟩,⟨some 52,.ix 7 (.t 50) (.t 51),some (49,true)⟩,⟨some 53,.fa 2 1 2 (.t 52),some (49,true)⟩,⟨some 54,.ld 1 false (.t 53),some (49,true)⟩,⟨some 55,.mv (.t 0),some (49,true)⟩,⟨some 56,.mv (.t 3),some (49,true)⟩,⟨some 57,.ix 7 (.t 55) (.t 56),some (49,true)⟩,⟨some 58,.fa 2 1 2 (.t 57),some (49,true)⟩,⟨some 59,.ld 1 false (.t 58),some (49,true)⟩,⟨some 60,.bin .eql (.t 54) (.t 59),some (49,true)⟩,Oo 61 (.pick (.t 49) (.t 60) (.k (.bool false)))]) (.cond (.t 61) (.seq (.ops [Ok 2 (.bool false)]) .ret) .skip))) (.ops [Om 41 4,Oi 42 41,Om 4 42])))))))) (.ops [Om 12 3,Oi 13 12,Om 3 13])))))) (.seq (.ops [Ok 2 (.bool true)]) .ret))))⟩
theorem c19 : compileF Try.prog [] 19 = some cf19 := by kernel_rfl
def cf21 : CF := ⟨50,[.t 2],(.seq (.ops [Ok 2 (.bool false)]) (.seq (.seq (.ops [Om 6 0,Og 7 6,Oo 8 (.bin .gtr (.t 7) (.k (.int .i64 10)))]) (.cond (.t 8) (.seq (.ops [Ok 2 (.bool false)]) .ret) .skip)) (.seq (.ops [Oo 9 (.mm),Om 3 9]) (.seq (.seq (.ops [Om 10 0,Og 11 10,Ok 12 (.int .i64 0)]) (.block 0 (.loop (.seq (.ops [Ob 13 .lss 12 11]) (.seq (.cond (.t 13) .skip (.exit 0)) (.seq (.block 1 (.seq (.ops [Om 14 12,Ox 15 7 10 12,Od 16 7 15,Oo 5 (.al (.agg [.str ⟨#[]⟩,.int .i64 0,.str ⟨#[]⟩,.int .i64 0,.int .i64 0,.int .i64 0,.int .i64 0])),Om 4 14,Os 7 5 16]) (.seq (.seq (.quiet [Od 17 7 5,Oc 18 63 [.t 17],Oo 19 (.not (.t 18)),Om 20 19,⟨some 21,.mv (.t 4),some (20,false)⟩,⟨some 22,.bin .gtr (.t 21) (.k (.int .i64 0)),some (20,false)⟩,⟨some 23,.mv (.t 22),some (20,false)⟩,⟨some 24,.fa 0 1 0 (.t 5),some (23,true)⟩,⟨some 25,.ld 1 false (.t 24),some (23,true)⟩,⟨some 26,.mv (.t 0),some (23,true)⟩,⟨some 27,.mv (.t 4),some (23,true)⟩,⟨some 28,.bin .sub (.t 27) (.k (.int .i64 1)),some (23,true)⟩,⟨some 29,.ix 7 (.t 26) (.t 28),some (23,true)⟩,⟨some 30,.fa 0 1 0 (.t 29),some (23,true)⟩,⟨some 31,.ld 1 false (.t 30),some (23,true)⟩,⟨some 32,.bin .leq (.t 25) (.t 31),some (23,true)⟩,⟨some 33,.pick (.t 23) (.t 32) (.k (.bool false)),some (20,false)⟩,Oo 34 (.pick (.t 20) (.k (.bool true)) (.t 33)),Om 35 34,⟨some 36,.fa 2 1 2 (.t 5),some (35,false)⟩,⟨some 37,.ld 1 false (.t 36),some (35,false)⟩,⟨some 38,.bin .neq (.t 37) (.k (.str ⟨#[]⟩)),some (35,false)⟩,⟨some 39,.mv (.t 38),some (35,false)⟩,⟨some 40,.mv (.t 3),some (39,true)⟩,⟨some 41,.fa 2 1 2 (.t 5),some (39,true)⟩,⟨some 42,.ld 1 false (.t 41),some (39,true)⟩,⟨some 43,.lk (.t 40) (.t 42),some (39,true)⟩,⟨some 44,.pick (.t 39) (.t 43) (.k (.bool false)),some (35,false)⟩,Oo 45 (.pick (.t 35) (.k (.bool true)) (.t 44))]) (.cond (.t 45) (.seq (.ops [Ok 2 (.bool false)]) .ret) .skip)) (.ops [Om 46 3,Of 47 2 5,Ol 48 47,⟨none,.mu (.t 46) (.t 48) (.k (.bool true)),none⟩])))) (.ops [Oi 49 12,Om 12 49]))))))) (.seq (.ops [Ok 2 (.bool true)]) .ret)))))⟩
theorem c21 : compileF Try.prog [] 21 = some cf21 := by kernel_rfl
def kval (k : ByteArray) : List (ByteArray × Bool) → Option Bool
 | [] => none
 | (a, v) :: l => if k == a then some v else kval k l
def kput (k : ByteArray) (v : Bool) : List (ByteArray × Bool) → List (ByteArray × Bool)
 | [] => [(k, v)]
 | (a, x) :: l => if k == a then (k, v) :: l else (a, x) :: kput k v l
theorem kfind_val {k : ByteArray} : ∀ {l : List (ByteArray × Bool)} {j : Nat}, (kfind k l j).map (·.2) = kval k l
 | [], _ => rfl
 | (a, v) :: l, j => by
  unfold kfind kval
  split
  ·rfl
  ·exact kfind_val
theorem kfind_put {k : ByteArray} {v : Bool} : ∀ {l : List (ByteArray × Bool)} {j : Nat}, (match kfind k l j with
  | some (i, _) => l.set (i - j) (k, v)
  | none => l ++ [(k, v)]) = kput k v l
 | [], _ => rfl
 | (a, x) :: l, j => by
  unfold kfind kput
  by_cases h : (k == a) = true
  ·simp [h]
  ·simp only [h]
   have ih := kfind_put (k := k) (v := v) (l := l) (j := j + 1)
   cases hq : kfind k l (j + 1) with
   | none => rw [hq] at ih; simp at ih ⊢; exact ih
   | some p =>
    obtain ⟨i, y⟩ := p
    rw [hq] at ih
    obtain ⟨b, h1, _⟩ := kfind_spec hq
    have e : i - j = (i - (j + 1)) + 1 := by omega
    simp only at ih
    show ((a, x) :: l).set (i - j) (k, v) = _
    rw [e, List.set_cons_succ, ih]
    rfl
theorem kset_put (l : List (ByteArray × Bool)) (k : ByteArray) (v : Bool) : kset l k v = kput k v l := by
 have := kfind_put (k := k) (v := v) (l := l) (j := 0)
 unfold kset
 cases hq : kfind k l 0 with
 | none => rw [hq] at this; exact this
 | some p => obtain ⟨i, y⟩ := p; rw [hq] at this; simpa using this
theorem kval_put {k h : ByteArray} {v : Bool} : ∀ {l : List (ByteArray × Bool)}, kval h (kput k v l) = if h == k then some v else kval h l
 | [] => rfl
 | (a, x) :: l => by
  unfold kput
  by_cases hk : (k == a) = true
  ·rw [if_pos hk]
   have e : k = a := (Go.MapKept.bytes_beq _ _).1 hk
   subst e
   unfold kval
   by_cases hh : (h == k) = true
   ·simp [hh]
   ·simp [hh]
  ·rw [if_neg hk]
   unfold kval
   by_cases ha : (h == a) = true
   ·have e : h = a := (Go.MapKept.bytes_beq _ _).1 ha
    subst e
    have hne : ¬ (h == k) = true := fun q => hk ((Go.MapKept.bytes_beq _ _).2 ((Go.MapKept.bytes_beq _ _).1 q).symm)
    simp [ha, hne]
   ·rw [if_neg ha, if_neg ha]
    exact kval_put
theorem kget_set (l : List (ByteArray × Bool)) (k h : ByteArray) : kget (kset l k true) h = ((h == k) || kget l h) := by
 unfold kget
 rw [kset_put, kfind_val, kfind_val, kval_put]
 cases hq : (h == k) <;> simp
theorem bytes_toList (a b : ByteArray) : (a == b) = (a.toList == b.toList) := by
 exact beq_toListBytes a b
def mpU (xs : List MateWant) : Nat → List (ByteArray × Bool)
 | 0 => []
 | i + 1 => kset (mpU xs i) (xs.getD i default).fHold true
theorem allN_last {f : Nat → Bool} : ∀ {k i : Nat}, allN f (k + 1) i = (allN f k i && f (i + k))
 | 0, i => by simp [allN]
 | k + 1, i => by
  rw [allN, allN_last (k := k) (i := i + 1), allN]
  rw [show i + 1 + k = i + (k + 1) by omega, Bool.and_assoc]
theorem kget_mpU (xs : List MateWant) (h : ByteArray) : ∀ m, kget (mpU xs m) h = !allN (fun k => !((xs.getD k default).fHold.toList == h.toList)) m 0
 | 0 => rfl
 | m + 1 => by
  rw [mpU, kget_set, kget_mpU xs h m, allN_last, bytes_toList, Nat.zero_add, beq_cm h.toList]
  cases allN (fun k => !((xs.getD k default).fHold.toList == h.toList)) m 0 <;> simp
def nodup (xs : List MateWant) (i : Nat) : Bool := allN (fun k => !((xs.getD k default).fHold.toList == (xs.getD i default).fHold.toList)) i 0
def wS (xs : List MateWant) (i : Nat) : Bool := wantOk (xs.getD i default) && !(decide ((i : Int) > 0) && !Op.bytesLess (xs.getD (pr i) default).fCopy.toList (xs.getD i default).fCopy.toList)
def wF (xs : List MateWant) (i : Nat) : Bool := wS xs i && (((xs.getD i default).fHold.toList == (ByteArray.mk #[]).toList) || nodup xs i)
def wantsOk (xs : List MateWant) : Bool := !decide ((xs.length : Int) > 10) && (allN (wF xs) xs.length 0 && true)
def dF (xs : List MateWant) (i k : Nat) : Bool := !(!((xs.getD i default).fHold.toList == (ByteArray.mk #[]).toList) && ((xs.getD k default).fHold.toList == (xs.getD i default).fHold.toList))
theorem allN_true : ∀ {k i : Nat}, allN (fun _ => true) k i = true
 | 0, _ => rfl
 | k + 1, i => by rw [allN, allN_true]; rfl
theorem dF_all (xs : List MateWant) (i : Nat) : allN (dF xs i) i 0 = (((xs.getD i default).fHold.toList == (ByteArray.mk #[]).toList) || nodup xs i) := by
 unfold nodup
 cases hq : ((xs.getD i default).fHold.toList == (ByteArray.mk #[]).toList) with
 | true =>
  rw [allN_congr (g := fun _ => true) (fun j _ _ => by unfold dF; rw [hq]; rfl), allN_true]
  rfl
 | false =>
  rw [Bool.false_or]
  exact allN_congr fun j _ _ => by unfold dF; rw [hq]; rfl
theorem impl_WantsOk (xs : List MateWant) : Rdr Try.prog 21 [.ro 7 (xs.map MateWant.D)] (.bool (wantsOk xs)) := by
 refine Rdr.intro' hm c21 (Nat.le_of_ble_eq_true rfl) ?_
 conv => whnf
 repeat' (first | (refine g_op ?_; conv => whnf) | (refine And.intro ?_ ?_; (focus exact au0); conv => whnf) | (refine g_seq ?_) | (refine XS.go ?_) | (refine g_ops ?_) | ((first | refine g_nil ?_ | refine g_cond ?_); conv => whnf) | fail)
 rw [mlen]
 refine Br.mk (fun hb => ?_) (fun hb => ?_)
 ·conv => whnf
  repeat' (first | (refine g_op ?_; conv => whnf) | (refine And.intro ?_ ?_; (focus exact au0); conv => whnf) | (refine g_seq ?_) | (refine XS.go ?_) | (refine g_ops ?_) | ((first | refine g_nil ?_ | refine g_ret ?_ | refine r_t ?_ | refine r_nil ?_); conv => whnf) | fail)
  (conv => lhs; whnf)
  rw [wantsOk, hb]
  rfl
 have hv : wantsOk xs = (allN (wF xs) xs.length 0 && true) := by rw [wantsOk, hb]; rfl
 have hl : xs.length ≤ 10 := by simp at hb; omega
 clear hb
 conv => whnf
 repeat' (first | (refine g_op ?_; conv => whnf) | (refine And.intro ?_ ?_; (focus exact au0); conv => whnf) | (refine g_seq ?_) | (refine XS.go ?_) | (refine g_ops ?_) | (refine g_loop ?_) | ((first | refine g_nil ?_ | refine g_skip ?_); conv => whnf) | (refine g_block ?_) | (refine fun _ => ?_; conv => whnf) | fail)
 refine XLc.mkL (α := Nat) (fun i => i ≤ xs.length ∧ wantsOk xs = (allN (wF xs) (xs.length - i) i && true)) (fun i => xs.length - i) (fun i gs => [.ro 7 (xs.map MateWant.D), .any, .any, .lmp 9 (gs 9), .any, .any, .any, .any, .any, .any, .ro 7 (xs.map MateWant.D), .int .i64 ((xs.map MateWant.D).length : Int), .int .i64 (i : Int)]) (fun i gs => [none, none, none, none, none, none, none, none, none, some (.mp (mpU xs i))]) 0 ⟨Nat.zero_le _, hv⟩ ?_ ?_
 ·refine ⟨?_, ?_⟩
  ·repeat' (first | exact True.intro | refine And.intro rfl ?_)
  ·repeat' (first | exact True.intro | refine And.intro rfl ?_)
 intro i gs hI
 obtain ⟨hi, hN⟩ := hI
 repeat' (first | (refine g_op ?_; conv => whnf) | (refine And.intro ?_ ?_; (focus exact au0); conv => whnf) | (refine g_seq ?_) | (refine XS.go ?_) | (refine g_ops ?_) | ((first | refine g_nil ?_ | refine g_cond ?_); conv => whnf) | fail)
 refine Br.mk (fun hb => ?_) (fun hb => ?_)
 ·have hlt : i < xs.length := by simpa using hb
  have hw : IntKind.wrap .i64 ((i : Int) + 1) = ((i + 1 : Nat) : Int) := by rw [wrap_ok (by omega) (by omega)]; rfl
  have hw1 : IntKind.wrap .i64 ((i : Int) - 1) = (i : Int) - 1 := wrap_ok (by omega) (by omega)
  have hbad := fun h => allN_bad (f := wF xs) hlt hN h
  have hgood := fun h => allN_good (f := wF xs) hlt hN h
  clear hN hb
  have hk : kget (mpU xs i) (xs.getD (i : Int).toNat default).fHold = !nodup xs i := kget_mpU xs _ i
  have hmp : kset (mpU xs i) (xs.getD (i : Int).toNat default).fHold true = mpU xs (i + 1) := rfl
  all_goals conv => whnf
  repeat' (first | (refine z_ld1 ?_; first | (refine z_ld rfl rfl rfl rfl au1 au2 ?_; conv => whnf) | (refine z_ld0 rfl ?_; conv => whnf)) | (refine z_ld1g ?_; first | (refine z_ldg rfl rfl rfl rfl rfl rfl rfl (by (repeat intro _); exact ⟨au1, au2⟩) rfl rfl rfl rfl ?_; conv => whnf) | (refine z_ld0g ?_; (conv => whnf); refine And.intro ?_ ?_; (focus exact rfl); conv => whnf)) | (refine z_st1 ?_; first | (refine z_st rfl rfl rfl au1 au2 rfl rfl ?_; conv => whnf) | (refine z_st0 ?_; conv => whnf)) | (refine z_ix1 ?_; first | (refine z_ix rfl rfl rfl rfl rfl ⟨by first | omega | (simp only [decide_eq_true_eq, Bool.not_eq_true', Bool.or_eq_false_iff, decide_eq_false_iff_not, Bool.and_eq_true, Bool.not_eq_false'] at *; omega), by first | omega | (simp only [decide_eq_true_eq, Bool.not_eq_true', Bool.or_eq_false_iff, decide_eq_false_iff_not, Bool.and_eq_true, Bool.not_eq_false'] at *; omega)⟩ ?_; conv => whnf) | (refine z_ix0 rfl rfl ?_; conv => whnf)) | (refine z_ix1g ?_; refine z_ixg rfl rfl rfl rfl rfl rfl rfl (by (repeat intro _); refine ⟨?_, ?_⟩ <;> first | omega | (simp only [decide_eq_true_eq, Bool.not_eq_true', Bool.or_eq_false_iff, decide_eq_false_iff_not, Bool.and_eq_true, Bool.not_eq_false'] at *; omega)) ?_) | (refine z_op ?_ ?_; (focus exact rfl); conv => whnf) | (refine z_opg0 ?_; (conv => whnf); refine And.intro ?_ ?_; (focus exact rfl); conv => whnf) | (refine z_pick ?_ ?_; (focus exact rfl); conv => whnf) | (refine z_pickg ?_; (conv => whnf); refine And.intro ?_ ?_; (focus exact rfl); conv => whnf) | (refine zs_ops ?_ ?_; (focus exact rfl)) | (refine zs_quiet ?_ ?_; (focus exact rfl)) | (refine z_nil fun vals => ?_; conv => whnf) | (refine z_call ?_ ?_; (focus exact rfl)) | (refine z_eff ?_; conv => whnf) | (refine RC.of (impl_mWantOk _) ?_ ?_; (focus exact rfl); conv => whnf) | (refine g_op ?_; conv => whnf) | (refine And.intro ?_ ?_; (focus exact au0); conv => whnf) | (refine g_seq ?_) | (refine XS.go ?_) | (refine g_ops ?_) | ((first | refine g_nil ?_ | refine g_cond ?_ | refine g_skip ?_ | refine g_ret ?_); conv => whnf) | (refine g_block ?_) | ((first | refine r_t ?_ | refine r_nil ?_ | refine fun _ => ?_); conv => whnf) | (refine Br.mk (fun hb => ?_) (fun hb => ?_) <;> conv => whnf) | fail)
  all_goals
   first
   |(refine ⟨(), hbad ?_, ⟨?_, True.intro⟩⟩
     ·clear hbad hgood hw hmp
      first | (first | (refine (Bool.eq_false_iff.mpr fun h => ?_).symm; simp_all [wF, wS, pr, le_eq]; done) | (refine Bool.eq_false_iff.mpr fun h => ?_; simp_all [wF, wS, pr, le_eq]; done) | (simp_all [wF, wS, pr, le_eq]; done) | (simp_all [wF, wS, pr, le_eq]; omega) | (refine (Bool.eq_false_iff.mpr fun h => ?_).symm; simp_all [wF, wS, pr, le_eq]; omega) | (refine Bool.eq_false_iff.mpr fun h => ?_; simp_all [wF, wS, pr, le_eq]; omega) | (rw [Bool.eq_iff_iff]; constructor <;> intro h <;> simp_all [wF, wS, pr, le_eq] <;> omega) | fail) | (rcases Nat.eq_zero_or_pos i with h0 | h0 <;> simp_all [wF, wS, pr, le_eq] <;> omega) | (rcases Nat.eq_zero_or_pos i with h0 | h0 <;> by_cases hq : (xs.getD i default).fHold.toList = [] <;> first | (simp_all [wF, wS, pr, le_eq]; done) | (refine Bool.eq_false_iff.mpr fun h => ?_; simp_all [wF, wS, pr, le_eq]; done) | fail) | fail
     ·repeat' (first | exact True.intro | refine And.intro rfl ?_))
   |(conv => lhs; whnf
     refine congrArg D.bool (hbad ?_)
     clear hbad hgood hw hmp
     first | (first | (refine (Bool.eq_false_iff.mpr fun h => ?_).symm; simp_all [wF, wS, pr, le_eq]; done) | (refine Bool.eq_false_iff.mpr fun h => ?_; simp_all [wF, wS, pr, le_eq]; done) | (simp_all [wF, wS, pr, le_eq]; done) | (simp_all [wF, wS, pr, le_eq]; omega) | (refine (Bool.eq_false_iff.mpr fun h => ?_).symm; simp_all [wF, wS, pr, le_eq]; omega) | (refine Bool.eq_false_iff.mpr fun h => ?_; simp_all [wF, wS, pr, le_eq]; omega) | (rw [Bool.eq_iff_iff]; constructor <;> intro h <;> simp_all [wF, wS, pr, le_eq] <;> omega) | fail) | (rcases Nat.eq_zero_or_pos i with h0 | h0 <;> simp_all [wF, wS, pr, le_eq] <;> omega) | (rcases Nat.eq_zero_or_pos i with h0 | h0 <;> by_cases hq : (xs.getD i default).fHold.toList = [] <;> first | (simp_all [wF, wS, pr, le_eq]; done) | (refine Bool.eq_false_iff.mpr fun h => ?_; simp_all [wF, wS, pr, le_eq]; done) | fail) | fail)
   |(refine ⟨i + 1, ⟨by omega, ?_⟩, by omega, ?_, ?_⟩
     ·refine hgood ?_
      clear hbad hgood hw hmp
      first | (first | (refine (Bool.eq_false_iff.mpr fun h => ?_).symm; simp_all [wF, wS, pr, le_eq]; done) | (refine Bool.eq_false_iff.mpr fun h => ?_; simp_all [wF, wS, pr, le_eq]; done) | (simp_all [wF, wS, pr, le_eq]; done) | (simp_all [wF, wS, pr, le_eq]; omega) | (refine (Bool.eq_false_iff.mpr fun h => ?_).symm; simp_all [wF, wS, pr, le_eq]; omega) | (refine Bool.eq_false_iff.mpr fun h => ?_; simp_all [wF, wS, pr, le_eq]; omega) | (rw [Bool.eq_iff_iff]; constructor <;> intro h <;> simp_all [wF, wS, pr, le_eq] <;> omega) | fail) | (rcases Nat.eq_zero_or_pos i with h0 | h0 <;> simp_all [wF, wS, pr, le_eq] <;> omega) | (rcases Nat.eq_zero_or_pos i with h0 | h0 <;> by_cases hq : (xs.getD i default).fHold.toList = [] <;> first | (simp_all [wF, wS, pr, le_eq]; done) | (refine Bool.eq_false_iff.mpr fun h => ?_; simp_all [wF, wS, pr, le_eq]; done) | fail) | fail
     ·repeat' (first | exact True.intro | refine And.intro (congrArg (D.int .i64) hw) ?_ | refine And.intro rfl ?_)
     ·repeat' (first | exact True.intro | refine And.intro rfl ?_))
 have hge : ¬ i < xs.length := by simpa using hb
 have hend : wantsOk xs = true := by rw [hN, allN_end hge, Bool.true_and]
 clear hN
 conv => whnf
 repeat' (first | (refine g_op ?_; conv => whnf) | (refine And.intro ?_ ?_; (focus exact au0); conv => whnf) | (refine g_seq ?_) | (refine XS.go ?_) | (refine g_ops ?_) | ((first | refine g_nil ?_ | refine g_ret ?_ | refine g_exit ?_ | refine r_t ?_ | refine r_nil ?_); conv => whnf) | fail)
 (conv => lhs; whnf)
 rw [hend]
theorem spec_WantsOk (xs : List MateWant) : Rdr Try.prog 19 [.ro 7 (xs.map MateWant.D)] (.bool (wantsOk xs)) := by
 refine Rdr.intro' hm c19 (Nat.le_of_ble_eq_true rfl) ?_
 conv => whnf
 repeat' (first | (refine g_op ?_; conv => whnf) | (refine And.intro ?_ ?_; (focus exact au0); conv => whnf) | (refine g_seq ?_) | (refine XS.go ?_) | (refine g_ops ?_) | ((first | refine g_nil ?_ | refine g_cond ?_); conv => whnf) | fail)
 rw [mlen]
 refine Br.mk (fun hb => ?_) (fun hb => ?_)
 ·conv => whnf
  repeat' (first | (refine g_op ?_; conv => whnf) | (refine And.intro ?_ ?_; (focus exact au0); conv => whnf) | (refine g_seq ?_) | (refine XS.go ?_) | (refine g_ops ?_) | ((first | refine g_nil ?_ | refine g_ret ?_ | refine r_t ?_ | refine r_nil ?_); conv => whnf) | fail)
  (conv => lhs; whnf)
  rw [wantsOk, hb]
  rfl
 have hv : wantsOk xs = (allN (wF xs) xs.length 0 && true) := by rw [wantsOk, hb]; rfl
 have hl : xs.length ≤ 10 := by simp at hb; omega
 clear hb
 conv => whnf
 repeat' (first | (refine g_op ?_; conv => whnf) | (refine And.intro ?_ ?_; (focus exact au0); conv => whnf) | (refine g_seq ?_) | (refine XS.go ?_) | (refine g_ops ?_) | (refine g_loop ?_) | ((first | refine g_nil ?_ | refine g_skip ?_); conv => whnf) | (refine g_block ?_) | fail)
 refine XLc.mkL (α := Nat) (fun i => i ≤ xs.length ∧ wantsOk xs = (allN (wF xs) (xs.length - i) i && true)) (fun i => xs.length - i) (fun i gs => [.ro 7 (xs.map MateWant.D), .any, .any, .int .i64 (i : Int)]) (fun i gs => []) 0 ⟨Nat.zero_le _, hv⟩ ?_ ?_
 ·refine ⟨?_, ?_⟩
  ·repeat' (first | exact True.intro | refine And.intro rfl ?_)
  ·repeat' (first | exact True.intro | refine And.intro rfl ?_)
 intro j gs0 hI
 obtain ⟨hi0, hN0⟩ := hI
 repeat' (first | (refine g_op ?_; conv => whnf) | (refine And.intro ?_ ?_; (focus exact au0); conv => whnf) | (refine g_seq ?_) | (refine XS.go ?_) | (refine g_ops ?_) | ((first | refine g_nil ?_ | refine g_cond ?_); conv => whnf) | fail)
 refine Br.mk (fun hb => ?_) (fun hb => ?_)
 ·have hlt0 : j < xs.length := by simpa using hb
  have hwj : IntKind.wrap .i64 ((j : Int) + 1) = ((j + 1 : Nat) : Int) := by rw [wrap_ok (by omega) (by omega)]; rfl
  have hw1 : IntKind.wrap .i64 ((j : Int) - 1) = (j : Int) - 1 := wrap_ok (by omega) (by omega)
  have hbad := fun h => allN_bad (f := wF xs) hlt0 hN0 h
  have hgood := fun h => allN_good (f := wF xs) hlt0 hN0 h
  clear hb
  conv => whnf
  repeat' (first | (refine z_ld1 ?_; first | (refine z_ld rfl rfl rfl rfl au1 au2 ?_; conv => whnf) | (refine z_ld0 rfl ?_; conv => whnf)) | (refine z_ld1g ?_; first | (refine z_ldg rfl rfl rfl rfl rfl rfl rfl (by (repeat intro _); exact ⟨au1, au2⟩) rfl rfl rfl rfl ?_; conv => whnf) | (refine z_ld0g ?_; (conv => whnf); refine And.intro ?_ ?_; (focus exact rfl); conv => whnf)) | (refine z_ix1 ?_; first | (refine z_ix rfl rfl rfl rfl rfl ⟨by first | omega | (simp only [decide_eq_true_eq, Bool.not_eq_true', Bool.or_eq_false_iff, decide_eq_false_iff_not, Bool.and_eq_true, Bool.not_eq_false'] at *; omega), by first | omega | (simp only [decide_eq_true_eq, Bool.not_eq_true', Bool.or_eq_false_iff, decide_eq_false_iff_not, Bool.and_eq_true, Bool.not_eq_false'] at *; omega)⟩ ?_; conv => whnf) | (refine z_ix0 rfl rfl ?_; conv => whnf)) | (refine z_ix1g ?_; refine z_ixg rfl rfl rfl rfl rfl rfl rfl (by (repeat intro _); refine ⟨?_, ?_⟩ <;> first | omega | (simp only [decide_eq_true_eq, Bool.not_eq_true', Bool.or_eq_false_iff, decide_eq_false_iff_not, Bool.and_eq_true, Bool.not_eq_false'] at *; omega)) ?_) | (refine z_op ?_ ?_; (focus exact rfl); conv => whnf) | (refine z_opg0 ?_; (conv => whnf); refine And.intro ?_ ?_; (focus exact rfl); conv => whnf) | (refine z_pick ?_ ?_; (focus exact rfl); conv => whnf) | (refine z_pickg ?_; (conv => whnf); refine And.intro ?_ ?_; (focus exact rfl); conv => whnf) | (refine zs_quiet ?_ ?_; (focus exact rfl)) | (refine z_nil fun vals => ?_; conv => whnf) | (refine z_call ?_ ?_; (focus exact rfl)) | (refine RC.of (spec_WantOk _) ?_ ?_; (focus exact rfl); conv => whnf) | (refine And.intro ?_ ?_; (focus exact au0); conv => whnf) | (refine g_seq ?_) | (refine XS.go ?_) | ((first | refine g_cond ?_ | refine g_skip ?_); conv => whnf) | (refine g_block ?_) | fail)
  refine Br.mk (fun hb => ?_) (fun hb => ?_)
  ·conv => whnf
   repeat' (first | (refine g_op ?_; conv => whnf) | (refine And.intro ?_ ?_; (focus exact au0); conv => whnf) | (refine g_seq ?_) | (refine XS.go ?_) | (refine g_ops ?_) | ((first | refine g_nil ?_ | refine g_ret ?_ | refine r_t ?_ | refine r_nil ?_); conv => whnf) | fail)
   (conv => lhs; whnf)
   refine congrArg D.bool (hbad ?_)
   clear hbad hgood hN0 hwj
   first | (refine (Bool.eq_false_iff.mpr fun h => ?_).symm; simp_all [wF, wS, pr]; done) | (refine Bool.eq_false_iff.mpr fun h => ?_; simp_all [wF, wS, pr]; done) | (simp_all [wF, wS, pr]; done) | (simp_all [wF, wS, pr]; omega) | (refine (Bool.eq_false_iff.mpr fun h => ?_).symm; simp_all [wF, wS, pr]; omega) | (refine Bool.eq_false_iff.mpr fun h => ?_; simp_all [wF, wS, pr]; omega) | (rw [Bool.eq_iff_iff]; constructor <;> intro h <;> simp_all [wF, wS, pr] <;> omega) | fail
  have hS : wS xs j = true := by
   clear hbad hgood hN0 hwj
   first | (rcases Nat.eq_zero_or_pos j with h0 | h0 <;> simp_all [wS, pr]; done) | (simp_all [wS, pr]; done)
  have hcon : wantsOk xs = (allN (dF xs j) (j - 0) 0 && (allN (wF xs) (xs.length - (j + 1)) (j + 1) && true)) := by
   rw [hN0, allN_step hlt0, Nat.sub_zero, dF_all]
   simp [wF, hS]
  clear hb hbad hgood hN0
  conv => whnf
  repeat' (first | (refine g_op ?_; conv => whnf) | (refine And.intro ?_ ?_; (focus exact au0); conv => whnf) | (refine g_seq ?_) | (refine XS.go ?_) | (refine g_ops ?_) | (refine g_loop ?_) | ((first | refine g_nil ?_ | refine g_skip ?_); conv => whnf) | (refine g_block ?_) | fail)
  refine XLc.mkL (α := Nat) (fun i => i ≤ j ∧ wantsOk xs = (allN (dF xs j) (j - i) i && (allN (wF xs) (xs.length - (j + 1)) (j + 1) && true))) (fun i => j - i) (fun i gs => [.ro 7 (xs.map MateWant.D), .any, .any, .int .i64 (j : Int), .int .i64 (i : Int)]) (fun i gs => []) 0 ⟨Nat.zero_le _, hcon⟩ ?_ ?_
  ·refine ⟨?_, ?_⟩
   ·repeat' (first | exact True.intro | refine And.intro rfl ?_)
   ·repeat' (first | exact True.intro | refine And.intro rfl ?_)
  intro i gs hI
  obtain ⟨hi, hN⟩ := hI
  repeat' (first | (refine g_op ?_; conv => whnf) | (refine And.intro ?_ ?_; (focus exact au0); conv => whnf) | (refine g_seq ?_) | (refine XS.go ?_) | (refine g_ops ?_) | ((first | refine g_nil ?_ | refine g_cond ?_); conv => whnf) | fail)
  refine Br.mk (fun hb => ?_) (fun hb => ?_)
  ·have hlt : i < j := by simpa using hb
   have hw : IntKind.wrap .i64 ((i : Int) + 1) = ((i + 1 : Nat) : Int) := by rw [wrap_ok (by omega) (by omega)]; rfl
   have hw1 : IntKind.wrap .i64 ((i : Int) - 1) = (i : Int) - 1 := wrap_ok (by omega) (by omega)
   have hbad := fun h => allN_bad (f := dF xs j) hlt hN h
   have hgood := fun h => allN_good (f := dF xs j) hlt hN h
   clear hN hb
   all_goals conv => whnf
   repeat' (first | (refine z_ld1 ?_; first | (refine z_ld rfl rfl rfl rfl au1 au2 ?_; conv => whnf) | (refine z_ld0 rfl ?_; conv => whnf)) | (refine z_ld1g ?_; first | (refine z_ldg rfl rfl rfl rfl rfl rfl rfl (by (repeat intro _); exact ⟨au1, au2⟩) rfl rfl rfl rfl ?_; conv => whnf) | (refine z_ld0g ?_; (conv => whnf); refine And.intro ?_ ?_; (focus exact rfl); conv => whnf)) | (refine z_ix1 ?_; first | (refine z_ix rfl rfl rfl rfl rfl ⟨by first | omega | (simp only [decide_eq_true_eq, Bool.not_eq_true', Bool.or_eq_false_iff, decide_eq_false_iff_not, Bool.and_eq_true, Bool.not_eq_false'] at *; omega), by first | omega | (simp only [decide_eq_true_eq, Bool.not_eq_true', Bool.or_eq_false_iff, decide_eq_false_iff_not, Bool.and_eq_true, Bool.not_eq_false'] at *; omega)⟩ ?_; conv => whnf) | (refine z_ix0 rfl rfl ?_; conv => whnf)) | (refine z_ix1g ?_; refine z_ixg rfl rfl rfl rfl rfl rfl rfl (by (repeat intro _); refine ⟨?_, ?_⟩ <;> first | omega | (simp only [decide_eq_true_eq, Bool.not_eq_true', Bool.or_eq_false_iff, decide_eq_false_iff_not, Bool.and_eq_true, Bool.not_eq_false'] at *; omega)) ?_) | (refine z_op ?_ ?_; (focus exact rfl); conv => whnf) | (refine z_opg0 ?_; (conv => whnf); refine And.intro ?_ ?_; (focus exact rfl); conv => whnf) | (refine z_pick ?_ ?_; (focus exact rfl); conv => whnf) | (refine zs_quiet ?_ ?_; (focus exact rfl)) | ((first | refine z_nil fun vals => ?_ | refine g_op ?_); conv => whnf) | (refine And.intro ?_ ?_; (focus exact au0); conv => whnf) | (refine g_seq ?_) | (refine XS.go ?_) | (refine g_ops ?_) | ((first | refine g_nil ?_ | refine g_cond ?_ | refine g_skip ?_ | refine g_ret ?_); conv => whnf) | (refine g_block ?_) | ((first | refine r_t ?_ | refine r_nil ?_); conv => whnf) | (refine Br.mk (fun hb => ?_) (fun hb => ?_) <;> conv => whnf) | fail)
   all_goals
    first
    |(refine ⟨(), hbad ?_, ⟨?_, True.intro⟩⟩
      ·clear hbad hgood hw hcon hS hwj
       first | (first | (refine (Bool.eq_false_iff.mpr fun h => ?_).symm; simp_all [dF]; done) | (refine Bool.eq_false_iff.mpr fun h => ?_; simp_all [dF]; done) | (simp_all [dF]; done) | (simp_all [dF]; omega) | (refine (Bool.eq_false_iff.mpr fun h => ?_).symm; simp_all [dF]; omega) | (refine Bool.eq_false_iff.mpr fun h => ?_; simp_all [dF]; omega) | (rw [Bool.eq_iff_iff]; constructor <;> intro h <;> simp_all [dF] <;> omega) | fail) | (rcases Nat.eq_zero_or_pos i with h0 | h0 <;> simp_all [dF] <;> omega) | (by_cases hq : (xs.getD j default).fHold.toList = [] <;> first | (simp_all [dF]; done) | (refine Bool.eq_false_iff.mpr fun h => ?_; simp_all [dF]; done) | fail) | fail
      ·repeat' (first | exact True.intro | refine And.intro rfl ?_))
    |(conv => lhs; whnf
      refine congrArg D.bool (hbad ?_)
      clear hbad hgood hw hcon hS hwj
      first | (first | (refine (Bool.eq_false_iff.mpr fun h => ?_).symm; simp_all [dF]; done) | (refine Bool.eq_false_iff.mpr fun h => ?_; simp_all [dF]; done) | (simp_all [dF]; done) | (simp_all [dF]; omega) | (refine (Bool.eq_false_iff.mpr fun h => ?_).symm; simp_all [dF]; omega) | (refine Bool.eq_false_iff.mpr fun h => ?_; simp_all [dF]; omega) | (rw [Bool.eq_iff_iff]; constructor <;> intro h <;> simp_all [dF] <;> omega) | fail) | (rcases Nat.eq_zero_or_pos i with h0 | h0 <;> simp_all [dF] <;> omega) | (by_cases hq : (xs.getD j default).fHold.toList = [] <;> first | (simp_all [dF]; done) | (refine Bool.eq_false_iff.mpr fun h => ?_; simp_all [dF]; done) | fail) | fail)
    |(refine ⟨i + 1, ⟨by omega, ?_⟩, by omega, ?_, ?_⟩
      ·refine hgood ?_
       clear hbad hgood hw hcon hS hwj
       first | (first | (refine (Bool.eq_false_iff.mpr fun h => ?_).symm; simp_all [dF]; done) | (refine Bool.eq_false_iff.mpr fun h => ?_; simp_all [dF]; done) | (simp_all [dF]; done) | (simp_all [dF]; omega) | (refine (Bool.eq_false_iff.mpr fun h => ?_).symm; simp_all [dF]; omega) | (refine Bool.eq_false_iff.mpr fun h => ?_; simp_all [dF]; omega) | (rw [Bool.eq_iff_iff]; constructor <;> intro h <;> simp_all [dF] <;> omega) | fail) | (rcases Nat.eq_zero_or_pos i with h0 | h0 <;> simp_all [dF] <;> omega) | (by_cases hq : (xs.getD j default).fHold.toList = [] <;> first | (simp_all [dF]; done) | (refine Bool.eq_false_iff.mpr fun h => ?_; simp_all [dF]; done) | fail) | fail
      ·repeat' (first | exact True.intro | refine And.intro (congrArg (D.int .i64) hw) ?_ | refine And.intro rfl ?_)
      ·repeat' (first | exact True.intro | refine And.intro rfl ?_))
  have hge : ¬ i < j := by simpa using hb
  have hend : wantsOk xs = (allN (wF xs) (xs.length - (j + 1)) (j + 1) && true) := by rw [hN, allN_end hge, Bool.true_and]
  clear hN
  conv => whnf
  repeat' (first | (refine g_op ?_; conv => whnf) | (refine And.intro ?_ ?_; (focus exact au0); conv => whnf) | (refine XS.go ?_) | (refine g_ops ?_) | ((first | refine g_nil ?_ | refine g_exit ?_); conv => whnf) | fail)
  refine ⟨j + 1, ⟨by omega, hend⟩, by omega, ?_, ?_⟩
  ·repeat' (first | exact True.intro | refine And.intro (congrArg (D.int .i64) hwj) ?_ | refine And.intro rfl ?_)
  ·repeat' (first | exact True.intro | refine And.intro rfl ?_)
 have hge : ¬ j < xs.length := by simpa using hb
 have hend : wantsOk xs = true := by rw [hN0, allN_end hge]; rfl
 conv => whnf
 repeat' (first | (refine g_op ?_; conv => whnf) | (refine And.intro ?_ ?_; (focus exact au0); conv => whnf) | (refine g_seq ?_) | (refine XS.go ?_) | (refine g_ops ?_) | ((first | refine g_nil ?_ | refine g_ret ?_ | refine g_exit ?_ | refine r_t ?_ | refine r_nil ?_); conv => whnf) | fail)
 (conv => lhs; whnf)
 rw [hend]
end Go.Ab
set_option linter.unusedSimpArgs false
set_option linter.unusedVariables false
namespace Go.Ab
open Go Go.RowKit Go.Proofs
attribute [local irreducible] XC Rdr IntKind.wrap xw xos xqs xr xd
set_option maxRecDepth 100000
set_option maxHeartbeats 16000000
structure MateRun where
 fWant : MateWant
 fState : Int
 fLeft : Int
 fFalls : Int
 fUntil : Int
def MateRun.D (x : MateRun) : D := .agg [x.fWant.D, .int .i64 x.fState, .int .i64 x.fLeft, .int .i64 x.fFalls, .int .i64 x.fUntil]
instance : Inhabited MateRun := ⟨⟨⟨⟨#[]⟩, 0, ⟨#[]⟩, 0, 0, 0, 0⟩, 0, 0, 0, 0⟩⟩
structure MateRun.small (x : MateRun) : Prop where
 fWant : x.fWant.small
structure MateAsk where
 fHold : ByteArray
 fCopy : ByteArray
 fFirst : Int
 fAt : Int
def MateAsk.D (x : MateAsk) : D := .agg [.str x.fHold, .str x.fCopy, .int .i64 x.fFirst, .int .i64 x.fAt]
instance : Inhabited MateAsk := ⟨⟨⟨#[]⟩, ⟨#[]⟩, 0, 0⟩⟩
structure MateAsk.small (x : MateAsk) : Prop where
structure Mate where
 fName : ByteArray
 fUp : Bool
 fClock : Int
 fKnown : Bool
 fSeen : Int
 fWants : (List MateWant)
 fRuns : (List MateRun)
 fAsks : (List MateAsk)
 fGives : (List MateAsk)
def Mate.D (x : Mate) : D := .agg [.str x.fName, .bool x.fUp, .int .i64 x.fClock, .bool x.fKnown, .int .i64 x.fSeen, .ro 7 (x.fWants.map MateWant.D), .ro 11 (x.fRuns.map MateRun.D), .ro 4 (x.fAsks.map MateAsk.D), .ro 4 (x.fGives.map MateAsk.D)]
instance : Inhabited Mate := ⟨⟨⟨#[]⟩, false, 0, false, 0, [], [], [], []⟩⟩
structure Mate.small (x : Mate) : Prop where
 fWants : x.fWants.length ≤ 1048576 ∧ ∀ y ∈ x.fWants, y.small
 fRuns : x.fRuns.length ≤ 1048576 ∧ ∀ y ∈ x.fRuns, y.small
 fAsks : x.fAsks.length ≤ 1048576 ∧ ∀ y ∈ x.fAsks, y.small
 fGives : x.fGives.length ≤ 1048576 ∧ ∀ y ∈ x.fGives, y.small
def cf15 : CF := ⟨16,[.t 2],(.seq (.ops [Oo 1 (.bx (.t 0)),Ok 2 (.bool false)]) (.seq (.ops [Oo 3 (.fa 7 1 1 (.t 1)),Ol 4 3,Oo 5 (.bin .eql (.t 4) (.k (.int .i64 3))),Om 6 5,⟨some 7,.fa 7 1 1 (.t 1),some (6,false)⟩,⟨some 8,.ld 1 false (.t 7),some (6,false)⟩,⟨some 9,.bin .eql (.t 8) (.k (.int .i64 4)),some (6,false)⟩,Oo 10 (.pick (.t 6) (.k (.bool true)) (.t 9)),Om 11 10,⟨some 12,.fa 7 1 1 (.t 1),some (11,false)⟩,⟨some 13,.ld 1 false (.t 12),some (11,false)⟩,⟨some 14,.bin .eql (.t 13) (.k (.int .i64 6)),some (11,false)⟩,Oo 15 (.pick (.t 11) (.k (.bool true)) (.t 14)),Om 2 15]) .ret))⟩
theorem c15 : compileF Try.prog [] 15 = some cf15 := by kernel_rfl
def cf17 : CF := ⟨16,[.t 2],(.seq (.ops [Oo 1 (.bx (.t 0)),Ok 2 (.bool false)]) (.seq (.ops [Oo 3 (.fa 7 1 1 (.t 1)),Ol 4 3,Oo 5 (.bin .eql (.t 4) (.k (.int .i64 3))),Om 6 5,⟨some 7,.fa 7 1 1 (.t 1),some (6,false)⟩,⟨some 8,.ld 1 false (.t 7),some (6,false)⟩,⟨some 9,.bin .eql (.t 8) (.k (.int .i64 4)),some (6,false)⟩,Oo 10 (.pick (.t 6) (.k (.bool true)) (.t 9)),Om 11 10,⟨some 12,.fa 7 1 1 (.t 1),some (11,false)⟩,⟨some 13,.ld 1 false (.t 12),some (11,false)⟩,⟨some 14,.bin .eql (.t 13) (.k (.int .i64 6)),some (11,false)⟩,Oo 15 (.pick (.t 11) (.k (.bool true)) (.t 14)),Om 2 15]) .ret))⟩
theorem c17 : compileF Try.prog [] 17 = some cf17 := by kernel_rfl
def cf76 : CF := ⟨16,[.t 4],(.seq (.ops [Oo 2 (.bx (.t 0)),Ok 4 (.bool false)]) (.seq (.ops [Oo 5 (.fa 0 7 0 (.t 2)),Of 6 2 5,Ol 7 6,Oo 8 (.bin .eql (.t 7) (.k (.str ⟨#[]⟩))),Om 9 8,⟨some 10,.fa 10 1 4 (.t 2),some (9,false)⟩,⟨some 11,.ld 1 false (.t 10),some (9,false)⟩,⟨some 12,.mv (.t 1),some (9,false)⟩,⟨some 13,.bin .add (.t 12) (.k (.int .i64 4)),some (9,false)⟩,⟨some 14,.bin .geq (.t 11) (.t 13),some (9,false)⟩,Oo 15 (.pick (.t 9) (.k (.bool true)) (.t 14)),Om 4 15]) .ret))⟩
theorem c76 : compileF Try.prog [] 76 = some cf76 := by kernel_rfl
def cf65 : CF := ⟨60,[.t 4],(.seq (.ops [Oo 2 (.bx (.t 0)),Ok 4 (.bool false)]) (.seq (.seq (.ops [Oo 5 (.fa 0 7 0 (.t 2)),Od 6 7 5,Oc 7 62 [.t 6],Oo 8 (.not (.t 7)),Om 9 8,⟨some 10,.fa 7 1 1 (.t 2),some (9,false)⟩,⟨some 11,.ld 1 false (.t 10),some (9,false)⟩,⟨some 12,.call 80 [.t 11,(.k (.int .i64 1)),(.k (.int .i64 6))],some (9,false)⟩,⟨some 13,.not (.t 12),some (9,false)⟩,Oo 14 (.pick (.t 9) (.k (.bool true)) (.t 13)),Om 15 14,⟨some 16,.fa 8 1 2 (.t 2),some (15,false)⟩,⟨some 17,.ld 1 false (.t 16),some (15,false)⟩,⟨some 18,.call 80 [.t 17,(.k (.int .i64 0)),(.k (.int .i64 100))],some (15,false)⟩,⟨some 19,.not (.t 18),some (15,false)⟩,Oo 20 (.pick (.t 15) (.k (.bool true)) (.t 19)),Om 21 20,⟨some 22,.fa 7 1 1 (.t 2),some (21,false)⟩,⟨some 23,.ld 1 false (.t 22),some (21,false)⟩,⟨some 24,.bin .eql (.t 23) (.k (.int .i64 2)),some (21,false)⟩,⟨some 25,.mv (.t 24),some (21,false)⟩,⟨some 26,.fa 8 1 2 (.t 2),some (25,true)⟩,⟨some 27,.ld 1 false (.t 26),some (25,true)⟩,⟨some 28,.bin .neq (.t 27) (.k (.int .i64 0)),some (25,true)⟩,⟨some 29,.pick (.t 25) (.t 28) (.k (.bool false)),some (21,false)⟩,Oo 30 (.pick (.t 21) (.k (.bool true)) (.t 29)),Om 31 30,⟨some 32,.fa 9 1 3 (.t 2),some (31,false)⟩,⟨some 33,.ld 1 false (.t 32),some (31,false)⟩,⟨some 34,.call 80 [.t 33,(.k (.int .i64 0)),(.k (.int .i64 1000))],some (31,false)⟩,⟨some 35,.not (.t 34),some (31,false)⟩,Oo 36 (.pick (.t 31) (.k (.bool true)) (.t 35))]) (.cond (.t 36) (.seq (.ops [Ok 4 (.bool false)]) .ret) .skip)) (.seq (.seq (.ops [Oo 37 (.fa 10 1 4 (.t 2)),Ol 38 37,Oc 39 80 [.t 38,(.k (.int .i64 0)),(.k (.int .i64 1000016))],Oo 40 (.not (.t 39)),Om 41 40,⟨some 42,.fa 0 7 0 (.t 2),some (41,false)⟩,⟨some 43,.fa 2 1 2 (.t 42),some (41,false)⟩,⟨some 44,.ld 1 false (.t 43),some (41,false)⟩,⟨some 45,.bin .eql (.t 44) (.k (.str ⟨#[]⟩)),some (41,false)⟩,⟨some 46,.mv (.t 45),some (41,false)⟩,⟨some 47,.fa 10 1 4 (.t 2),some (46,true)⟩,⟨some 48,.ld 1 false (.t 47),some (46,true)⟩,⟨some 49,.bin .neq (.t 48) (.k (.int .i64 0)),some (46,true)⟩,⟨some 50,.pick (.t 46) (.t 49) (.k (.bool false)),some (41,false)⟩,Oo 51 (.pick (.t 41) (.k (.bool true)) (.t 50))]) (.cond (.t 51) (.seq (.ops [Ok 4 (.bool false)]) .ret) .skip)) (.seq (.ops [Od 52 11 2,Oc 53 15 [.t 52],Oo 54 (.not (.t 53)),Om 55 54,⟨some 56,.ld 11 true (.t 2),some (55,false)⟩,⟨some 57,.mv (.t 1),some (55,false)⟩,⟨some 58,.call 76 [.t 56,.t 57],some (55,false)⟩,Oo 59 (.pick (.t 55) (.k (.bool true)) (.t 58)),Om 4 59]) .ret))))⟩
theorem c65 : compileF Try.prog [] 65 = some cf65 := by kernel_rfl
def cf24 : CF := ⟨42,[.t 4],(.seq (.ops [Ok 4 (.bool false)]) (.seq (.seq (.ops [Om 6 0,Og 7 6,Oo 8 (.bin .gtr (.t 7) (.k (.int .i64 20)))]) (.cond (.t 8) (.seq (.ops [Ok 4 (.bool false)]) .ret) .skip)) (.seq (.seq (.ops [Ok 5 (.int .i64 0)]) (.block 0 (.loop (.seq (.seq (.ops [Om 9 5,Om 10 0,Og 11 10,Ob 12 .lss 9 11]) (.cond (.t 12) .skip (.exit 0))) (.seq (.block 1 (.seq (.quiet [Om 15 0,Om 16 5,Ox 17 11 15 16,Od 18 11 17,Om 19 1,Oc 20 65 [.t 18,.t 19],Oo 21 (.not (.t 20)),Om 22 21,⟨some 23,.mv (.t 5),some (22,false)⟩,⟨some 24,.bin .gtr (.t 23) (.k (.int .i64 0)),some (22,false)⟩,⟨some 25,.mv (.t 24),some (22,false)⟩,⟨some 26,.mv (.t 0),some (25,true)⟩,⟨some 27,.mv (.t 5),some (25,true)⟩,⟨some 28,.bin .sub (.t 27) (.k (.int .i64 1)),some (25,true)⟩,⟨some 29,.ix 11 (.t 26) (.t 28),some (25,true)⟩,⟨some 30,.fa 0 7 0 (.t 29),some (25,true)⟩,⟨some 31,.fa 0 1 0 (.t 30),some (25,true)⟩,⟨some 32,.ld 1 false (.t 31),some (25,true)⟩,⟨some 33,.mv (.t 0),some (25,true)⟩,⟨some 34,.mv (.t 5),some (25,true)⟩,⟨some 35,.ix 11 (.t 33) (.t 34),some (25,true)⟩,⟨some 36,.fa 0 7 0 (.t 35),some (25,true)⟩,⟨some 37,.fa 0 1 0 (.t 36),some (25,true)⟩,⟨some 38,.ld 1 false (.t 37),some (25,true)⟩,⟨some 39,.bin .geq (.t 32) (.t 38),some (25,true)⟩,⟨some 40,.pick (.t 25) (.t 39) (.k (.bool false)),some (22,false)⟩,Oo 41 (.pick (.t 22) (.k (.bool true)) (.t 40))]) (.cond (.t 41) (.seq (.ops [Ok 4 (.bool false)]) .ret) .skip))) (.ops [Om 13 5,Oi 14 13,Om 5 14])))))) (.seq (.ops [Ok 4 (.bool true)]) .ret))))⟩
theorem c24 : compileF Try.prog [] 24 = some cf24 := by kernel_rfl
def cf26 : CF := ⟨99,[.t 4],(.seq (.ops [Ok 4 (.bool false)]) (.seq (.seq (.ops [Om 7 0,Og 8 7,Oo 9 (.bin .gtr (.t 8) (.k (.int .i64 20)))]) (.cond (.t 9) (.seq (.ops [Ok 4 (.bool false)]) .ret) .skip)) (.seq (.seq (.ops [Om 10 0,Og 11 10,Ok 12 (.int .i64 0)]) (.block 0 (.loop (.seq (.ops [Ob 13 .lss 12 11]) (.seq (.cond (.t 13) .skip (.exit 0)) (.seq (.block 1 (.seq (.ops [Om 14 12,Ox 15 11 10 12,Od 16 11 15,Oo 6 (.al (.agg [.agg [.str ⟨#[]⟩,.int .i64 0,.str ⟨#[]⟩,.int .i64 0,.int .i64 0,.int .i64 0,.int .i64 0],.int .i64 0,.int .i64 0,.int .i64 0,.int .i64 0])),Om 5 14,Os 11 6 16]) (.seq (.seq (.quiet [Oo 17 (.fa 0 7 0 (.t 6)),Od 18 7 17,Oc 19 63 [.t 18],Oo 20 (.not (.t 19)),Om 21 20,⟨some 22,.mv (.t 5),some (21,false)⟩,⟨some 23,.bin .gtr (.t 22) (.k (.int .i64 0)),some (21,false)⟩,⟨some 24,.mv (.t 23),some (21,false)⟩,⟨some 25,.fa 0 7 0 (.t 6),some (24,true)⟩,⟨some 26,.fa 0 1 0 (.t 25),some (24,true)⟩,⟨some 27,.ld 1 false (.t 26),some (24,true)⟩,⟨some 28,.mv (.t 0),some (24,true)⟩,⟨some 29,.mv (.t 5),some (24,true)⟩,⟨some 30,.bin .sub (.t 29) (.k (.int .i64 1)),some (24,true)⟩,⟨some 31,.ix 11 (.t 28) (.t 30),some (24,true)⟩,⟨some 32,.fa 0 7 0 (.t 31),some (24,true)⟩,⟨some 33,.fa 0 1 0 (.t 32),some (24,true)⟩,⟨some 34,.ld 1 false (.t 33),some (24,true)⟩,⟨some 35,.bin .leq (.t 27) (.t 34),some (24,true)⟩,⟨some 36,.pick (.t 24) (.t 35) (.k (.bool false)),some (21,false)⟩,Oo 37 (.pick (.t 21) (.k (.bool true)) (.t 36)),Om 38 37,⟨some 39,.fa 7 1 1 (.t 6),some (38,false)⟩,⟨some 40,.ld 1 false (.t 39),some (38,false)⟩,⟨some 41,.call 66 [.t 40,(.k (.int .i64 1)),(.k (.int .i64 6))],some (38,false)⟩,⟨some 42,.not (.t 41),some (38,false)⟩,Oo 43 (.pick (.t 38) (.k (.bool true)) (.t 42)),Om 44 43,⟨some 45,.fa 8 1 2 (.t 6),some (44,false)⟩,⟨some 46,.ld 1 false (.t 45),some (44,false)⟩,⟨some 47,.call 66 [.t 46,(.k (.int .i64 0)),(.k (.int .i64 100))],some (44,false)⟩,⟨some 48,.not (.t 47),some (44,false)⟩,Oo 49 (.pick (.t 44) (.k (.bool true)) (.t 48)),Om 50 49,⟨some 51,.fa 7 1 1 (.t 6),some (50,false)⟩,⟨some 52,.ld 1 false (.t 51),some (50,false)⟩,⟨some 53,.bin .eql (.t 52) (.k (.int .i64 2)),some (50,false)⟩,⟨some 54,.mv (.t 53),some (50,false)⟩,⟨some 55,.fa 8 1 2 (.t 6),some (54,true)⟩,⟨some 56,.ld 1 false (.t 55),some (54,true)⟩,⟨some 57,.bin .neq (.t 56) (.k (.int .i64 0)),some (54,true)⟩,⟨some 58,.pick (.t 54) (.t 57) (.k (.bool false)),some (50,false)⟩,Oo 59 (.pick (.t 50) (.k (.bool true)) (.t 58)),Om 60 59,⟨some 61,.fa 9 1 3 (.t 6),some (60,false)⟩,⟨some 62,.ld 1 false (.t 61),some (60,false)⟩,⟨some 63,.call 66 [.t 62,(.k (.int .i64 0)),(.k (.int .i64 1000))],some (60,false)⟩,⟨some 64,.not (.t 63),some (60,false)⟩,Oo 65 (.pick (.t 60) (.k (.bool true)) (.t 64)),Om 66 65,⟨some 67,.fa 10 1 4 (.t 6),some (66,false)⟩,⟨some 68,.ld 1 false (.t 67),some (66,false)⟩,⟨some 69,.call 66 [.t 68,(.k (.int .i64 0)),(.k (.int .i64 1000016))],some (66,false)⟩,⟨some 70,.not (.t 69),some (66,false)⟩,Oo 71 (.pick (.t 66) (.k (.bool true)) (.t 70))]) (.cond (.t 71) (.seq (.ops [Ok 4 (.bool false)]) .ret) .skip)) (.seq (.ops [Oo 72 (.fa 0 7 0 (.t 6)),Of 73 2 72,Ol 74 73,Oo 75 (.bin .eql (.t 74) (.k (.str ⟨#[]⟩))),Om 76 75,⟨some 77,.fa 10 1 4 (.t 6),some (76,true)⟩,⟨some 78,.ld 1 false (.t 77),some (76,true)⟩,⟨some 79,.bin .neq (.t 78) (.k (.int .i64 0)),some (76,true)⟩,Oo 80 (.pick (.t 76) (.t 79) (.k (.bool false))),Om 81 80,⟨some 82,.fa 0 7 0 (.t 6),some (81,false)⟩,⟨some 83,.fa 2 1 2 (.t 82),some (81,false)⟩,⟨some 84,.ld 1 false (.t 83),some (81,false)⟩,⟨some 85,.bin .neq (.t 84) (.k (.str ⟨#[]⟩)),some (81,false)⟩,⟨some 86,.mv (.t 85),some (81,false)⟩,⟨some 87,.ld 11 true (.t 6),some (86,true)⟩,⟨some 88,.call 17 [.t 87],some (86,true)⟩,⟨some 89,.pick (.t 86) (.t 88) (.k (.bool false)),some (81,false)⟩,⟨some 90,.mv (.t 89),some (81,false)⟩,⟨some 91,.fa 10 1 4 (.t 6),some (90,true)⟩,⟨some 92,.ld 1 false (.t 91),some (90,true)⟩,⟨some 93,.mv (.t 1),some (90,true)⟩,⟨some 94,.bin .add (.t 93) (.k (.int .i64 4)),some (90,true)⟩,⟨some 95,.bin .lss (.t 92) (.t 94),some (90,true)⟩,⟨some 96,.pick (.t 90) (.t 95) (.k (.bool false)),some (81,false)⟩,Oo 97 (.pick (.t 81) (.k (.bool true)) (.t 96))]) (.cond (.t 97) (.seq (.ops [Ok 4 (.bool false)]) .ret) .skip))))) (.ops [Oi 98 12,Om 12 98]))))))) (.seq (.ops [Ok 4 (.bool true)]) .ret))))⟩
theorem c26 : compileF Try.prog [] 26 = some cf26 := by kernel_rfl
def cf95 : CF := ⟨58,[.t 4],(.seq (.ops [Ok 4 (.bool false)]) (.seq (.seq (.ops [Om 7 0,Og 8 7,Oo 9 (.bin .gtr (.t 8) (.k (.int .i64 40)))]) (.cond (.t 9) (.seq (.ops [Ok 4 (.bool false)]) .ret) .skip)) (.seq (.seq (.ops [Om 10 0,Og 11 10,Ok 12 (.int .i64 0)]) (.block 0 (.loop (.seq (.ops [Ob 13 .lss 12 11]) (.seq (.cond (.t 13) .skip (.exit 0)) (.seq (.block 1 (.seq (.ops [Om 14 12,Ox 15 4 10 12,Od 16 4 15,Oo 6 (.al (.agg [.str ⟨#[]⟩,.str ⟨#[]⟩,.int .i64 0,.int .i64 0])),Om 5 14,Os 4 6 16]) (.seq (.quiet [Of 17 0 6,Ol 18 17,Oc 19 105 [.t 18],Oo 20 (.not (.t 19)),Om 21 20,⟨some 22,.fa 1 1 1 (.t 6),some (21,false)⟩,⟨some 23,.ld 1 false (.t 22),some (21,false)⟩,⟨some 24,.call 94 [.t 23],some (21,false)⟩,⟨some 25,.not (.t 24),some (21,false)⟩,Oo 26 (.pick (.t 21) (.k (.bool true)) (.t 25)),Om 27 26,⟨some 28,.fa 3 1 3 (.t 6),some (27,false)⟩,⟨some 29,.ld 1 false (.t 28),some (27,false)⟩,⟨some 30,.mv (.t 1),some (27,false)⟩,⟨some 31,.call 66 [.t 29,(.k (.int .i64 0)),.t 30],some (27,false)⟩,⟨some 32,.not (.t 31),some (27,false)⟩,Oo 33 (.pick (.t 27) (.k (.bool true)) (.t 32)),Om 34 33,⟨some 35,.fa 2 1 2 (.t 6),some (34,false)⟩,⟨some 36,.ld 1 false (.t 35),some (34,false)⟩,⟨some 37,.fa 3 1 3 (.t 6),some (34,false)⟩,⟨some 38,.ld 1 false (.t 37),some (34,false)⟩,⟨some 39,.call 66 [.t 36,(.k (.int .i64 0)),.t 38],some (34,false)⟩,⟨some 40,.not (.t 39),some (34,false)⟩,Oo 41 (.pick (.t 34) (.k (.bool true)) (.t 40)),Om 42 41,⟨some 43,.mv (.t 5),some (42,false)⟩,⟨some 44,.bin .gtr (.t 43) (.k (.int .i64 0)),some (42,false)⟩,⟨some 45,.mv (.t 44),some (42,false)⟩,⟨some 46,.fa 0 1 0 (.t 6),some (45,true)⟩,⟨some 47,.ld 1 false (.t 46),some (45,true)⟩,⟨some 48,.mv (.t 0),some (45,true)⟩,⟨some 49,.mv (.t 5),some (45,true)⟩,⟨some 50,.bin .sub (.t 49) (.k (.int .i64 1)),some (45,true)⟩,⟨some 51,.ix 4 (.t 48) (.t 50),some (45,true)⟩,⟨some 52,.fa 0 1 0 (.t 51),some (45,true)⟩,⟨some 53,.ld 1 false (.t 52),some (45,true)⟩,⟨some 54,.bin .leq (.t 47) (.t 53),some (45,true)⟩,⟨some 55,.pick (.t 45) (.t 54) (.k (.bool false)),some (42,false)⟩,Oo 56 (.pick (.t 42) (.k (.bool true)) (.t 55))]) (.cond (.t 56) (.seq (.ops [Ok 4 (.bool false)]) .ret) .skip)))) (.ops [Oi 57 12,Om 12 57]))))))) (.seq (.ops [Ok 4 (.bool true)]) .ret))))⟩
theorem c95 : compileF Try.prog [] 95 = some cf95 := by kernel_rfl
def cf92 : CF := ⟨60,[.t 4],(.seq (.ops [Ok 4 (.bool false)]) (.seq (.seq (.ops [Om 7 0,Og 8 7,Oo 9 (.bin .gtr (.t 8) (.k (.int .i64 40)))]) (.cond (.t 9) (.seq (.ops [Ok 4 (.bool false)]) .ret) .skip)) (.seq (.seq (.ops [Ok 5 (.int .i64 0)]) (.block 0 (.loop (.seq (.seq (.ops [Om 10 5,Om 11 0,Og 12 11,Ob 13 .lss 10 12]) (.cond (.t 13) .skip (.exit 0))) (.seq (.block 1 (.seq (.ops [Om 16 0,Om 17 5,Ox 18 4 16 17,Od 19 4 18,Oo 6 (.al (.agg [.str ⟨#[]⟩,.str ⟨#[]⟩,.int .i64 0,.int .i64 0])),Os 4 6 19]) (.seq (.quiet [Of 20 0 6,Ol 21 20,Oc 22 104 [.t 21],Oo 23 (.not (.t 22)),Om 24 23,⟨some 25,.fa 1 1 1 (.t 6),some (24,false)⟩,⟨some 26,.ld 1 false (.t 25),some (24,false)⟩,⟨some 27,.call 91 [.t 26],some (24,false)⟩,⟨some 28,.not (.t 27),some (24,false)⟩,Oo 29 (.pick (.t 24) (.k (.bool true)) (.t 28)),Om 30 29,⟨some 31,.fa 3 1 3 (.t 6),some (30,false)⟩,⟨some 32,.ld 1 false (.t 31),some (30,false)⟩,⟨some 33,.mv (.t 1),some (30,false)⟩,⟨some 34,.call 80 [.t 32,(.k (.int .i64 0)),.t 33],some (30,false)⟩,⟨some 35,.not (.t 34),some (30,false)⟩,Oo 36 (.pick (.t 30) (.k (.bool true)) (.t 35)),Om 37 36,⟨some 38,.fa 2 1 2 (.t 6),some (37,false)⟩,⟨some 39,.ld 1 false (.t 38),some (37,false)⟩,⟨some 40,.fa 3 1 3 (.t 6),some (37,false)⟩,⟨some 41,.ld 1 false (.t 40),some (37,false)⟩,⟨some 42,.call 80 [.t 39,(.k (.int .i64 0)),.t 41],some (37,false)⟩,⟨some 43,.not (.t 42),some (37,false)⟩,Oo 44 (.pick (.t 37) (.k (.bool true)) (.t 43)),Om 45 44,⟨some 46,.mv (.t 5),some (45,false)⟩,⟨some 47,.bin .gtr (.t 46) (.k (.int .i64 0)),some (45,false)⟩,⟨some 48,.mv (.t 47),some (45,false)⟩,⟨some 49,.mv (.t 0),some (48,true)⟩,⟨some 50,.mv (.t 5),some (48,true)⟩,⟨some 51,.bin .sub (.t 50) (.k (.int .i64 1)),some (48,true)⟩,⟨some 52,.ix 4 (.t 49) (.t 51),some (48,true)⟩,⟨some 53,.fa 0 1 0 (.t 52),some (48,true)⟩,⟨some 54,.ld 1 false (.t 53),some (48,true)⟩,⟨some 55,.fa 0 1 0 (.t 6),some (48,true)⟩,⟨some 56,.ld 1 false (.t 55),some (48,true)⟩,⟨some 57,.bin .geq (.t 54) (.t 56),some (48,true)⟩,⟨some 58,.pick (.t 48) (.t 57) (.k (.bool false)),some (45,false)⟩,Oo 59 (.pick (.t 45) (.k (.bool true)) (.t 58))]) (.cond (.t 59) (.seq (.ops [Ok 4 (.bool false)]) .ret) .skip)))) (.ops [Om 14 5,Oi 15 14,Om 5 15])))))) (.seq (.ops [Ok 4 (.bool true)]) .ret))))⟩
theorem c92 : compileF Try.prog [] 92 = some cf92 := by kernel_rfl
def cf93 : CF := ⟨20,[.t 4],(.seq (.ops [Ok 4 (.int .i64 0)]) (.seq (.seq (.ops [Ok 5 (.int .i64 0)]) (.block 0 (.loop (.seq (.seq (.ops [Om 6 5,Om 7 0,Og 8 7,Ob 9 .lss 6 8]) (.cond (.t 9) .skip (.exit 0))) (.seq (.block 1 (.seq (.ops [Om 12 0,Om 13 5,Ox 14 4 12 13,Of 15 0 14,Ol 16 15,Om 17 1,Ob 18 .eql 16 17]) (.cond (.t 18) (.seq (.ops [Om 19 5,Om 4 19]) .ret) .skip))) (.ops [Om 10 5,Oi 11 10,Om 5 11])))))) (.seq (.ops [Ok 4 (.int .i64 (-1))]) .ret)))⟩
theorem c93 : compileF Try.prog [] 93 = some cf93 := by kernel_rfl
def cf115 : CF := ⟨19,[.t 4],(.seq (.ops [Ok 4 (.int .i64 0)]) (.seq (.seq (.ops [Om 6 0,Og 7 6,Ok 8 (.int .i64 0)]) (.block 0 (.loop (.seq (.ops [Ob 9 .lss 8 7]) (.seq (.cond (.t 9) .skip (.exit 0)) (.seq (.block 1 (.seq (.ops [Om 10 8,Om 5 10]) (.seq (.ops [Om 11 1,Om 12 0,Om 13 5,Ox 14 4 12 13,Od 15 4 14,Oo 16 (.callv (.t 11) [(.t 15)])]) (.cond (.t 16) (.seq (.ops [Om 17 5,Om 4 17]) .ret) .skip)))) (.ops [Oi 18 8,Om 8 18]))))))) (.seq (.ops [Ok 4 (.int .i64 (-1))]) .ret)))⟩
theorem c115 : compileF Try.prog [] 115 = some cf115 := by kernel_rfl
def cf96 : CF := ⟨8,[.t 4],(.seq (.ops [Oo 3 (.bx (.t 1)),Ok 4 (.int .i64 0)]) (.seq (.ops [Om 5 0,Oo 6 (.fnm 116 [(.t 3)]),Oc 7 115 [.t 5,.t 6],Om 4 7]) .ret))⟩
theorem c96 : compileF Try.prog [] 96 = some cf96 := by kernel_rfl
def cf116 : CF := ⟨8,[.t 3],(.seq (.ops [Oo 2 (.bx (.t 0)),Ok 3 (.bool false)]) (.seq (.ops [Of 4 0 2,Ol 5 4,Ol 6 1,Ob 7 .eql 5 6,Om 3 7]) .ret))⟩
theorem c116 : compileF Try.prog [] 116 = some cf116 := by kernel_rfl
def alive (x : MateRun) : Bool := x.fState == 3 || x.fState == 4 || x.fState == 6
def leased (x : MateRun) (c : Int) : Bool := (x.fWant.fHold.toList == (ByteArray.mk #[]).toList) || decide (x.fUntil ≥ IntKind.wrap .i64 (c + 4))
def runOk (x : MateRun) (c : Int) : Bool := wantOk x.fWant && inR x.fState 1 6 && inR x.fLeft 0 100 && !((x.fState == 2) && (x.fLeft != 0)) && inR x.fFalls 0 1000 && inR x.fUntil 0 1000016 && !((x.fWant.fHold.toList == (ByteArray.mk #[]).toList) && (x.fUntil != 0)) && (!alive x || leased x c)
theorem spec_Alive (x : MateRun) : Rdr Try.prog 15 [x.D] (.bool (alive x)) := by
 refine Rdr.intro' hm c15 (Nat.le_of_ble_eq_true rfl) ?_
 conv => whnf
 repeat' (first | (refine z_ld1 ?_; first | (refine z_ld rfl rfl rfl rfl au1 au2 ?_; conv => whnf) | (refine z_ld0 rfl ?_; conv => whnf)) | (refine z_ld1g ?_; first | (refine z_ldg rfl rfl rfl rfl rfl rfl rfl (by (repeat intro _); exact ⟨au1, au2⟩) rfl rfl rfl rfl ?_; conv => whnf) | (refine z_ld0g ?_; (conv => whnf); refine And.intro ?_ ?_; (focus exact rfl); conv => whnf)) | (refine z_op ?_ ?_; (focus exact rfl); conv => whnf) | (refine z_opg0 ?_; (conv => whnf); refine And.intro ?_ ?_; (focus exact rfl); conv => whnf) | (refine z_pick ?_ ?_; (focus exact rfl); conv => whnf) | (refine zs_ops ?_ ?_; (focus exact rfl)) | ((first | refine z_nil fun vals => ?_ | refine g_op ?_); conv => whnf) | (refine And.intro ?_ ?_; (focus exact au0); conv => whnf) | (refine g_seq ?_) | (refine XS.go ?_) | (refine g_ops ?_) | ((first | refine g_nil ?_ | refine g_ret ?_ | refine r_t ?_ | refine r_nil ?_ | refine fun _ => ?_); conv => whnf) | fail)
 all_goals (conv => lhs; whnf)
 all_goals refine congrArg D.bool ?_
 all_goals first | (refine (Bool.eq_false_iff.mpr fun h => ?_).symm; simp_all [alive]; done) | (refine Bool.eq_false_iff.mpr fun h => ?_; simp_all [alive]; done) | (simp_all [alive]; done) | (simp_all [alive]; omega) | (refine (Bool.eq_false_iff.mpr fun h => ?_).symm; simp_all [alive]; omega) | (refine Bool.eq_false_iff.mpr fun h => ?_; simp_all [alive]; omega) | (rw [Bool.eq_iff_iff]; constructor <;> intro h <;> simp_all [alive] <;> omega) | fail
theorem impl_Alive (x : MateRun) : Rdr Try.prog 17 [x.D] (.bool (alive x)) := by
 refine Rdr.intro' hm c17 (Nat.le_of_ble_eq_true rfl) ?_
 conv => whnf
 repeat' (first | (refine z_ld1 ?_; first | (refine z_ld rfl rfl rfl rfl au1 au2 ?_; conv => whnf) | (refine z_ld0 rfl ?_; conv => whnf)) | (refine z_ld1g ?_; first | (refine z_ldg rfl rfl rfl rfl rfl rfl rfl (by (repeat intro _); exact ⟨au1, au2⟩) rfl rfl rfl rfl ?_; conv => whnf) | (refine z_ld0g ?_; (conv => whnf); refine And.intro ?_ ?_; (focus exact rfl); conv => whnf)) | (refine z_op ?_ ?_; (focus exact rfl); conv => whnf) | (refine z_opg0 ?_; (conv => whnf); refine And.intro ?_ ?_; (focus exact rfl); conv => whnf) | (refine z_pick ?_ ?_; (focus exact rfl); conv => whnf) | (refine zs_ops ?_ ?_; (focus exact rfl)) | ((first | refine z_nil fun vals => ?_ | refine g_op ?_); conv => whnf) | (refine And.intro ?_ ?_; (focus exact au0); conv => whnf) | (refine g_seq ?_) | (refine XS.go ?_) | (refine g_ops ?_) | ((first | refine g_nil ?_ | refine g_ret ?_ | refine r_t ?_ | refine r_nil ?_ | refine fun _ => ?_); conv => whnf) | fail)
 all_goals (conv => lhs; whnf)
 all_goals refine congrArg D.bool ?_
 all_goals first | (refine (Bool.eq_false_iff.mpr fun h => ?_).symm; simp_all [alive]; done) | (refine Bool.eq_false_iff.mpr fun h => ?_; simp_all [alive]; done) | (simp_all [alive]; done) | (simp_all [alive]; omega) | (refine (Bool.eq_false_iff.mpr fun h => ?_).symm; simp_all [alive]; omega) | (refine Bool.eq_false_iff.mpr fun h => ?_; simp_all [alive]; omega) | (rw [Bool.eq_iff_iff]; constructor <;> intro h <;> simp_all [alive] <;> omega) | fail
theorem spec_Leased (x : MateRun) (c : Int) : Rdr Try.prog 76 [x.D, .int .i64 c] (.bool (leased x c)) := by
 refine Rdr.intro' hm c76 (Nat.le_of_ble_eq_true rfl) ?_
 conv => whnf
 repeat' (first | (refine z_ld1 ?_; first | (refine z_ld rfl rfl rfl rfl au1 au2 ?_; conv => whnf) | (refine z_ld0 rfl ?_; conv => whnf)) | (refine z_ld1g ?_; first | (refine z_ldg rfl rfl rfl rfl rfl rfl rfl (by (repeat intro _); exact ⟨au1, au2⟩) rfl rfl rfl rfl ?_; conv => whnf) | (refine z_ld0g ?_; (conv => whnf); refine And.intro ?_ ?_; (focus exact rfl); conv => whnf)) | (refine z_op ?_ ?_; (focus exact rfl); conv => whnf) | (refine z_opg0 ?_; (conv => whnf); refine And.intro ?_ ?_; (focus exact rfl); conv => whnf) | (refine z_pick ?_ ?_; (focus exact rfl); conv => whnf) | (refine zs_ops ?_ ?_; (focus exact rfl)) | ((first | refine z_nil fun vals => ?_ | refine g_op ?_); conv => whnf) | (refine And.intro ?_ ?_; (focus exact au0); conv => whnf) | (refine g_seq ?_) | (refine XS.go ?_) | (refine g_ops ?_) | ((first | refine g_nil ?_ | refine g_ret ?_ | refine r_t ?_ | refine r_nil ?_ | refine fun _ => ?_); conv => whnf) | fail)
 all_goals (conv => lhs; whnf)
 all_goals refine congrArg D.bool ?_
 all_goals first | (refine (Bool.eq_false_iff.mpr fun h => ?_).symm; simp_all [leased]; done) | (refine Bool.eq_false_iff.mpr fun h => ?_; simp_all [leased]; done) | (simp_all [leased]; done) | (simp_all [leased]; omega) | (refine (Bool.eq_false_iff.mpr fun h => ?_).symm; simp_all [leased]; omega) | (refine Bool.eq_false_iff.mpr fun h => ?_; simp_all [leased]; omega) | (rw [Bool.eq_iff_iff]; constructor <;> intro h <;> simp_all [leased] <;> omega) | fail
theorem spec_RunOk (x : MateRun) (c : Int) : Rdr Try.prog 65 [x.D, .int .i64 c] (.bool (runOk x c)) := by
 refine Rdr.intro' hm c65 (Nat.le_of_ble_eq_true rfl) ?_
 conv => whnf
 repeat' (first | (refine z_ld1 ?_; first | (refine z_ld rfl rfl rfl rfl au1 au2 ?_; conv => whnf) | (refine z_ld0 rfl ?_; conv => whnf)) | (refine z_ld1g ?_; first | (refine z_ldg rfl rfl rfl rfl rfl rfl rfl (by (repeat intro _); exact ⟨au1, au2⟩) rfl rfl rfl rfl ?_; conv => whnf) | (refine z_ld0g ?_; (conv => whnf); refine And.intro ?_ ?_; (focus exact rfl); conv => whnf)) | (refine z_op ?_ ?_; (focus exact rfl); conv => whnf) | (refine z_opg0 ?_; (conv => whnf); refine And.intro ?_ ?_; (focus exact rfl); conv => whnf) | (refine z_pick ?_ ?_; (focus exact rfl); conv => whnf) | (refine z_pickg ?_; (conv => whnf); refine And.intro ?_ ?_; (focus exact rfl); conv => whnf) | (refine zs_ops ?_ ?_; (focus exact rfl)) | (refine z_nil fun vals => ?_; conv => whnf) | (refine z_call ?_ ?_; (focus exact rfl)) | (refine z_callg0 ?_; (conv => whnf); refine And.intro ?_ ?_; (focus exact rfl)) | (refine RC.of (spec_WantOk _) ?_ ?_; (focus exact rfl); conv => whnf) | (refine RC.of (spec_In _ _ _) ?_ ?_; (focus exact rfl); conv => whnf) | (refine RC.of (spec_Alive _) ?_ ?_; (focus exact rfl); conv => whnf) | (refine RC.of (spec_Leased _ _) ?_ ?_; (focus exact rfl); conv => whnf) | (refine g_op ?_; conv => whnf) | (refine And.intro ?_ ?_; (focus exact au0); conv => whnf) | (refine g_seq ?_) | (refine XS.go ?_) | (refine g_ops ?_) | ((first | refine g_nil ?_ | refine g_cond ?_ | refine g_skip ?_ | refine g_ret ?_ | refine r_t ?_ | refine r_nil ?_ | refine fun _ => ?_); conv => whnf) | (refine Br.mk (fun hb => ?_) (fun hb => ?_) <;> conv => whnf) | fail)
 all_goals (conv => lhs; whnf)
 all_goals refine congrArg D.bool ?_
 all_goals by_cases hq : x.fWant.fHold.toList = [] <;> by_cases hs : x.fState = 2 <;> by_cases hl : x.fLeft = 0 <;> by_cases hu : x.fUntil = 0
 all_goals first | (simp_all [runOk]; done) | (refine (Bool.eq_false_iff.mpr fun h => ?_).symm; simp_all [runOk]; done) | fail
def rS (xs : List MateRun) (c : Int) (i : Nat) : Bool := runOk (xs.getD i default) c && !(decide ((i : Int) > 0) && !Op.bytesLess (xs.getD (pr i) default).fWant.fCopy.toList (xs.getD i default).fWant.fCopy.toList)
def runsOk (xs : List MateRun) (c : Int) : Bool := !decide ((xs.length : Int) > 20) && (allN (rS xs c) xs.length 0 && true)
theorem spec_RunsOk (xs : List MateRun) (c : Int) : Rdr Try.prog 24 [.ro 11 (xs.map MateRun.D), .int .i64 c] (.bool (runsOk xs c)) := by
 refine Rdr.intro' hm c24 (Nat.le_of_ble_eq_true rfl) ?_
 conv => whnf
 repeat' (first | (refine g_op ?_; conv => whnf) | (refine And.intro ?_ ?_; (focus exact au0); conv => whnf) | (refine g_seq ?_) | (refine XS.go ?_) | (refine g_ops ?_) | ((first | refine g_nil ?_ | refine g_cond ?_); conv => whnf) | fail)
 rw [mlen]
 refine Br.mk (fun hb => ?_) (fun hb => ?_)
 ·conv => whnf
  repeat' (first | (refine g_op ?_; conv => whnf) | (refine And.intro ?_ ?_; (focus exact au0); conv => whnf) | (refine g_seq ?_) | (refine XS.go ?_) | (refine g_ops ?_) | ((first | refine g_nil ?_ | refine g_ret ?_ | refine r_t ?_ | refine r_nil ?_); conv => whnf) | fail)
  (conv => lhs; whnf)
  rw [runsOk, hb]
  rfl
 have hv : runsOk xs c = (allN (rS xs c) xs.length 0 && true) := by rw [runsOk, hb]; rfl
 have hl : xs.length ≤ 20 := by simp at hb; omega
 clear hb
 conv => whnf
 repeat' (first | (refine g_op ?_; conv => whnf) | (refine And.intro ?_ ?_; (focus exact au0); conv => whnf) | (refine g_seq ?_) | (refine XS.go ?_) | (refine g_ops ?_) | (refine g_loop ?_) | ((first | refine g_nil ?_ | refine g_skip ?_); conv => whnf) | (refine g_block ?_) | fail)
 refine XLc.mkL (α := Nat) (fun i => i ≤ xs.length ∧ runsOk xs c = (allN (rS xs c) (xs.length - i) i && true)) (fun i => xs.length - i) (fun i gs => [.ro 11 (xs.map MateRun.D), .int .i64 c, .any, .any, .any, .int .i64 (i : Int)]) (fun i gs => []) 0 ⟨Nat.zero_le _, hv⟩ ?_ ?_
 ·refine ⟨?_, ?_⟩
  ·repeat' (first | exact True.intro | refine And.intro rfl ?_)
  ·repeat' (first | exact True.intro | refine And.intro rfl ?_)
 intro i gs hI
 obtain ⟨hi, hN⟩ := hI
 repeat' (first | (refine g_op ?_; conv => whnf) | (refine And.intro ?_ ?_; (focus exact au0); conv => whnf) | (refine g_seq ?_) | (refine XS.go ?_) | (refine g_ops ?_) | ((first | refine g_nil ?_ | refine g_cond ?_); conv => whnf) | fail)
 refine Br.mk (fun hb => ?_) (fun hb => ?_)
 ·have hlt : i < xs.length := by simpa using hb
  have hw : IntKind.wrap .i64 ((i : Int) + 1) = ((i + 1 : Nat) : Int) := by rw [wrap_ok (by omega) (by omega)]; rfl
  have hw1 : IntKind.wrap .i64 ((i : Int) - 1) = (i : Int) - 1 := wrap_ok (by omega) (by omega)
  have hbad := fun h => allN_bad (f := rS xs c) hlt hN h
  have hgood := fun h => allN_good (f := rS xs c) hlt hN h
  clear hN hb
  all_goals conv => whnf
  repeat' (first | (refine z_ld1 ?_; first | (refine z_ld rfl rfl rfl rfl au1 au2 ?_; conv => whnf) | (refine z_ld0 rfl ?_; conv => whnf)) | (refine z_ld1g ?_; first | (refine z_ldg rfl rfl rfl rfl rfl rfl rfl (by (repeat intro _); exact ⟨au1, au2⟩) rfl rfl rfl rfl ?_; conv => whnf) | (refine z_ld0g ?_; (conv => whnf); refine And.intro ?_ ?_; (focus exact rfl); conv => whnf)) | (refine z_ix1 ?_; first | (refine z_ix rfl rfl rfl rfl rfl ⟨by first | omega | (simp only [decide_eq_true_eq, Bool.not_eq_true', Bool.or_eq_false_iff, decide_eq_false_iff_not, Bool.and_eq_true, Bool.not_eq_false'] at *; omega), by first | omega | (simp only [decide_eq_true_eq, Bool.not_eq_true', Bool.or_eq_false_iff, decide_eq_false_iff_not, Bool.and_eq_true, Bool.not_eq_false'] at *; omega)⟩ ?_; conv => whnf) | (refine z_ix0 rfl rfl ?_; conv => whnf)) | (refine z_ix1g ?_; refine z_ixg rfl rfl rfl rfl rfl rfl rfl (by (repeat intro _); refine ⟨?_, ?_⟩ <;> first | omega | (simp only [decide_eq_true_eq, Bool.not_eq_true', Bool.or_eq_false_iff, decide_eq_false_iff_not, Bool.and_eq_true, Bool.not_eq_false'] at *; omega)) ?_) | (refine z_op ?_ ?_; (focus exact rfl); conv => whnf) | (refine z_opg0 ?_; (conv => whnf); refine And.intro ?_ ?_; (focus exact rfl); conv => whnf) | (refine z_pick ?_ ?_; (focus exact rfl); conv => whnf) | (refine z_pickg ?_; (conv => whnf); refine And.intro ?_ ?_; (focus exact rfl); conv => whnf) | (refine zs_quiet ?_ ?_; (focus exact rfl)) | (refine z_nil fun vals => ?_; conv => whnf) | (refine z_call ?_ ?_; (focus exact rfl)) | (refine RC.of (spec_RunOk _ _) ?_ ?_; (focus exact rfl); conv => whnf) | (refine g_op ?_; conv => whnf) | (refine And.intro ?_ ?_; (focus exact au0); conv => whnf) | (refine g_seq ?_) | (refine XS.go ?_) | (refine g_ops ?_) | ((first | refine g_nil ?_ | refine g_cond ?_ | refine g_skip ?_ | refine g_ret ?_); conv => whnf) | (refine g_block ?_) | ((first | refine r_t ?_ | refine r_nil ?_); conv => whnf) | (refine Br.mk (fun hb => ?_) (fun hb => ?_) <;> conv => whnf) | fail)
  all_goals
   first
   |(refine ⟨(), hbad ?_, ⟨?_, True.intro⟩⟩
     ·clear hbad hgood hw
      first | (first | (refine (Bool.eq_false_iff.mpr fun h => ?_).symm; simp_all [rS, pr, le_eq]; done) | (refine Bool.eq_false_iff.mpr fun h => ?_; simp_all [rS, pr, le_eq]; done) | (simp_all [rS, pr, le_eq]; done) | (simp_all [rS, pr, le_eq]; omega) | (refine (Bool.eq_false_iff.mpr fun h => ?_).symm; simp_all [rS, pr, le_eq]; omega) | (refine Bool.eq_false_iff.mpr fun h => ?_; simp_all [rS, pr, le_eq]; omega) | (rw [Bool.eq_iff_iff]; constructor <;> intro h <;> simp_all [rS, pr, le_eq] <;> omega) | fail) | (rcases Nat.eq_zero_or_pos i with h0 | h0 <;> simp_all [rS, pr, le_eq] <;> omega) | (fail) | fail
     ·repeat' (first | exact True.intro | refine And.intro rfl ?_))
   |(conv => lhs; whnf
     refine congrArg D.bool (hbad ?_)
     clear hbad hgood hw
     first | (first | (refine (Bool.eq_false_iff.mpr fun h => ?_).symm; simp_all [rS, pr, le_eq]; done) | (refine Bool.eq_false_iff.mpr fun h => ?_; simp_all [rS, pr, le_eq]; done) | (simp_all [rS, pr, le_eq]; done) | (simp_all [rS, pr, le_eq]; omega) | (refine (Bool.eq_false_iff.mpr fun h => ?_).symm; simp_all [rS, pr, le_eq]; omega) | (refine Bool.eq_false_iff.mpr fun h => ?_; simp_all [rS, pr, le_eq]; omega) | (rw [Bool.eq_iff_iff]; constructor <;> intro h <;> simp_all [rS, pr, le_eq] <;> omega) | fail) | (rcases Nat.eq_zero_or_pos i with h0 | h0 <;> simp_all [rS, pr, le_eq] <;> omega) | (fail) | fail)
   |(refine ⟨i + 1, ⟨by omega, ?_⟩, by omega, ?_, ?_⟩
     ·refine hgood ?_
      clear hbad hgood hw
      first | (first | (refine (Bool.eq_false_iff.mpr fun h => ?_).symm; simp_all [rS, pr, le_eq]; done) | (refine Bool.eq_false_iff.mpr fun h => ?_; simp_all [rS, pr, le_eq]; done) | (simp_all [rS, pr, le_eq]; done) | (simp_all [rS, pr, le_eq]; omega) | (refine (Bool.eq_false_iff.mpr fun h => ?_).symm; simp_all [rS, pr, le_eq]; omega) | (refine Bool.eq_false_iff.mpr fun h => ?_; simp_all [rS, pr, le_eq]; omega) | (rw [Bool.eq_iff_iff]; constructor <;> intro h <;> simp_all [rS, pr, le_eq] <;> omega) | fail) | (rcases Nat.eq_zero_or_pos i with h0 | h0 <;> simp_all [rS, pr, le_eq] <;> omega) | (fail) | fail
     ·repeat' (first | exact True.intro | refine And.intro (congrArg (D.int .i64) hw) ?_ | refine And.intro rfl ?_)
     ·repeat' (first | exact True.intro | refine And.intro rfl ?_))
 have hge : ¬ i < xs.length := by simpa using hb
 have hend : runsOk xs c = true := by rw [hN, allN_end hge, Bool.true_and]
 clear hN
 conv => whnf
 repeat' (first | (refine g_op ?_; conv => whnf) | (refine And.intro ?_ ?_; (focus exact au0); conv => whnf) | (refine g_seq ?_) | (refine XS.go ?_) | (refine g_ops ?_) | ((first | refine g_nil ?_ | refine g_ret ?_ | refine g_exit ?_ | refine r_t ?_ | refine r_nil ?_); conv => whnf) | fail)
 (conv => lhs; whnf)
 rw [hend]
theorem impl_RunsOk (xs : List MateRun) (c : Int) : Rdr Try.prog 26 [.ro 11 (xs.map MateRun.D), .int .i64 c] (.bool (runsOk xs c)) := by
 refine Rdr.intro' hm c26 (Nat.le_of_ble_eq_true rfl) ?_
 conv => whnf
 repeat' (first | (refine g_op ?_; conv => whnf) | (refine And.intro ?_ ?_; (focus exact au0); conv => whnf) | (refine g_seq ?_) | (refine XS.go ?_) | (refine g_ops ?_) | ((first | refine g_nil ?_ | refine g_cond ?_); conv => whnf) | fail)
 rw [mlen]
 refine Br.mk (fun hb => ?_) (fun hb => ?_)
 ·conv => whnf
  repeat' (first | (refine g_op ?_; conv => whnf) | (refine And.intro ?_ ?_; (focus exact au0); conv => whnf) | (refine g_seq ?_) | (refine XS.go ?_) | (refine g_ops ?_) | ((first | refine g_nil ?_ | refine g_ret ?_ | refine r_t ?_ | refine r_nil ?_); conv => whnf) | fail)
  (conv => lhs; whnf)
  rw [runsOk, hb]
  rfl
 have hv : runsOk xs c = (allN (rS xs c) xs.length 0 && true) := by rw [runsOk, hb]; rfl
 have hl : xs.length ≤ 20 := by simp at hb; omega
 clear hb
 conv => whnf
 repeat' (first | (refine g_op ?_; conv => whnf) | (refine And.intro ?_ ?_; (focus exact au0); conv => whnf) | (refine g_seq ?_) | (refine XS.go ?_) | (refine g_ops ?_) | (refine g_loop ?_) | ((first | refine g_nil ?_ | refine g_skip ?_); conv => whnf) | (refine g_block ?_) | fail)
 refine XLc.mkL (α := Nat) (fun i => i ≤ xs.length ∧ runsOk xs c = (allN (rS xs c) (xs.length - i) i && true)) (fun i => xs.length - i) (fun i gs => [.ro 11 (xs.map MateRun.D), .int .i64 c, .any, .any, .any, .any, .any, .any, .any, .any, .ro 11 (xs.map MateRun.D), .int .i64 ((xs.map MateRun.D).length : Int), .int .i64 (i : Int)]) (fun i gs => []) 0 ⟨Nat.zero_le _, hv⟩ ?_ ?_
 ·refine ⟨?_, ?_⟩
  ·repeat' (first | exact True.intro | refine And.intro rfl ?_)
  ·repeat' (first | exact True.intro | refine And.intro rfl ?_)
 intro i gs hI
 obtain ⟨hi, hN⟩ := hI
 repeat' (first | (refine g_op ?_; conv => whnf) | (refine And.intro ?_ ?_; (focus exact au0); conv => whnf) | (refine g_seq ?_) | (refine XS.go ?_) | (refine g_ops ?_) | ((first | refine g_nil ?_ | refine g_cond ?_); conv => whnf) | fail)
 refine Br.mk (fun hb => ?_) (fun hb => ?_)
 ·have hlt : i < xs.length := by simpa using hb
  have hw : IntKind.wrap .i64 ((i : Int) + 1) = ((i + 1 : Nat) : Int) := by rw [wrap_ok (by omega) (by omega)]; rfl
  have hw1 : IntKind.wrap .i64 ((i : Int) - 1) = (i : Int) - 1 := wrap_ok (by omega) (by omega)
  have hbad := fun h => allN_bad (f := rS xs c) hlt hN h
  have hgood := fun h => allN_good (f := rS xs c) hlt hN h
  clear hN hb
  all_goals conv => whnf
  repeat' (first | (refine z_ld1 ?_; first | (refine z_ld rfl rfl rfl rfl au1 au2 ?_; conv => whnf) | (refine z_ld0 rfl ?_; conv => whnf)) | (refine z_ld1g ?_; first | (refine z_ldg rfl rfl rfl rfl rfl rfl rfl (by (repeat intro _); exact ⟨au1, au2⟩) rfl rfl rfl rfl ?_; conv => whnf) | (refine z_ld0g ?_; (conv => whnf); refine And.intro ?_ ?_; (focus exact rfl); conv => whnf)) | (refine z_st1 ?_; first | (refine z_st rfl rfl rfl au1 au2 rfl rfl ?_; conv => whnf) | (refine z_st0 ?_; conv => whnf)) | (refine z_ix1 ?_; first | (refine z_ix rfl rfl rfl rfl rfl ⟨by first | omega | (simp only [decide_eq_true_eq, Bool.not_eq_true', Bool.or_eq_false_iff, decide_eq_false_iff_not, Bool.and_eq_true, Bool.not_eq_false'] at *; omega), by first | omega | (simp only [decide_eq_true_eq, Bool.not_eq_true', Bool.or_eq_false_iff, decide_eq_false_iff_not, Bool.and_eq_true, Bool.not_eq_false'] at *; omega)⟩ ?_; conv => whnf) | (refine z_ix0 rfl rfl ?_; conv => whnf)) | (refine z_ix1g ?_; refine z_ixg rfl rfl rfl rfl rfl rfl rfl (by (repeat intro _); refine ⟨?_, ?_⟩ <;> first | omega | (simp only [decide_eq_true_eq, Bool.not_eq_true', Bool.or_eq_false_iff, decide_eq_false_iff_not, Bool.and_eq_true, Bool.not_eq_false'] at *; omega)) ?_) | (refine z_op ?_ ?_; (focus exact rfl); conv => whnf) | (refine z_opg0 ?_; (conv => whnf); refine And.intro ?_ ?_; (focus exact rfl); conv => whnf) | (refine z_pick ?_ ?_; (focus exact rfl); conv => whnf) | (refine z_pickg ?_; (conv => whnf); refine And.intro ?_ ?_; (focus exact rfl); conv => whnf) | (refine zs_ops ?_ ?_; (focus exact rfl)) | (refine zs_quiet ?_ ?_; (focus exact rfl)) | (refine z_nil fun vals => ?_; conv => whnf) | (refine z_call ?_ ?_; (focus exact rfl)) | (refine z_eff ?_; conv => whnf) | (refine z_callg0 ?_; (conv => whnf); refine And.intro ?_ ?_; (focus exact rfl)) | (refine RC.of (impl_mWantOk _) ?_ ?_; (focus exact rfl); conv => whnf) | (refine RC.of (impl_within _ _ _) ?_ ?_; (focus exact rfl); conv => whnf) | (refine RC.of (impl_Alive _) ?_ ?_; (focus exact rfl); conv => whnf) | (refine g_op ?_; conv => whnf) | (refine And.intro ?_ ?_; (focus exact au0); conv => whnf) | (refine g_seq ?_) | (refine XS.go ?_) | (refine g_ops ?_) | ((first | refine g_nil ?_ | refine g_cond ?_ | refine g_skip ?_ | refine g_ret ?_); conv => whnf) | (refine g_block ?_) | ((first | refine r_t ?_ | refine r_nil ?_ | refine fun _ => ?_); conv => whnf) | (refine Br.mk (fun hb => ?_) (fun hb => ?_) <;> conv => whnf) | fail)
  all_goals
   first
   |(refine ⟨(), hbad ?_, ⟨?_, True.intro⟩⟩
     ·clear hbad hgood hw
      first | (first | (refine (Bool.eq_false_iff.mpr fun h => ?_).symm; simp_all [rS, runOk, leased, pr, le_eq]; done) | (refine Bool.eq_false_iff.mpr fun h => ?_; simp_all [rS, runOk, leased, pr, le_eq]; done) | (simp_all [rS, runOk, leased, pr, le_eq]; done) | (simp_all [rS, runOk, leased, pr, le_eq]; omega) | (refine (Bool.eq_false_iff.mpr fun h => ?_).symm; simp_all [rS, runOk, leased, pr, le_eq]; omega) | (refine Bool.eq_false_iff.mpr fun h => ?_; simp_all [rS, runOk, leased, pr, le_eq]; omega) | (rw [Bool.eq_iff_iff]; constructor <;> intro h <;> simp_all [rS, runOk, leased, pr, le_eq] <;> omega) | fail) | (rcases Nat.eq_zero_or_pos i with h0 | h0 <;> simp_all [rS, runOk, leased, pr, le_eq] <;> omega) | (rcases Nat.eq_zero_or_pos i with h0 | h0 <;> by_cases hq : (xs.getD i default).fWant.fHold.toList = [] <;> cases ha : alive (xs.getD i default) <;> by_cases hs : (xs.getD i default).fState = 2 <;> by_cases hl : (xs.getD i default).fLeft = 0 <;> by_cases hu : (xs.getD i default).fUntil = 0 <;> first | (simp_all [rS, runOk, leased, pr, le_eq]; done) | (simp_all [rS, runOk, leased, pr, le_eq]; omega) | (refine Bool.eq_false_iff.mpr fun h => ?_; simp_all [rS, runOk, leased, pr, le_eq]; done) | (refine Bool.eq_false_iff.mpr fun h => ?_; simp_all [rS, runOk, leased, pr, le_eq]; omega) | fail) | fail
     ·repeat' (first | exact True.intro | refine And.intro rfl ?_))
   |(conv => lhs; whnf
     refine congrArg D.bool (hbad ?_)
     clear hbad hgood hw
     first | (first | (refine (Bool.eq_false_iff.mpr fun h => ?_).symm; simp_all [rS, runOk, leased, pr, le_eq]; done) | (refine Bool.eq_false_iff.mpr fun h => ?_; simp_all [rS, runOk, leased, pr, le_eq]; done) | (simp_all [rS, runOk, leased, pr, le_eq]; done) | (simp_all [rS, runOk, leased, pr, le_eq]; omega) | (refine (Bool.eq_false_iff.mpr fun h => ?_).symm; simp_all [rS, runOk, leased, pr, le_eq]; omega) | (refine Bool.eq_false_iff.mpr fun h => ?_; simp_all [rS, runOk, leased, pr, le_eq]; omega) | (rw [Bool.eq_iff_iff]; constructor <;> intro h <;> simp_all [rS, runOk, leased, pr, le_eq] <;> omega) | fail) | (rcases Nat.eq_zero_or_pos i with h0 | h0 <;> simp_all [rS, runOk, leased, pr, le_eq] <;> omega) | (rcases Nat.eq_zero_or_pos i with h0 | h0 <;> by_cases hq : (xs.getD i default).fWant.fHold.toList = [] <;> cases ha : alive (xs.getD i default) <;> by_cases hs : (xs.getD i default).fState = 2 <;> by_cases hl : (xs.getD i default).fLeft = 0 <;> by_cases hu : (xs.getD i default).fUntil = 0 <;> first | (simp_all [rS, runOk, leased, pr, le_eq]; done) | (simp_all [rS, runOk, leased, pr, le_eq]; omega) | (refine Bool.eq_false_iff.mpr fun h => ?_; simp_all [rS, runOk, leased, pr, le_eq]; done) | (refine Bool.eq_false_iff.mpr fun h => ?_; simp_all [rS, runOk, leased, pr, le_eq]; omega) | fail) | fail)
   |(refine ⟨i + 1, ⟨by omega, ?_⟩, by omega, ?_, ?_⟩
     ·refine hgood ?_
      clear hbad hgood hw
      first | (first | (refine (Bool.eq_false_iff.mpr fun h => ?_).symm; simp_all [rS, runOk, leased, pr, le_eq]; done) | (refine Bool.eq_false_iff.mpr fun h => ?_; simp_all [rS, runOk, leased, pr, le_eq]; done) | (simp_all [rS, runOk, leased, pr, le_eq]; done) | (simp_all [rS, runOk, leased, pr, le_eq]; omega) | (refine (Bool.eq_false_iff.mpr fun h => ?_).symm; simp_all [rS, runOk, leased, pr, le_eq]; omega) | (refine Bool.eq_false_iff.mpr fun h => ?_; simp_all [rS, runOk, leased, pr, le_eq]; omega) | (rw [Bool.eq_iff_iff]; constructor <;> intro h <;> simp_all [rS, runOk, leased, pr, le_eq] <;> omega) | fail) | (rcases Nat.eq_zero_or_pos i with h0 | h0 <;> simp_all [rS, runOk, leased, pr, le_eq] <;> omega) | (rcases Nat.eq_zero_or_pos i with h0 | h0 <;> by_cases hq : (xs.getD i default).fWant.fHold.toList = [] <;> cases ha : alive (xs.getD i default) <;> by_cases hs : (xs.getD i default).fState = 2 <;> by_cases hl : (xs.getD i default).fLeft = 0 <;> by_cases hu : (xs.getD i default).fUntil = 0 <;> first | (simp_all [rS, runOk, leased, pr, le_eq]; done) | (simp_all [rS, runOk, leased, pr, le_eq]; omega) | (refine Bool.eq_false_iff.mpr fun h => ?_; simp_all [rS, runOk, leased, pr, le_eq]; done) | (refine Bool.eq_false_iff.mpr fun h => ?_; simp_all [rS, runOk, leased, pr, le_eq]; omega) | fail) | fail
     ·repeat' (first | exact True.intro | refine And.intro (congrArg (D.int .i64) hw) ?_ | refine And.intro rfl ?_)
     ·repeat' (first | exact True.intro | refine And.intro rfl ?_))
 have hge : ¬ i < xs.length := by simpa using hb
 have hend : runsOk xs c = true := by rw [hN, allN_end hge, Bool.true_and]
 clear hN
 conv => whnf
 repeat' (first | (refine g_op ?_; conv => whnf) | (refine And.intro ?_ ?_; (focus exact au0); conv => whnf) | (refine g_seq ?_) | (refine XS.go ?_) | (refine g_ops ?_) | ((first | refine g_nil ?_ | refine g_ret ?_ | refine g_exit ?_ | refine r_t ?_ | refine r_nil ?_); conv => whnf) | fail)
 (conv => lhs; whnf)
 rw [hend]
def aS (xs : List MateAsk) (c : Int) (i : Nat) : Bool := holdOk (xs.getD i default).fHold && nameOk (xs.getD i default).fCopy && inR (xs.getD i default).fAt 0 c && inR (xs.getD i default).fFirst 0 (xs.getD i default).fAt && !(decide ((i : Int) > 0) && !Op.bytesLess (xs.getD (pr i) default).fHold.toList (xs.getD i default).fHold.toList)
def asksOk (xs : List MateAsk) (c : Int) : Bool := !decide ((xs.length : Int) > 40) && (allN (aS xs c) xs.length 0 && true)
theorem spec_AsksOk (xs : List MateAsk) (c : Int) : Rdr Try.prog 92 [.ro 4 (xs.map MateAsk.D), .int .i64 c] (.bool (asksOk xs c)) := by
 refine Rdr.intro' hm c92 (Nat.le_of_ble_eq_true rfl) ?_
 conv => whnf
 repeat' (first | (refine g_op ?_; conv => whnf) | (refine And.intro ?_ ?_; (focus exact au0); conv => whnf) | (refine g_seq ?_) | (refine XS.go ?_) | (refine g_ops ?_) | ((first | refine g_nil ?_ | refine g_cond ?_); conv => whnf) | fail)
 rw [mlen]
 refine Br.mk (fun hb => ?_) (fun hb => ?_)
 ·conv => whnf
  repeat' (first | (refine g_op ?_; conv => whnf) | (refine And.intro ?_ ?_; (focus exact au0); conv => whnf) | (refine g_seq ?_) | (refine XS.go ?_) | (refine g_ops ?_) | ((first | refine g_nil ?_ | refine g_ret ?_ | refine r_t ?_ | refine r_nil ?_); conv => whnf) | fail)
  (conv => lhs; whnf)
  rw [asksOk, hb]
  rfl
 have hv : asksOk xs c = (allN (aS xs c) xs.length 0 && true) := by rw [asksOk, hb]; rfl
 have hl : xs.length ≤ 40 := by simp at hb; omega
 clear hb
 conv => whnf
 repeat' (first | (refine g_op ?_; conv => whnf) | (refine And.intro ?_ ?_; (focus exact au0); conv => whnf) | (refine g_seq ?_) | (refine XS.go ?_) | (refine g_ops ?_) | (refine g_loop ?_) | ((first | refine g_nil ?_ | refine g_skip ?_); conv => whnf) | (refine g_block ?_) | fail)
 refine XLc.mkL (α := Nat) (fun i => i ≤ xs.length ∧ asksOk xs c = (allN (aS xs c) (xs.length - i) i && true)) (fun i => xs.length - i) (fun i gs => [.ro 4 (xs.map MateAsk.D), .int .i64 c, .any, .any, .any, .int .i64 (i : Int)]) (fun i gs => []) 0 ⟨Nat.zero_le _, hv⟩ ?_ ?_
 ·refine ⟨?_, ?_⟩
  ·repeat' (first | exact True.intro | refine And.intro rfl ?_)
  ·repeat' (first | exact True.intro | refine And.intro rfl ?_)
 intro i gs hI
 obtain ⟨hi, hN⟩ := hI
 repeat' (first | (refine g_op ?_; conv => whnf) | (refine And.intro ?_ ?_; (focus exact au0); conv => whnf) | (refine g_seq ?_) | (refine XS.go ?_) | (refine g_ops ?_) | ((first | refine g_nil ?_ | refine g_cond ?_); conv => whnf) | fail)
 refine Br.mk (fun hb => ?_) (fun hb => ?_)
 ·have hlt : i < xs.length := by simpa using hb
  have hw : IntKind.wrap .i64 ((i : Int) + 1) = ((i + 1 : Nat) : Int) := by rw [wrap_ok (by omega) (by omega)]; rfl
  have hw1 : IntKind.wrap .i64 ((i : Int) - 1) = (i : Int) - 1 := wrap_ok (by omega) (by omega)
  have hbad := fun h => allN_bad (f := aS xs c) hlt hN h
  have hgood := fun h => allN_good (f := aS xs c) hlt hN h
  clear hN hb
  all_goals conv => whnf
  repeat' (first | (refine z_ld1 ?_; first | (refine z_ld rfl rfl rfl rfl au1 au2 ?_; conv => whnf) | (refine z_ld0 rfl ?_; conv => whnf)) | (refine z_ld1g ?_; first | (refine z_ldg rfl rfl rfl rfl rfl rfl rfl (by (repeat intro _); exact ⟨au1, au2⟩) rfl rfl rfl rfl ?_; conv => whnf) | (refine z_ld0g ?_; (conv => whnf); refine And.intro ?_ ?_; (focus exact rfl); conv => whnf)) | (refine z_st1 ?_; first | (refine z_st rfl rfl rfl au1 au2 rfl rfl ?_; conv => whnf) | (refine z_st0 ?_; conv => whnf)) | (refine z_ix1 ?_; first | (refine z_ix rfl rfl rfl rfl rfl ⟨by first | omega | (simp only [decide_eq_true_eq, Bool.not_eq_true', Bool.or_eq_false_iff, decide_eq_false_iff_not, Bool.and_eq_true, Bool.not_eq_false'] at *; omega), by first | omega | (simp only [decide_eq_true_eq, Bool.not_eq_true', Bool.or_eq_false_iff, decide_eq_false_iff_not, Bool.and_eq_true, Bool.not_eq_false'] at *; omega)⟩ ?_; conv => whnf) | (refine z_ix0 rfl rfl ?_; conv => whnf)) | (refine z_ix1g ?_; refine z_ixg rfl rfl rfl rfl rfl rfl rfl (by (repeat intro _); refine ⟨?_, ?_⟩ <;> first | omega | (simp only [decide_eq_true_eq, Bool.not_eq_true', Bool.or_eq_false_iff, decide_eq_false_iff_not, Bool.and_eq_true, Bool.not_eq_false'] at *; omega)) ?_) | (refine z_op ?_ ?_; (focus exact rfl); conv => whnf) | (refine z_opg0 ?_; (conv => whnf); refine And.intro ?_ ?_; (focus exact rfl); conv => whnf) | (refine z_pick ?_ ?_; (focus exact rfl); conv => whnf) | (refine z_pickg ?_; (conv => whnf); refine And.intro ?_ ?_; (focus exact rfl); conv => whnf) | (refine zs_ops ?_ ?_; (focus exact rfl)) | (refine zs_quiet ?_ ?_; (focus exact rfl)) | (refine z_nil fun vals => ?_; conv => whnf) | (refine z_call ?_ ?_; (focus exact rfl)) | (refine z_eff ?_; conv => whnf) | (refine z_callg0 ?_; (conv => whnf); refine And.intro ?_ ?_; (focus exact rfl)) | (refine RC.of (spec_HoldOk _) ?_ ?_; (focus exact rfl); conv => whnf) | (refine RC.of (spec_NameOk _) ?_ ?_; (focus exact rfl); conv => whnf) | (refine RC.of (spec_In _ _ _) ?_ ?_; (focus exact rfl); conv => whnf) | (refine g_op ?_; conv => whnf) | (refine And.intro ?_ ?_; (focus exact au0); conv => whnf) | (refine g_seq ?_) | (refine XS.go ?_) | (refine g_ops ?_) | ((first | refine g_nil ?_ | refine g_cond ?_ | refine g_skip ?_ | refine g_ret ?_); conv => whnf) | (refine g_block ?_) | ((first | refine r_t ?_ | refine r_nil ?_ | refine fun _ => ?_); conv => whnf) | (refine Br.mk (fun hb => ?_) (fun hb => ?_) <;> conv => whnf) | fail)
  all_goals
   first
   |(refine ⟨(), hbad ?_, ⟨?_, True.intro⟩⟩
     ·clear hbad hgood hw
      first | (first | (refine (Bool.eq_false_iff.mpr fun h => ?_).symm; simp_all [aS, pr, le_eq]; done) | (refine Bool.eq_false_iff.mpr fun h => ?_; simp_all [aS, pr, le_eq]; done) | (simp_all [aS, pr, le_eq]; done) | (simp_all [aS, pr, le_eq]; omega) | (refine (Bool.eq_false_iff.mpr fun h => ?_).symm; simp_all [aS, pr, le_eq]; omega) | (refine Bool.eq_false_iff.mpr fun h => ?_; simp_all [aS, pr, le_eq]; omega) | (rw [Bool.eq_iff_iff]; constructor <;> intro h <;> simp_all [aS, pr, le_eq] <;> omega) | fail) | (rcases Nat.eq_zero_or_pos i with h0 | h0 <;> simp_all [aS, pr, le_eq] <;> omega) | (fail) | fail
     ·repeat' (first | exact True.intro | refine And.intro rfl ?_))
   |(conv => lhs; whnf
     refine congrArg D.bool (hbad ?_)
     clear hbad hgood hw
     first | (first | (refine (Bool.eq_false_iff.mpr fun h => ?_).symm; simp_all [aS, pr, le_eq]; done) | (refine Bool.eq_false_iff.mpr fun h => ?_; simp_all [aS, pr, le_eq]; done) | (simp_all [aS, pr, le_eq]; done) | (simp_all [aS, pr, le_eq]; omega) | (refine (Bool.eq_false_iff.mpr fun h => ?_).symm; simp_all [aS, pr, le_eq]; omega) | (refine Bool.eq_false_iff.mpr fun h => ?_; simp_all [aS, pr, le_eq]; omega) | (rw [Bool.eq_iff_iff]; constructor <;> intro h <;> simp_all [aS, pr, le_eq] <;> omega) | fail) | (rcases Nat.eq_zero_or_pos i with h0 | h0 <;> simp_all [aS, pr, le_eq] <;> omega) | (fail) | fail)
   |(refine ⟨i + 1, ⟨by omega, ?_⟩, by omega, ?_, ?_⟩
     ·refine hgood ?_
      clear hbad hgood hw
      first | (first | (refine (Bool.eq_false_iff.mpr fun h => ?_).symm; simp_all [aS, pr, le_eq]; done) | (refine Bool.eq_false_iff.mpr fun h => ?_; simp_all [aS, pr, le_eq]; done) | (simp_all [aS, pr, le_eq]; done) | (simp_all [aS, pr, le_eq]; omega) | (refine (Bool.eq_false_iff.mpr fun h => ?_).symm; simp_all [aS, pr, le_eq]; omega) | (refine Bool.eq_false_iff.mpr fun h => ?_; simp_all [aS, pr, le_eq]; omega) | (rw [Bool.eq_iff_iff]; constructor <;> intro h <;> simp_all [aS, pr, le_eq] <;> omega) | fail) | (rcases Nat.eq_zero_or_pos i with h0 | h0 <;> simp_all [aS, pr, le_eq] <;> omega) | (fail) | fail
     ·repeat' (first | exact True.intro | refine And.intro (congrArg (D.int .i64) hw) ?_ | refine And.intro rfl ?_)
     ·repeat' (first | exact True.intro | refine And.intro rfl ?_))
 have hge : ¬ i < xs.length := by simpa using hb
 have hend : asksOk xs c = true := by rw [hN, allN_end hge, Bool.true_and]
 clear hN
 conv => whnf
 repeat' (first | (refine g_op ?_; conv => whnf) | (refine And.intro ?_ ?_; (focus exact au0); conv => whnf) | (refine g_seq ?_) | (refine XS.go ?_) | (refine g_ops ?_) | ((first | refine g_nil ?_ | refine g_ret ?_ | refine g_exit ?_ | refine r_t ?_ | refine r_nil ?_); conv => whnf) | fail)
 (conv => lhs; whnf)
 rw [hend]
theorem impl_AsksOk (xs : List MateAsk) (c : Int) : Rdr Try.prog 95 [.ro 4 (xs.map MateAsk.D), .int .i64 c] (.bool (asksOk xs c)) := by
 refine Rdr.intro' hm c95 (Nat.le_of_ble_eq_true rfl) ?_
 conv => whnf
 repeat' (first | (refine g_op ?_; conv => whnf) | (refine And.intro ?_ ?_; (focus exact au0); conv => whnf) | (refine g_seq ?_) | (refine XS.go ?_) | (refine g_ops ?_) | ((first | refine g_nil ?_ | refine g_cond ?_); conv => whnf) | fail)
 rw [mlen]
 refine Br.mk (fun hb => ?_) (fun hb => ?_)
 ·conv => whnf
  repeat' (first | (refine g_op ?_; conv => whnf) | (refine And.intro ?_ ?_; (focus exact au0); conv => whnf) | (refine g_seq ?_) | (refine XS.go ?_) | (refine g_ops ?_) | ((first | refine g_nil ?_ | refine g_ret ?_ | refine r_t ?_ | refine r_nil ?_); conv => whnf) | fail)
  (conv => lhs; whnf)
  rw [asksOk, hb]
  rfl
 have hv : asksOk xs c = (allN (aS xs c) xs.length 0 && true) := by rw [asksOk, hb]; rfl
 have hl : xs.length ≤ 40 := by simp at hb; omega
 clear hb
 conv => whnf
 repeat' (first | (refine g_op ?_; conv => whnf) | (refine And.intro ?_ ?_; (focus exact au0); conv => whnf) | (refine g_seq ?_) | (refine XS.go ?_) | (refine g_ops ?_) | (refine g_loop ?_) | ((first | refine g_nil ?_ | refine g_skip ?_); conv => whnf) | (refine g_block ?_) | fail)
 refine XLc.mkL (α := Nat) (fun i => i ≤ xs.length ∧ asksOk xs c = (allN (aS xs c) (xs.length - i) i && true)) (fun i => xs.length - i) (fun i gs => [.ro 4 (xs.map MateAsk.D), .int .i64 c, .any, .any, .any, .any, .any, .any, .any, .any, .ro 4 (xs.map MateAsk.D), .int .i64 ((xs.map MateAsk.D).length : Int), .int .i64 (i : Int)]) (fun i gs => []) 0 ⟨Nat.zero_le _, hv⟩ ?_ ?_
 ·refine ⟨?_, ?_⟩
  ·repeat' (first | exact True.intro | refine And.intro rfl ?_)
  ·repeat' (first | exact True.intro | refine And.intro rfl ?_)
 intro i gs hI
 obtain ⟨hi, hN⟩ := hI
 repeat' (first | (refine g_op ?_; conv => whnf) | (refine And.intro ?_ ?_; (focus exact au0); conv => whnf) | (refine g_seq ?_) | (refine XS.go ?_) | (refine g_ops ?_) | ((first | refine g_nil ?_ | refine g_cond ?_); conv => whnf) | fail)
 refine Br.mk (fun hb => ?_) (fun hb => ?_)
 ·have hlt : i < xs.length := by simpa using hb
  have hw : IntKind.wrap .i64 ((i : Int) + 1) = ((i + 1 : Nat) : Int) := by rw [wrap_ok (by omega) (by omega)]; rfl
  have hw1 : IntKind.wrap .i64 ((i : Int) - 1) = (i : Int) - 1 := wrap_ok (by omega) (by omega)
  have hbad := fun h => allN_bad (f := aS xs c) hlt hN h
  have hgood := fun h => allN_good (f := aS xs c) hlt hN h
  clear hN hb
  all_goals conv => whnf
  repeat' (first | (refine z_ld1 ?_; first | (refine z_ld rfl rfl rfl rfl au1 au2 ?_; conv => whnf) | (refine z_ld0 rfl ?_; conv => whnf)) | (refine z_ld1g ?_; first | (refine z_ldg rfl rfl rfl rfl rfl rfl rfl (by (repeat intro _); exact ⟨au1, au2⟩) rfl rfl rfl rfl ?_; conv => whnf) | (refine z_ld0g ?_; (conv => whnf); refine And.intro ?_ ?_; (focus exact rfl); conv => whnf)) | (refine z_st1 ?_; first | (refine z_st rfl rfl rfl au1 au2 rfl rfl ?_; conv => whnf) | (refine z_st0 ?_; conv => whnf)) | (refine z_ix1 ?_; first | (refine z_ix rfl rfl rfl rfl rfl ⟨by first | omega | (simp only [decide_eq_true_eq, Bool.not_eq_true', Bool.or_eq_false_iff, decide_eq_false_iff_not, Bool.and_eq_true, Bool.not_eq_false'] at *; omega), by first | omega | (simp only [decide_eq_true_eq, Bool.not_eq_true', Bool.or_eq_false_iff, decide_eq_false_iff_not, Bool.and_eq_true, Bool.not_eq_false'] at *; omega)⟩ ?_; conv => whnf) | (refine z_ix0 rfl rfl ?_; conv => whnf)) | (refine z_ix1g ?_; refine z_ixg rfl rfl rfl rfl rfl rfl rfl (by (repeat intro _); refine ⟨?_, ?_⟩ <;> first | omega | (simp only [decide_eq_true_eq, Bool.not_eq_true', Bool.or_eq_false_iff, decide_eq_false_iff_not, Bool.and_eq_true, Bool.not_eq_false'] at *; omega)) ?_) | (refine z_op ?_ ?_; (focus exact rfl); conv => whnf) | (refine z_opg0 ?_; (conv => whnf); refine And.intro ?_ ?_; (focus exact rfl); conv => whnf) | (refine z_pick ?_ ?_; (focus exact rfl); conv => whnf) | (refine z_pickg ?_; (conv => whnf); refine And.intro ?_ ?_; (focus exact rfl); conv => whnf) | (refine zs_ops ?_ ?_; (focus exact rfl)) | (refine zs_quiet ?_ ?_; (focus exact rfl)) | (refine z_nil fun vals => ?_; conv => whnf) | (refine z_call ?_ ?_; (focus exact rfl)) | (refine z_eff ?_; conv => whnf) | (refine z_callg0 ?_; (conv => whnf); refine And.intro ?_ ?_; (focus exact rfl)) | (refine RC.of (impl_mHold _) ?_ ?_; (focus exact rfl); conv => whnf) | (refine RC.of (impl_mName _) ?_ ?_; (focus exact rfl); conv => whnf) | (refine RC.of (impl_within _ _ _) ?_ ?_; (focus exact rfl); conv => whnf) | (refine g_op ?_; conv => whnf) | (refine And.intro ?_ ?_; (focus exact au0); conv => whnf) | (refine g_seq ?_) | (refine XS.go ?_) | (refine g_ops ?_) | ((first | refine g_nil ?_ | refine g_cond ?_ | refine g_skip ?_ | refine g_ret ?_); conv => whnf) | (refine g_block ?_) | ((first | refine r_t ?_ | refine r_nil ?_ | refine fun _ => ?_); conv => whnf) | (refine Br.mk (fun hb => ?_) (fun hb => ?_) <;> conv => whnf) | fail)
  all_goals
   first
   |(refine ⟨(), hbad ?_, ⟨?_, True.intro⟩⟩
     ·clear hbad hgood hw
      first | (first | (refine (Bool.eq_false_iff.mpr fun h => ?_).symm; simp_all [aS, pr, le_eq]; done) | (refine Bool.eq_false_iff.mpr fun h => ?_; simp_all [aS, pr, le_eq]; done) | (simp_all [aS, pr, le_eq]; done) | (simp_all [aS, pr, le_eq]; omega) | (refine (Bool.eq_false_iff.mpr fun h => ?_).symm; simp_all [aS, pr, le_eq]; omega) | (refine Bool.eq_false_iff.mpr fun h => ?_; simp_all [aS, pr, le_eq]; omega) | (rw [Bool.eq_iff_iff]; constructor <;> intro h <;> simp_all [aS, pr, le_eq] <;> omega) | fail) | (rcases Nat.eq_zero_or_pos i with h0 | h0 <;> simp_all [aS, pr, le_eq] <;> omega) | (fail) | fail
     ·repeat' (first | exact True.intro | refine And.intro rfl ?_))
   |(conv => lhs; whnf
     refine congrArg D.bool (hbad ?_)
     clear hbad hgood hw
     first | (first | (refine (Bool.eq_false_iff.mpr fun h => ?_).symm; simp_all [aS, pr, le_eq]; done) | (refine Bool.eq_false_iff.mpr fun h => ?_; simp_all [aS, pr, le_eq]; done) | (simp_all [aS, pr, le_eq]; done) | (simp_all [aS, pr, le_eq]; omega) | (refine (Bool.eq_false_iff.mpr fun h => ?_).symm; simp_all [aS, pr, le_eq]; omega) | (refine Bool.eq_false_iff.mpr fun h => ?_; simp_all [aS, pr, le_eq]; omega) | (rw [Bool.eq_iff_iff]; constructor <;> intro h <;> simp_all [aS, pr, le_eq] <;> omega) | fail) | (rcases Nat.eq_zero_or_pos i with h0 | h0 <;> simp_all [aS, pr, le_eq] <;> omega) | (fail) | fail)
   |(refine ⟨i + 1, ⟨by omega, ?_⟩, by omega, ?_, ?_⟩
     ·refine hgood ?_
      clear hbad hgood hw
      first | (first | (refine (Bool.eq_false_iff.mpr fun h => ?_).symm; simp_all [aS, pr, le_eq]; done) | (refine Bool.eq_false_iff.mpr fun h => ?_; simp_all [aS, pr, le_eq]; done) | (simp_all [aS, pr, le_eq]; done) | (simp_all [aS, pr, le_eq]; omega) | (refine (Bool.eq_false_iff.mpr fun h => ?_).symm; simp_all [aS, pr, le_eq]; omega) | (refine Bool.eq_false_iff.mpr fun h => ?_; simp_all [aS, pr, le_eq]; omega) | (rw [Bool.eq_iff_iff]; constructor <;> intro h <;> simp_all [aS, pr, le_eq] <;> omega) | fail) | (rcases Nat.eq_zero_or_pos i with h0 | h0 <;> simp_all [aS, pr, le_eq] <;> omega) | (fail) | fail
     ·repeat' (first | exact True.intro | refine And.intro (congrArg (D.int .i64) hw) ?_ | refine And.intro rfl ?_)
     ·repeat' (first | exact True.intro | refine And.intro rfl ?_))
 have hge : ¬ i < xs.length := by simpa using hb
 have hend : asksOk xs c = true := by rw [hN, allN_end hge, Bool.true_and]
 clear hN
 conv => whnf
 repeat' (first | (refine g_op ?_; conv => whnf) | (refine And.intro ?_ ?_; (focus exact au0); conv => whnf) | (refine g_seq ?_) | (refine XS.go ?_) | (refine g_ops ?_) | ((first | refine g_nil ?_ | refine g_ret ?_ | refine g_exit ?_ | refine r_t ?_ | refine r_nil ?_); conv => whnf) | fail)
 (conv => lhs; whnf)
 rw [hend]
def askF (xs : List MateAsk) (hold : ByteArray) (i : Nat) : Bool := (xs.getD i default).fHold.toList == hold.toList
def askI (xs : List MateAsk) (hold : ByteArray) : Int := idxN (askF xs hold) xs.length 0
theorem spec_Ask (xs : List MateAsk) (hold : ByteArray) (hl : xs.length ≤ 1048576) : Rdr Try.prog 93 [.ro 4 (xs.map MateAsk.D), .str hold] (.int .i64 (askI xs hold)) := by
 refine Rdr.intro' hm c93 (Nat.le_of_ble_eq_true rfl) ?_
 conv => whnf
 repeat' (first | (refine g_op ?_; conv => whnf) | (refine And.intro ?_ ?_; (focus exact au0); conv => whnf) | (refine g_seq ?_) | (refine XS.go ?_) | (refine g_ops ?_) | (refine g_loop ?_) | (refine g_nil ?_; conv => whnf) | (refine g_block ?_) | fail)
 refine XLc.mkL (α := Nat) (fun i => i ≤ xs.length ∧ askI xs hold = idxN (askF xs hold) (xs.length - i) i) (fun i => xs.length - i) (fun i gs => [.ro 4 (xs.map MateAsk.D), .str hold, .any, .any, .any, .int .i64 (i : Int)]) (fun i gs => []) 0 ⟨Nat.zero_le _, rfl⟩ ?_ ?_
 ·refine ⟨?_, ?_⟩
  ·repeat' (first | exact True.intro | refine And.intro rfl ?_)
  ·repeat' (first | exact True.intro | refine And.intro rfl ?_)
 intro i gs hI
 obtain ⟨hi, hN⟩ := hI
 repeat' (first | (refine g_op ?_; conv => whnf) | (refine And.intro ?_ ?_; (focus exact au0); conv => whnf) | (refine g_seq ?_) | (refine XS.go ?_) | (refine g_ops ?_) | ((first | refine g_nil ?_ | refine g_cond ?_); conv => whnf) | fail)
 refine Br.mk (fun hb => ?_) (fun hb => ?_)
 ·have hlt : i < xs.length := by simpa using hb
  have hw : IntKind.wrap .i64 ((i : Int) + 1) = ((i + 1 : Nat) : Int) := by rw [wrap_ok (by omega) (by omega)]; rfl
  have hit := fun h => idxN_hit (f := askF xs hold) hlt hN h
  have miss := fun h => idxN_miss (f := askF xs hold) hlt hN h
  clear hN hb
  conv => whnf
  repeat' (first | (refine z_ld1 ?_; first | (refine z_ld rfl rfl rfl rfl au1 au2 ?_; conv => whnf) | (refine z_ld0 rfl ?_; conv => whnf)) | (refine z_ix1 ?_; first | (refine z_ix rfl rfl rfl rfl rfl ⟨by first | omega | (simp only [decide_eq_true_eq, Bool.not_eq_true', Bool.or_eq_false_iff, decide_eq_false_iff_not, Bool.and_eq_true, Bool.not_eq_false'] at *; omega), by first | omega | (simp only [decide_eq_true_eq, Bool.not_eq_true', Bool.or_eq_false_iff, decide_eq_false_iff_not, Bool.and_eq_true, Bool.not_eq_false'] at *; omega)⟩ ?_; conv => whnf) | (refine z_ix0 rfl rfl ?_; conv => whnf)) | (refine z_op ?_ ?_; (focus exact rfl); conv => whnf) | (refine zs_ops ?_ ?_; (focus exact rfl)) | ((first | refine z_nil fun vals => ?_ | refine g_op ?_); conv => whnf) | (refine And.intro ?_ ?_; (focus exact au0); conv => whnf) | (refine g_seq ?_) | (refine XS.go ?_) | (refine g_ops ?_) | ((first | refine g_nil ?_ | refine g_cond ?_ | refine g_skip ?_ | refine g_ret ?_); conv => whnf) | (refine g_block ?_) | ((first | refine r_t ?_ | refine r_nil ?_); conv => whnf) | (refine Br.mk (fun hb => ?_) (fun hb => ?_) <;> conv => whnf) | fail)
  all_goals
   first
   | ((conv => lhs; whnf); first | (rw [hit hb]; done) | (rw [hit hb]; rfl) | fail)
   |(refine ⟨i + 1, ⟨by omega, miss hb⟩, by omega, ?_, ?_⟩
     ·repeat' (first | exact True.intro | refine And.intro (congrArg (D.int .i64) hw) ?_ | refine And.intro rfl ?_)
     ·repeat' (first | exact True.intro | refine And.intro rfl ?_))
 have hge : ¬ i < xs.length := by simpa using hb
 have hend : askI xs hold = -1 := by rw [hN, idxN_end hge]
 clear hN
 conv => whnf
 repeat' (first | (refine g_op ?_; conv => whnf) | (refine And.intro ?_ ?_; (focus exact au0); conv => whnf) | (refine g_seq ?_) | (refine XS.go ?_) | (refine g_ops ?_) | ((first | refine g_nil ?_ | refine g_ret ?_ | refine g_exit ?_ | refine r_t ?_ | refine r_nil ?_); conv => whnf) | fail)
 ((conv => lhs; whnf); first | (rw [hend]; done) | (rw [hend]; rfl))
theorem impl_cl (x : MateAsk) (hold : ByteArray) : Rdr Try.prog 116 [x.D, .cref (.str hold)] (.bool (x.fHold.toList == hold.toList)) := by
 refine Rdr.intro' hm c116 (Nat.le_of_ble_eq_true rfl) ?_
 conv => whnf
 repeat' (first | (refine z_ld1 ?_; first | (refine z_ld rfl rfl rfl rfl au1 au2 ?_; conv => whnf) | (refine z_ld0 rfl ?_; conv => whnf)) | (refine z_op ?_ ?_; (focus exact rfl); conv => whnf) | (refine zs_ops ?_ ?_; (focus exact rfl)) | ((first | refine z_nil fun vals => ?_ | refine g_op ?_); conv => whnf) | (refine And.intro ?_ ?_; (focus exact au0); conv => whnf) | (refine g_seq ?_) | (refine XS.go ?_) | (refine g_ops ?_) | ((first | refine g_nil ?_ | refine g_ret ?_ | refine r_t ?_ | refine r_nil ?_ | refine fun _ => ?_); conv => whnf) | fail)
 (conv => lhs; whnf)
theorem impl_Index (xs : List MateAsk) (hold : ByteArray) (hl : xs.length ≤ 1048576) : Rdr Try.prog 115 [.ro 4 (xs.map MateAsk.D), .fn 116 [.cref (.str hold)]] (.int .i64 (askI xs hold)) := by
 refine Rdr.intro' hm c115 (Nat.le_of_ble_eq_true rfl) ?_
 conv => whnf
 repeat' (first | (refine g_op ?_; conv => whnf) | (refine And.intro ?_ ?_; (focus exact au0); conv => whnf) | (refine g_seq ?_) | (refine XS.go ?_) | (refine g_ops ?_) | (refine g_loop ?_) | (refine g_nil ?_; conv => whnf) | (refine g_block ?_) | fail)
 refine XLc.mkL (α := Nat) (fun i => i ≤ xs.length ∧ askI xs hold = idxN (askF xs hold) (xs.length - i) i) (fun i => xs.length - i) (fun i gs => [.ro 4 (xs.map MateAsk.D), .fn 116 [.cref (.str hold)], .any, .any, .any, .any, .any, .int .i64 ((xs.map MateAsk.D).length : Int), .int .i64 (i : Int)]) (fun i gs => []) 0 ⟨Nat.zero_le _, rfl⟩ ?_ ?_
 ·refine ⟨?_, ?_⟩
  ·repeat' (first | exact True.intro | refine And.intro rfl ?_)
  ·repeat' (first | exact True.intro | refine And.intro rfl ?_)
 intro i gs hI
 obtain ⟨hi, hN⟩ := hI
 repeat' (first | (refine g_op ?_; conv => whnf) | (refine And.intro ?_ ?_; (focus exact au0); conv => whnf) | (refine g_seq ?_) | (refine XS.go ?_) | (refine g_ops ?_) | ((first | refine g_nil ?_ | refine g_cond ?_); conv => whnf) | fail)
 refine Br.mk (fun hb => ?_) (fun hb => ?_)
 ·have hlt : i < xs.length := by simpa using hb
  have hw : IntKind.wrap .i64 ((i : Int) + 1) = ((i + 1 : Nat) : Int) := by rw [wrap_ok (by omega) (by omega)]; rfl
  have hit := fun h => idxN_hit (f := askF xs hold) hlt hN h
  have miss := fun h => idxN_miss (f := askF xs hold) hlt hN h
  clear hN hb
  conv => whnf
  repeat' (first | (refine z_ld1 ?_; first | (refine z_ld rfl rfl rfl rfl au1 au2 ?_; conv => whnf) | (refine z_ld0 rfl ?_; conv => whnf)) | (refine z_ix1 ?_; first | (refine z_ix rfl rfl rfl rfl rfl ⟨by first | omega | (simp only [decide_eq_true_eq, Bool.not_eq_true', Bool.or_eq_false_iff, decide_eq_false_iff_not, Bool.and_eq_true, Bool.not_eq_false'] at *; omega), by first | omega | (simp only [decide_eq_true_eq, Bool.not_eq_true', Bool.or_eq_false_iff, decide_eq_false_iff_not, Bool.and_eq_true, Bool.not_eq_false'] at *; omega)⟩ ?_; conv => whnf) | (refine z_ix0 rfl rfl ?_; conv => whnf)) | (refine z_op ?_ ?_; (focus exact rfl); conv => whnf) | (refine zs_ops ?_ ?_; (focus exact rfl)) | ((first | refine z_nil fun vals => ?_ | refine z_eff ?_ | refine g_op ?_); conv => whnf) | (refine And.intro ?_ ?_; (focus exact au0); conv => whnf) | (refine g_seq ?_) | (refine XS.go ?_) | (refine g_ops ?_) | ((first | refine g_nil ?_ | refine g_cond ?_ | refine g_skip ?_ | refine g_ret ?_); conv => whnf) | (refine g_block ?_) | ((first | refine r_t ?_ | refine r_nil ?_); conv => whnf) | (refine Br.mk (fun hb => ?_) (fun hb => ?_) <;> conv => whnf) | (refine XCL.of_rdr (impl_cl _ _) ?_; conv => whnf) | fail)
  all_goals
   first
   | ((conv => lhs; whnf); first | (rw [hit hb]; done) | (rw [hit hb]; rfl) | fail)
   |(refine ⟨i + 1, ⟨by omega, miss hb⟩, by omega, ?_, ?_⟩
     ·repeat' (first | exact True.intro | refine And.intro (congrArg (D.int .i64) hw) ?_ | refine And.intro rfl ?_)
     ·repeat' (first | exact True.intro | refine And.intro rfl ?_))
 have hge : ¬ i < xs.length := by simpa using hb
 have hend : askI xs hold = -1 := by rw [hN, idxN_end hge]
 clear hN
 conv => whnf
 repeat' (first | (refine g_op ?_; conv => whnf) | (refine And.intro ?_ ?_; (focus exact au0); conv => whnf) | (refine g_seq ?_) | (refine XS.go ?_) | (refine g_ops ?_) | ((first | refine g_nil ?_ | refine g_ret ?_ | refine g_exit ?_ | refine r_t ?_ | refine r_nil ?_); conv => whnf) | fail)
 ((conv => lhs; whnf); first | (rw [hend]; done) | (rw [hend]; rfl))
theorem impl_AskAt (xs : List MateAsk) (hold : ByteArray) (hl : xs.length ≤ 1048576) : Rdr Try.prog 96 [.ro 4 (xs.map MateAsk.D), .str hold] (.int .i64 (askI xs hold)) := by
 refine Rdr.intro' hm c96 (Nat.le_of_ble_eq_true rfl) ?_
 conv => whnf
 repeat' (first | (refine g_op ?_; conv => whnf) | (refine And.intro ?_ ?_; (focus exact au0); conv => whnf) | (refine g_seq ?_) | (refine g_ops ?_) | ((first | refine g_nil ?_ | refine fun _ => ?_); conv => whnf) | fail)
 refine XS.freezeB 3 rfl ?_
 repeat' (first | (refine g_op ?_; conv => whnf) | (refine And.intro ?_ ?_; (focus exact au0); conv => whnf) | (refine g_seq ?_) | (refine XS.go ?_) | (refine g_ops ?_) | ((first | refine g_nil ?_ | refine g_ret ?_ | refine r_t ?_ | refine r_nil ?_ | refine XCL.of_rdr (impl_Index xs hold hl) ?_); conv => whnf) | fail)
 (conv => lhs; whnf)
end Go.Ab
set_option linter.unusedSimpArgs false
set_option linter.unusedVariables false
namespace Go.Ab
open Go Go.RowKit Go.Proofs
attribute [local irreducible] XC Rdr IntKind.wrap xw xos xqs xr xd
set_option maxRecDepth 100000
end Go.Ab
set_option linter.unusedSimpArgs false
set_option linter.unusedVariables false
namespace Go.Ab
open Go Go.RowKit Go.Proofs
attribute [local irreducible] XC Rdr IntKind.wrap xw xos xqs xr xd
set_option maxRecDepth 100000
end Go.Ab
set_option linter.unusedSimpArgs false
set_option linter.unusedVariables false
namespace Go.Ab
open Go Go.RowKit Go.Proofs
attribute [local irreducible] XC Rdr IntKind.wrap xw xos xqs xr xd
set_option maxRecDepth 100000
theorem Bor.rowM {α : Type} {st : St} {s b n c es : Nat} {F : α → D} {xs : List α} {cp : Nat} (hl : st.lc s = some (.arr es (xs.map F) cp)) (hb : st.gen s = b) (hn : n = xs.length) (hf : ∀ x, (F x).froz = F x) : Bor st (.lsl s b n c) (.ro es (xs.map F)) := by
 have hn' : n = (xs.map F).length := by rw [List.length_map]; exact hn
 have h := Bor.row (c := c) hl hb hn'
 rw [D.frozs_map hf] at h
 exact h
theorem HolL.ren {U : Nat → Prop} {w : World} : ∀ {ls ls2 : List Loan} {F : List Nat}, ls2.map (·.2) = ls.map (·.2) → HolL U w ls F → HolL U w ls2 F
 | [], [], F, _, h => h
 | l :: ls, l2 :: ls2, F, e, h => by
  simp only [List.map_cons, List.cons.injEq] at e
  obtain ⟨F1, F2, h1, h2, h3⟩ := h
  exact ⟨F1, F2, h1, by rw [e.1]; exact h2, HolL.ren e.2 h3⟩
 | [], _ :: _, _, e, _ => by simp at e
 | _ :: _, [], _, e, _ => by simp at e
theorem HolL.snil {U : Nat → Prop} {w : World} (s b es : Nat) : ∀ {ls : List Loan} {F : List Nat}, HolL U w ls F → HolL U w ((s, b, .arr es [] 0) :: ls) F
 | _, F, h => ⟨[], F, rfl, .inl ⟨rfl, rfl, rfl⟩, h⟩
theorem z_close {P : Program} {q : Bool} {n : Nat} {st : St} {e : List En} {K : St → Prop} {os : List COp} (h : ∀ vals : Nat → D, LZ P q n os (fillS st e vals) [] K) : LZ P q n os st e K := by
 refine ⟨fun fr hI => ?_⟩
 have e1 : fillS st e fr = { st with fr := fr } := by
  unfold fillS
  congr 1
  funext i
  cases hf : En.find e i with
  | none => exact (hI.no i hf).symm
  | some r => rfl
 have := (h fr).start
 rw [e1] at this
 exact this
/-- A contract under other names. -/
theorem XC.ren {P : Program} {f : FuncId} {ds ds2 : List D} {ls ls2 : List Loan} {K K2 : D → List Loan → Prop} (h : XC P f ds ls K)
  (hd : ∀ U w vs, RelT U w ds2 vs → RelT U w ds vs) (hl : ls.map (·.2) = ls2.map (·.2))
  (hk : ∀ d l, K d l → ∃ d2 l2, K2 d2 l2 ∧ (∀ U w F, HolL U w l F → HolL U w l2 F) ∧ ∀ U w v, RelV U w d v → RelV U w d2 v) : XC P f ds2 ls2 K2 := by
 unfold XC at h ⊢
 refine ⟨h.1, fun U w vs F hU hH hn hF hT => (h.2 U w vs F hU (hH.ren hl) hn hF (hd _ _ _ hT)).mono fun e w' ⟨v, d, l, U', F', h1, h2, h3, h4, h5, h6, h7, h8, h9⟩ => ?_⟩
 obtain ⟨d2, l2, k1, k2, k3⟩ := hk d l h9
 exact ⟨v, d2, l2, U', F', h1, k2 _ _ _ h2, h3, h4, k3 _ _ _ h5, h6, h7, h8, k1⟩
theorem nil_ro {U : Nat → Prop} {w : World} {es : Nat} {cs : List Value} (h : RelC U w .nil cs) : RelC U w (.ro es []) cs := by
 simp only [RelC] at h ⊢
 obtain ⟨a, rfl⟩ := h
 exact ⟨a, 0, rfl, Nat.le_refl _, .inl trivial⟩
theorem nil_lsl {U : Nat → Prop} {w : World} {s b : Nat} {cs : List Value} (h : RelC U w .nil cs) : RelC U w (.lsl s b 0 0) cs := by
 simp only [RelC] at h ⊢
 obtain ⟨a, rfl⟩ := h
 exact ⟨a, rfl, Nat.le_refl _, fun h => absurd rfl h⟩
theorem RelF.imp {U : Nat → Prop} {w : World} {d d' : D} {ds ds' : List D} (h1 : ∀ cs, RelC U w d cs → RelC U w d' cs) (h2 : ∀ cs, RelF U w ds cs → RelF U w ds' cs) (cs : List Value) (h : RelF U w (d :: ds) cs) : RelF U w (d' :: ds') cs := by
 simp only [RelF] at h ⊢
 obtain ⟨c1, c2, e, q1, q2⟩ := h
 exact ⟨c1, c2, e, h1 _ q1, h2 _ q2⟩
theorem RelV.aggImp {U : Nat → Prop} {w : World} {fs fs' : List D} (h : ∀ cs, RelF U w fs cs → RelF U w fs' cs) (v : Value) (hv : RelV U w (.agg fs) v) : RelV U w (.agg fs') v := by
 obtain ⟨cs, e, q⟩ := hv
 exact ⟨cs, e, h _ q⟩
/-- An answer under a wider reading. -/
theorem Rdr.imp {P : Program} {f : FuncId} {ds : List D} {d d2 : D} (h : Rdr P f ds d) (hd : ∀ U w v, RelV U w d v → RelV U w d2 v) : Rdr P f ds d2 := by
 unfold Rdr at h ⊢
 exact ⟨h.1, fun U w vs hU hT => (h.2 U w vs hU hT).mono fun e w' ⟨v, h1, h2, h3⟩ => ⟨v, h1, hd _ _ _ h2, h3⟩⟩
end Go.Ab
set_option linter.unusedSimpArgs false
set_option linter.unusedVariables false
namespace Go.Ab
open Go Go.RowKit Go.Proofs
attribute [local irreducible] XC Rdr IntKind.wrap xw xos xqs xr xd
set_option maxRecDepth 100000
set_option maxHeartbeats 16000000
def cf45 : CF := ⟨123,[.t 2],(.seq (.ops [Oo 1 (.bx (.t 0)),Ok 2 (.bool false)]) (.seq (.seq (.ops [Of 5 0 1,Ol 6 5,Oc 7 91 [.t 6],Oo 8 (.not (.t 7)),Om 9 8,⟨some 10,.fa 2 1 2 (.t 1),some (9,false)⟩,⟨some 11,.ld 1 false (.t 10),some (9,false)⟩,⟨some 12,.call 80 [.t 11,(.k (.int .i64 0)),(.k (.int .i64 1000000))],some (9,false)⟩,⟨some 13,.not (.t 12),some (9,false)⟩,Oo 14 (.pick (.t 9) (.k (.bool true)) (.t 13)),Om 15 14,⟨some 16,.fa 4 1 4 (.t 1),some (15,false)⟩,⟨some 17,.ld 1 false (.t 16),some (15,false)⟩,⟨some 18,.call 80 [.t 17,(.k (.int .i64 0)),(.k (.int .i64 1000000))],some (15,false)⟩,⟨some 19,.not (.t 18),some (15,false)⟩,Oo 20 (.pick (.t 15) (.k (.bool true)) (.t 19)),Om 21 20,⟨some 22,.fa 5 1 5 (.t 1),some (21,false)⟩,⟨some 23,.ld 1 false (.t 22),some (21,false)⟩,⟨some 24,.call 19 [.t 23],some (21,false)⟩,⟨some 25,.not (.t 24),some (21,false)⟩,Oo 26 (.pick (.t 21) (.k (.bool true)) (.t 25)),Om 27 26,⟨some 28,.fa 5 1 5 (.t 1),some (27,false)⟩,⟨some 29,.ld 1 false (.t 28),some (27,false)⟩,⟨some 30,.lenl (.t 29),some (27,false)⟩,⟨some 31,.bin .gtr (.t 30) (.k (.int .i64 0)),some (27,false)⟩,⟨some 32,.mv (.t 31),some (27,false)⟩,⟨some 33,.fa 3 1 3 (.t 1),some (32,true)⟩,⟨some 34,.ld 1 false (.t 33),some (32,true)⟩,⟨some 35,.not (.t 34),some (32,true)⟩,⟨some 36,.pick (.t 32) (.t 35) (.k (.bool false)),some (27,false)⟩,Oo 37 (.pick (.t 27) (.k (.bool true)) (.t 36)),Om 38 37,⟨some 39,.fa 6 1 6 (.t 1),some (38,false)⟩,⟨some 40,.ld 1 false (.t 39),some (38,false)⟩,⟨some 41,.fa 2 1 2 (.t 1),some (38,false)⟩,⟨some 42,.ld 1 false (.t 41),some (38,false)⟩,⟨some 43,.call 24 [.t 40,.t 42],some (38,false)⟩,⟨some 44,.not (.t 43),some (38,false)⟩,Oo 45 (.pick (.t 38) (.k (.bool true)) (.t 44)),Om 46 45,⟨some 47,.fa 7 1 7 (.t 1),some (46,false)⟩,⟨some 48,.ld 1 false (.t 47),some (46,false)⟩,⟨some 49,.fa 2 1 2 (.t 1),some (46,false)⟩,⟨some 50,.ld 1 false (.t 49),some (46,false)⟩,⟨some 51,.call 92 [.t 48,.t 50],some (46,false)⟩,⟨some 52,.not (.t 51),some (46,false)⟩,Oo 53 (.pick (.t 46) (.k (.bool true)) (.t 52)),Om 54 53,⟨some 55,.fa 8 1 8 (.t 1),some (54,false)⟩,⟨some 56,.ld 1 false (.t 55),some (54,false)⟩,⟨some 57,.fa 2 1 2 (.t 1),some (54,false)⟩,⟨some 58,.ld 1 false (.t 57),some (54,false)⟩,⟨some 59,.call 92 [.t 56,.t 58],some (54,false)⟩,⟨some 60,.not (.t 59),some (54,false)⟩,Oo 61 (.pick (.t 54) (.k (.bool true)) (.t 60))]) (.cond (.t 61) (.seq (.ops [Ok 2 (.bool false)]) .ret) .skip)) (.seq (.seq (.ops [Ok 3 (.int .i64 0)]) (.block 0 (.loop (.seq (.seq (.ops [Om 62 3,Of 63 7 1,Ol 64 63,Og 65 64,Ob 66 .lss 62 65]) (.cond (.t 66) .skip (.exit 0))) (.seq (.block 1 (.seq (.quiet [Of 69 8 1,Ol 70 69,Of 71 7 1,Ol 72 71,Om 73 3,Ox 74 4 72 73,Of 75 0 74,Ol 76 75,Oc 77 93 [.t 70,.t 76],Oo 78 (.bin .geq (.t 77) (.k (.int .i64 0)))]) (.cond (.t 78) (.seq (.ops [Ok 2 (.bool false)]) .ret) .skip))) (.ops [Om 67 3,Oi 68 67,Om 3 68])))))) (.seq (.seq (.ops [Of 79 1 1,Ol 80 79]) (.cond (.t 80) (.seq (.ops [Ok 2 (.bool true)]) .ret) .skip)) (.seq (.seq (.ops [Ok 4 (.int .i64 0)]) (.block 2 (.loop (.seq (.seq (.ops [Om 81 4,Of 82 6 1,Ol 83 82,Og 84 83,Ob 85 .lss 81 84]) (.cond (.t 85) .skip (.exit 2))) (.seq (.block 3 (.seq (.ops [Of 88 6 1,Ol 89 88,Om 90 4,Ox 91 11 89 90,Od 92 11 91,Oc 93 15 [.t 92],Oo 94 (.not (.t 93)),Om 95 94,⟨some 96,.fa 6 1 6 (.t 1),some (95,true)⟩,⟨some 97,.ld 1 false (.t 96),some (95,true)⟩,⟨some 98,.mv (.t 4),some (95,true)⟩,⟨some 99,.ix 11 (.t 97) (.t 98),some (95,true)⟩,⟨some 100,.fa 0 7 0 (.t 99),some (95,true)⟩,⟨some 101,.fa 2 1 2 (.t 100),some (95,true)⟩,⟨some 102,.ld 1 false (.t 101),some (95,true)⟩,⟨some 103,.bin .eql (.t 102) (.k (.str ⟨#[]⟩)),some (95,true)⟩,Oo 104 (.pick (.t 95) (.t 103) (.k (.bool false)))]) (.cond (.t 104) (.seq (.ops [Ok 2 (.bool false)]) .ret) .skip))) (.ops [Om 86 4,Oi 87 86,Om 4 87])))))) (.seq (.ops [Of 105 3 1,Ol 106 105,Oo 107 (.not (.t 106)),Om 108 107,⟨some 109,.fa 4 1 4 (.t 1),some (108,true)⟩,⟨some 110,.ld 1 false (.t 109),some (108,true)⟩,⟨some 111,.bin .eql (.t 110) (.k (.int .i64 0)),some (108,true)⟩,Oo 112 (.pick (.t 108) (.t 111) (.k (.bool false))),Om 113 112,⟨some 114,.fa 7 1 7 (.t 1),some (113,true)⟩,⟨some 115,.ld 1 false (.t 114),some (113,true)⟩,⟨some 116,.lenl (.t 115),some (113,true)⟩,⟨some 117,.fa 8 1 8 (.t 1),some (113,true)⟩,⟨some 118,.ld 1 false (.t 117),some (113,true)⟩,⟨some 119,.lenl (.t 118),some (113,true)⟩,⟨some 120,.bin .add (.t 116) (.t 119),some (113,true)⟩,⟨some 121,.bin .eql (.t 120) (.k (.int .i64 0)),some (113,true)⟩,Oo 122 (.pick (.t 113) (.t 121) (.k (.bool false))),Om 2 122]) .ret))))))⟩
theorem c45 : compileF Try.prog [] 45 = some cf45 := by kernel_rfl
def cf46 : CF := ⟨118,[.t 2],(.seq (.ops [Oo 1 (.bx (.t 0)),Ok 2 (.bool false)]) (.seq (.seq (.ops [Of 7 0 1,Ol 8 7,Oc 9 94 [.t 8],Oo 10 (.not (.t 9)),Om 11 10,⟨some 12,.fa 2 1 2 (.t 1),some (11,false)⟩,⟨some 13,.ld 1 false (.t 12),some (11,false)⟩,⟨some 14,.call 66 [.t 13,(.k (.int .i64 0)),(.k (.int .i64 1000000))],some (11,false)⟩,⟨some 15,.not (.t 14),some (11,false)⟩,Oo 16 (.pick (.t 11) (.k (.bool true)) (.t 15)),Om 17 16,⟨some 18,.fa 4 1 4 (.t 1),some (17,false)⟩,⟨some 19,.ld 1 false (.t 18),some (17,false)⟩,⟨some 20,.call 66 [.t 19,(.k (.int .i64 0)),(.k (.int .i64 1000000))],some (17,false)⟩,⟨some 21,.not (.t 20),some (17,false)⟩,Oo 22 (.pick (.t 17) (.k (.bool true)) (.t 21)),Om 23 22,⟨some 24,.fa 5 1 5 (.t 1),some (23,false)⟩,⟨some 25,.ld 1 false (.t 24),some (23,false)⟩,⟨some 26,.call 21 [.t 25],some (23,false)⟩,⟨some 27,.not (.t 26),some (23,false)⟩,Oo 28 (.pick (.t 23) (.k (.bool true)) (.t 27)),Om 29 28,⟨some 30,.fa 3 1 3 (.t 1),some (29,false)⟩,⟨some 31,.ld 1 false (.t 30),some (29,false)⟩,⟨some 32,.not (.t 31),some (29,false)⟩,⟨some 33,.mv (.t 32),some (29,false)⟩,⟨some 34,.fa 5 1 5 (.t 1),some (33,true)⟩,⟨some 35,.ld 1 false (.t 34),some (33,true)⟩,⟨some 36,.lenl (.t 35),some (33,true)⟩,⟨some 37,.bin .gtr (.t 36) (.k (.int .i64 0)),some (33,true)⟩,⟨some 38,.pick (.t 33) (.t 37) (.k (.bool false)),some (29,false)⟩,Oo 39 (.pick (.t 29) (.k (.bool true)) (.t 38)),Om 40 39,⟨some 41,.fa 6 1 6 (.t 1),some (40,false)⟩,⟨some 42,.ld 1 false (.t 41),some (40,false)⟩,⟨some 43,.fa 2 1 2 (.t 1),some (40,false)⟩,⟨some 44,.ld 1 false (.t 43),some (40,false)⟩,⟨some 45,.call 26 [.t 42,.t 44],some (40,false)⟩,⟨some 46,.not (.t 45),some (40,false)⟩,Oo 47 (.pick (.t 40) (.k (.bool true)) (.t 46)),Om 48 47,⟨some 49,.fa 7 1 7 (.t 1),some (48,false)⟩,⟨some 50,.ld 1 false (.t 49),some (48,false)⟩,⟨some 51,.fa 2 1 2 (.t 1),some (48,false)⟩,⟨some 52,.ld 1 false (.t 51),some (48,false)⟩,⟨some 53,.call 95 [.t 50,.t 52],some (48,false)⟩,⟨some 54,.not (.t 53),some (48,false)⟩,Oo 55 (.pick (.t 48) (.k (.bool true)) (.t 54)),Om 56 55,⟨some 57,.fa 8 1 8 (.t 1),some (56,false)⟩,⟨some 58,.ld 1 false (.t 57),some (56,false)⟩,⟨some 59,.fa 2 1 2 (.t 1),some (56,false)⟩,⟨some 60,.ld 1 false (.t 59),some (56,false)⟩,⟨some 61,.call 95 [.t 58,.t 60],some (56,false)⟩,⟨some 62,.not (.t 61),some (56,false)⟩,Oo 63 (.pick (.t 56) (.k (.bool true)) (.t 62))]) (.cond (.t 63) (.seq (.ops [Ok 2 (.bool false)]) .ret) .skip)) (.seq (.seq (.ops [Of 64 7 1,Ol 65 64,Og 66 65,Ok 67 (.int .i64 0)]) (.block 0 (.loop (.seq (.ops [Ob 68 .lss 67 66]) (.seq (.cond (.t 68) .skip (.exit 0)) (.seq (.block 1 (.seq (.ops [Ox 69 4 65 67,Od 70 4 69,Oo 4 (.al (.agg [.str ⟨#[]⟩,.str ⟨#[]⟩,.int .i64 0,.int .i64 0])),Os 4 4 70]) (.seq (.ops [Of 71 8 1,Ol 72 71,Of 73 0 4,Ol 74 73,Oc 75 96 [.t 72,.t 74],Oo 76 (.bin .geq (.t 75) (.k (.int .i64 0)))]) (.cond (.t 76) (.seq (.ops [Ok 2 (.bool false)]) .ret) .skip)))) (.ops [Oi 77 67,Om 67 77]))))))) (.seq (.seq (.ops [Of 78 1 1,Ol 79 78]) (.cond (.t 79) (.seq (.ops [Ok 2 (.bool true)]) .ret) .skip)) (.seq (.seq (.ops [Of 80 3 1,Ol 81 80,Om 82 81,⟨some 83,.fa 5 1 5 (.t 1),some (82,false)⟩,⟨some 84,.ld 1 false (.t 83),some (82,false)⟩,⟨some 85,.lenl (.t 84),some (82,false)⟩,⟨some 86,.fa 7 1 7 (.t 1),some (82,false)⟩,⟨some 87,.ld 1 false (.t 86),some (82,false)⟩,⟨some 88,.lenl (.t 87),some (82,false)⟩,⟨some 89,.bin .add (.t 85) (.t 88),some (82,false)⟩,⟨some 90,.fa 8 1 8 (.t 1),some (82,false)⟩,⟨some 91,.ld 1 false (.t 90),some (82,false)⟩,⟨some 92,.lenl (.t 91),some (82,false)⟩,⟨some 93,.bin .add (.t 89) (.t 92),some (82,false)⟩,⟨some 94,.bin .gtr (.t 93) (.k (.int .i64 0)),some (82,false)⟩,Oo 95 (.pick (.t 82) (.k (.bool true)) (.t 94)),Om 96 95,⟨some 97,.fa 4 1 4 (.t 1),some (96,false)⟩,⟨some 98,.ld 1 false (.t 97),some (96,false)⟩,⟨some 99,.bin .neq (.t 98) (.k (.int .i64 0)),some (96,false)⟩,Oo 100 (.pick (.t 96) (.k (.bool true)) (.t 99))]) (.cond (.t 100) (.seq (.ops [Ok 2 (.bool false)]) .ret) .skip)) (.seq (.seq (.ops [Of 101 6 1,Ol 102 101,Og 103 102,Ok 104 (.int .i64 0)]) (.block 2 (.loop (.seq (.ops [Ob 105 .lss 104 103]) (.seq (.cond (.t 105) .skip (.exit 2)) (.seq (.block 3 (.seq (.ops [Ox 106 11 102 104,Od 107 11 106,Oo 6 (.al (.agg [.agg [.str ⟨#[]⟩,.int .i64 0,.str ⟨#[]⟩,.int .i64 0,.int .i64 0,.int .i64 0,.int .i64 0],.int .i64 0,.int .i64 0,.int .i64 0,.int .i64 0])),Os 11 6 107]) (.seq (.ops [Od 108 11 6,Oc 109 17 [.t 108],Oo 110 (.not (.t 109)),Om 111 110,⟨some 112,.fa 0 7 0 (.t 6),some (111,true)⟩,⟨some 113,.fa 2 1 2 (.t 112),some (111,true)⟩,⟨some 114,.ld 1 false (.t 113),some (111,true)⟩,⟨some 115,.bin .eql (.t 114) (.k (.str ⟨#[]⟩)),some (111,true)⟩,Oo 116 (.pick (.t 111) (.t 115) (.k (.bool false)))]) (.cond (.t 116) (.seq (.ops [Ok 2 (.bool false)]) .ret) .skip)))) (.ops [Oi 117 104,Om 104 117]))))))) (.seq (.ops [Ok 2 (.bool true)]) .ret)))))))⟩
theorem c46 : compileF Try.prog [] 46 = some cf46 := by kernel_rfl
def c1 (m : Mate) : Bool := !nameOk m.fName || !inR m.fClock 0 1000000 || !inR m.fSeen 0 1000000 || !wantsOk m.fWants || (!m.fKnown && decide ((m.fWants.length : Int) > 0)) || !runsOk m.fRuns m.fClock || !asksOk m.fAsks m.fClock || !asksOk m.fGives m.fClock
def gF (m : Mate) (i : Nat) : Bool := !decide (askI m.fGives (m.fAsks.getD i default).fHold ≥ 0)
def rF (m : Mate) (i : Nat) : Bool := !(!alive (m.fRuns.getD i default) && ((m.fRuns.getD i default).fWant.fHold.toList == (ByteArray.mk #[]).toList))
def fin (m : Mate) : Bool := !m.fKnown && m.fSeen == 0 && decide (m.fAsks.length = 0) && decide (m.fGives.length = 0)
def validM (m : Mate) : Bool := !c1 m && (allN (gF m) m.fAsks.length 0 && (m.fUp || (allN (rF m) m.fRuns.length 0 && fin m)))
theorem c1_facts {m : Mate} (h : c1 m = false) : m.fWants.length ≤ 10 ∧ m.fAsks.length ≤ 40 ∧ m.fGives.length ≤ 40 ∧ m.fRuns.length ≤ 20 ∧ (m.fKnown = false → m.fWants.length = 0) := by
 simp only [c1, Bool.or_eq_false_iff, Bool.not_eq_false'] at h
 obtain ⟨⟨⟨⟨⟨⟨⟨_, _⟩, _⟩, h1⟩, h2⟩, h3⟩, h4⟩, h5⟩ := h
 simp only [wantsOk, runsOk, asksOk, Bool.and_eq_true, Bool.not_eq_true', decide_eq_false_iff_not] at h1 h3 h4 h5
 refine ⟨by omega, by omega, by omega, by omega, fun hk => ?_⟩
 by_cases h0 : m.fWants.length = 0
 ·exact h0
 ·have h6 : (m.fWants.length : Int) > 0 := by omega
  rw [hk, decide_eq_true h6] at h2
  cases h2
theorem impl_MateValid (m : Mate) : Rdr Try.prog 46 [m.D] (.bool (validM m)) := by
 refine Rdr.intro' hm c46 (Nat.le_of_ble_eq_true rfl) ?_
 conv => whnf
 repeat' (first | (refine g_op ?_; conv => whnf) | (refine And.intro ?_ ?_; (focus exact au0); conv => whnf) | (refine g_seq ?_) | (refine g_ops ?_) | ((first | refine g_nil ?_ | refine fun _ => ?_); conv => whnf) | fail)
 refine XS.freezeB 1 rfl ?_
 repeat' (first | (refine z_ld1 ?_; first | (refine z_ld rfl rfl rfl rfl au1 au2 ?_; conv => whnf) | (refine z_ld0 rfl ?_; conv => whnf)) | (refine z_ld1g ?_; first | (refine z_ldg rfl rfl rfl rfl rfl rfl rfl (by (repeat intro _); exact ⟨au1, au2⟩) rfl rfl rfl rfl ?_; conv => whnf) | (refine z_ld0g ?_; (conv => whnf); refine And.intro ?_ ?_; (focus exact rfl); conv => whnf)) | (refine z_op ?_ ?_; (focus exact rfl); conv => whnf) | (refine z_opg0 ?_; (conv => whnf); refine And.intro ?_ ?_; (focus exact rfl); conv => whnf) | (refine z_pick ?_ ?_; (focus exact rfl); conv => whnf) | (refine z_pickg ?_; (conv => whnf); refine And.intro ?_ ?_; (focus exact rfl); conv => whnf) | (refine zs_ops ?_ ?_; (focus exact rfl)) | (refine z_nil fun vals => ?_; conv => whnf) | (refine z_call ?_ ?_; (focus exact rfl)) | (refine z_callg0 ?_; (conv => whnf); refine And.intro ?_ ?_; (focus exact rfl)) | (refine RC.of (impl_mName _) ?_ ?_; (focus exact rfl); conv => whnf) | (refine RC.of (impl_within _ _ _) ?_ ?_; (focus exact rfl); conv => whnf) | (refine RC.of (impl_WantsOk _) ?_ ?_; (focus exact rfl); conv => whnf) | (refine RC.of (impl_RunsOk _ _) ?_ ?_; (focus exact rfl); conv => whnf) | (refine RC.of (impl_AsksOk _ _) ?_ ?_; (focus exact rfl); conv => whnf) | (refine And.intro ?_ ?_; (focus exact au0); conv => whnf) | (refine g_seq ?_) | (refine XS.go ?_) | (refine g_cond ?_; conv => whnf) | fail)
 simp only [mlen']
 refine Br.mk (fun hb => ?_) (fun hb => ?_)
 ·have hc : c1 m = true := by rw [← hb]; rfl
  conv => whnf
  repeat' (first | (refine g_op ?_; conv => whnf) | (refine And.intro ?_ ?_; (focus exact au0); conv => whnf) | (refine g_seq ?_) | (refine XS.go ?_) | (refine g_ops ?_) | ((first | refine g_nil ?_ | refine g_ret ?_ | refine r_t ?_ | refine r_nil ?_); conv => whnf) | fail)
  (conv => lhs; whnf)
  rw [validM, hc]
  rfl
 have hc : c1 m = false := by rw [← hb]; rfl
 have hv : validM m = (allN (gF m) m.fAsks.length 0 && (m.fUp || (allN (rF m) m.fRuns.length 0 && fin m))) := by rw [validM, hc]; rfl
 obtain ⟨hW, hA, hG, hR, hk⟩ := c1_facts hc
 have hfin : (m.fKnown || decide (IntKind.wrap .i64 (IntKind.wrap .i64 ((m.fWants.length : Int) + (m.fAsks.length : Int)) + (m.fGives.length : Int)) > 0) || m.fSeen != 0) = !fin m := by
  rw [wrap_ok (n := (m.fWants.length : Int) + (m.fAsks.length : Int)) (by omega) (by omega), wrap_ok (by omega) (by omega)]
  unfold fin
  cases hkn : m.fKnown with
  | true => rfl
  | false =>
   have h0 := hk hkn
   rw [h0]
   generalize m.fAsks.length = A at *
   generalize m.fGives.length = G at *
   by_cases h1 : A = 0 <;> by_cases h2 : G = 0 <;> by_cases h3 : m.fSeen = 0 <;> simp [h1, h2, h3] <;> first | omega | rfl
 clear hb hc hk
 conv => whnf
 repeat' (first | (refine z_ld1 ?_; first | (refine z_ld rfl rfl rfl rfl au1 au2 ?_; conv => whnf) | (refine z_ld0 rfl ?_; conv => whnf)) | (refine z_op ?_ ?_; (focus exact rfl); conv => whnf) | (refine zs_ops ?_ ?_; (focus exact rfl)) | (refine z_nil fun vals => ?_; conv => whnf) | (refine And.intro ?_ ?_; (focus exact au0); conv => whnf) | (refine g_seq ?_) | (refine XS.go ?_) | (refine g_loop ?_) | (refine g_skip ?_; conv => whnf) | (refine g_block ?_) | fail)
 refine XLc.mkL (α := Nat) (fun i => i ≤ m.fAsks.length ∧ validM m = (allN (gF m) (m.fAsks.length - i) i && (m.fUp || (allN (rF m) m.fRuns.length 0 && fin m)))) (fun i => m.fAsks.length - i) (fun i gs => [.any, .cref m.D, .any, .any, .any, .any, .any, .any, .any, .any, .any, .any, .any, .any, .any, .any, .any, .any, .any, .any, .any, .any, .any, .any, .any, .any, .any, .any, .any, .any, .any, .any, .any, .any, .any, .any, .any, .any, .any, .any, .any, .any, .any, .any, .any, .any, .any, .any, .any, .any, .any, .any, .any, .any, .any, .any, .any, .any, .any, .any, .any, .any, .any, .any, .any, .ro 4 (m.fAsks.map MateAsk.D), .int .i64 ((m.fAsks.map MateAsk.D).length : Int), .int .i64 (i : Int)]) (fun i gs => []) 0 ⟨Nat.zero_le _, hv⟩ ?_ ?_
 ·refine ⟨?_, ?_⟩
  ·repeat' (first | exact True.intro | refine And.intro rfl ?_)
  ·repeat' (first | exact True.intro | refine And.intro rfl ?_)
 intro i gs hI
 obtain ⟨hi, hN⟩ := hI
 repeat' (first | (refine g_op ?_; conv => whnf) | (refine And.intro ?_ ?_; (focus exact au0); conv => whnf) | (refine g_seq ?_) | (refine XS.go ?_) | (refine g_ops ?_) | ((first | refine g_nil ?_ | refine g_cond ?_); conv => whnf) | fail)
 refine Br.mk (fun hb => ?_) (fun hb => ?_)
 ·have hlt : i < m.fAsks.length := by simpa using hb
  have hw : IntKind.wrap .i64 ((i : Int) + 1) = ((i + 1 : Nat) : Int) := by rw [wrap_ok (by omega) (by omega)]; rfl
  have hw1 : IntKind.wrap .i64 ((i : Int) - 1) = (i : Int) - 1 := wrap_ok (by omega) (by omega)
  have hbad := fun h => allN_bad (f := gF m) hlt hN h
  have hgood := fun h => allN_good (f := gF m) hlt hN h
  clear hN hb
  all_goals conv => whnf
  repeat' (first | (refine z_ld1 ?_; first | (refine z_ld rfl rfl rfl rfl au1 au2 ?_; conv => whnf) | (refine z_ld0 rfl ?_; conv => whnf)) | (refine z_st1 ?_; first | (refine z_st rfl rfl rfl au1 au2 rfl rfl ?_; conv => whnf) | (refine z_st0 ?_; conv => whnf)) | (refine z_ix1 ?_; first | (refine z_ix rfl rfl rfl rfl rfl ⟨by first | omega | (simp only [decide_eq_true_eq, Bool.not_eq_true', Bool.or_eq_false_iff, decide_eq_false_iff_not, Bool.and_eq_true, Bool.not_eq_false'] at *; omega), by first | omega | (simp only [decide_eq_true_eq, Bool.not_eq_true', Bool.or_eq_false_iff, decide_eq_false_iff_not, Bool.and_eq_true, Bool.not_eq_false'] at *; omega)⟩ ?_; conv => whnf) | (refine z_ix0 rfl rfl ?_; conv => whnf)) | (refine z_op ?_ ?_; (focus exact rfl); conv => whnf) | (refine zs_ops ?_ ?_; (focus exact rfl)) | (refine z_nil fun vals => ?_; conv => whnf) | (refine z_call ?_ ?_; (focus exact rfl)) | (refine z_eff ?_; conv => whnf) | (refine RC.of (impl_AskAt m.fGives _ (by omega)) ?_ ?_; (focus exact rfl); conv => whnf) | (refine g_op ?_; conv => whnf) | (refine And.intro ?_ ?_; (focus exact au0); conv => whnf) | (refine g_seq ?_) | (refine XS.go ?_) | (refine g_ops ?_) | ((first | refine g_nil ?_ | refine g_cond ?_ | refine g_skip ?_ | refine g_ret ?_); conv => whnf) | (refine g_block ?_) | ((first | refine r_t ?_ | refine r_nil ?_ | refine fun _ => ?_); conv => whnf) | (refine Br.mk (fun hb => ?_) (fun hb => ?_) <;> conv => whnf) | fail)
  all_goals
   first
   |(refine ⟨(), hbad ?_, ⟨?_, True.intro⟩⟩
     ·clear hbad hgood hw hfin hv
      first | (first | (refine (Bool.eq_false_iff.mpr fun h => ?_).symm; simp_all [gF]; done) | (refine Bool.eq_false_iff.mpr fun h => ?_; simp_all [gF]; done) | (simp_all [gF]; done) | (simp_all [gF]; omega) | (refine (Bool.eq_false_iff.mpr fun h => ?_).symm; simp_all [gF]; omega) | (refine Bool.eq_false_iff.mpr fun h => ?_; simp_all [gF]; omega) | (rw [Bool.eq_iff_iff]; constructor <;> intro h <;> simp_all [gF] <;> omega) | fail) | (rcases Nat.eq_zero_or_pos i with h0 | h0 <;> simp_all [gF] <;> omega) | (fail) | fail
     ·repeat' (first | exact True.intro | refine And.intro rfl ?_))
   |(conv => lhs; whnf
     refine congrArg D.bool (hbad ?_)
     clear hbad hgood hw hfin hv
     first | (first | (refine (Bool.eq_false_iff.mpr fun h => ?_).symm; simp_all [gF]; done) | (refine Bool.eq_false_iff.mpr fun h => ?_; simp_all [gF]; done) | (simp_all [gF]; done) | (simp_all [gF]; omega) | (refine (Bool.eq_false_iff.mpr fun h => ?_).symm; simp_all [gF]; omega) | (refine Bool.eq_false_iff.mpr fun h => ?_; simp_all [gF]; omega) | (rw [Bool.eq_iff_iff]; constructor <;> intro h <;> simp_all [gF] <;> omega) | fail) | (rcases Nat.eq_zero_or_pos i with h0 | h0 <;> simp_all [gF] <;> omega) | (fail) | fail)
   |(refine ⟨i + 1, ⟨by omega, ?_⟩, by omega, ?_, ?_⟩
     ·refine hgood ?_
      clear hbad hgood hw hfin hv
      first | (first | (refine (Bool.eq_false_iff.mpr fun h => ?_).symm; simp_all [gF]; done) | (refine Bool.eq_false_iff.mpr fun h => ?_; simp_all [gF]; done) | (simp_all [gF]; done) | (simp_all [gF]; omega) | (refine (Bool.eq_false_iff.mpr fun h => ?_).symm; simp_all [gF]; omega) | (refine Bool.eq_false_iff.mpr fun h => ?_; simp_all [gF]; omega) | (rw [Bool.eq_iff_iff]; constructor <;> intro h <;> simp_all [gF] <;> omega) | fail) | (rcases Nat.eq_zero_or_pos i with h0 | h0 <;> simp_all [gF] <;> omega) | (fail) | fail
     ·repeat' (first | exact True.intro | refine And.intro (congrArg (D.int .i64) hw) ?_ | refine And.intro rfl ?_)
     ·repeat' (first | exact True.intro | refine And.intro rfl ?_))
 have hge : ¬ i < m.fAsks.length := by simpa using hb
 have hend : validM m = (m.fUp || (allN (rF m) m.fRuns.length 0 && fin m)) := by rw [hN, allN_end hge, Bool.true_and]
 clear hN
 conv => whnf
 repeat' (first | (refine z_ld1 ?_; first | (refine z_ld rfl rfl rfl rfl au1 au2 ?_; conv => whnf) | (refine z_ld0 rfl ?_; conv => whnf)) | (refine z_op ?_ ?_; (focus exact rfl); conv => whnf) | (refine zs_ops ?_ ?_; (focus exact rfl)) | (refine z_nil fun vals => ?_; conv => whnf) | (refine And.intro ?_ ?_; (focus exact au0); conv => whnf) | (refine g_seq ?_) | (refine XS.go ?_) | ((first | refine g_cond ?_ | refine g_exit ?_); conv => whnf) | fail)
 refine Br.mk (fun hu => ?_) (fun hu => ?_)
 ·conv => whnf
  repeat' (first | (refine g_op ?_; conv => whnf) | (refine And.intro ?_ ?_; (focus exact au0); conv => whnf) | (refine g_seq ?_) | (refine XS.go ?_) | (refine g_ops ?_) | ((first | refine g_nil ?_ | refine g_ret ?_ | refine r_t ?_ | refine r_nil ?_); conv => whnf) | fail)
  (conv => lhs; whnf)
  rw [hend, hu]
  rfl
 have hend2 : validM m = (allN (rF m) m.fRuns.length 0 && fin m) := by rw [hend, hu]; rfl
 clear hend hv
 conv => whnf
 repeat' (first | (refine z_ld1 ?_; first | (refine z_ld rfl rfl rfl rfl au1 au2 ?_; conv => whnf) | (refine z_ld0 rfl ?_; conv => whnf)) | (refine z_ld1g ?_; first | (refine z_ldg rfl rfl rfl rfl rfl rfl rfl (by (repeat intro _); exact ⟨au1, au2⟩) rfl rfl rfl rfl ?_; conv => whnf) | (refine z_ld0g ?_; (conv => whnf); refine And.intro ?_ ?_; (focus exact rfl); conv => whnf)) | (refine z_op ?_ ?_; (focus exact rfl); conv => whnf) | (refine z_opg0 ?_; (conv => whnf); refine And.intro ?_ ?_; (focus exact rfl); conv => whnf) | (refine z_pick ?_ ?_; (focus exact rfl); conv => whnf) | (refine zs_ops ?_ ?_; (focus exact rfl)) | (refine z_nil fun vals => ?_; conv => whnf) | (refine And.intro ?_ ?_; (focus exact au0); conv => whnf) | (refine g_seq ?_) | (refine XS.go ?_) | ((first | refine g_cond ?_ | refine g_skip ?_); conv => whnf) | fail)
 simp only [mlen']
 rw [hfin]
 refine Br.mk (fun hf => ?_) (fun hf => ?_)
 ·conv => whnf
  repeat' (first | (refine g_op ?_; conv => whnf) | (refine And.intro ?_ ?_; (focus exact au0); conv => whnf) | (refine g_seq ?_) | (refine XS.go ?_) | (refine g_ops ?_) | ((first | refine g_nil ?_ | refine g_ret ?_ | refine r_t ?_ | refine r_nil ?_); conv => whnf) | fail)
  (conv => lhs; whnf)
  have hf' : fin m = false := by simpa using hf
  rw [hend2, hf', Bool.and_false]
 have hend3 : validM m = (allN (rF m) m.fRuns.length 0 && true) := by
  have hf' : fin m = true := by simpa using hf
  rw [hend2, hf']
 clear hend2 hf hfin
 conv => whnf
 repeat' (first | (refine z_ld1 ?_; first | (refine z_ld rfl rfl rfl rfl au1 au2 ?_; conv => whnf) | (refine z_ld0 rfl ?_; conv => whnf)) | (refine z_op ?_ ?_; (focus exact rfl); conv => whnf) | (refine zs_ops ?_ ?_; (focus exact rfl)) | (refine z_nil fun vals => ?_; conv => whnf) | (refine And.intro ?_ ?_; (focus exact au0); conv => whnf) | (refine g_seq ?_) | (refine XS.go ?_) | (refine g_loop ?_) | (refine g_skip ?_; conv => whnf) | (refine g_block ?_) | fail)
 refine XLc.mkL (α := Nat) (fun i => i ≤ m.fRuns.length ∧ validM m = (allN (rF m) (m.fRuns.length - i) i && true)) (fun i => m.fRuns.length - i) (fun i gs => [.any, .any, .any, .any, .any, .any, .any, .any, .any, .any, .any, .any, .any, .any, .any, .any, .any, .any, .any, .any, .any, .any, .any, .any, .any, .any, .any, .any, .any, .any, .any, .any, .any, .any, .any, .any, .any, .any, .any, .any, .any, .any, .any, .any, .any, .any, .any, .any, .any, .any, .any, .any, .any, .any, .any, .any, .any, .any, .any, .any, .any, .any, .any, .any, .any, .any, .any, .any, .any, .any, .any, .any, .any, .any, .any, .any, .any, .any, .any, .any, .any, .any, .any, .any, .any, .any, .any, .any, .any, .any, .any, .any, .any, .any, .any, .any, .any, .any, .any, .any, .any, .any, .ro 11 (m.fRuns.map MateRun.D), .int .i64 ((m.fRuns.map MateRun.D).length : Int), .int .i64 (i : Int)]) (fun i gs => []) 0 ⟨Nat.zero_le _, hend3⟩ ?_ ?_
 ·refine ⟨?_, ?_⟩
  ·repeat' (first | exact True.intro | refine And.intro rfl ?_)
  ·repeat' (first | exact True.intro | refine And.intro rfl ?_)
 intro i gs hI
 obtain ⟨hi, hN⟩ := hI
 repeat' (first | (refine g_op ?_; conv => whnf) | (refine And.intro ?_ ?_; (focus exact au0); conv => whnf) | (refine g_seq ?_) | (refine XS.go ?_) | (refine g_ops ?_) | ((first | refine g_nil ?_ | refine g_cond ?_); conv => whnf) | fail)
 refine Br.mk (fun hb => ?_) (fun hb => ?_)
 ·have hlt : i < m.fRuns.length := by simpa using hb
  have hw : IntKind.wrap .i64 ((i : Int) + 1) = ((i + 1 : Nat) : Int) := by rw [wrap_ok (by omega) (by omega)]; rfl
  have hw1 : IntKind.wrap .i64 ((i : Int) - 1) = (i : Int) - 1 := wrap_ok (by omega) (by omega)
  have hbad := fun h => allN_bad (f := rF m) hlt hN h
  have hgood := fun h => allN_good (f := rF m) hlt hN h
  clear hN hb
  all_goals conv => whnf
  repeat' (first | (refine z_ld1 ?_; first | (refine z_ld rfl rfl rfl rfl au1 au2 ?_; conv => whnf) | (refine z_ld0 rfl ?_; conv => whnf)) | (refine z_ld1g ?_; first | (refine z_ldg rfl rfl rfl rfl rfl rfl rfl (by (repeat intro _); exact ⟨au1, au2⟩) rfl rfl rfl rfl ?_; conv => whnf) | (refine z_ld0g ?_; (conv => whnf); refine And.intro ?_ ?_; (focus exact rfl); conv => whnf)) | (refine z_st1 ?_; first | (refine z_st rfl rfl rfl au1 au2 rfl rfl ?_; conv => whnf) | (refine z_st0 ?_; conv => whnf)) | (refine z_ix1 ?_; first | (refine z_ix rfl rfl rfl rfl rfl ⟨by first | omega | (simp only [decide_eq_true_eq, Bool.not_eq_true', Bool.or_eq_false_iff, decide_eq_false_iff_not, Bool.and_eq_true, Bool.not_eq_false'] at *; omega), by first | omega | (simp only [decide_eq_true_eq, Bool.not_eq_true', Bool.or_eq_false_iff, decide_eq_false_iff_not, Bool.and_eq_true, Bool.not_eq_false'] at *; omega)⟩ ?_; conv => whnf) | (refine z_ix0 rfl rfl ?_; conv => whnf)) | (refine z_op ?_ ?_; (focus exact rfl); conv => whnf) | (refine z_opg0 ?_; (conv => whnf); refine And.intro ?_ ?_; (focus exact rfl); conv => whnf) | (refine z_pick ?_ ?_; (focus exact rfl); conv => whnf) | (refine zs_ops ?_ ?_; (focus exact rfl)) | (refine z_nil fun vals => ?_; conv => whnf) | (refine z_call ?_ ?_; (focus exact rfl)) | (refine z_eff ?_; conv => whnf) | (refine RC.of (impl_Alive _) ?_ ?_; (focus exact rfl); conv => whnf) | (refine g_op ?_; conv => whnf) | (refine And.intro ?_ ?_; (focus exact au0); conv => whnf) | (refine g_seq ?_) | (refine XS.go ?_) | (refine g_ops ?_) | ((first | refine g_nil ?_ | refine g_cond ?_ | refine g_skip ?_ | refine g_ret ?_); conv => whnf) | (refine g_block ?_) | ((first | refine r_t ?_ | refine r_nil ?_ | refine fun _ => ?_); conv => whnf) | (refine Br.mk (fun hb => ?_) (fun hb => ?_) <;> conv => whnf) | fail)
  all_goals
   first
   |(refine ⟨(), hbad ?_, ⟨?_, True.intro⟩⟩
     ·clear hbad hgood hw hend3
      first | (first | (refine (Bool.eq_false_iff.mpr fun h => ?_).symm; simp_all [rF]; done) | (refine Bool.eq_false_iff.mpr fun h => ?_; simp_all [rF]; done) | (simp_all [rF]; done) | (simp_all [rF]; omega) | (refine (Bool.eq_false_iff.mpr fun h => ?_).symm; simp_all [rF]; omega) | (refine Bool.eq_false_iff.mpr fun h => ?_; simp_all [rF]; omega) | (rw [Bool.eq_iff_iff]; constructor <;> intro h <;> simp_all [rF] <;> omega) | fail) | (rcases Nat.eq_zero_or_pos i with h0 | h0 <;> simp_all [rF] <;> omega) | (cases ha : alive (m.fRuns.getD i default) <;> by_cases hq : (m.fRuns.getD i default).fWant.fHold.toList = [] <;> first | (simp_all [rF]; done) | (refine Bool.eq_false_iff.mpr fun h => ?_; simp_all [rF]; done) | fail) | fail
     ·repeat' (first | exact True.intro | refine And.intro rfl ?_))
   |(conv => lhs; whnf
     refine congrArg D.bool (hbad ?_)
     clear hbad hgood hw hend3
     first | (first | (refine (Bool.eq_false_iff.mpr fun h => ?_).symm; simp_all [rF]; done) | (refine Bool.eq_false_iff.mpr fun h => ?_; simp_all [rF]; done) | (simp_all [rF]; done) | (simp_all [rF]; omega) | (refine (Bool.eq_false_iff.mpr fun h => ?_).symm; simp_all [rF]; omega) | (refine Bool.eq_false_iff.mpr fun h => ?_; simp_all [rF]; omega) | (rw [Bool.eq_iff_iff]; constructor <;> intro h <;> simp_all [rF] <;> omega) | fail) | (rcases Nat.eq_zero_or_pos i with h0 | h0 <;> simp_all [rF] <;> omega) | (cases ha : alive (m.fRuns.getD i default) <;> by_cases hq : (m.fRuns.getD i default).fWant.fHold.toList = [] <;> first | (simp_all [rF]; done) | (refine Bool.eq_false_iff.mpr fun h => ?_; simp_all [rF]; done) | fail) | fail)
   |(refine ⟨i + 1, ⟨by omega, ?_⟩, by omega, ?_, ?_⟩
     ·refine hgood ?_
      clear hbad hgood hw hend3
      first | (first | (refine (Bool.eq_false_iff.mpr fun h => ?_).symm; simp_all [rF]; done) | (refine Bool.eq_false_iff.mpr fun h => ?_; simp_all [rF]; done) | (simp_all [rF]; done) | (simp_all [rF]; omega) | (refine (Bool.eq_false_iff.mpr fun h => ?_).symm; simp_all [rF]; omega) | (refine Bool.eq_false_iff.mpr fun h => ?_; simp_all [rF]; omega) | (rw [Bool.eq_iff_iff]; constructor <;> intro h <;> simp_all [rF] <;> omega) | fail) | (rcases Nat.eq_zero_or_pos i with h0 | h0 <;> simp_all [rF] <;> omega) | (cases ha : alive (m.fRuns.getD i default) <;> by_cases hq : (m.fRuns.getD i default).fWant.fHold.toList = [] <;> first | (simp_all [rF]; done) | (refine Bool.eq_false_iff.mpr fun h => ?_; simp_all [rF]; done) | fail) | fail
     ·repeat' (first | exact True.intro | refine And.intro (congrArg (D.int .i64) hw) ?_ | refine And.intro rfl ?_)
     ·repeat' (first | exact True.intro | refine And.intro rfl ?_))
 have hge : ¬ i < m.fRuns.length := by simpa using hb
 have hend : validM m = true := by rw [hN, allN_end hge, Bool.true_and]
 clear hN
 conv => whnf
 repeat' (first | (refine g_op ?_; conv => whnf) | (refine And.intro ?_ ?_; (focus exact au0); conv => whnf) | (refine g_seq ?_) | (refine XS.go ?_) | (refine g_ops ?_) | ((first | refine g_nil ?_ | refine g_ret ?_ | refine g_exit ?_ | refine r_t ?_ | refine r_nil ?_); conv => whnf) | fail)
 (conv => lhs; whnf)
 rw [hend]
theorem spec_MateValid (m : Mate) : Rdr Try.prog 45 [m.D] (.bool (validM m)) := by
 refine Rdr.intro' hm c45 (Nat.le_of_ble_eq_true rfl) ?_
 conv => whnf
 repeat' (first | (refine g_op ?_; conv => whnf) | (refine And.intro ?_ ?_; (focus exact au0); conv => whnf) | (refine g_seq ?_) | (refine g_ops ?_) | ((first | refine g_nil ?_ | refine fun _ => ?_); conv => whnf) | fail)
 refine XS.freezeB 1 rfl ?_
 repeat' (first | (refine z_ld1 ?_; first | (refine z_ld rfl rfl rfl rfl au1 au2 ?_; conv => whnf) | (refine z_ld0 rfl ?_; conv => whnf)) | (refine z_ld1g ?_; first | (refine z_ldg rfl rfl rfl rfl rfl rfl rfl (by (repeat intro _); exact ⟨au1, au2⟩) rfl rfl rfl rfl ?_; conv => whnf) | (refine z_ld0g ?_; (conv => whnf); refine And.intro ?_ ?_; (focus exact rfl); conv => whnf)) | (refine z_op ?_ ?_; (focus exact rfl); conv => whnf) | (refine z_opg0 ?_; (conv => whnf); refine And.intro ?_ ?_; (focus exact rfl); conv => whnf) | (refine z_pick ?_ ?_; (focus exact rfl); conv => whnf) | (refine z_pickg ?_; (conv => whnf); refine And.intro ?_ ?_; (focus exact rfl); conv => whnf) | (refine zs_ops ?_ ?_; (focus exact rfl)) | (refine z_nil fun vals => ?_; conv => whnf) | (refine z_call ?_ ?_; (focus exact rfl)) | (refine z_callg0 ?_; (conv => whnf); refine And.intro ?_ ?_; (focus exact rfl)) | (refine RC.of (spec_NameOk _) ?_ ?_; (focus exact rfl); conv => whnf) | (refine RC.of (spec_In _ _ _) ?_ ?_; (focus exact rfl); conv => whnf) | (refine RC.of (spec_WantsOk _) ?_ ?_; (focus exact rfl); conv => whnf) | (refine RC.of (spec_RunsOk _ _) ?_ ?_; (focus exact rfl); conv => whnf) | (refine RC.of (spec_AsksOk _ _) ?_ ?_; (focus exact rfl); conv => whnf) | (refine And.intro ?_ ?_; (focus exact au0); conv => whnf) | (refine g_seq ?_) | (refine XS.go ?_) | (refine g_cond ?_; conv => whnf) | fail)
 simp only [mlen']
 refine Br.mk (fun hb => ?_) (fun hb => ?_)
 ·have hc : c1 m = true := by rw [← hb]; unfold c1; rw [Bool.and_comm (!m.fKnown)]
  conv => whnf
  repeat' (first | (refine g_op ?_; conv => whnf) | (refine And.intro ?_ ?_; (focus exact au0); conv => whnf) | (refine g_seq ?_) | (refine XS.go ?_) | (refine g_ops ?_) | ((first | refine g_nil ?_ | refine g_ret ?_ | refine r_t ?_ | refine r_nil ?_); conv => whnf) | fail)
  (conv => lhs; whnf)
  rw [validM, hc]
  rfl
 have hc : c1 m = false := by rw [← hb]; unfold c1; rw [Bool.and_comm (!m.fKnown)]
 have hv : validM m = (allN (gF m) m.fAsks.length 0 && (m.fUp || (allN (rF m) m.fRuns.length 0 && fin m))) := by rw [validM, hc]; rfl
 obtain ⟨hW, hA, hG, hR, hk⟩ := c1_facts hc
 have hfin : (!m.fKnown && m.fSeen == 0 && IntKind.wrap .i64 ((m.fAsks.length : Int) + (m.fGives.length : Int)) == 0) = fin m := by
  rw [wrap_ok (by omega) (by omega)]
  unfold fin
  generalize m.fAsks.length = A at *
  generalize m.fGives.length = G at *
  cases m.fKnown <;> by_cases h1 : A = 0 <;> by_cases h2 : G = 0 <;> by_cases h3 : m.fSeen = 0 <;> simp [h1, h2, h3] <;> omega
 clear hb hc hk
 conv => whnf
 repeat' (first | (refine g_op ?_; conv => whnf) | (refine And.intro ?_ ?_; (focus exact au0); conv => whnf) | (refine g_seq ?_) | (refine XS.go ?_) | (refine g_ops ?_) | (refine g_loop ?_) | ((first | refine g_nil ?_ | refine g_skip ?_); conv => whnf) | (refine g_block ?_) | fail)
 refine XLc.mkL (α := Nat) (fun i => i ≤ m.fAsks.length ∧ validM m = (allN (gF m) (m.fAsks.length - i) i && (m.fUp || (allN (rF m) m.fRuns.length 0 && fin m)))) (fun i => m.fAsks.length - i) (fun i gs => [.any, .cref m.D, .any, .int .i64 (i : Int)]) (fun i gs => []) 0 ⟨Nat.zero_le _, hv⟩ ?_ ?_
 ·refine ⟨?_, ?_⟩
  ·repeat' (first | exact True.intro | refine And.intro rfl ?_)
  ·repeat' (first | exact True.intro | refine And.intro rfl ?_)
 intro i gs hI
 obtain ⟨hi, hN⟩ := hI
 repeat' (first | (refine z_ld1 ?_; first | (refine z_ld rfl rfl rfl rfl au1 au2 ?_; conv => whnf) | (refine z_ld0 rfl ?_; conv => whnf)) | (refine z_op ?_ ?_; (focus exact rfl); conv => whnf) | (refine zs_ops ?_ ?_; (focus exact rfl)) | (refine z_nil fun vals => ?_; conv => whnf) | (refine And.intro ?_ ?_; (focus exact au0); conv => whnf) | (refine g_seq ?_) | (refine XS.go ?_) | (refine g_cond ?_; conv => whnf) | fail)
 refine Br.mk (fun hb => ?_) (fun hb => ?_)
 ·have hlt : i < m.fAsks.length := by simpa using hb
  have hw : IntKind.wrap .i64 ((i : Int) + 1) = ((i + 1 : Nat) : Int) := by rw [wrap_ok (by omega) (by omega)]; rfl
  have hw1 : IntKind.wrap .i64 ((i : Int) - 1) = (i : Int) - 1 := wrap_ok (by omega) (by omega)
  have hbad := fun h => allN_bad (f := gF m) hlt hN h
  have hgood := fun h => allN_good (f := gF m) hlt hN h
  clear hN hb
  all_goals conv => whnf
  repeat' (first | (refine z_ld1 ?_; first | (refine z_ld rfl rfl rfl rfl au1 au2 ?_; conv => whnf) | (refine z_ld0 rfl ?_; conv => whnf)) | (refine z_ix1 ?_; first | (refine z_ix rfl rfl rfl rfl rfl ⟨by first | omega | (simp only [decide_eq_true_eq, Bool.not_eq_true', Bool.or_eq_false_iff, decide_eq_false_iff_not, Bool.and_eq_true, Bool.not_eq_false'] at *; omega), by first | omega | (simp only [decide_eq_true_eq, Bool.not_eq_true', Bool.or_eq_false_iff, decide_eq_false_iff_not, Bool.and_eq_true, Bool.not_eq_false'] at *; omega)⟩ ?_; conv => whnf) | (refine z_ix0 rfl rfl ?_; conv => whnf)) | (refine z_op ?_ ?_; (focus exact rfl); conv => whnf) | (refine zs_quiet ?_ ?_; (focus exact rfl)) | (refine z_nil fun vals => ?_; conv => whnf) | (refine z_call ?_ ?_; (focus exact rfl)) | (refine RC.of (spec_Ask m.fGives _ (by omega)) ?_ ?_; (focus exact rfl); conv => whnf) | (refine g_op ?_; conv => whnf) | (refine And.intro ?_ ?_; (focus exact au0); conv => whnf) | (refine g_seq ?_) | (refine XS.go ?_) | (refine g_ops ?_) | ((first | refine g_nil ?_ | refine g_cond ?_ | refine g_skip ?_ | refine g_ret ?_); conv => whnf) | (refine g_block ?_) | ((first | refine r_t ?_ | refine r_nil ?_); conv => whnf) | (refine Br.mk (fun hb => ?_) (fun hb => ?_) <;> conv => whnf) | fail)
  all_goals
   first
   |(refine ⟨(), hbad ?_, ⟨?_, True.intro⟩⟩
     ·clear hbad hgood hw hfin hv
      first | (first | (refine (Bool.eq_false_iff.mpr fun h => ?_).symm; simp_all [gF]; done) | (refine Bool.eq_false_iff.mpr fun h => ?_; simp_all [gF]; done) | (simp_all [gF]; done) | (simp_all [gF]; omega) | (refine (Bool.eq_false_iff.mpr fun h => ?_).symm; simp_all [gF]; omega) | (refine Bool.eq_false_iff.mpr fun h => ?_; simp_all [gF]; omega) | (rw [Bool.eq_iff_iff]; constructor <;> intro h <;> simp_all [gF] <;> omega) | fail) | (rcases Nat.eq_zero_or_pos i with h0 | h0 <;> simp_all [gF] <;> omega) | (fail) | fail
     ·repeat' (first | exact True.intro | refine And.intro rfl ?_))
   |(conv => lhs; whnf
     refine congrArg D.bool (hbad ?_)
     clear hbad hgood hw hfin hv
     first | (first | (refine (Bool.eq_false_iff.mpr fun h => ?_).symm; simp_all [gF]; done) | (refine Bool.eq_false_iff.mpr fun h => ?_; simp_all [gF]; done) | (simp_all [gF]; done) | (simp_all [gF]; omega) | (refine (Bool.eq_false_iff.mpr fun h => ?_).symm; simp_all [gF]; omega) | (refine Bool.eq_false_iff.mpr fun h => ?_; simp_all [gF]; omega) | (rw [Bool.eq_iff_iff]; constructor <;> intro h <;> simp_all [gF] <;> omega) | fail) | (rcases Nat.eq_zero_or_pos i with h0 | h0 <;> simp_all [gF] <;> omega) | (fail) | fail)
   |(refine ⟨i + 1, ⟨by omega, ?_⟩, by omega, ?_, ?_⟩
     ·refine hgood ?_
      clear hbad hgood hw hfin hv
      first | (first | (refine (Bool.eq_false_iff.mpr fun h => ?_).symm; simp_all [gF]; done) | (refine Bool.eq_false_iff.mpr fun h => ?_; simp_all [gF]; done) | (simp_all [gF]; done) | (simp_all [gF]; omega) | (refine (Bool.eq_false_iff.mpr fun h => ?_).symm; simp_all [gF]; omega) | (refine Bool.eq_false_iff.mpr fun h => ?_; simp_all [gF]; omega) | (rw [Bool.eq_iff_iff]; constructor <;> intro h <;> simp_all [gF] <;> omega) | fail) | (rcases Nat.eq_zero_or_pos i with h0 | h0 <;> simp_all [gF] <;> omega) | (fail) | fail
     ·repeat' (first | exact True.intro | refine And.intro (congrArg (D.int .i64) hw) ?_ | refine And.intro rfl ?_)
     ·repeat' (first | exact True.intro | refine And.intro rfl ?_))
 have hge : ¬ i < m.fAsks.length := by simpa using hb
 have hend : validM m = (m.fUp || (allN (rF m) m.fRuns.length 0 && fin m)) := by rw [hN, allN_end hge, Bool.true_and]
 clear hN
 conv => whnf
 repeat' (first | (refine z_ld1 ?_; first | (refine z_ld rfl rfl rfl rfl au1 au2 ?_; conv => whnf) | (refine z_ld0 rfl ?_; conv => whnf)) | (refine z_op ?_ ?_; (focus exact rfl); conv => whnf) | (refine zs_ops ?_ ?_; (focus exact rfl)) | (refine z_nil fun vals => ?_; conv => whnf) | (refine And.intro ?_ ?_; (focus exact au0); conv => whnf) | (refine g_seq ?_) | (refine XS.go ?_) | ((first | refine g_cond ?_ | refine g_exit ?_); conv => whnf) | fail)
 refine Br.mk (fun hu => ?_) (fun hu => ?_)
 ·conv => whnf
  repeat' (first | (refine g_op ?_; conv => whnf) | (refine And.intro ?_ ?_; (focus exact au0); conv => whnf) | (refine g_seq ?_) | (refine XS.go ?_) | (refine g_ops ?_) | ((first | refine g_nil ?_ | refine g_ret ?_ | refine r_t ?_ | refine r_nil ?_); conv => whnf) | fail)
  (conv => lhs; whnf)
  rw [hend, hu]
  rfl
 have hend2 : validM m = (allN (rF m) m.fRuns.length 0 && fin m) := by rw [hend, hu]; rfl
 clear hend hv
 conv => whnf
 repeat' (first | (refine g_op ?_; conv => whnf) | (refine And.intro ?_ ?_; (focus exact au0); conv => whnf) | (refine g_seq ?_) | (refine XS.go ?_) | (refine g_ops ?_) | (refine g_loop ?_) | ((first | refine g_nil ?_ | refine g_skip ?_); conv => whnf) | (refine g_block ?_) | fail)
 refine XLc.mkL (α := Nat) (fun i => i ≤ m.fRuns.length ∧ validM m = (allN (rF m) (m.fRuns.length - i) i && fin m)) (fun i => m.fRuns.length - i) (fun i gs => [.any, .cref m.D, .any, .any, .int .i64 (i : Int)]) (fun i gs => []) 0 ⟨Nat.zero_le _, hend2⟩ ?_ ?_
 ·refine ⟨?_, ?_⟩
  ·repeat' (first | exact True.intro | refine And.intro rfl ?_)
  ·repeat' (first | exact True.intro | refine And.intro rfl ?_)
 intro i gs hI
 obtain ⟨hi, hN⟩ := hI
 repeat' (first | (refine z_ld1 ?_; first | (refine z_ld rfl rfl rfl rfl au1 au2 ?_; conv => whnf) | (refine z_ld0 rfl ?_; conv => whnf)) | (refine z_op ?_ ?_; (focus exact rfl); conv => whnf) | (refine zs_ops ?_ ?_; (focus exact rfl)) | (refine z_nil fun vals => ?_; conv => whnf) | (refine And.intro ?_ ?_; (focus exact au0); conv => whnf) | (refine g_seq ?_) | (refine XS.go ?_) | (refine g_cond ?_; conv => whnf) | fail)
 refine Br.mk (fun hb => ?_) (fun hb => ?_)
 ·have hlt : i < m.fRuns.length := by simpa using hb
  have hw : IntKind.wrap .i64 ((i : Int) + 1) = ((i + 1 : Nat) : Int) := by rw [wrap_ok (by omega) (by omega)]; rfl
  have hw1 : IntKind.wrap .i64 ((i : Int) - 1) = (i : Int) - 1 := wrap_ok (by omega) (by omega)
  have hbad := fun h => allN_bad (f := rF m) hlt hN h
  have hgood := fun h => allN_good (f := rF m) hlt hN h
  clear hN hb
  all_goals conv => whnf
  repeat' (first | (refine z_ld1 ?_; first | (refine z_ld rfl rfl rfl rfl au1 au2 ?_; conv => whnf) | (refine z_ld0 rfl ?_; conv => whnf)) | (refine z_ld1g ?_; first | (refine z_ldg rfl rfl rfl rfl rfl rfl rfl (by (repeat intro _); exact ⟨au1, au2⟩) rfl rfl rfl rfl ?_; conv => whnf) | (refine z_ld0g ?_; (conv => whnf); refine And.intro ?_ ?_; (focus exact rfl); conv => whnf)) | (refine z_ix1 ?_; first | (refine z_ix rfl rfl rfl rfl rfl ⟨by first | omega | (simp only [decide_eq_true_eq, Bool.not_eq_true', Bool.or_eq_false_iff, decide_eq_false_iff_not, Bool.and_eq_true, Bool.not_eq_false'] at *; omega), by first | omega | (simp only [decide_eq_true_eq, Bool.not_eq_true', Bool.or_eq_false_iff, decide_eq_false_iff_not, Bool.and_eq_true, Bool.not_eq_false'] at *; omega)⟩ ?_; conv => whnf) | (refine z_ix0 rfl rfl ?_; conv => whnf)) | (refine z_ix1g ?_; refine z_ixg rfl rfl rfl rfl rfl rfl rfl (by (repeat intro _); refine ⟨?_, ?_⟩ <;> first | omega | (simp only [decide_eq_true_eq, Bool.not_eq_true', Bool.or_eq_false_iff, decide_eq_false_iff_not, Bool.and_eq_true, Bool.not_eq_false'] at *; omega)) ?_) | (refine z_op ?_ ?_; (focus exact rfl); conv => whnf) | (refine z_opg0 ?_; (conv => whnf); refine And.intro ?_ ?_; (focus exact rfl); conv => whnf) | (refine z_pick ?_ ?_; (focus exact rfl); conv => whnf) | (refine zs_ops ?_ ?_; (focus exact rfl)) | (refine z_nil fun vals => ?_; conv => whnf) | (refine z_call ?_ ?_; (focus exact rfl)) | (refine RC.of (spec_Alive _) ?_ ?_; (focus exact rfl); conv => whnf) | (refine g_op ?_; conv => whnf) | (refine And.intro ?_ ?_; (focus exact au0); conv => whnf) | (refine g_seq ?_) | (refine XS.go ?_) | (refine g_ops ?_) | ((first | refine g_nil ?_ | refine g_cond ?_ | refine g_skip ?_ | refine g_ret ?_); conv => whnf) | (refine g_block ?_) | ((first | refine r_t ?_ | refine r_nil ?_); conv => whnf) | (refine Br.mk (fun hb => ?_) (fun hb => ?_) <;> conv => whnf) | fail)
  all_goals
   first
   |(refine ⟨(), hbad ?_, ⟨?_, True.intro⟩⟩
     ·clear hbad hgood hw hend2 hfin
      first | (first | (refine (Bool.eq_false_iff.mpr fun h => ?_).symm; simp_all [rF]; done) | (refine Bool.eq_false_iff.mpr fun h => ?_; simp_all [rF]; done) | (simp_all [rF]; done) | (simp_all [rF]; omega) | (refine (Bool.eq_false_iff.mpr fun h => ?_).symm; simp_all [rF]; omega) | (refine Bool.eq_false_iff.mpr fun h => ?_; simp_all [rF]; omega) | (rw [Bool.eq_iff_iff]; constructor <;> intro h <;> simp_all [rF] <;> omega) | fail) | (rcases Nat.eq_zero_or_pos i with h0 | h0 <;> simp_all [rF] <;> omega) | (cases ha : alive (m.fRuns.getD i default) <;> by_cases hq : (m.fRuns.getD i default).fWant.fHold.toList = [] <;> first | (simp_all [rF]; done) | (refine Bool.eq_false_iff.mpr fun h => ?_; simp_all [rF]; done) | fail) | fail
     ·repeat' (first | exact True.intro | refine And.intro rfl ?_))
   |(conv => lhs; whnf
     refine congrArg D.bool (hbad ?_)
     clear hbad hgood hw hend2 hfin
     first | (first | (refine (Bool.eq_false_iff.mpr fun h => ?_).symm; simp_all [rF]; done) | (refine Bool.eq_false_iff.mpr fun h => ?_; simp_all [rF]; done) | (simp_all [rF]; done) | (simp_all [rF]; omega) | (refine (Bool.eq_false_iff.mpr fun h => ?_).symm; simp_all [rF]; omega) | (refine Bool.eq_false_iff.mpr fun h => ?_; simp_all [rF]; omega) | (rw [Bool.eq_iff_iff]; constructor <;> intro h <;> simp_all [rF] <;> omega) | fail) | (rcases Nat.eq_zero_or_pos i with h0 | h0 <;> simp_all [rF] <;> omega) | (cases ha : alive (m.fRuns.getD i default) <;> by_cases hq : (m.fRuns.getD i default).fWant.fHold.toList = [] <;> first | (simp_all [rF]; done) | (refine Bool.eq_false_iff.mpr fun h => ?_; simp_all [rF]; done) | fail) | fail)
   |(refine ⟨i + 1, ⟨by omega, ?_⟩, by omega, ?_, ?_⟩
     ·refine hgood ?_
      clear hbad hgood hw hend2 hfin
      first | (first | (refine (Bool.eq_false_iff.mpr fun h => ?_).symm; simp_all [rF]; done) | (refine Bool.eq_false_iff.mpr fun h => ?_; simp_all [rF]; done) | (simp_all [rF]; done) | (simp_all [rF]; omega) | (refine (Bool.eq_false_iff.mpr fun h => ?_).symm; simp_all [rF]; omega) | (refine Bool.eq_false_iff.mpr fun h => ?_; simp_all [rF]; omega) | (rw [Bool.eq_iff_iff]; constructor <;> intro h <;> simp_all [rF] <;> omega) | fail) | (rcases Nat.eq_zero_or_pos i with h0 | h0 <;> simp_all [rF] <;> omega) | (cases ha : alive (m.fRuns.getD i default) <;> by_cases hq : (m.fRuns.getD i default).fWant.fHold.toList = [] <;> first | (simp_all [rF]; done) | (refine Bool.eq_false_iff.mpr fun h => ?_; simp_all [rF]; done) | fail) | fail
     ·repeat' (first | exact True.intro | refine And.intro (congrArg (D.int .i64) hw) ?_ | refine And.intro rfl ?_)
     ·repeat' (first | exact True.intro | refine And.intro rfl ?_))
 have hge : ¬ i < m.fRuns.length := by simpa using hb
 have hend : validM m = fin m := by rw [hN, allN_end hge, Bool.true_and]
 clear hN
 conv => whnf
 repeat' (first | (refine z_ld1 ?_; first | (refine z_ld rfl rfl rfl rfl au1 au2 ?_; conv => whnf) | (refine z_ld0 rfl ?_; conv => whnf)) | (refine z_ld1g ?_; first | (refine z_ldg rfl rfl rfl rfl rfl rfl rfl (by (repeat intro _); exact ⟨au1, au2⟩) rfl rfl rfl rfl ?_; conv => whnf) | (refine z_ld0g ?_; (conv => whnf); refine And.intro ?_ ?_; (focus exact rfl); conv => whnf)) | (refine z_op ?_ ?_; (focus exact rfl); conv => whnf) | (refine z_opg0 ?_; (conv => whnf); refine And.intro ?_ ?_; (focus exact rfl); conv => whnf) | (refine z_pick ?_ ?_; (focus exact rfl); conv => whnf) | (refine zs_ops ?_ ?_; (focus exact rfl)) | (refine z_nil fun vals => ?_; conv => whnf) | (refine And.intro ?_ ?_; (focus exact au0); conv => whnf) | (refine g_seq ?_) | (refine XS.go ?_) | ((first | refine g_ret ?_ | refine g_exit ?_ | refine r_t ?_ | refine r_nil ?_); conv => whnf) | fail)
 (conv => lhs; whnf)
 rw [hend, ← hfin]
 simp only [mlen']
end Go.Ab
set_option linter.unusedSimpArgs false
set_option linter.unusedVariables false
namespace Go.Ab
open Go Go.RowKit Go.Proofs
attribute [local irreducible] XC Rdr IntKind.wrap xw xos xqs xr xd
set_option maxRecDepth 100000
set_option maxHeartbeats 16000000
def cf84 : CF := ⟨20,[.c 2 9 true],(.seq (.ops [Oo 1 (.bx (.t 0)),Oo 2 (.al (.agg [.str ⟨#[]⟩,.bool false,.int .i64 0,.bool false,.int .i64 0,.nil,.nil,.nil,.nil]))]) (.seq (.ops [Of 3 5 1,Ol 4 3,Oo 5 (.app 7 72 (.k (.nil)) (.t 4)),Of 6 5 1,Os 1 6 5]) (.seq (.ops [Of 7 6 1,Ol 8 7,Oo 9 (.app 11 104 (.k (.nil)) (.t 8)),Of 10 6 1,Os 1 10 9]) (.seq (.ops [Of 11 7 1,Ol 12 11,Oo 13 (.app 4 48 (.k (.nil)) (.t 12)),Of 14 7 1,Os 1 14 13]) (.seq (.ops [Of 15 8 1,Ol 16 15,Oo 17 (.app 4 48 (.k (.nil)) (.t 16)),Of 18 8 1,Os 1 18 17]) (.seq (.ops [Od 19 9 1,Os 9 2 19]) .ret))))))⟩
theorem c84 : compileF Try.prog [] 84 = some cf84 := by kernel_rfl
def cf49 : CF := ⟨12,[.c 2 9 true],(.seq (.ops [Oo 1 (.bx (.t 0)),Oo 2 (.al (.agg [.str ⟨#[]⟩,.bool false,.int .i64 0,.bool false,.int .i64 0,.nil,.nil,.nil,.nil]))]) (.seq (.seq (.ops [Od 4 9 1,Oc 5 46 [.t 4],Oo 6 (.not (.t 5))]) (.cond (.t 6) (.seq (.ops [Oo 7 (.bld (.agg [.str ⟨#[]⟩,.bool false,.int .i64 0,.bool false,.int .i64 0,.nil,.nil,.nil,.nil]) []),Os 9 2 7]) .ret) .skip)) (.seq (.ops [Od 8 9 1,Oc 9 84 [.t 8],Oo 3 (.al (.agg [.str ⟨#[]⟩,.bool false,.int .i64 0,.bool false,.int .i64 0,.nil,.nil,.nil,.nil])),Os 9 3 9]) (.seq (.ops [Oc 10 99 [.t 3]]) (.seq (.ops [Od 11 9 3,Os 9 2 11]) .ret)))))⟩
theorem c49 : compileF Try.prog [] 49 = some cf49 := by kernel_rfl
def cf99 : CF := ⟨16,[],(.ops [Om 2 0,Om 3 0,On 4 3,Of 5 1 4,Ol 6 5,Om 7 6,⟨some 8,.mv (.t 0),some (7,false)⟩,⟨some 9,.nilc (.t 8),some (7,false)⟩,⟨some 10,.fa 2 1 2 (.t 9),some (7,false)⟩,⟨some 11,.ld 1 false (.t 10),some (7,false)⟩,⟨some 12,.bin .lss (.t 11) (.k (.int .i64 1000000)),some (7,false)⟩,Oo 13 (.pick (.t 7) (.k (.bool true)) (.t 12)),On 14 2,Of 15 1 14,Os 1 15 13])⟩
theorem c99 : compileF Try.prog [] 99 = some cf99 := by kernel_rfl
def cf79 : CF := ⟨24,[.c 2 9 true],(.seq (.ops [Oo 1 (.bx (.t 0)),Oo 2 (.al (.agg [.str ⟨#[]⟩,.bool false,.int .i64 0,.bool false,.int .i64 0,.nil,.nil,.nil,.nil]))]) (.seq (.ops [Oo 3 (.bsl (.agg [.str ⟨#[]⟩,.int .i64 0,.str ⟨#[]⟩,.int .i64 0,.int .i64 0,.int .i64 0,.int .i64 0]) 0 []),Of 4 5 1,Ol 5 4,Oo 6 (.app 7 72 (.t 3) (.t 5)),Of 7 5 1,Os 1 7 6]) (.seq (.ops [Oo 8 (.bsl (.agg [.agg [.str ⟨#[]⟩,.int .i64 0,.str ⟨#[]⟩,.int .i64 0,.int .i64 0,.int .i64 0,.int .i64 0],.int .i64 0,.int .i64 0,.int .i64 0,.int .i64 0]) 0 []),Of 9 6 1,Ol 10 9,Oo 11 (.app 11 104 (.t 8) (.t 10)),Of 12 6 1,Os 1 12 11]) (.seq (.ops [Oo 13 (.bsl (.agg [.str ⟨#[]⟩,.str ⟨#[]⟩,.int .i64 0,.int .i64 0]) 0 []),Of 14 7 1,Ol 15 14,Oo 16 (.app 4 48 (.t 13) (.t 15)),Of 17 7 1,Os 1 17 16]) (.seq (.ops [Oo 18 (.bsl (.agg [.str ⟨#[]⟩,.str ⟨#[]⟩,.int .i64 0,.int .i64 0]) 0 []),Of 19 8 1,Ol 20 19,Oo 21 (.app 4 48 (.t 18) (.t 20)),Of 22 8 1,Os 1 22 21]) (.seq (.ops [Od 23 9 1,Os 9 2 23]) .ret))))))⟩
theorem c79 : compileF Try.prog [] 79 = some cf79 := by kernel_rfl
def cf52 : CF := ⟨15,[.c 2 9 true],(.seq (.ops [Oo 1 (.bx (.t 0)),Oo 2 (.al (.agg [.str ⟨#[]⟩,.bool false,.int .i64 0,.bool false,.int .i64 0,.nil,.nil,.nil,.nil]))]) (.seq (.seq (.ops [Od 4 9 1,Oc 5 45 [.t 4],Oo 6 (.not (.t 5))]) (.cond (.t 6) (.seq (.ops [Oo 7 (.bld (.agg [.str ⟨#[]⟩,.bool false,.int .i64 0,.bool false,.int .i64 0,.nil,.nil,.nil,.nil]) []),Os 9 2 7]) .ret) .skip)) (.seq (.ops [Od 8 9 1,Oc 9 79 [.t 8],Oo 3 (.al (.agg [.str ⟨#[]⟩,.bool false,.int .i64 0,.bool false,.int .i64 0,.nil,.nil,.nil,.nil])),Os 9 3 9]) (.seq (.seq (.ops [Of 10 2 1,Ol 11 10,Oo 12 (.bin .lss (.t 11) (.k (.int .i64 1000000)))]) (.cond (.t 12) (.ops [Of 13 1 3,⟨none,.st 1 (.t 13) (.k (.bool true)),none⟩]) .skip)) (.seq (.ops [Od 14 9 3,Os 9 2 14]) .ret)))))⟩
theorem c52 : compileF Try.prog [] 52 = some cf52 := by kernel_rfl
def Mate.O (x : Mate) (s1 s2 s3 s4 b1 b2 b3 b4 c1 c2 c3 c4 : Nat) : Go.Ab.D := .agg [.str x.fName, .bool x.fUp, .int .i64 x.fClock, .bool x.fKnown, .int .i64 x.fSeen, .lsl s1 b1 x.fWants.length c1, .lsl s2 b2 x.fRuns.length c2, .lsl s3 b3 x.fAsks.length c3, .lsl s4 b4 x.fGives.length c4]
def Mate.L (x : Mate) (s1 s2 s3 s4 b1 b2 b3 b4 c1 c2 c3 c4 : Nat) : List Go.Ab.Loan := [(s1, b1, .arr 7 (x.fWants.map MateWant.D) c1), (s2, b2, .arr 11 (x.fRuns.map MateRun.D) c2), (s3, b3, .arr 4 (x.fAsks.map MateAsk.D) c3), (s4, b4, .arr 4 (x.fGives.map MateAsk.D) c4)]
def riseM (x : Mate) : Mate := { x with fUp := x.fUp || decide (x.fClock < 1000000) }
theorem impl_rise (x : Mate) (b : Nat) (s1 s2 s3 s4 b1 b2 b3 b4 c1 c2 c3 c4 : Nat) : XC Try.prog 99 [.lref 3 b [] 0] [(3, b, x.O s1 s2 s3 s4 b1 b2 b3 b4 c1 c2 c3 c4)] (fun d ls => d = .tup [] ∧ ls = [(3, b, (riseM x).O s1 s2 s3 s4 b1 b2 b3 b4 c1 c2 c3 c4)]) := by
 refine XC.intro' hm [3] rfl c99 (Nat.le_of_ble_eq_true rfl) ?_
 conv => whnf
 repeat' (first | (refine z_ld1 ?_; first | (refine z_ld rfl rfl rfl rfl au1 au2 ?_; conv => whnf) | (refine z_ld0 rfl ?_; conv => whnf)) | (refine z_ld1g ?_; first | (refine z_ldg rfl rfl rfl rfl rfl rfl rfl (by (repeat intro _); exact ⟨au1, au2⟩) rfl rfl rfl rfl ?_; conv => whnf) | (refine z_ld0g ?_; (conv => whnf); refine And.intro ?_ ?_; (focus exact rfl); conv => whnf)) | (refine z_op ?_ ?_; (focus exact rfl); conv => whnf) | (refine z_opg0 ?_; (conv => whnf); refine And.intro ?_ ?_; (focus exact rfl); conv => whnf) | (refine z_pick ?_ ?_; (focus exact rfl); conv => whnf) | (refine zs_ops ?_ ?_; (focus exact rfl)) | (refine And.intro ?_ ?_; (focus exact au0); conv => whnf) | fail)
 refine z_close fun vals => ?_
 conv => whnf
 repeat' (first | (refine z_st1 ?_; first | (refine z_st rfl rfl rfl au1 au2 rfl rfl ?_; conv => whnf) | (refine z_st0 ?_; conv => whnf)) | (refine z_nil fun vals => ?_; conv => whnf) | (refine And.intro ?_ ?_; (focus exact au0); conv => whnf) | (refine r_nil ?_; conv => whnf) | fail)
 first | exact ⟨rfl, rfl⟩ | exact rfl
theorem spec_Copy (x : Mate) (hs : x.small) : Rdr Try.prog 79 [x.D] x.D := by
 refine Rdr.introF hm [6, 11, 16, 21] rfl c79 (Nat.le_of_ble_eq_true rfl) ?_
 have l1 := hs.fWants.1
 have l2 := hs.fRuns.1
 have l3 := hs.fAsks.1
 have l4 := hs.fGives.1
 conv => whnf
 repeat' (first | (refine g_op ?_; conv => whnf) | (refine And.intro ?_ ?_; (focus exact au0); conv => whnf) | (refine g_seq ?_) | (refine XS.go ?_) | (refine g_ops ?_) | ((first | refine g_nil ?_ | refine fun _ => ?_); conv => whnf) | fail)
 refine ⟨by show 0 + _ ≤ _; rw [List.length_map]; omega, Nat.le_of_ble_eq_true rfl, by decide, fun n1 d1 e1 hn1 hc1 => ?_⟩
 have hm1 : n1 = x.fWants.length := by rw [hn1]; show 0 + _ = _; simp
 clear hn1
 subst hm1
 conv => whnf
 repeat' (first | (refine g_op ?_; conv => whnf) | (refine And.intro ?_ ?_; (focus exact au0); conv => whnf) | (refine g_seq ?_) | (refine XS.go ?_) | (refine g_ops ?_) | (refine g_nil ?_; conv => whnf) | fail)
 refine ⟨by show 0 + _ ≤ _; rw [List.length_map]; omega, Nat.le_of_ble_eq_true rfl, by decide, fun n2 d2 e2 hn2 hc2 => ?_⟩
 have hm2 : n2 = x.fRuns.length := by rw [hn2]; show 0 + _ = _; simp
 clear hn2
 subst hm2
 conv => whnf
 repeat' (first | (refine g_op ?_; conv => whnf) | (refine And.intro ?_ ?_; (focus exact au0); conv => whnf) | (refine g_seq ?_) | (refine XS.go ?_) | (refine g_ops ?_) | (refine g_nil ?_; conv => whnf) | fail)
 refine ⟨by show 0 + _ ≤ _; rw [List.length_map]; omega, Nat.le_of_ble_eq_true rfl, by decide, fun n3 d3 e3 hn3 hc3 => ?_⟩
 have hm3 : n3 = x.fAsks.length := by rw [hn3]; show 0 + _ = _; simp
 clear hn3
 subst hm3
 conv => whnf
 repeat' (first | (refine g_op ?_; conv => whnf) | (refine And.intro ?_ ?_; (focus exact au0); conv => whnf) | (refine g_seq ?_) | (refine XS.go ?_) | (refine g_ops ?_) | (refine g_nil ?_; conv => whnf) | fail)
 refine ⟨by show 0 + _ ≤ _; rw [List.length_map]; omega, Nat.le_of_ble_eq_true rfl, by decide, fun n4 d4 e4 hn4 hc4 => ?_⟩
 have hm4 : n4 = x.fGives.length := by rw [hn4]; show 0 + _ = _; simp
 clear hn4
 subst hm4
 conv => whnf
 repeat' (first | (refine g_op ?_; conv => whnf) | (refine And.intro ?_ ?_; (focus exact au0); conv => whnf) | (refine g_seq ?_) | (refine XS.go ?_) | (refine g_ops ?_) | ((first | refine g_nil ?_ | refine g_ret ?_ | refine r_c ?_ | refine r_nil ?_); conv => whnf) | fail)
 have t1 : (D.frozs (x.fWants.map MateWant.D)).take x.fWants.length = x.fWants.map MateWant.D := by rw [D.frozs_map (fun _ => rfl), List.take_of_length_le (by simp)]
 have t2 : (D.frozs (x.fRuns.map MateRun.D)).take x.fRuns.length = x.fRuns.map MateRun.D := by rw [D.frozs_map (fun _ => rfl), List.take_of_length_le (by simp)]
 have t3 : (D.frozs (x.fAsks.map MateAsk.D)).take x.fAsks.length = x.fAsks.map MateAsk.D := by rw [D.frozs_map (fun _ => rfl), List.take_of_length_le (by simp)]
 have t4 : (D.frozs (x.fGives.map MateAsk.D)).take x.fGives.length = x.fGives.map MateAsk.D := by rw [D.frozs_map (fun _ => rfl), List.take_of_length_le (by simp)]
 refine ⟨⟨True.intro, True.intro, True.intro, True.intro, True.intro, ⟨rfl, Nat.le_of_eq (by simp)⟩, ⟨rfl, Nat.le_of_eq (by simp)⟩, ⟨rfl, Nat.le_of_eq (by simp)⟩, ⟨rfl, Nat.le_of_eq (by simp)⟩, True.intro⟩, ?_⟩
 show D.agg [.str x.fName, .bool x.fUp, .int .i64 x.fClock, .bool x.fKnown, .int .i64 x.fSeen, .ro 7 ((D.frozs (x.fWants.map MateWant.D)).take x.fWants.length), .ro 11 ((D.frozs (x.fRuns.map MateRun.D)).take x.fRuns.length), .ro 4 ((D.frozs (x.fAsks.map MateAsk.D)).take x.fAsks.length), .ro 4 ((D.frozs (x.fGives.map MateAsk.D)).take x.fGives.length)] = x.D
 rw [t1, t2, t3, t4]
 rfl
def riseR (x : Mate) : Mate := if validM x then riseM x else default
def mateZ : D := .agg [.str ⟨#[]⟩, .bool false, .int .i64 0, .bool false, .int .i64 0, .nil, .nil, .nil, .nil]
theorem mateZ_ro (U : Nat → Prop) (w : World) (v : Value) (h : RelV U w mateZ v) : RelV U w (default : Mate).D v :=
 RelV.aggImp (RelF.imp (fun _ h => h) (RelF.imp (fun _ h => h) (RelF.imp (fun _ h => h) (RelF.imp (fun _ h => h) (RelF.imp (fun _ h => h) (RelF.imp (fun _ h => nil_ro h) (RelF.imp (fun _ h => nil_ro h) (RelF.imp (fun _ h => nil_ro h) (RelF.imp (fun _ h => nil_ro h) (fun _ h => h)))))))))) v h
theorem mateZ_own (s1 s2 s3 s4 : Nat) (U : Nat → Prop) (w : World) (v : Value) (h : RelV U w mateZ v) : RelV U w ((default : Mate).O s1 s2 s3 s4 0 0 0 0 0 0 0 0) v :=
 RelV.aggImp (RelF.imp (fun _ h => h) (RelF.imp (fun _ h => h) (RelF.imp (fun _ h => h) (RelF.imp (fun _ h => h) (RelF.imp (fun _ h => h) (RelF.imp (fun _ h => nil_lsl h) (RelF.imp (fun _ h => nil_lsl h) (RelF.imp (fun _ h => nil_lsl h) (RelF.imp (fun _ h => nil_lsl h) (fun _ h => h)))))))))) v h
theorem mateZ_hol (s1 s2 s3 s4 : Nat) (U : Nat → Prop) (w : World) : HolL U w ((default : Mate).L s1 s2 s3 s4 0 0 0 0 0 0 0 0) [] :=
 .snil _ _ _ (.snil _ _ _ (.snil _ _ _ (.snil _ _ _ rfl)))
theorem spec_Rise (x : Mate) (hs : x.small) : Rdr Try.prog 52 [x.D] (riseR x).D := by
 cases hv : validM x with
 | false =>
  have e : riseR x = default := by simp [riseR, hv]
  rw [e]
  refine Rdr.imp (d := mateZ) ?_ mateZ_ro
  have hq := spec_MateValid x
  rw [hv] at hq
  refine Rdr.intro' hm c52 (Nat.le_of_ble_eq_true rfl) ?_
  conv => whnf
  repeat' (first | (refine g_op ?_; conv => whnf) | (refine And.intro ?_ ?_; (focus exact au0); conv => whnf) | (refine g_seq ?_) | (refine XS.go ?_) | (refine g_ops ?_) | (refine g_nil ?_; conv => whnf) | (refine Br.t ?_ ?_; (focus (first | assumption | exact rfl)); conv => whnf) | ((first | refine g_cond ?_ | refine g_ret ?_ | refine r_c ?_ | refine r_nil ?_ | refine fun _ => ?_ | refine XCL.of_rdr (hq) ?_); conv => whnf) | fail)
  rfl
 | true =>
  have e : riseR x = riseM x := by simp [riseR, hv]
  rw [e]
  have hq := spec_MateValid x
  rw [hv] at hq
  refine Rdr.intro' hm c52 (Nat.le_of_ble_eq_true rfl) ?_
  conv => whnf
  repeat' (first | (refine g_op ?_; conv => whnf) | (refine And.intro ?_ ?_; (focus exact au0); conv => whnf) | (refine g_seq ?_) | (refine XS.go ?_) | (refine g_ops ?_) | (refine g_nil ?_; conv => whnf) | (refine Br.f ?_ ?_; (focus (first | assumption | exact rfl)); conv => whnf) | ((first | refine g_cond ?_ | refine g_skip ?_ | refine fun _ => ?_ | refine XCL.of_rdr (hq) ?_ | refine XCL.of_rdr (spec_Copy x hs) ?_); conv => whnf) | fail)
  refine Br.mk (fun hb => ?_) (fun hb => ?_)
  ·have hr : riseM x = { x with fUp := true } := by simp only [riseM]; rw [hb]; simp
   rw [hr]
   conv => whnf
   repeat' (first | (refine g_op ?_; conv => whnf) | (refine And.intro ?_ ?_; (focus exact au0); conv => whnf) | (refine g_seq ?_) | (refine XS.go ?_) | (refine g_ops ?_) | ((first | refine g_nil ?_ | refine g_ret ?_ | refine r_c ?_ | refine r_nil ?_); conv => whnf) | fail)
   rfl
  have hr : riseM x = x := by simp only [riseM]; rw [hb]; simp
  rw [hr]
  conv => whnf
  repeat' (first | (refine g_op ?_; conv => whnf) | (refine And.intro ?_ ?_; (focus exact au0); conv => whnf) | (refine g_seq ?_) | (refine XS.go ?_) | (refine g_ops ?_) | ((first | refine g_nil ?_ | refine g_skip ?_ | refine g_ret ?_ | refine r_c ?_ | refine r_nil ?_); conv => whnf) | fail)
  rfl
end Go.Ab
set_option linter.unusedSimpArgs false
set_option linter.unusedVariables false
namespace Go.Ab
open Go Go.RowKit Go.Proofs
attribute [local irreducible] XC Rdr IntKind.wrap xw xos xqs xr xd
set_option maxRecDepth 100000
set_option maxHeartbeats 16000000
def cf108 : CF := ⟨25,[.c 4 7 true,.t 5],(.seq (.ops [Oo 4 (.al (.agg [.str ⟨#[]⟩,.int .i64 0,.str ⟨#[]⟩,.int .i64 0,.int .i64 0,.int .i64 0,.int .i64 0])),Ok 5 (.bool false)]) (.seq (.seq (.ops [Ok 6 (.int .i64 0)]) (.block 0 (.loop (.seq (.seq (.ops [Om 7 6,Om 8 0,Og 9 8,Ob 10 .lss 7 9]) (.cond (.t 10) .skip (.exit 0))) (.seq (.block 1 (.seq (.ops [Om 13 0,Om 14 6,Ox 15 7 13 14,Of 16 0 15,Ol 17 16,Om 18 1,Ob 19 .eql 17 18]) (.cond (.t 19) (.seq (.ops [Om 20 0,Om 21 6,Ox 22 7 20 21,Od 23 7 22,Os 7 4 23,Ok 5 (.bool true)]) .ret) .skip))) (.ops [Om 11 6,Oi 12 11,Om 6 12])))))) (.seq (.ops [Oo 24 (.bld (.agg [.str ⟨#[]⟩,.int .i64 0,.str ⟨#[]⟩,.int .i64 0,.int .i64 0,.int .i64 0,.int .i64 0]) []),Os 7 4 24,Ok 5 (.bool false)]) .ret)))⟩
theorem c108 : compileF Try.prog [] 108 = some cf108 := by kernel_rfl
def wantF (ws : List MateWant) (copy : ByteArray) (i : Nat) : Bool := (ws.getD i default).fCopy.toList == copy.toList
def wantI (ws : List MateWant) (copy : ByteArray) : Int := idxN (wantF ws copy) ws.length 0
def want0 : MateWant := ⟨⟨#[]⟩, 0, ⟨#[]⟩, 0, 0, 0, 0⟩
def wantR (ws : List MateWant) (copy : ByteArray) : MateWant × Bool := if wantI ws copy < 0 then (want0, false) else (ws.getD (wantI ws copy).toNat default, true)
theorem want_hit {ws : List MateWant} {copy : ByteArray} {i : Nat} (h : wantI ws copy = (i : Int)) : Go.Ab.D.tup [(ws.getD i default).D, .bool true] = .tup [(wantR ws copy).1.D, .bool (wantR ws copy).2] := by
 unfold wantR
 rw [h, if_neg (by omega)]
 rfl
theorem want_end {ws : List MateWant} {copy : ByteArray} (h : wantI ws copy = -1) : Go.Ab.D.tup [want0.D, .bool false] = .tup [(wantR ws copy).1.D, .bool (wantR ws copy).2] := by
 unfold wantR
 rw [h, if_pos (by omega)]
theorem spec_Want (ws : List MateWant) (copy : ByteArray) (hl : ws.length ≤ 1048576) : Rdr Try.prog 108 [.ro 7 (ws.map MateWant.D), .str copy] (.tup [(wantR ws copy).1.D, .bool (wantR ws copy).2]) := by
 refine Rdr.intro' hm c108 (Nat.le_of_ble_eq_true rfl) ?_
 conv => whnf
 repeat' (first | (refine g_op ?_; conv => whnf) | (refine And.intro ?_ ?_; (focus exact au0); conv => whnf) | (refine g_seq ?_) | (refine XS.go ?_) | (refine g_ops ?_) | (refine g_loop ?_) | (refine g_nil ?_; conv => whnf) | (refine g_block ?_) | (refine fun _ => ?_; conv => whnf) | fail)
 refine XLc.mkL (α := Nat) (fun i => i ≤ ws.length ∧ wantI ws copy = idxN (wantF ws copy) (ws.length - i) i) (fun i => ws.length - i) (fun i gs => [.ro 7 (ws.map MateWant.D), .str copy, .any, .any, .lref 4 (gs 4) [] 0, .bool false, .int .i64 (i : Int)]) (fun i gs => [none, none, none, none, some want0.D]) 0 ⟨Nat.zero_le _, rfl⟩ ?_ ?_
 ·refine ⟨?_, ?_⟩
  ·repeat' (first | exact True.intro | refine And.intro rfl ?_)
  ·repeat' (first | exact True.intro | refine And.intro rfl ?_)
 intro i gs hI
 obtain ⟨hi, hN⟩ := hI
 repeat' (first | (refine g_op ?_; conv => whnf) | (refine And.intro ?_ ?_; (focus exact au0); conv => whnf) | (refine g_seq ?_) | (refine XS.go ?_) | (refine g_ops ?_) | ((first | refine g_nil ?_ | refine g_cond ?_); conv => whnf) | fail)
 refine Br.mk (fun hb => ?_) (fun hb => ?_)
 ·have hlt : i < ws.length := by simpa using hb
  have hw : IntKind.wrap .i64 ((i : Int) + 1) = ((i + 1 : Nat) : Int) := by rw [wrap_ok (by omega) (by omega)]; rfl
  have hit := fun h => idxN_hit (f := wantF ws copy) hlt hN h
  have miss := fun h => idxN_miss (f := wantF ws copy) hlt hN h
  clear hN hb
  conv => whnf
  repeat' (first | (refine z_ld1 ?_; first | (refine z_ld rfl rfl rfl rfl au1 au2 ?_; conv => whnf) | (refine z_ld0 rfl ?_; conv => whnf)) | (refine z_st1 ?_; first | (refine z_st rfl rfl rfl au1 au2 rfl rfl ?_; conv => whnf) | (refine z_st0 ?_; conv => whnf)) | (refine z_ix1 ?_; first | (refine z_ix rfl rfl rfl rfl rfl ⟨by first | omega | (simp only [decide_eq_true_eq, Bool.not_eq_true', Bool.or_eq_false_iff, decide_eq_false_iff_not, Bool.and_eq_true, Bool.not_eq_false'] at *; omega), by first | omega | (simp only [decide_eq_true_eq, Bool.not_eq_true', Bool.or_eq_false_iff, decide_eq_false_iff_not, Bool.and_eq_true, Bool.not_eq_false'] at *; omega)⟩ ?_; conv => whnf) | (refine z_ix0 rfl rfl ?_; conv => whnf)) | (refine z_op ?_ ?_; (focus exact rfl); conv => whnf) | (refine zs_ops ?_ ?_; (focus exact rfl)) | ((first | refine z_nil fun vals => ?_ | refine g_op ?_); conv => whnf) | (refine And.intro ?_ ?_; (focus exact au0); conv => whnf) | (refine g_seq ?_) | (refine XS.go ?_) | (refine g_ops ?_) | ((first | refine g_nil ?_ | refine g_cond ?_ | refine g_skip ?_ | refine g_ret ?_); conv => whnf) | (refine g_block ?_) | ((first | refine r_t ?_ | refine r_c ?_ | refine r_nil ?_); conv => whnf) | (refine Br.mk (fun hb => ?_) (fun hb => ?_) <;> conv => whnf) | fail)
  all_goals
   first
   | (exact want_hit (hit hb))
   |(refine ⟨i + 1, ⟨by omega, miss hb⟩, by omega, ?_, ?_⟩
     ·repeat' (first | exact True.intro | refine And.intro (congrArg (D.int .i64) hw) ?_ | refine And.intro rfl ?_)
     ·repeat' (first | exact True.intro | refine And.intro rfl ?_))
 have hge : ¬ i < ws.length := by simpa using hb
 have hend : wantI ws copy = -1 := by rw [hN, idxN_end hge]
 clear hN
 conv => whnf
 repeat' (first | (refine z_st1 ?_; first | (refine z_st rfl rfl rfl au1 au2 rfl rfl ?_; conv => whnf) | (refine z_st0 ?_; conv => whnf)) | (refine z_op ?_ ?_; (focus exact rfl); conv => whnf) | (refine zs_ops ?_ ?_; (focus exact rfl)) | (refine z_nil fun vals => ?_; conv => whnf) | (refine And.intro ?_ ?_; (focus exact au0); conv => whnf) | (refine g_seq ?_) | (refine XS.go ?_) | ((first | refine g_ret ?_ | refine g_exit ?_ | refine r_t ?_ | refine r_c ?_ | refine r_nil ?_); conv => whnf) | fail)
 (exact want_end hend)
end Go.Ab
set_option linter.unusedSimpArgs false
set_option linter.unusedVariables false
namespace Go.Ab
open Go Go.RowKit Go.Proofs
attribute [local irreducible] XC Rdr IntKind.wrap xw xos xqs xr xd
set_option maxRecDepth 100000
end Go.Ab
set_option linter.unusedSimpArgs false
set_option linter.unusedVariables false
namespace Go.Ab
open Go Go.RowKit Go.Proofs
attribute [local irreducible] XC Rdr IntKind.wrap xw xos xqs xr xd
set_option maxRecDepth 100000
end Go.Ab
set_option linter.unusedSimpArgs false
set_option linter.unusedVariables false
namespace Go.Ab
open Go Go.RowKit Go.Proofs
attribute [local irreducible] XC Rdr IntKind.wrap xw xos xqs xr xd
set_option maxRecDepth 100000
section
variable {P : Program} {n : Nat} {st : St} {K : St → Prop}
theorem d_ld {dst : Option Nat} {sz k b j o : Nat} {ag : Bool} {x : Opd} {rs : List Opd} {os : List (COp × Bool × List Opd)} {p : List Nat} {es cp : Nat} {ds : List Go.Ab.D} {el : Go.Ab.D} (hx : x.ev st = .lref k b (j :: p) o) (hl : st.lc k = some (.arr es ds cp)) (hb : st.gen k = b) (hj : j < ds.length) (hel : ds.getD j .any = el)
  (h : xpart sz ag o (j * es) (el.at p) fun d => putS n dst d st fun st2 => xd P n os st2 K) : xd P n ((⟨dst, .ld sz ag x, none⟩, false, rs) :: os) st K := by
 refine d_p ?_
 show xload st sz ag (x.ev st) _
 rw [hx]
 refine ⟨hb, ?_⟩
 rw [hl]
 refine ⟨hj, ?_⟩
 rw [hel]
 exact h
theorem d_st {sz k b j o : Nat} {x y : Opd} {os : List (COp × Bool × List Opd)} {p : List Nat} {es cp : Nat} {ds : List Go.Ab.D} {el d0 : Go.Ab.D} {o' : Nat} (hx : x.ev st = .lref k b (j :: p) o) (hl : st.lc k = some (.arr es ds cp)) (hb : st.gen k = b) (hj : j < ds.length) (hel : ds.getD j .any = el)
  (hat : el.at p = some (d0, o')) (hoo : j * es + o' = o) (h : deepK (y.ev st) fun d => d.memB = true ∧ d.len = sz ∧ xset (el.set p d) fun c' => deepK c' fun c' => xd P n os (st.setLc k (.arr es (ds.set j c') cp)) K) : xd P n ((⟨none, .st sz x y, none⟩, true, []) :: os) st K := by
 refine d_e ?_
 rw [deepK_eq] at h
 show xo P none st (fun d st' => True ∧ putS n none d st' fun st2 => xd P n os st2 K) (.st sz x y)
 simp only [xo, deepK_eq]
 refine ⟨h.1, h.2.1, ?_⟩
 rw [hx, xst_eq]
 refine ⟨hb, ?_⟩
 rw [hl]
 refine ⟨hj, ?_, ?_⟩
 ·rw [hel, hat]; exact hoo
 ·rw [hel]
  have h2 := h.2.2
  unfold xset at h2 ⊢
  split at h2
  ·rw [deepK_eq] at h2
   show True ∧ putS n none .undef _ _
   rw [putS_eq]
   exact ⟨True.intro, h2⟩
  ·exact h2.elim
end
end Go.Ab
set_option linter.unusedSimpArgs false
set_option linter.unusedVariables false
namespace Go.Ab
open Go Go.RowKit Go.Proofs
attribute [local irreducible] XC Rdr IntKind.wrap xw xos xqs xr xd
set_option maxRecDepth 100000
set_option maxHeartbeats 16000000
theorem impl_CloneF0 (x : Mate) (hs : x.small) : XC Try.prog 84 [x.D] [] (fun d ls => ∃ d1 d2 d3 d4 e1 e2 e3 e4, d = x.O 5 9 13 17 d1 d2 d3 d4 e1 e2 e3 e4 ∧ ls = x.L 5 9 13 17 d1 d2 d3 d4 e1 e2 e3 e4) := by
 refine XC.intro' hm [5, 9, 13, 17] rfl c84 (Nat.le_of_ble_eq_true rfl) ?_
 have l1 := hs.fWants.1
 have l2 := hs.fRuns.1
 have l3 := hs.fAsks.1
 have l4 := hs.fGives.1
 conv => whnf
 repeat' (first | (refine g_op ?_; conv => whnf) | (refine And.intro ?_ ?_; (focus exact au0); conv => whnf) | (refine g_seq ?_) | (refine XS.go ?_) | (refine g_ops ?_) | ((first | refine g_nil ?_ | refine fun _ => ?_); conv => whnf) | fail)
 refine ⟨by show 0 + _ ≤ _; rw [List.length_map]; omega, Nat.le_of_ble_eq_true rfl, by decide, fun n1 d1 e1 hn1 hc1 => ?_⟩
 have hm1 : n1 = x.fWants.length := by rw [hn1]; show 0 + _ = _; simp
 clear hn1
 subst hm1
 conv => whnf
 repeat' (first | (refine g_op ?_; conv => whnf) | (refine And.intro ?_ ?_; (focus exact au0); conv => whnf) | (refine g_seq ?_) | (refine XS.go ?_) | (refine g_ops ?_) | (refine g_nil ?_; conv => whnf) | fail)
 refine ⟨by show 0 + _ ≤ _; rw [List.length_map]; omega, Nat.le_of_ble_eq_true rfl, by decide, fun n2 d2 e2 hn2 hc2 => ?_⟩
 have hm2 : n2 = x.fRuns.length := by rw [hn2]; show 0 + _ = _; simp
 clear hn2
 subst hm2
 conv => whnf
 repeat' (first | (refine g_op ?_; conv => whnf) | (refine And.intro ?_ ?_; (focus exact au0); conv => whnf) | (refine g_seq ?_) | (refine XS.go ?_) | (refine g_ops ?_) | (refine g_nil ?_; conv => whnf) | fail)
 refine ⟨by show 0 + _ ≤ _; rw [List.length_map]; omega, Nat.le_of_ble_eq_true rfl, by decide, fun n3 d3 e3 hn3 hc3 => ?_⟩
 have hm3 : n3 = x.fAsks.length := by rw [hn3]; show 0 + _ = _; simp
 clear hn3
 subst hm3
 conv => whnf
 repeat' (first | (refine g_op ?_; conv => whnf) | (refine And.intro ?_ ?_; (focus exact au0); conv => whnf) | (refine g_seq ?_) | (refine XS.go ?_) | (refine g_ops ?_) | (refine g_nil ?_; conv => whnf) | fail)
 refine ⟨by show 0 + _ ≤ _; rw [List.length_map]; omega, Nat.le_of_ble_eq_true rfl, by decide, fun n4 d4 e4 hn4 hc4 => ?_⟩
 have hm4 : n4 = x.fGives.length := by rw [hn4]; show 0 + _ = _; simp
 clear hn4
 subst hm4
 conv => whnf
 repeat' (first | (refine g_op ?_; conv => whnf) | (refine And.intro ?_ ?_; (focus exact au0); conv => whnf) | (refine g_seq ?_) | (refine XS.go ?_) | (refine g_ops ?_) | ((first | refine g_nil ?_ | refine g_ret ?_ | refine r_c ?_ | refine r_nil ?_); conv => whnf) | fail)
 exact ⟨d1, d2, d3, d4, e1, e2, e3, e4, rfl, rfl⟩
theorem impl_CloneF (x : Mate) (hs : x.small) : XC Try.prog 84 [x.D] [] (fun d ls => ∃ d1 d2 d3 d4 e1 e2 e3 e4, d = x.O 31 32 33 34 d1 d2 d3 d4 e1 e2 e3 e4 ∧ ls = x.L 31 32 33 34 d1 d2 d3 d4 e1 e2 e3 e4) := by
 have h : XC Try.prog 84 [x.D] [] (fun d ls => ∃ d1 d2 d3 d4 e1 e2 e3 e4, d = x.O 5 9 13 17 d1 d2 d3 d4 e1 e2 e3 e4 ∧ ls = x.L 5 9 13 17 d1 d2 d3 d4 e1 e2 e3 e4) := impl_CloneF0 x hs
 refine h.ren (fun _ _ _ h => h) rfl (fun d ls ⟨d1, d2, d3, d4, e1, e2, e3, e4, h1, h2⟩ => ?_)
 subst h1 h2
 exact ⟨_, _, ⟨d1, d2, d3, d4, e1, e2, e3, e4, rfl, rfl⟩, fun _ _ _ h => HolL.ren rfl h, fun _ _ _ h => h⟩
def KO (R : Mate) (s1 s2 s3 s4 : Nat) (d : Go.Ab.D) (ls : List Loan) : Prop := ∃ b1 b2 b3 b4 c1 c2 c3 c4, d = R.O s1 s2 s3 s4 b1 b2 b3 b4 c1 c2 c3 c4 ∧ ls = R.L s1 s2 s3 s4 b1 b2 b3 b4 c1 c2 c3 c4
theorem XC.names {f : FuncId} {ds : List Go.Ab.D} {R : Mate} {s1 s2 s3 s4 : Nat} (t1 t2 t3 t4 : Nat) (h : XC Try.prog f ds [] (KO R s1 s2 s3 s4)) : XC Try.prog f ds [] (KO R t1 t2 t3 t4) := by
 refine h.ren (fun _ _ _ h => h) rfl (fun d ls ⟨d1, d2, d3, d4, e1, e2, e3, e4, h1, h2⟩ => ?_)
 subst h1 h2
 exact ⟨_, _, ⟨d1, d2, d3, d4, e1, e2, e3, e4, rfl, rfl⟩, fun _ _ _ h => HolL.ren rfl h, fun _ _ _ h => h⟩
theorem KO.frz {R : Mate} {d : Go.Ab.D} {ls : List Loan} (h : KO R 41 42 43 44 d ls) : okV ls d ∧ frzV ls d = R.D := by
 obtain ⟨b1, b2, b3, b4, c1, c2, c3, c4, rfl, rfl⟩ := h
 refine ⟨⟨True.intro, True.intro, True.intro, True.intro, True.intro, ⟨rfl, Nat.le_of_eq (by simp)⟩, ⟨rfl, Nat.le_of_eq (by simp)⟩, ⟨rfl, Nat.le_of_eq (by simp)⟩, ⟨rfl, Nat.le_of_eq (by simp)⟩, True.intro⟩, ?_⟩
 have t1 : (D.frozs (R.fWants.map MateWant.D)).take R.fWants.length = R.fWants.map MateWant.D := by rw [D.frozs_map (fun _ => rfl), List.take_of_length_le (by simp)]
 have t2 : (D.frozs (R.fRuns.map MateRun.D)).take R.fRuns.length = R.fRuns.map MateRun.D := by rw [D.frozs_map (fun _ => rfl), List.take_of_length_le (by simp)]
 have t3 : (D.frozs (R.fAsks.map MateAsk.D)).take R.fAsks.length = R.fAsks.map MateAsk.D := by rw [D.frozs_map (fun _ => rfl), List.take_of_length_le (by simp)]
 have t4 : (D.frozs (R.fGives.map MateAsk.D)).take R.fGives.length = R.fGives.map MateAsk.D := by rw [D.frozs_map (fun _ => rfl), List.take_of_length_le (by simp)]
 show D.agg [.str R.fName, .bool R.fUp, .int .i64 R.fClock, .bool R.fKnown, .int .i64 R.fSeen, .ro 7 ((D.frozs (R.fWants.map MateWant.D)).take R.fWants.length), .ro 11 ((D.frozs (R.fRuns.map MateRun.D)).take R.fRuns.length), .ro 4 ((D.frozs (R.fAsks.map MateAsk.D)).take R.fAsks.length), .ro 4 ((D.frozs (R.fGives.map MateAsk.D)).take R.fGives.length)] = R.D
 rw [t1, t2, t3, t4]
 rfl
end Go.Ab
set_option linter.unusedSimpArgs false
set_option linter.unusedVariables false
namespace Go.Ab
open Go Go.RowKit Go.Proofs
attribute [local irreducible] XC Rdr IntKind.wrap xw xos xqs xr xd
set_option maxRecDepth 100000
/-! ### The lists -/
theorem bl_trans : ∀ {a b c : List UInt8}, Op.bytesLess a b = true → Op.bytesLess b c = true → Op.bytesLess a c = true
 | [], [], _, h, _ => by simp [Op.bytesLess] at h
 | [], _ :: _, [], _, h => by simp [Op.bytesLess] at h
 | [], _ :: _, _ :: _, _, _ => rfl
 | _ :: _, [], _, h, _ => by simp [Op.bytesLess] at h
 | _ :: _, _ :: _, [], _, h => by simp [Op.bytesLess] at h
 | x :: a, y :: b, z :: c, h1, h2 => by
  simp only [Op.bytesLess, Bool.or_eq_true, Bool.and_eq_true, decide_eq_true_eq, beq_iff_eq] at h1 h2 ⊢
  rcases h1 with h1 | ⟨rfl, h1⟩ <;> rcases h2 with h2 | ⟨rfl, h2⟩
  ·exact .inl (UInt8.lt_trans h1 h2)
  ·exact .inl h1
  ·exact .inl h2
  ·exact .inr ⟨rfl, bl_trans h1 h2⟩
theorem ord_less {f : Nat → List UInt8} {n : Nat} (h : ∀ i, 0 < i → i < n → Op.bytesLess (f (i - 1)) (f i) = true) : ∀ {d i : Nat}, i + d + 1 < n → Op.bytesLess (f i) (f (i + d + 1)) = true
 | 0, i, hn => by
  have := h (i + 1) (by omega) hn
  simpa using this
 | d + 1, i, hn => by
  have h1 := ord_less h (d := d) (i := i) (by omega)
  have h2 := h (i + (d + 1) + 1) (by omega) hn
  have e : i + (d + 1) + 1 - 1 = i + d + 1 := by omega
  rw [e] at h2
  exact bl_trans h1 h2
end Go.Ab
set_option linter.unusedSimpArgs false
set_option linter.unusedVariables false
namespace Go.Ab
open Go Go.RowKit Go.Proofs
attribute [local irreducible] XC Rdr IntKind.wrap xw xos xqs xr xd
set_option maxRecDepth 100000
end Go.Ab
set_option linter.unusedSimpArgs false
set_option linter.unusedVariables false
namespace Go.Ab
open Go Go.RowKit Go.Proofs
attribute [local irreducible] XC Rdr IntKind.wrap xw xos xqs xr xd
set_option maxRecDepth 100000
end Go.Ab
set_option linter.unusedSimpArgs false
set_option linter.unusedVariables false
namespace Go.Ab
open Go Go.RowKit Go.Proofs
attribute [local irreducible] XC Rdr IntKind.wrap xw xos xqs xr xd
set_option maxRecDepth 100000
end Go.Ab
set_option linter.unusedSimpArgs false
set_option linter.unusedVariables false
namespace Go.Ab
open Go Go.RowKit Go.Proofs
attribute [local irreducible] XC Rdr IntKind.wrap xw xos xqs xr xd
set_option maxRecDepth 100000
end Go.Ab
set_option linter.unusedSimpArgs false
set_option linter.unusedVariables false
namespace Go.Ab
open Go Go.RowKit Go.Proofs
attribute [local irreducible] XC Rdr IntKind.wrap xw xos xqs xr xd
set_option maxRecDepth 100000
end Go.Ab
set_option linter.unusedSimpArgs false
set_option linter.unusedVariables false
namespace Go.Ab
open Go Go.RowKit Go.Proofs
attribute [local irreducible] XC Rdr IntKind.wrap xw xos xqs xr xd
set_option maxRecDepth 100000
end Go.Ab
set_option linter.unusedSimpArgs false
set_option linter.unusedVariables false
namespace Go.Ab
open Go Go.RowKit Go.Proofs
attribute [local irreducible] XC Rdr IntKind.wrap xw xos xqs xr xd
set_option maxRecDepth 100000
def cf48 : CF := ⟨15,[.c 4 9 true],(.seq (.ops [Oo 2 (.bx (.t 0)),Oo 4 (.al (.agg [.str ⟨#[]⟩,.bool false,.int .i64 0,.bool false,.int .i64 0,.nil,.nil,.nil,.nil]))]) (.seq (.seq (.ops [Od 6 9 2,Oc 7 46 [.t 6],Oo 8 (.not (.t 7))]) (.cond (.t 8) (.seq (.ops [Oo 9 (.bld (.agg [.str ⟨#[]⟩,.bool false,.int .i64 0,.bool false,.int .i64 0,.nil,.nil,.nil,.nil]) []),Os 9 4 9]) .ret) .skip)) (.seq (.ops [Od 10 9 2,Oc 11 84 [.t 10],Oo 5 (.al (.agg [.str ⟨#[]⟩,.bool false,.int .i64 0,.bool false,.int .i64 0,.nil,.nil,.nil,.nil])),Os 9 5 11]) (.seq (.ops [Om 12 1,Oc 13 98 [.t 5,.t 12]]) (.seq (.ops [Od 14 9 5,Os 9 4 14]) .ret)))))⟩
theorem c48 : compileF Try.prog [] 48 = some cf48 := by kernel_rfl
def cf98 : CF := ⟨53,[],(.seq (.ops [Om 7 0,Om 8 0,Om 9 0,Om 10 0,Om 11 0,Om 12 0,On 13 7,Of 14 1 13,⟨none,.st 1 (.t 14) (.k (.bool false)),none⟩,On 15 8,Of 16 3 15,⟨none,.st 1 (.t 16) (.k (.bool false)),none⟩,On 17 9,Of 18 4 17,⟨none,.st 1 (.t 18) (.k (.int .i64 0)),none⟩,On 19 10,Of 20 5 19,⟨none,.st 1 (.t 20) (.k (.nil)),none⟩,On 21 11,Of 22 7 21,⟨none,.st 1 (.t 22) (.k (.nil)),none⟩,On 23 12,Of 24 8 23,⟨none,.st 1 (.t 24) (.k (.nil)),none⟩]) (.seq (.ops [Ok 4 (.nil)]) (.seq (.seq (.ops [Om 25 0,On 26 25,Of 27 6 26,Ol 28 27,Og 29 28,Ok 30 (.int .i64 0)]) (.block 0 (.loop (.seq (.ops [Ob 31 .lss 30 29]) (.seq (.cond (.t 31) .skip (.exit 0)) (.seq (.block 1 (.seq (.ops [Ox 32 11 28 30,Od 33 11 32,Oo 6 (.al (.agg [.agg [.str ⟨#[]⟩,.int .i64 0,.str ⟨#[]⟩,.int .i64 0,.int .i64 0,.int .i64 0,.int .i64 0],.int .i64 0,.int .i64 0,.int .i64 0,.int .i64 0])),Os 11 6 33]) (.seq (.seq (.ops [Od 34 11 6,Oc 35 17 [.t 34],Oo 36 (.not (.t 35))]) (.cond (.t 36) (.exit 1) .skip)) (.seq (.seq (.ops [Om 37 1]) (.cond (.t 37) (.seq (.seq (.ops [Oo 38 (.fa 0 7 0 (.t 6)),Of 39 2 38,Ol 40 39,Oo 41 (.bin .eql (.t 40) (.k (.str ⟨#[]⟩)))]) (.cond (.t 41) (.exit 1) .skip)) (.ops [Oo 42 (.fa 7 1 1 (.t 6)),⟨none,.st 1 (.t 42) (.k (.int .i64 2)),none⟩,Oo 43 (.fa 8 1 2 (.t 6)),⟨none,.st 1 (.t 43) (.k (.int .i64 0)),none⟩])) .skip)) (.ops [Om 44 4,Od 45 11 6,Oo 46 (.bsl (.agg [.agg [.str ⟨#[]⟩,.int .i64 0,.str ⟨#[]⟩,.int .i64 0,.int .i64 0,.int .i64 0,.int .i64 0],.int .i64 0,.int .i64 0,.int .i64 0,.int .i64 0]) 1 [(0,(.t 45))]),Oo 47 (.app 11 104 (.t 44) (.t 46)),Om 4 47]))))) (.ops [Oi 48 30,Om 30 48]))))))) (.ops [Om 49 0,Om 50 4,On 51 49,Of 52 6 51,Os 1 52 50]))))⟩
theorem c98 : compileF Try.prog [] 98 = some cf98 := by kernel_rfl
def cf51 : CF := ⟨54,[.c 4 9 true],(.seq (.ops [Oo 2 (.bx (.t 0)),Oo 4 (.al (.agg [.str ⟨#[]⟩,.bool false,.int .i64 0,.bool false,.int .i64 0,.nil,.nil,.nil,.nil]))]) (.seq (.seq (.ops [Od 9 9 2,Oc 10 45 [.t 9],Oo 11 (.not (.t 10))]) (.cond (.t 11) (.seq (.ops [Oo 12 (.bld (.agg [.str ⟨#[]⟩,.bool false,.int .i64 0,.bool false,.int .i64 0,.nil,.nil,.nil,.nil]) []),Os 9 4 12]) .ret) .skip)) (.seq (.ops [Of 13 0 2,Ol 14 13,Of 15 2 2,Ol 16 15,Oo 17 (.bld (.agg [.str ⟨#[]⟩,.bool false,.int .i64 0,.bool false,.int .i64 0,.nil,.nil,.nil,.nil]) [(0,0,1,(.t 14)),(2,2,1,(.t 16))]),Oo 5 (.al (.agg [.str ⟨#[]⟩,.bool false,.int .i64 0,.bool false,.int .i64 0,.nil,.nil,.nil,.nil])),Os 9 5 17]) (.seq (.seq (.ops [Ok 6 (.int .i64 0)]) (.block 0 (.loop (.seq (.seq (.ops [Om 18 6,Of 19 6 2,Ol 20 19,Og 21 20,Ob 22 .lss 18 21]) (.cond (.t 22) .skip (.exit 0))) (.seq (.block 1 (.seq (.ops [Of 25 6 2,Ol 26 25,Om 27 6,Ox 28 11 26 27,Od 29 11 28,Oo 7 (.al (.agg [.agg [.str ⟨#[]⟩,.int .i64 0,.str ⟨#[]⟩,.int .i64 0,.int .i64 0,.int .i64 0,.int .i64 0],.int .i64 0,.int .i64 0,.int .i64 0,.int .i64 0])),Os 11 7 29]) (.seq (.ops [Od 30 11 7,Oc 31 15 [.t 30],Om 8 31]) (.seq (.seq (.ops [Om 32 1]) (.cond (.t 32) (.seq (.ops [Oo 33 (.fa 7 1 1 (.t 7)),⟨none,.st 1 (.t 33) (.k (.int .i64 2)),none⟩]) (.ops [Oo 34 (.fa 8 1 2 (.t 7)),⟨none,.st 1 (.t 34) (.k (.int .i64 0)),none⟩])) .skip)) (.seq (.ops [Om 35 8,Om 36 35,⟨some 37,.mv (.t 1),some (36,true)⟩,⟨some 38,.not (.t 37),some (36,true)⟩,⟨some 39,.mv (.t 38),some (36,true)⟩,⟨some 40,.fa 0 7 0 (.t 7),some (39,false)⟩,⟨some 41,.fa 2 1 2 (.t 40),some (39,false)⟩,⟨some 42,.ld 1 false (.t 41),some (39,false)⟩,⟨some 43,.bin .neq (.t 42) (.k (.str ⟨#[]⟩)),some (39,false)⟩,⟨some 44,.pick (.t 39) (.k (.bool true)) (.t 43),some (36,true)⟩,Oo 45 (.pick (.t 36) (.t 44) (.k (.bool false)))]) (.cond (.t 45) (.ops [Of 46 6 5,Ol 47 46,Od 48 11 7,Oo 49 (.bsl (.agg [.agg [.str ⟨#[]⟩,.int .i64 0,.str ⟨#[]⟩,.int .i64 0,.int .i64 0,.int .i64 0,.int .i64 0],.int .i64 0,.int .i64 0,.int .i64 0,.int .i64 0]) 1 [(0,(.t 48))]),Oo 50 (.app 11 104 (.t 47) (.t 49)),Of 51 6 5,Os 1 51 50]) .skip)))))) (.ops [Om 23 6,Oi 24 23,Om 6 24])))))) (.seq (.ops [Od 52 9 5,Oc 53 79 [.t 52],Os 9 4 53]) .ret)))))⟩
theorem c51 : compileF Try.prog [] 51 = some cf51 := by kernel_rfl
def fallE (m : Bool) (r : MateRun) : Option MateRun := if alive r && (!m || !(r.fWant.fHold.toList == (ByteArray.mk #[]).toList)) then some (if m then { r with fState := 2, fLeft := 0 } else r) else none
def fallL (m : Bool) (xs : List MateRun) (i : Nat) : List MateRun := (xs.take i).filterMap (fallE m)
theorem fallL_snoc {m : Bool} {xs : List MateRun} {i : Nat} (h : i < xs.length) : fallL m xs (i + 1) = fallL m xs i ++ (fallE m (xs.getD i default)).toList := by
 have e : xs.getD i default = xs[i] := by simp [h]
 rw [e]
 unfold fallL
 rw [List.take_succ_eq_append_getElem h, List.filterMap_append]
 congr 1
theorem fallL_some {m : Bool} {xs : List MateRun} {i : Nat} {y : MateRun} (h : i < xs.length) (hy : fallE m (xs.getD i default) = some y) : fallL m xs (i + 1) = fallL m xs i ++ [y] := by rw [fallL_snoc h, hy]; rfl
theorem fallL_none {m : Bool} {xs : List MateRun} {i : Nat} (h : i < xs.length) (hy : fallE m (xs.getD i default) = none) : fallL m xs (i + 1) = fallL m xs i := by rw [fallL_snoc h, hy]; simp
theorem fallL_len {m : Bool} {xs : List MateRun} {i : Nat} : (fallL m xs i).length ≤ xs.length := by
 unfold fallL
 exact Nat.le_trans (List.length_filterMap_le _ _) (by simp; omega)
def fallF (x : Mate) (bb n cc : Nat) (s : Nat) : D := .agg [.str x.fName, .bool false, .int .i64 x.fClock, .bool false, .int .i64 0, .nil, .lsl s bb n cc, .nil, .nil]
theorem fallE_some {m : Bool} {r : MateRun} (ha : alive r = true) (h : m = true → (r.fWant.fHold.toList == (ByteArray.mk #[]).toList) = false) : fallE m r = some (if m then { r with fState := 2, fLeft := 0 } else r) := by
 unfold fallE
 rw [if_pos]
 rw [ha]
 cases m with
 | false => rfl
 | true => rw [h rfl]; rfl
theorem fallE_dead {m : Bool} {r : MateRun} (ha : alive r = false) : fallE m r = none := by
 unfold fallE
 rw [ha]
 rfl
theorem fallE_free {r : MateRun} (h : (r.fWant.fHold.toList == (ByteArray.mk #[]).toList) = true) : fallE true r = none := by
 unfold fallE
 rw [h]
 simp
def fallR (x : Mate) (m : Bool) : Mate := if validM x then { fName := x.fName, fUp := false, fClock := x.fClock, fKnown := false, fSeen := 0, fWants := [], fRuns := fallL m x.fRuns x.fRuns.length, fAsks := [], fGives := [] } else default
end Go.Ab
set_option linter.unusedSimpArgs false
set_option linter.unusedVariables false
namespace Go.Ab
open Go Go.RowKit Go.Proofs
attribute [local irreducible] XC Rdr IntKind.wrap xw xos xqs xr xd
set_option maxRecDepth 100000
set_option maxHeartbeats 16000000
/-- A slice in a box that is nil is an owned row without room. -/
theorem XS.ownB {P : Program} {n : Nat} {st : St} {cc : CC} {Q : Post} (k t es : Nat) (p : List Nat) {c : D} {o : Nat} (hkt : Nat.beq k t = false) (hl : st.lc k = some c) (hmp : c.mpB = false) (hat : c.at p = some (.nil, o)) {c1 : Nat → D} (hset : ∀ b, c.set p (.lsl t b 0 0) = some (c1 b)) (h : ∀ b, XS P n cc { st with gen := upd st.gen t b, lc := upd (upd st.lc k (some (c1 b))) t (some (.arr es [] 0)) } Q) : XS P n cc st Q :=
 (h 0).ghost fun F g a w hH => by
  refine ⟨g, hH.size, hH.defers, hH.slots, fun k' d hk => ?_, hH.uin, hH.ubd, hH.uout, hH.keep⟩
  have hk' : upd (upd st.lc k (some (c1 0))) t (some (.arr es [] 0)) k' = some d := hk
  rw [upd_apply] at hk'
  split at hk'
  ·simp only [Option.some.injEq] at hk'
   subst hk'
   exact ⟨[], .inl ⟨rfl, rfl, rfl⟩, List.nodup_nil, by simp, by simp, by simp⟩
  ·rename_i hne
   rw [upd_apply] at hk'
   have hg : upd st.gen t 0 k' = st.gen k' := by rw [upd_apply, if_neg hne]
   split at hk'
   ·rename_i e
    subst e
    simp only [Option.some.injEq] at hk'
    subst hk'
    obtain ⟨Fs, hO⟩ := hH.locs k' _ hl
    obtain ⟨cells, e1, H, hcell, hR, hFs⟩ := hO.loc.cells hmp
    obtain ⟨H1, q1, _, _⟩ := hR.at hat
    have hrc : RelC g.U w .nil ((cells.toList.drop o).take D.nil.len) := (q1).1
    obtain ⟨H2, q3, q4⟩ := hR.reset hat (nil_lsl (s := t) (b := 0) hrc) (hset 0)
    have hsub : (st.gen k' :: H2).Sublist Fs := by rw [hFs]; exact q4.cons_cons _
    refine ⟨_, ?_, hO.nd.sublist hsub, fun x hx => hO.own x (hsub.subset hx), fun x hx => hO.nu x (hsub.subset hx), fun x hx => hO.lo x (hsub.subset hx)⟩
    show LocO g.U w (upd st.gen t 0 k') (c1 0) _
    rw [hg]
    exact .of hcell q3
   ·obtain ⟨Fs, hO⟩ := hH.locs k' d hk'
    refine ⟨Fs, ?_, hO.nd, hO.own, hO.nu, hO.lo⟩
    show LocO g.U w (upd st.gen t 0 k') d Fs
    rw [hg]
    exact hO.loc
theorem spec_CopyXF (x : Mate) (b1 b2 b3 b4 c1 c2 c3 c4 : Nat) (hs : x.small) : XC Try.prog 79 [x.O 31 32 33 34 b1 b2 b3 b4 c1 c2 c3 c4] (x.L 31 32 33 34 b1 b2 b3 b4 c1 c2 c3 c4) (fun d ls => ∃ d1 d2 d3 d4 e1 e2 e3 e4, d = x.O 6 11 16 21 d1 d2 d3 d4 e1 e2 e3 e4 ∧ ls = x.L 31 32 33 34 b1 b2 b3 b4 c1 c2 c3 c4 ++ x.L 6 11 16 21 d1 d2 d3 d4 e1 e2 e3 e4) := by
 refine XC.intro' hm [31, 32, 33, 34, 6, 11, 16, 21] rfl c79 (Nat.le_of_ble_eq_true rfl) ?_
 conv => whnf
 have l1 := hs.fWants.1
 have l2 := hs.fRuns.1
 have l3 := hs.fAsks.1
 have l4 := hs.fGives.1
 repeat' (first | (refine g_op ?_; conv => whnf) | (refine And.intro ?_ ?_; (focus exact au0); conv => whnf) | (refine g_seq ?_) | (refine XS.go ?_) | (refine g_ops ?_) | ((first | refine g_nil ?_ | refine fun _ => ?_); conv => whnf) | fail)
 refine ⟨by simp, by rw [List.map_map]; rfl, ?_⟩
 conv => whnf
 refine ⟨by show 0 + _ ≤ _; rw [List.length_map]; omega, Nat.le_of_ble_eq_true rfl, by decide, fun n1 d1 e1 hn1 hc1 => ?_⟩
 have hm1 : n1 = x.fWants.length := by rw [hn1]; show 0 + _ = _; simp
 clear hn1
 subst hm1
 conv => whnf
 repeat' (first | (refine g_op ?_; conv => whnf) | (refine And.intro ?_ ?_; (focus exact au0); conv => whnf) | (refine g_seq ?_) | (refine XS.go ?_) | (refine g_ops ?_) | (refine g_nil ?_; conv => whnf) | fail)
 refine ⟨by simp, by rw [List.map_map]; rfl, ?_⟩
 conv => whnf
 refine ⟨by show 0 + _ ≤ _; rw [List.length_map]; omega, Nat.le_of_ble_eq_true rfl, by decide, fun n2 d2 e2 hn2 hc2 => ?_⟩
 have hm2 : n2 = x.fRuns.length := by rw [hn2]; show 0 + _ = _; simp
 clear hn2
 subst hm2
 conv => whnf
 repeat' (first | (refine g_op ?_; conv => whnf) | (refine And.intro ?_ ?_; (focus exact au0); conv => whnf) | (refine g_seq ?_) | (refine XS.go ?_) | (refine g_ops ?_) | (refine g_nil ?_; conv => whnf) | fail)
 refine ⟨by simp, by rw [List.map_map]; rfl, ?_⟩
 conv => whnf
 refine ⟨by show 0 + _ ≤ _; rw [List.length_map]; omega, Nat.le_of_ble_eq_true rfl, by decide, fun n3 d3 e3 hn3 hc3 => ?_⟩
 have hm3 : n3 = x.fAsks.length := by rw [hn3]; show 0 + _ = _; simp
 clear hn3
 subst hm3
 conv => whnf
 repeat' (first | (refine g_op ?_; conv => whnf) | (refine And.intro ?_ ?_; (focus exact au0); conv => whnf) | (refine g_seq ?_) | (refine XS.go ?_) | (refine g_ops ?_) | (refine g_nil ?_; conv => whnf) | fail)
 refine ⟨by simp, by rw [List.map_map]; rfl, ?_⟩
 conv => whnf
 refine ⟨by show 0 + _ ≤ _; rw [List.length_map]; omega, Nat.le_of_ble_eq_true rfl, by decide, fun n4 d4 e4 hn4 hc4 => ?_⟩
 have hm4 : n4 = x.fGives.length := by rw [hn4]; show 0 + _ = _; simp
 clear hn4
 subst hm4
 conv => whnf
 repeat' (first | (refine g_op ?_; conv => whnf) | (refine And.intro ?_ ?_; (focus exact au0); conv => whnf) | (refine g_seq ?_) | (refine XS.go ?_) | (refine g_ops ?_) | ((first | refine g_nil ?_ | refine g_ret ?_ | refine r_c ?_ | refine r_nil ?_); conv => whnf) | fail)
 exact ⟨d1, d2, d3, d4, e1, e2, e3, e4, rfl, rfl⟩
theorem spec_CopyG (s1 s2 s3 s4 : Nat) (x : Mate) (b1 b2 b3 b4 c1 c2 c3 c4 : Nat) (hs : x.small) : XC Try.prog 79 [x.O s1 s2 s3 s4 b1 b2 b3 b4 c1 c2 c3 c4] (x.L s1 s2 s3 s4 b1 b2 b3 b4 c1 c2 c3 c4) (fun d ls => ∃ d1 d2 d3 d4 e1 e2 e3 e4, d = x.O 6 11 16 21 d1 d2 d3 d4 e1 e2 e3 e4 ∧ ls = x.L s1 s2 s3 s4 b1 b2 b3 b4 c1 c2 c3 c4 ++ x.L 6 11 16 21 d1 d2 d3 d4 e1 e2 e3 e4) := by
 refine (spec_CopyXF x b1 b2 b3 b4 c1 c2 c3 c4 hs).ren (fun _ _ _ h => h) rfl (fun d ls ⟨d1, d2, d3, d4, e1, e2, e3, e4, h1, h2⟩ => ?_)
 subst h1 h2
 exact ⟨_, _, ⟨d1, d2, d3, d4, e1, e2, e3, e4, rfl, rfl⟩, fun _ _ _ h => HolL.ren rfl h, fun _ _ _ h => h⟩
theorem fallE_small {m : Bool} {r y : MateRun} (h : r.small) (hy : fallE m r = some y) : y.small := by
 unfold fallE at hy
 split at hy
 ·simp only [Option.some.injEq] at hy
  subst hy
  split
  ·exact ⟨h.fWant⟩
  ·exact h
 ·cases hy
theorem fallR_small {x : Mate} (m : Bool) (hs : x.small) : (fallR x m).small := by
 unfold fallR
 split
 ·constructor
  ·exact ⟨Nat.zero_le _, fun y hy => absurd hy List.not_mem_nil⟩
  ·refine ⟨Nat.le_trans fallL_len hs.fRuns.1, fun y hy => ?_⟩
   simp only [fallL, List.mem_filterMap] at hy
   obtain ⟨r, hr, hy⟩ := hy
   exact fallE_small (hs.fRuns.2 r (List.mem_of_mem_take hr)) hy
  ·exact ⟨Nat.zero_le _, fun y hy => absurd hy List.not_mem_nil⟩
  ·exact ⟨Nat.zero_le _, fun y hy => absurd hy List.not_mem_nil⟩
 ·constructor <;> exact ⟨Nat.zero_le _, fun y hy => absurd hy List.not_mem_nil⟩
theorem spec_Fall (x : Mate) (m : Bool) (hs : x.small) : Rdr Try.prog 51 [x.D, .bool m] (fallR x m).D := by
 have hq := spec_MateValid x
 cases hv : validM x with
 | false =>
  have e : fallR x m = default := by simp [fallR, hv]
  rw [e]
  refine Rdr.imp (d := mateZ) ?_ mateZ_ro
  rw [hv] at hq
  refine Rdr.intro' hm c51 (Nat.le_of_ble_eq_true rfl) ?_
  conv => whnf
  repeat' (first | (refine g_op ?_; conv => whnf) | (refine And.intro ?_ ?_; (focus exact au0); conv => whnf) | (refine g_seq ?_) | (refine XS.go ?_) | (refine g_ops ?_) | (refine g_nil ?_; conv => whnf) | (refine Br.t ?_ ?_; (focus (first | assumption | exact rfl)); conv => whnf) | ((first | refine g_cond ?_ | refine g_ret ?_ | refine r_c ?_ | refine r_nil ?_ | refine fun _ => ?_ | refine XCL.of_rdr (hq) ?_); conv => whnf) | fail)
  rfl
 | true =>
  have e : fallR x m = { fName := x.fName, fUp := false, fClock := x.fClock, fKnown := false, fSeen := 0, fWants := [], fRuns := fallL m x.fRuns x.fRuns.length, fAsks := [], fGives := [] } := by simp [fallR, hv]
  rw [e]
  rw [hv] at hq
  have hl := hs.fRuns.1
  refine Rdr.introF hm [6, 11, 16, 21] rfl c51 (Nat.le_of_ble_eq_true rfl) ?_
  conv => whnf
  repeat' (first | (refine g_op ?_; conv => whnf) | (refine And.intro ?_ ?_; (focus exact au0); conv => whnf) | (refine g_seq ?_) | (refine g_ops ?_) | ((first | refine g_nil ?_ | refine fun _ => ?_); conv => whnf) | fail)
  refine XS.go ?_
  repeat' (first | (refine g_op ?_; conv => whnf) | (refine And.intro ?_ ?_; (focus exact au0); conv => whnf) | (refine g_seq ?_) | (refine g_ops ?_) | ((first | refine g_nil ?_ | refine XCL.of_rdr (hq) ?_); conv => whnf) | fail)
  refine XS.go ?_
  repeat' (first | (refine Br.f ?_ ?_; (focus (first | assumption | exact rfl)); conv => whnf) | ((first | refine g_cond ?_ | refine g_skip ?_); conv => whnf) | fail)
  refine XS.go ?_
  repeat' (first | (refine g_op ?_; conv => whnf) | (refine And.intro ?_ ?_; (focus exact au0); conv => whnf) | (refine g_seq ?_) | (refine g_ops ?_) | ((first | refine g_nil ?_ | refine fun _ => ?_); conv => whnf) | fail)
  refine XS.ownB 5 50 11 [6] rfl rfl rfl rfl (fun b => rfl) fun b => ?_
  refine XS.go ?_
  repeat' (first | (refine g_op ?_; conv => whnf) | (refine And.intro ?_ ?_; (focus exact au0); conv => whnf) | (refine g_seq ?_) | (refine XS.go ?_) | (refine g_ops ?_) | (refine g_loop ?_) | (refine g_nil ?_; conv => whnf) | (refine g_block ?_) | fail)
  refine XLc.mkA (α := Nat × Nat) (fun i => i.1 ≤ x.fRuns.length ∧ (fallL m x.fRuns i.1).length ≤ i.2) (fun i => x.fRuns.length - i.1) (fun i gs => [.any, .bool m, .lref 2 (gs 2) [] 0, .any, .lref 4 (gs 4) [] 0, .lref 5 (gs 5) [] 0, .int .i64 (i.1 : Int)]) (fun i gs => [(2, .agg [.str x.fName, .bool x.fUp, .int .i64 x.fClock, .bool x.fKnown, .int .i64 x.fSeen, .ro 7 (x.fWants.map MateWant.D), .ro 11 (x.fRuns.map MateRun.D), .ro 4 (x.fAsks.map MateAsk.D), .ro 4 (x.fGives.map MateAsk.D)]), (4, .agg [.str ⟨#[]⟩, .bool false, .int .i64 0, .bool false, .int .i64 0, .nil, .nil, .nil, .nil]), (5, .agg [.str x.fName, .bool false, .int .i64 x.fClock, .bool false, .int .i64 0, .nil, .lsl 50 (gs 50) (fallL m x.fRuns i.1).length i.2, .nil, .nil]), (50, .arr 11 ((fallL m x.fRuns i.1).map MateRun.D) i.2)]) (0, 0) ⟨Nat.zero_le _, Nat.le_refl _⟩ ?_ ?_
  ·refine ⟨?_, ?_⟩
   ·repeat' (first | exact True.intro | refine And.intro rfl ?_)
   ·exact ⟨rfl, rfl, rfl, rfl, True.intro⟩
  intro i gs hI
  obtain ⟨i, cp⟩ := i
  obtain ⟨hi0, hi1⟩ := hI
  simp only at hi0 hi1
  dsimp only
  repeat' (first | (refine z_ld1 ?_; first | (refine z_ld rfl rfl rfl rfl au1 au2 ?_; conv => whnf) | (refine z_ld0 rfl ?_; conv => whnf)) | (refine z_op ?_ ?_; (focus exact rfl); conv => whnf) | (refine zs_ops ?_ ?_; (focus exact rfl)) | (refine z_nil fun vals => ?_; conv => whnf) | (refine And.intro ?_ ?_; (focus exact au0); conv => whnf) | (refine g_seq ?_) | (refine XS.go ?_) | (refine g_cond ?_; conv => whnf) | fail)
  refine Br.mk (fun hb => ?_) (fun hb => ?_)
  ·have hlt : i < x.fRuns.length := by simpa using hb
   clear hb
   have hF : (∀ y, fallE m (x.fRuns.getD i default) = some y → fallL m x.fRuns (i + 1) = fallL m x.fRuns i ++ [y]) ∧ (fallE m (x.fRuns.getD i default) = none → fallL m x.fRuns (i + 1) = fallL m x.fRuns i) ∧ (fallL m x.fRuns i).length ≤ x.fRuns.length := ⟨fun y => fallL_some hlt, fallL_none hlt, fallL_len⟩
   generalize fallL m x.fRuns = A at hi1 hF ⊢
   conv => whnf
   repeat' (first | (refine z_ld1 ?_; first | (refine z_ld rfl rfl rfl rfl au1 au2 ?_; conv => whnf) | (refine z_ld0 rfl ?_; conv => whnf)) | (refine z_ld1g ?_; first | (refine z_ldg rfl rfl rfl rfl rfl rfl rfl (by (repeat intro _); exact ⟨au1, au2⟩) rfl rfl rfl rfl ?_; conv => whnf) | (refine z_ld0g ?_; (conv => whnf); refine And.intro ?_ ?_; (focus exact rfl); conv => whnf)) | (refine z_st1 ?_; first | (refine z_st rfl rfl rfl au1 au2 rfl rfl ?_; conv => whnf) | (refine z_st0 ?_; conv => whnf)) | (refine z_ix1 ?_; first | (refine z_ix rfl rfl rfl rfl rfl ⟨by first | omega | (simp only [decide_eq_true_eq, Bool.not_eq_true', Bool.or_eq_false_iff, decide_eq_false_iff_not, Bool.and_eq_true, Bool.not_eq_false'] at *; omega), by first | omega | (simp only [decide_eq_true_eq, Bool.not_eq_true', Bool.or_eq_false_iff, decide_eq_false_iff_not, Bool.and_eq_true, Bool.not_eq_false'] at *; omega)⟩ ?_; conv => whnf) | (refine z_ix0 rfl rfl ?_; conv => whnf)) | (refine z_op ?_ ?_; (focus exact rfl); conv => whnf) | (refine z_opg0 ?_; (conv => whnf); refine And.intro ?_ ?_; (focus exact rfl); conv => whnf) | (refine z_pick ?_ ?_; (focus exact rfl); conv => whnf) | (refine z_pickg ?_; (conv => whnf); refine And.intro ?_ ?_; (focus exact rfl); conv => whnf) | (refine zs_ops ?_ ?_; (focus exact rfl)) | (refine z_nil fun vals => ?_; conv => whnf) | (refine z_call ?_ ?_; (focus exact rfl)) | (refine z_eff ?_; conv => whnf) | (refine RC.of (spec_Alive (x.fRuns.getD i default)) ?_ ?_; (focus exact rfl); conv => whnf) | (refine g_op ?_; conv => whnf) | (refine And.intro ?_ ?_; (focus exact au0); conv => whnf) | (refine g_seq ?_) | (refine XS.go ?_) | (refine g_ops ?_) | ((first | refine g_nil ?_ | refine g_cond ?_ | refine g_skip ?_); conv => whnf) | (refine g_block ?_) | (refine fun _ => ?_; conv => whnf) | (refine Br.mk (fun hb => ?_) (fun hb => ?_) <;> conv => whnf) | fail)
   ·have hm : m = true := by first | assumption | (simp_all; done)
    have he := hF.1 { x.fRuns.getD i default with fState := 2, fLeft := 0 } (by unfold fallE; exact (if_pos hb).trans (by rw [hm]; rfl))
    have hAl := hF.2.2
    have hln : (A i).length + 1 = (A (i + 1)).length := by rw [he]; simp
    have hmp : ∀ d, d = ({ x.fRuns.getD i default with fState := 2, fLeft := 0 } : MateRun).D → (A i).map MateRun.D ++ [d] = (A (i + 1)).map MateRun.D := fun d h => by rw [h, he, List.map_append]; rfl
    refine ⟨by simp, rfl, ?_⟩
    conv => whnf
    refine ⟨rfl, ?_⟩
    conv => whnf
    refine ⟨rfl, rfl, rfl, ?_⟩
    conv => whnf
    refine ⟨?_, Nat.le_of_ble_eq_true rfl, (by decide), fun n' b' c' hn hc => ?_⟩
    ·show _ + 1 ≤ 1073741824
     rw [List.length_map]; omega
    have hn : n' = (A i).length + 1 := by rw [hn, List.length_map]; rfl
    subst hn
    conv => whnf
    repeat' (first | (refine z_st1 ?_; first | (refine z_st rfl rfl rfl au1 au2 rfl rfl ?_; conv => whnf) | (refine z_st0 ?_; conv => whnf)) | (refine z_op ?_ ?_; (focus exact rfl); conv => whnf) | ((first | refine z_nil fun vals => ?_ | refine g_op ?_); conv => whnf) | (refine And.intro ?_ ?_; (focus exact au0); conv => whnf) | (refine XS.go ?_) | (refine g_ops ?_) | (refine g_nil ?_; conv => whnf) | fail)
    refine ⟨(i + 1, c'), ⟨by simp only; omega, by simp only; omega⟩, by simp only; omega, ?_, ?_⟩
    ·have hw : IntKind.wrap .i64 ((i : Int) + 1) = ((i + 1 : Nat) : Int) := by rw [wrap_ok (by omega) (by omega)]; rfl
     repeat' (first | exact True.intro | refine And.intro (congrArg (D.int .i64) hw) ?_ | refine And.intro rfl ?_)
    ·exact ⟨rfl, rfl, congrArg (fun n => some (D.agg [.str x.fName, .bool false, .int .i64 x.fClock, .bool false, .int .i64 0, .nil, .lsl 50 b' n c', .nil, .nil])) hln, congrArg (fun l => some (D.arr 11 l c')) (hmp _ rfl), True.intro⟩
   ·have he := hF.2.1 (by unfold fallE; exact if_neg (fun h => by have h2 := hb.symm.trans h; cases h2))
    refine ⟨(i + 1, cp), ⟨by simp only; omega, by simp only; rw [he]; exact hi1⟩, by simp only; omega, ?_, ?_⟩
    ·have hw : IntKind.wrap .i64 ((i : Int) + 1) = ((i + 1 : Nat) : Int) := by rw [wrap_ok (by omega) (by omega)]; rfl
     repeat' (first | exact True.intro | refine And.intro (congrArg (D.int .i64) hw) ?_ | refine And.intro rfl ?_)
    ·exact ⟨rfl, rfl, congrArg (fun l : List MateRun => some (D.agg [.str x.fName, .bool false, .int .i64 x.fClock, .bool false, .int .i64 0, .nil, .lsl 50 (gs 50) l.length cp, .nil, .nil])) he.symm, congrArg (fun l : List MateRun => some (D.arr 11 (l.map MateRun.D) cp)) he.symm, True.intro⟩
   ·have hm : m = false := by first | assumption | (simp_all; done)
    have he := hF.1 (x.fRuns.getD i default) (by unfold fallE; exact (if_pos hb).trans (by rw [hm]; rfl))
    have hAl := hF.2.2
    have hln : (A i).length + 1 = (A (i + 1)).length := by rw [he]; simp
    have hmp : ∀ d, d = ((x.fRuns.getD i default)).D → (A i).map MateRun.D ++ [d] = (A (i + 1)).map MateRun.D := fun d h => by rw [h, he, List.map_append]; rfl
    refine ⟨by simp, rfl, ?_⟩
    conv => whnf
    refine ⟨rfl, ?_⟩
    conv => whnf
    refine ⟨rfl, rfl, rfl, ?_⟩
    conv => whnf
    refine ⟨?_, Nat.le_of_ble_eq_true rfl, (by decide), fun n' b' c' hn hc => ?_⟩
    ·show _ + 1 ≤ 1073741824
     rw [List.length_map]; omega
    have hn : n' = (A i).length + 1 := by rw [hn, List.length_map]; rfl
    subst hn
    conv => whnf
    repeat' (first | (refine z_st1 ?_; first | (refine z_st rfl rfl rfl au1 au2 rfl rfl ?_; conv => whnf) | (refine z_st0 ?_; conv => whnf)) | (refine z_op ?_ ?_; (focus exact rfl); conv => whnf) | ((first | refine z_nil fun vals => ?_ | refine g_op ?_); conv => whnf) | (refine And.intro ?_ ?_; (focus exact au0); conv => whnf) | (refine XS.go ?_) | (refine g_ops ?_) | (refine g_nil ?_; conv => whnf) | fail)
    refine ⟨(i + 1, c'), ⟨by simp only; omega, by simp only; omega⟩, by simp only; omega, ?_, ?_⟩
    ·have hw : IntKind.wrap .i64 ((i : Int) + 1) = ((i + 1 : Nat) : Int) := by rw [wrap_ok (by omega) (by omega)]; rfl
     repeat' (first | exact True.intro | refine And.intro (congrArg (D.int .i64) hw) ?_ | refine And.intro rfl ?_)
    ·exact ⟨rfl, rfl, congrArg (fun n => some (D.agg [.str x.fName, .bool false, .int .i64 x.fClock, .bool false, .int .i64 0, .nil, .lsl 50 b' n c', .nil, .nil])) hln, congrArg (fun l => some (D.arr 11 l c')) (hmp _ rfl), True.intro⟩
   ·have he := hF.2.1 (by unfold fallE; exact if_neg (fun h => by have h2 := hb.symm.trans h; cases h2))
    refine ⟨(i + 1, cp), ⟨by simp only; omega, by simp only; rw [he]; exact hi1⟩, by simp only; omega, ?_, ?_⟩
    ·have hw : IntKind.wrap .i64 ((i : Int) + 1) = ((i + 1 : Nat) : Int) := by rw [wrap_ok (by omega) (by omega)]; rfl
     repeat' (first | exact True.intro | refine And.intro (congrArg (D.int .i64) hw) ?_ | refine And.intro rfl ?_)
    ·exact ⟨rfl, rfl, congrArg (fun l : List MateRun => some (D.agg [.str x.fName, .bool false, .int .i64 x.fClock, .bool false, .int .i64 0, .nil, .lsl 50 (gs 50) l.length cp, .nil, .nil])) he.symm, congrArg (fun l : List MateRun => some (D.arr 11 (l.map MateRun.D) cp)) he.symm, True.intro⟩
  have hi : i = x.fRuns.length := by
   have : ¬ i < x.fRuns.length := by simpa using hb
   omega
  subst hi
  conv => whnf
  repeat' (first | (refine g_exit ?_; conv => whnf) | fail)
  refine XS.ownB 5 51 7 [5] rfl rfl rfl rfl (fun b => rfl) fun b1 => ?_
  refine XS.ownB 5 52 4 [7] rfl rfl rfl rfl (fun b => rfl) fun b2 => ?_
  refine XS.ownB 5 53 4 [8] rfl rfl rfl rfl (fun b => rfl) fun b3 => ?_
  refine XS.go ?_
  repeat' (first | (refine g_op ?_; conv => whnf) | (refine And.intro ?_ ?_; (focus exact au0); conv => whnf) | (refine g_seq ?_) | (refine g_ops ?_) | fail)
  have hys := fallR_small m hs
  rw [e] at hys
  refine XCL.of_XC (ls := Mate.L ({ fName := x.fName, fUp := false, fClock := x.fClock, fKnown := false, fSeen := 0, fWants := [], fRuns := fallL m x.fRuns x.fRuns.length, fAsks := [], fGives := [] } : Mate) 51 50 52 53 b1 (gs 50) b2 b3 0 cp 0 0) ⟨rfl, rfl, rfl, rfl, rfl, rfl, rfl, rfl, rfl, rfl, rfl, rfl, True.intro⟩ ((spec_CopyG 51 50 52 53 ({ fName := x.fName, fUp := false, fClock := x.fClock, fKnown := false, fSeen := 0, fWants := [], fRuns := fallL m x.fRuns x.fRuns.length, fAsks := [], fGives := [] } : Mate) b1 (gs 50) b2 b3 0 cp 0 0 hys).mono fun d ls h => ?_)
  obtain ⟨d1, d2, d3, d4, e1, e2, e3, e4, rfl, rfl⟩ := h
  conv => whnf
  repeat' (first | (refine g_op ?_; conv => whnf) | (refine And.intro ?_ ?_; (focus exact au0); conv => whnf) | (refine XS.go ?_) | ((first | refine g_nil ?_ | refine g_ret ?_ | refine r_c ?_ | refine r_nil ?_); conv => whnf) | fail)
  have t2 : (D.frozs ((fallL m x.fRuns x.fRuns.length).map MateRun.D)).take (fallL m x.fRuns x.fRuns.length).length = (fallL m x.fRuns x.fRuns.length).map MateRun.D := by rw [D.frozs_map (fun _ => rfl), List.take_of_length_le (by simp)]
  refine ⟨⟨True.intro, True.intro, True.intro, True.intro, True.intro, ⟨rfl, Nat.le_refl _⟩, ⟨rfl, Nat.le_of_eq (by simp)⟩, ⟨rfl, Nat.le_refl _⟩, ⟨rfl, Nat.le_refl _⟩, True.intro⟩, ?_⟩
  show D.agg [.str x.fName, .bool false, .int .i64 x.fClock, .bool false, .int .i64 0, .ro 7 [], .ro 11 ((D.frozs ((fallL m x.fRuns x.fRuns.length).map MateRun.D)).take (fallL m x.fRuns x.fRuns.length).length), .ro 4 [], .ro 4 []] = _
  rw [t2]
  rfl
end Go.Ab
set_option linter.unusedSimpArgs false
set_option linter.unusedVariables false
namespace Go.Ab
open Go Go.RowKit Go.Proofs
attribute [local irreducible] XC Rdr IntKind.wrap xw xos xqs xr xd
set_option maxRecDepth 100000
end Go.Ab
set_option linter.unusedSimpArgs false
set_option linter.unusedVariables false
namespace Go.Ab
open Go Go.RowKit Go.Proofs
attribute [local irreducible] XC Rdr IntKind.wrap xw xos xqs xr xd
set_option maxRecDepth 100000
end Go.Ab
set_option linter.unusedSimpArgs false
set_option linter.unusedVariables false
namespace Go.Ab
open Go Go.RowKit Go.Proofs
attribute [local irreducible] XC Rdr IntKind.wrap xw xos xqs xr xd
set_option maxRecDepth 100000
end Go.Ab
set_option linter.unusedSimpArgs false
set_option linter.unusedVariables false
namespace Go.Ab
open Go Go.RowKit Go.Proofs
attribute [local irreducible] XC Rdr IntKind.wrap xw xos xqs xr xd
set_option maxRecDepth 100000
end Go.Ab
set_option linter.unusedSimpArgs false
set_option linter.unusedVariables false
namespace Go.Ab
open Go Go.RowKit Go.Proofs
attribute [local irreducible] XC Rdr IntKind.wrap xw xos xqs xr xd
set_option maxRecDepth 100000
end Go.Ab
set_option linter.unusedSimpArgs false
set_option linter.unusedVariables false
namespace Go.Ab
open Go Go.RowKit Go.Proofs
attribute [local irreducible] XC Rdr IntKind.wrap xw xos xqs xr xd
set_option maxRecDepth 100000
end Go.Ab
set_option linter.unusedSimpArgs false
set_option linter.unusedVariables false
namespace Go.Ab
open Go Go.RowKit Go.Proofs
attribute [local irreducible] XC Rdr IntKind.wrap xw xos xqs xr xd
set_option maxRecDepth 100000
end Go.Ab
set_option linter.unusedSimpArgs false
set_option linter.unusedVariables false
namespace Go.Ab
open Go Go.RowKit Go.Proofs
attribute [local irreducible] XC Rdr IntKind.wrap xw xos xqs xr xd
set_option maxRecDepth 100000
/-! ### Asks in their order, and apart from what is given back -/
theorem getD_of {α : Type} [Inhabited α] {xs : List α} {i : Nat} (h : i < xs.length) : xs.getD i default = xs[i] := by simp [h]
end Go.Ab
set_option linter.unusedSimpArgs false
set_option linter.unusedVariables false
namespace Go.Ab
open Go Go.RowKit Go.Proofs
attribute [local irreducible] XC Rdr IntKind.wrap xw xos xqs xr xd
set_option maxRecDepth 100000
end Go.Ab
set_option linter.unusedSimpArgs false
set_option linter.unusedVariables false
namespace Go.Ab
open Go Go.RowKit Go.Proofs
attribute [local irreducible] XC Rdr IntKind.wrap xw xos xqs xr xd
set_option maxRecDepth 100000
end Go.Ab
set_option linter.unusedSimpArgs false
set_option linter.unusedVariables false
namespace Go.Ab
open Go Go.RowKit Go.Proofs
attribute [local irreducible] XC Rdr IntKind.wrap xw xos xqs xr xd
set_option maxRecDepth 100000
set_option maxHeartbeats 16000000
/-! ### Contracts under other names -/
theorem impl_fallT (x : Mate) (m : Bool) (b d1 d2 d3 d4 e1 e2 e3 e4 : Nat) (hl : x.fRuns.length ≤ 1048576) : XC Try.prog 98 [.lref 5 b [] 0, .bool m] [(5, b, x.O 31 32 33 34 d1 d2 d3 d4 e1 e2 e3 e4), (32, d2, .arr 11 (x.fRuns.map MateRun.D) e2)] (fun d ls => d = .tup [] ∧ ∃ bb cc, ls = [(5, b, fallF x bb (fallL m x.fRuns x.fRuns.length).length cc 47), (32, d2, .arr 11 (x.fRuns.map MateRun.D) e2), (47, bb, .arr 11 ((fallL m x.fRuns x.fRuns.length).map MateRun.D) cc)]) := by
 refine XC.intro' hm [5, 32, 47] rfl c98 (Nat.le_of_ble_eq_true rfl) ?_
 simp only [Mate.O]
 conv => whnf
 repeat' (first | (refine z_st1 ?_; first | (refine z_st rfl rfl rfl au1 au2 rfl rfl ?_; conv => whnf) | (refine z_st0 ?_; conv => whnf)) | (refine z_op ?_ ?_; (focus exact rfl); conv => whnf) | (refine zs_ops ?_ ?_; (focus exact rfl)) | (refine z_nil fun vals => ?_; conv => whnf) | (refine And.intro ?_ ?_; (focus exact au0); conv => whnf) | (refine g_seq ?_) | fail)
 refine XS.go ?_
 repeat' (first | (refine g_op ?_; conv => whnf) | (refine And.intro ?_ ?_; (focus exact au0); conv => whnf) | (refine g_seq ?_) | (refine g_ops ?_) | (refine g_nil ?_; conv => whnf) | fail)
 refine XS.own 4 47 11 rfl fun b0 => ?_
 refine XS.go ?_
 repeat' (first | (refine z_ld1 ?_; first | (refine z_ld rfl rfl rfl rfl au1 au2 ?_; conv => whnf) | (refine z_ld0 rfl ?_; conv => whnf)) | (refine z_op ?_ ?_; (focus exact rfl); conv => whnf) | (refine zs_ops ?_ ?_; (focus exact rfl)) | (refine z_nil fun vals => ?_; conv => whnf) | (refine And.intro ?_ ?_; (focus exact au0); conv => whnf) | (refine g_seq ?_) | (refine XS.go ?_) | (refine g_loop ?_) | (refine g_block ?_) | fail)
 refine XLc.mkG (α := Nat × Nat) (fun i gs => i.1 ≤ x.fRuns.length ∧ (fallL m x.fRuns i.1).length ≤ i.2 ∧ gs 5 = b ∧ gs 32 = d2) (fun i => x.fRuns.length - i.1) (fun i gs => [.lref 5 (gs 5) [] 0, .bool m, .any, .any, .lsl 47 (gs 47) (fallL m x.fRuns i.1).length i.2, .any, .any, .any, .any, .any, .any, .any, .any, .any, .any, .any, .any, .any, .any, .any, .any, .any, .any, .any, .any, .any, .any, .any, .lsl 32 (gs 32) x.fRuns.length e2, .int .i64 (x.fRuns.length : Int), .int .i64 (i.1 : Int)]) (fun i gs => [(5, .agg [.str x.fName, .bool false, .int .i64 x.fClock, .bool false, .int .i64 0, .nil, .lsl 32 (gs 32) x.fRuns.length e2, .nil, .nil]), (32, .arr 11 (x.fRuns.map MateRun.D) e2), (47, .arr 11 ((fallL m x.fRuns i.1).map MateRun.D) i.2)]) (0, 0) ⟨Nat.zero_le _, Nat.le_refl _, rfl, rfl⟩ ?_ ?_
 ·refine ⟨?_, ?_⟩
  ·repeat' (first | exact True.intro | refine And.intro rfl ?_)
  ·exact ⟨rfl, rfl, rfl, True.intro⟩
 intro i gs hI
 obtain ⟨i, cp⟩ := i
 obtain ⟨hi0, hi1, hg1, hg2⟩ := hI
 simp only at hi0 hi1
 dsimp only
 subst hg1 hg2
 repeat' (first | (refine g_op ?_; conv => whnf) | (refine And.intro ?_ ?_; (focus exact au0); conv => whnf) | (refine g_seq ?_) | (refine XS.go ?_) | (refine g_ops ?_) | ((first | refine g_nil ?_ | refine g_cond ?_); conv => whnf) | fail)
 refine Br.mk (fun hb => ?_) (fun hb => ?_)
 ·have hlt : i < x.fRuns.length := by simpa using hb
  have hj0 : i < (x.fRuns.map MateRun.D).length := by rw [List.length_map]; exact hlt
  have he0 : (x.fRuns.map MateRun.D).getD i .any = (x.fRuns.getD i default).D := elt_map hlt
  have hF : (∀ y, fallE m (x.fRuns.getD i default) = some y → fallL m x.fRuns (i + 1) = fallL m x.fRuns i ++ [y]) ∧ (fallE m (x.fRuns.getD i default) = none → fallL m x.fRuns (i + 1) = fallL m x.fRuns i) ∧ (fallL m x.fRuns i).length ≤ x.fRuns.length := ⟨fun y => fallL_some hlt, fallL_none hlt, fallL_len⟩
  generalize fallL m x.fRuns = A at hi1 hF ⊢
  conv => whnf
  repeat' (first | (refine z_ld1 ?_; first | (refine z_ld rfl rfl rfl rfl au1 au2 ?_; conv => whnf) | (refine z_ld0 rfl ?_; conv => whnf)) | (refine z_st1 ?_; first | (refine z_st rfl rfl rfl au1 au2 rfl rfl ?_; conv => whnf) | (refine z_st0 ?_; conv => whnf)) | (refine z_ix1 ?_; first | (refine z_ix rfl rfl rfl rfl rfl ⟨by first | omega | (simp only [decide_eq_true_eq, Bool.not_eq_true', Bool.or_eq_false_iff, decide_eq_false_iff_not, Bool.and_eq_true, Bool.not_eq_false'] at *; omega), by first | omega | (simp only [decide_eq_true_eq, Bool.not_eq_true', Bool.or_eq_false_iff, decide_eq_false_iff_not, Bool.and_eq_true, Bool.not_eq_false'] at *; omega)⟩ ?_; conv => whnf) | (refine z_ix0 rfl rfl ?_; conv => whnf)) | (refine z_op ?_ ?_; (focus exact rfl); conv => whnf) | (refine zs_ops ?_ ?_; (focus exact rfl)) | (refine z_nil fun vals => ?_; conv => whnf) | (refine z_call ?_ ?_; (focus exact rfl)) | (refine z_eff ?_; conv => whnf) | (refine RC.of (impl_Alive (x.fRuns.getD i default)) ?_ ?_; (focus exact rfl); conv => whnf) | (refine g_op ?_; conv => whnf) | (refine And.intro ?_ ?_; (focus exact au0); conv => whnf) | (refine g_seq ?_) | (refine XS.go ?_) | (refine g_ops ?_) | ((first | refine g_nil ?_ | refine g_cond ?_ | refine g_skip ?_ | refine g_exit ?_); conv => whnf) | (refine g_block ?_) | (refine fun _ => ?_; conv => whnf) | (refine Br.mk (fun hb => ?_) (fun hb => ?_) <;> conv => whnf) | fail)
  ·have he := hF.2.1 (fallE_dead (by simpa using hb))
   refine ⟨(i + 1, cp), ⟨by simp only; omega, by simp only; rw [he]; exact hi1, rfl, rfl⟩, by simp only; omega, ?_, ?_⟩
   ·have hw : IntKind.wrap .i64 ((i : Int) + 1) = ((i + 1 : Nat) : Int) := by rw [wrap_ok (by omega) (by omega)]; rfl
    repeat' (first | exact True.intro | refine And.intro (congrArg (D.int .i64) hw) ?_ | refine And.intro rfl ?_ | refine And.intro (congrArg (fun l : List MateRun => D.lsl 47 (gs 47) l.length cp) he.symm) ?_)
   ·exact ⟨rfl, rfl, congrArg (fun l : List MateRun => some (D.arr 11 (l.map MateRun.D) cp)) he.symm, True.intro⟩
  ·have hm : m = true := by assumption
   have he := hF.2.1 (by rw [hm]; exact fallE_free hb)
   refine ⟨(i + 1, cp), ⟨by simp only; omega, by simp only; rw [he]; exact hi1, rfl, rfl⟩, by simp only; omega, ?_, ?_⟩
   ·have hw : IntKind.wrap .i64 ((i : Int) + 1) = ((i + 1 : Nat) : Int) := by rw [wrap_ok (by omega) (by omega)]; rfl
    repeat' (first | exact True.intro | refine And.intro (congrArg (D.int .i64) hw) ?_ | refine And.intro rfl ?_ | refine And.intro (congrArg (fun l : List MateRun => D.lsl 47 (gs 47) l.length cp) he.symm) ?_)
   ·exact ⟨rfl, rfl, congrArg (fun l : List MateRun => some (D.arr 11 (l.map MateRun.D) cp)) he.symm, True.intro⟩
  ·have hm : m = true := by assumption
   have ha : (!alive (x.fRuns.getD i default)) = false := by assumption
   have he := hF.1 { x.fRuns.getD i default with fState := 2, fLeft := 0 } (by rw [fallE_some (by simpa using ha) (fun _ => hb), hm]; rfl)
   have hAl := hF.2.2
   have hln : (A i).length + 1 = (A (i + 1)).length := by rw [he]; simp
   have hmp : ∀ d, d = ({ x.fRuns.getD i default with fState := 2, fLeft := 0 } : MateRun).D → (A i).map MateRun.D ++ [d] = (A (i + 1)).map MateRun.D := fun d h => by rw [h, he, List.map_append]; rfl
   refine ⟨by simp, rfl, ?_⟩
   conv => whnf
   refine ⟨rfl, ?_⟩
   conv => whnf
   refine ⟨rfl, rfl, rfl, ?_⟩
   conv => whnf
   refine ⟨?_, Nat.le_of_ble_eq_true rfl, (by decide), fun n' b' c' hn hc => ?_⟩
   ·show _ + 1 ≤ 1073741824
    rw [List.length_map]; omega
   have hn : n' = (A i).length + 1 := by rw [hn, List.length_map]; rfl
   subst hn
   conv => whnf
   repeat' (first | (refine z_op ?_ ?_; (focus exact rfl); conv => whnf) | ((first | refine z_nil fun vals => ?_ | refine g_op ?_); conv => whnf) | (refine And.intro ?_ ?_; (focus exact au0); conv => whnf) | (refine XS.go ?_) | (refine g_ops ?_) | (refine g_nil ?_; conv => whnf) | fail)
   refine ⟨(i + 1, c'), ⟨by simp only; omega, by simp only; omega, rfl, rfl⟩, by simp only; omega, ?_, ?_⟩
   ·have hw : IntKind.wrap .i64 ((i : Int) + 1) = ((i + 1 : Nat) : Int) := by rw [wrap_ok (by omega) (by omega)]; rfl
    repeat' (first | exact True.intro | refine And.intro (congrArg (D.int .i64) hw) ?_ | refine And.intro rfl ?_ | refine And.intro (congrArg (fun n => D.lsl 47 b' n c') hln) ?_)
   ·exact ⟨rfl, rfl, congrArg (fun l => some (D.arr 11 l c')) (hmp _ rfl), True.intro⟩
  ·have hm : m = false := by simpa using hb
   have ha : (!alive (x.fRuns.getD i default)) = false := by assumption
   have he := hF.1 (x.fRuns.getD i default) (by rw [fallE_some (by simpa using ha) (fun h => by rw [hm] at h; cases h), hm]; rfl)
   have hAl := hF.2.2
   have hln : (A i).length + 1 = (A (i + 1)).length := by rw [he]; simp
   have hmp : ∀ d, d = (x.fRuns.getD i default).D → (A i).map MateRun.D ++ [d] = (A (i + 1)).map MateRun.D := fun d h => by rw [h, he, List.map_append]; rfl
   refine ⟨by simp, rfl, ?_⟩
   conv => whnf
   refine ⟨rfl, ?_⟩
   conv => whnf
   refine ⟨rfl, rfl, rfl, ?_⟩
   conv => whnf
   refine ⟨?_, Nat.le_of_ble_eq_true rfl, (by decide), fun n' b' c' hn hc => ?_⟩
   ·show _ + 1 ≤ 1073741824
    rw [List.length_map]; omega
   have hn : n' = (A i).length + 1 := by rw [hn, List.length_map]; rfl
   subst hn
   conv => whnf
   repeat' (first | (refine z_op ?_ ?_; (focus exact rfl); conv => whnf) | ((first | refine z_nil fun vals => ?_ | refine g_op ?_); conv => whnf) | (refine And.intro ?_ ?_; (focus exact au0); conv => whnf) | (refine XS.go ?_) | (refine g_ops ?_) | (refine g_nil ?_; conv => whnf) | fail)
   refine ⟨(i + 1, c'), ⟨by simp only; omega, by simp only; omega, rfl, rfl⟩, by simp only; omega, ?_, ?_⟩
   ·have hw : IntKind.wrap .i64 ((i : Int) + 1) = ((i + 1 : Nat) : Int) := by rw [wrap_ok (by omega) (by omega)]; rfl
    repeat' (first | exact True.intro | refine And.intro (congrArg (D.int .i64) hw) ?_ | refine And.intro rfl ?_ | refine And.intro (congrArg (fun n => D.lsl 47 b' n c') hln) ?_)
   ·exact ⟨rfl, rfl, congrArg (fun l => some (D.arr 11 l c')) (hmp _ rfl), True.intro⟩
 have hi : i = x.fRuns.length := by
  have : ¬ i < x.fRuns.length := by simpa using hb
  omega
 subst hi
 conv => whnf
 repeat' (first | (refine z_st1 ?_; first | (refine z_st rfl rfl rfl au1 au2 rfl rfl ?_; conv => whnf) | (refine z_st0 ?_; conv => whnf)) | (refine z_op ?_ ?_; (focus exact rfl); conv => whnf) | (refine zs_ops ?_ ?_; (focus exact rfl)) | (refine z_nil fun vals => ?_; conv => whnf) | (refine And.intro ?_ ?_; (focus exact au0); conv => whnf) | (refine XS.go ?_) | ((first | refine g_exit ?_ | refine r_nil ?_); conv => whnf) | fail)
 exact ⟨gs 47, cp, rfl⟩
theorem fallTF (s : Nat) (x : Mate) (m : Bool) (b d1 d2 d3 d4 e1 e2 e3 e4 : Nat) (hl : x.fRuns.length ≤ 1048576) : XC Try.prog 98 [.lref s b [] 0, .bool m] [(s, b, x.O 31 32 33 34 d1 d2 d3 d4 e1 e2 e3 e4), (32, d2, .arr 11 (x.fRuns.map MateRun.D) e2)] (fun d ls => d = .tup [] ∧ ∃ bb cc, ls = [(s, b, fallF x bb (fallL m x.fRuns x.fRuns.length).length cc 47), (32, d2, .arr 11 (x.fRuns.map MateRun.D) e2), (47, bb, .arr 11 ((fallL m x.fRuns x.fRuns.length).map MateRun.D) cc)]) := by
 refine (impl_fallT x m b d1 d2 d3 d4 e1 e2 e3 e4 hl).renm (fun _ _ _ h => h) rfl (fun d ls ⟨h1, bb, cc, h2⟩ => ?_)
 subst h1 h2
 exact ⟨_, _, ⟨rfl, bb, cc, rfl⟩, fun _ _ _ h => HolL.renm rfl h, fun _ _ _ h => h⟩
/-! ### Where the tick ends early -/
end Go.Ab
