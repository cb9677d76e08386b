/- Steps towards the law: contracts of functions and facts of lists. -/
import Derived.Test.YtalddljlemppnaaStewT
import Derived.Test.YtalddljlemppnaaRows
set_option linter.unusedSimpArgs false
set_option linter.unusedVariables false
namespace Go.Ab
open Go Go.RowKit Go.Proofs
attribute [local irreducible] XC Rdr IntKind.wrap xw xos xqs xr xd
set_option maxRecDepth 100000

/-- impl.isName -/
def cf77 : CF := ⟨41, [.t 2],
  (.seq (.ops [⟨some 2, .mv (.k (.bool false)), none⟩])
  (.seq (.seq (.ops [⟨some 5, .mv (.t 0), none⟩,
    ⟨some 6, .lens (.t 5), none⟩,
    ⟨some 7, .bin .lss (.t 6) (.k (.int .i64 1)), none⟩,
    ⟨some 8, .mv (.t 7), none⟩,
    ⟨some 9, .mv (.t 0), some (8, false)⟩,
    ⟨some 10, .lens (.t 9), some (8, false)⟩,
    ⟨some 11, .bin .gtr (.t 10) (.k (.int .i64 20)), some (8, false)⟩,
    ⟨some 12, .pick (.t 8) (.k (.bool true)) (.t 11), none⟩])
  (.cond (.t 12)
  (.seq (.ops [⟨some 2, .mv (.k (.bool false)), none⟩])
  .ret)
  .skip))
  (.seq (.seq (.ops [⟨some 13, .mv (.t 0), none⟩,
    ⟨some 14, .lens (.t 13), none⟩,
    ⟨some 15, .mv (.k (.int .i64 0)), none⟩])
  (.block 0 (.loop (.seq (.ops [⟨some 16, .bin .lss (.t 15) (.t 14), none⟩])
  (.seq (.cond (.t 16)
  .skip
  (.exit 0))
  (.seq (.block 1 (.seq (.ops [⟨some 17, .mv (.t 15), none⟩,
    ⟨some 3, .mv (.t 17), none⟩])
  (.seq (.ops [⟨some 18, .mv (.t 0), none⟩,
    ⟨some 19, .mv (.t 3), none⟩,
    ⟨some 20, .sx (.t 18) (.t 19), none⟩,
    ⟨some 4, .mv (.t 20), none⟩])
  (.seq (.ops [⟨some 21, .mv (.t 4), none⟩,
    ⟨some 22, .bin .geq (.t 21) (.k (.int .u8 97)), none⟩,
    ⟨some 23, .mv (.t 22), none⟩,
    ⟨some 24, .mv (.t 4), some (23, true)⟩,
    ⟨some 25, .bin .leq (.t 24) (.k (.int .u8 122)), some (23, true)⟩,
    ⟨some 26, .pick (.t 23) (.t 25) (.k (.bool false)), none⟩,
    ⟨some 27, .mv (.t 26), none⟩,
    ⟨some 28, .mv (.t 4), some (27, false)⟩,
    ⟨some 29, .bin .geq (.t 28) (.k (.int .u8 48)), some (27, false)⟩,
    ⟨some 30, .mv (.t 29), some (27, false)⟩,
    ⟨some 31, .mv (.t 4), some (30, true)⟩,
    ⟨some 32, .bin .leq (.t 31) (.k (.int .u8 57)), some (30, true)⟩,
    ⟨some 33, .pick (.t 30) (.t 32) (.k (.bool false)), some (27, false)⟩,
    ⟨some 34, .pick (.t 27) (.k (.bool true)) (.t 33), none⟩,
    ⟨some 35, .mv (.t 34), none⟩,
    ⟨some 36, .mv (.t 4), some (35, false)⟩,
    ⟨some 37, .bin .eql (.t 36) (.k (.int .u8 45)), some (35, false)⟩,
    ⟨some 38, .pick (.t 35) (.k (.bool true)) (.t 37), none⟩,
    ⟨some 39, .not (.t 38), none⟩])
  (.cond (.t 39)
  (.seq (.ops [⟨some 2, .mv (.k (.bool false)), none⟩])
  .ret)
  .skip)))))
  (.ops [⟨some 40, .bin .add (.t 15) (.k (.int .i64 1)), none⟩,
    ⟨some 15, .mv (.t 40), none⟩])))))))
  (.seq (.ops [⟨some 2, .mv (.k (.bool true)), none⟩])
  .ret))))⟩
theorem c77 : compileF Try.prog [] 77 = some cf77 := by kernel_rfl
/-- spec.l18NameOk -/
def cf72 : CF := ⟨37, [.t 2],
  (.seq (.ops [⟨some 2, .mv (.k (.bool false)), none⟩])
  (.seq (.seq (.ops [⟨some 5, .mv (.t 0), none⟩,
    ⟨some 6, .lens (.t 5), none⟩,
    ⟨some 7, .call 70 [(.t 6), (.k (.int .i64 1)), (.k (.int .i64 20))], none⟩,
    ⟨some 8, .not (.t 7), none⟩])
  (.cond (.t 8)
  (.seq (.ops [⟨some 2, .mv (.k (.bool false)), none⟩])
  .ret)
  .skip))
  (.seq (.seq (.ops [⟨some 3, .mv (.k (.int .i64 0)), none⟩])
  (.block 0 (.loop (.seq (.seq (.ops [⟨some 9, .mv (.t 3), none⟩,
    ⟨some 10, .mv (.t 0), none⟩,
    ⟨some 11, .lens (.t 10), none⟩,
    ⟨some 12, .bin .lss (.t 9) (.t 11), none⟩])
  (.cond (.t 12)
  .skip
  (.exit 0)))
  (.seq (.block 1 (.seq (.ops [⟨some 15, .mv (.t 0), none⟩,
    ⟨some 16, .mv (.t 3), none⟩,
    ⟨some 17, .sx (.t 15) (.t 16), none⟩,
    ⟨some 4, .mv (.t 17), none⟩])
  (.seq (.ops [⟨some 18, .mv (.t 4), none⟩,
    ⟨some 19, .bin .geq (.t 18) (.k (.int .u8 97)), none⟩,
    ⟨some 20, .mv (.t 19), none⟩,
    ⟨some 21, .mv (.t 4), some (20, true)⟩,
    ⟨some 22, .bin .leq (.t 21) (.k (.int .u8 122)), some (20, true)⟩,
    ⟨some 23, .pick (.t 20) (.t 22) (.k (.bool false)), none⟩,
    ⟨some 24, .mv (.t 23), none⟩,
    ⟨some 25, .mv (.t 4), some (24, false)⟩,
    ⟨some 26, .bin .geq (.t 25) (.k (.int .u8 48)), some (24, false)⟩,
    ⟨some 27, .mv (.t 26), some (24, false)⟩,
    ⟨some 28, .mv (.t 4), some (27, true)⟩,
    ⟨some 29, .bin .leq (.t 28) (.k (.int .u8 57)), some (27, true)⟩,
    ⟨some 30, .pick (.t 27) (.t 29) (.k (.bool false)), some (24, false)⟩,
    ⟨some 31, .pick (.t 24) (.k (.bool true)) (.t 30), none⟩,
    ⟨some 32, .mv (.t 31), none⟩,
    ⟨some 33, .mv (.t 4), some (32, false)⟩,
    ⟨some 34, .bin .eql (.t 33) (.k (.int .u8 45)), some (32, false)⟩,
    ⟨some 35, .pick (.t 32) (.k (.bool true)) (.t 34), none⟩,
    ⟨some 36, .not (.t 35), none⟩])
  (.cond (.t 36)
  (.seq (.ops [⟨some 2, .mv (.k (.bool false)), none⟩])
  .ret)
  .skip))))
  (.ops [⟨some 13, .mv (.t 3), none⟩,
    ⟨some 14, .bin .add (.t 13) (.k (.int .i64 1)), none⟩,
    ⟨some 3, .mv (.t 14), none⟩]))))))
  (.seq (.ops [⟨some 2, .mv (.k (.bool true)), none⟩])
  .ret))))⟩
theorem c72 : compileF Try.prog [] 72 = some cf72 := by kernel_rfl
/-- impl.within -/
def cf75 : CF := ⟨15, [.t 6],
  (.seq (.ops [⟨some 6, .mv (.k (.bool false)), none⟩])
  (.seq (.ops [⟨some 7, .mv (.t 0), none⟩,
    ⟨some 8, .mv (.t 1), none⟩,
    ⟨some 9, .bin .geq (.t 7) (.t 8), none⟩,
    ⟨some 10, .mv (.t 9), none⟩,
    ⟨some 11, .mv (.t 0), some (10, true)⟩,
    ⟨some 12, .mv (.t 2), some (10, true)⟩,
    ⟨some 13, .bin .leq (.t 11) (.t 12), some (10, true)⟩,
    ⟨some 14, .pick (.t 10) (.t 13) (.k (.bool false)), none⟩,
    ⟨some 6, .mv (.t 14), none⟩])
  .ret))⟩
theorem c75 : compileF Try.prog [] 75 = some cf75 := by kernel_rfl
/-- spec.l18In -/
def cf70 : CF := ⟨15, [.t 6],
  (.seq (.ops [⟨some 6, .mv (.k (.bool false)), none⟩])
  (.seq (.ops [⟨some 7, .mv (.t 0), none⟩,
    ⟨some 8, .mv (.t 1), none⟩,
    ⟨some 9, .bin .geq (.t 7) (.t 8), none⟩,
    ⟨some 10, .mv (.t 9), none⟩,
    ⟨some 11, .mv (.t 0), some (10, true)⟩,
    ⟨some 12, .mv (.t 2), some (10, true)⟩,
    ⟨some 13, .bin .leq (.t 11) (.t 12), some (10, true)⟩,
    ⟨some 14, .pick (.t 10) (.t 13) (.k (.bool false)), none⟩,
    ⟨some 6, .mv (.t 14), none⟩])
  .ret))⟩
theorem c70 : compileF Try.prog [] 70 = some cf70 := by kernel_rfl
def okc (b : Int) : Bool := (decide (b ≥ 97) && decide (b ≤ 122)) || (decide (b ≥ 48) && decide (b ≤ 57)) || b == 45
def nameOk (s : ByteArray) : Bool := inR s.size 1 20 && allN (fun i => okc (byteAt s i)) s.size 0
theorem impl_within (n lo hi : Int) : Rdr Try.prog 75 [.int .i64 n, .int .i64 lo, .int .i64 hi] (.bool (inR n lo hi)) := by
  refine Rdr.intro' hm c75 (Nat.le_of_ble_eq_true rfl) ?_
  conv => whnf
  repeat' (first | (refine g_op ?_; conv => whnf) | (refine And.intro ?_ ?_; (focus (first | exact rfl | exact Nat.le_of_ble_eq_true rfl | decide | omega | fail)); conv => whnf) | (refine g_seq ?_) | (refine XS.go ?_) | (refine g_ops ?_) | (refine g_nil ?_; conv => whnf) | (refine g_opg ?_; conv => whnf) | (refine Br.t ?_ ?_; (focus (first | assumption | exact rfl)); conv => whnf) | (refine Br.f ?_ ?_; (focus (first | assumption | exact rfl)); conv => whnf) | (refine g_ret ?_; conv => whnf) | (refine r_t ?_; conv => whnf) | (refine r_nil ?_; conv => whnf) | (refine Br.mk (fun hb => ?_) (fun hb => ?_) <;> conv => whnf) | fail)
  all_goals (conv => lhs; whnf)
  all_goals refine congrArg D.bool ?_
  all_goals first | (refine (Bool.eq_false_iff.mpr fun h => ?_).symm; simp_all [inR]; done) | (refine Bool.eq_false_iff.mpr fun h => ?_; simp_all [inR]; done) | (simp_all [inR]; done) | (simp_all [inR]; omega) | (refine (Bool.eq_false_iff.mpr fun h => ?_).symm; simp_all [inR]; omega) | (refine Bool.eq_false_iff.mpr fun h => ?_; simp_all [inR]; omega) | (rw [Bool.eq_iff_iff]; constructor <;> intro h <;> simp_all [inR] <;> omega) | fail
theorem spec_In (n lo hi : Int) : Rdr Try.prog 70 [.int .i64 n, .int .i64 lo, .int .i64 hi] (.bool (inR n lo hi)) := by
  refine Rdr.intro' hm c70 (Nat.le_of_ble_eq_true rfl) ?_
  conv => whnf
  repeat' (first | (refine g_op ?_; conv => whnf) | (refine And.intro ?_ ?_; (focus (first | exact rfl | exact Nat.le_of_ble_eq_true rfl | decide | omega | fail)); conv => whnf) | (refine g_seq ?_) | (refine XS.go ?_) | (refine g_ops ?_) | (refine g_nil ?_; conv => whnf) | (refine g_opg ?_; conv => whnf) | (refine Br.t ?_ ?_; (focus (first | assumption | exact rfl)); conv => whnf) | (refine Br.f ?_ ?_; (focus (first | assumption | exact rfl)); conv => whnf) | (refine g_ret ?_; conv => whnf) | (refine r_t ?_; conv => whnf) | (refine r_nil ?_; conv => whnf) | (refine Br.mk (fun hb => ?_) (fun hb => ?_) <;> conv => whnf) | fail)
  all_goals (conv => lhs; whnf)
  all_goals refine congrArg D.bool ?_
  all_goals first | (refine (Bool.eq_false_iff.mpr fun h => ?_).symm; simp_all [inR]; done) | (refine Bool.eq_false_iff.mpr fun h => ?_; simp_all [inR]; done) | (simp_all [inR]; done) | (simp_all [inR]; omega) | (refine (Bool.eq_false_iff.mpr fun h => ?_).symm; simp_all [inR]; omega) | (refine Bool.eq_false_iff.mpr fun h => ?_; simp_all [inR]; omega) | (rw [Bool.eq_iff_iff]; constructor <;> intro h <;> simp_all [inR] <;> omega) | fail
set_option maxHeartbeats 4000000 in
theorem impl_isName (s : ByteArray) : Rdr Try.prog 77 [.str s] (.bool (nameOk s)) := by
  refine Rdr.intro' hm c77 (Nat.le_of_ble_eq_true rfl) ?_
  conv => whnf
  repeat' (first | (refine g_op ?_; conv => whnf) | (refine And.intro ?_ ?_; (focus (first | exact rfl | exact Nat.le_of_ble_eq_true rfl | decide | omega | fail)); conv => whnf) | (refine g_seq ?_) | (refine XS.go ?_) | (refine g_ops ?_) | (refine g_nil ?_; conv => whnf) | (refine g_opg ?_; conv => whnf) | fail)
  refine Br.mk (fun hb => ?_) (fun hb => ?_)
  · have hn : inR s.size 1 20 = false := by simp at hb; simp [inR]; omega
    conv => whnf
    repeat' (first | (refine g_op ?_; conv => whnf) | (refine And.intro ?_ ?_; (focus (first | exact rfl | exact Nat.le_of_ble_eq_true rfl | decide | omega | fail)); conv => whnf) | (refine g_seq ?_) | (refine XS.go ?_) | (refine g_ops ?_) | (refine g_nil ?_; conv => whnf) | (refine g_opg ?_; conv => whnf) | (refine Br.t ?_ ?_; (focus (first | assumption | exact rfl)); conv => whnf) | (refine g_cond ?_; conv => whnf) | (refine g_ret ?_; conv => whnf) | (refine r_t ?_; conv => whnf) | (refine r_nil ?_; conv => whnf) | fail)
    conv => lhs; whnf
    simp only [nameOk, hn, Bool.false_and]
  conv => whnf
  repeat' (first | (refine g_op ?_; conv => whnf) | (refine And.intro ?_ ?_; (focus (first | exact rfl | exact Nat.le_of_ble_eq_true rfl | decide | omega | fail)); conv => whnf) | (refine XS.go ?_) | (refine g_nil ?_; conv => whnf) | (refine g_opg ?_; conv => whnf) | (refine Br.f ?_ ?_; (focus (first | assumption | exact rfl)); conv => whnf) | (refine g_cond ?_; conv => whnf) | fail)
  refine Br.mk (fun hc => ?_) (fun hc => ?_)
  · have hn : inR s.size 1 20 = false := by simp at hc; simp [inR]; omega
    conv => whnf
    repeat' (first | (refine g_op ?_; conv => whnf) | (refine And.intro ?_ ?_; (focus (first | exact rfl | exact Nat.le_of_ble_eq_true rfl | decide | omega | fail)); conv => whnf) | (refine g_seq ?_) | (refine XS.go ?_) | (refine g_ops ?_) | (refine g_nil ?_; conv => whnf) | (refine g_ret ?_; conv => whnf) | (refine r_t ?_; conv => whnf) | (refine r_nil ?_; conv => whnf) | fail)
    conv => lhs; whnf
    simp only [nameOk, hn, Bool.false_and]
  have hn : inR s.size 1 20 = true := by simp at hb hc; simp [inR]; omega
  have hsz : s.size ≤ 20 := by simp [inR] at hn; omega
  conv => whnf
  repeat' (first | (refine g_op ?_; conv => whnf) | (refine And.intro ?_ ?_; (focus (first | exact rfl | exact Nat.le_of_ble_eq_true rfl | decide | omega | fail)); conv => whnf) | (refine g_seq ?_) | (refine XS.go ?_) | (refine g_ops ?_) | (refine g_loop ?_) | (refine g_nil ?_; conv => whnf) | (refine g_skip ?_; conv => whnf) | (refine g_block ?_) | fail)
  refine XLc.mkL (α := Nat) (fun i => i ≤ s.size ∧ nameOk s = (allN (fun i => okc (byteAt s i)) (s.size - i) i && true)) (fun i => s.size - i) (fun i gs => [.str s, .any, .any, .any, .any, .any, .any, .any, .any, .any, .any, .any, .any, .any, .int .i64 (s.size : Int), .int .i64 (i : Int)]) (fun i gs => []) 0 ⟨Nat.zero_le _, by simp [nameOk, hn]⟩ ?_ ?_
  · refine ⟨?_, ?_⟩
    · repeat' (first | exact True.intro | refine And.intro rfl ?_)
    · repeat' (first | exact True.intro | refine And.intro rfl ?_)
  intro i gs hI
  obtain ⟨hi, hN⟩ := hI
  repeat' (first | (refine g_op ?_; conv => whnf) | (refine And.intro ?_ ?_; (focus (first | exact rfl | exact Nat.le_of_ble_eq_true rfl | decide | omega | fail)); conv => whnf) | (refine g_seq ?_) | (refine XS.go ?_) | (refine g_ops ?_) | (refine g_nil ?_; conv => whnf) | (refine g_cond ?_; conv => whnf) | fail)
  refine Br.mk (fun hb => ?_) (fun hb => ?_)
  · have hlt : i < s.size := by simpa using hb
    have hw : IntKind.wrap .i64 ((i : Int) + 1) = ((i + 1 : Nat) : Int) := by rw [wrap_ok (by omega) (by omega)]; rfl
    have hw1 : IntKind.wrap .i64 ((i : Int) - 1) = (i : Int) - 1 := wrap_ok (by omega) (by omega)
    have hbad := fun h => allN_bad (f := fun i => okc (byteAt s i)) hlt hN h
    have hgood := fun h => allN_good (f := fun i => okc (byteAt s i)) hlt hN h
    clear hN hb
    all_goals conv => whnf
    repeat' (first | (refine z_op ?_ ?_; (focus exact rfl); conv => whnf) | (refine z_opg0 ?_; (conv => whnf); refine And.intro ?_ ?_; (focus exact rfl); conv => whnf) | (refine z_pick ?_ ?_; (focus exact rfl); conv => whnf) | (refine z_pickg ?_; (conv => whnf); refine And.intro ?_ ?_; (focus exact rfl); conv => whnf) | (refine zs_ops ?_ ?_; (focus exact rfl)) | (refine z_nil fun vals => ?_; conv => whnf) | (refine g_op ?_; conv => whnf) | (refine And.intro ?_ ?_; (focus (first | exact rfl | exact Nat.le_of_ble_eq_true rfl | decide | omega | fail)); conv => whnf) | (refine g_seq ?_) | (refine XS.go ?_) | (refine g_ops ?_) | (refine g_nil ?_; conv => whnf) | (refine g_cond ?_; conv => whnf) | (refine g_skip ?_; conv => whnf) | (refine g_ret ?_; conv => whnf) | (refine g_block ?_) | (refine r_t ?_; conv => whnf) | (refine r_nil ?_; conv => whnf) | (refine Br.mk (fun hb => ?_) (fun hb => ?_) <;> conv => whnf) | fail)
    all_goals
      first
      | (refine ⟨(), hbad ?_, ⟨?_, True.intro⟩⟩
         · clear hbad hgood hw 
           first | (first | (refine (Bool.eq_false_iff.mpr fun h => ?_).symm; simp_all [okc]; done) | (refine Bool.eq_false_iff.mpr fun h => ?_; simp_all [okc]; done) | (simp_all [okc]; done) | (simp_all [okc]; omega) | (refine (Bool.eq_false_iff.mpr fun h => ?_).symm; simp_all [okc]; omega) | (refine Bool.eq_false_iff.mpr fun h => ?_; simp_all [okc]; omega) | (rw [Bool.eq_iff_iff]; constructor <;> intro h <;> simp_all [okc] <;> omega) | fail) | (rcases Nat.eq_zero_or_pos i with h0 | h0 <;> simp_all [okc] <;> omega) | (fail) | fail
         · repeat' (first | exact True.intro | refine And.intro rfl ?_))
      | (conv => lhs; whnf
         refine congrArg D.bool (hbad ?_)
         clear hbad hgood hw 
         first | (first | (refine (Bool.eq_false_iff.mpr fun h => ?_).symm; simp_all [okc]; done) | (refine Bool.eq_false_iff.mpr fun h => ?_; simp_all [okc]; done) | (simp_all [okc]; done) | (simp_all [okc]; omega) | (refine (Bool.eq_false_iff.mpr fun h => ?_).symm; simp_all [okc]; omega) | (refine Bool.eq_false_iff.mpr fun h => ?_; simp_all [okc]; omega) | (rw [Bool.eq_iff_iff]; constructor <;> intro h <;> simp_all [okc] <;> omega) | fail) | (rcases Nat.eq_zero_or_pos i with h0 | h0 <;> simp_all [okc] <;> omega) | (fail) | fail)
      | (refine ⟨i + 1, ⟨by omega, ?_⟩, by omega, ?_, ?_⟩
         · refine hgood ?_
           clear hbad hgood hw 
           first | (first | (refine (Bool.eq_false_iff.mpr fun h => ?_).symm; simp_all [okc]; done) | (refine Bool.eq_false_iff.mpr fun h => ?_; simp_all [okc]; done) | (simp_all [okc]; done) | (simp_all [okc]; omega) | (refine (Bool.eq_false_iff.mpr fun h => ?_).symm; simp_all [okc]; omega) | (refine Bool.eq_false_iff.mpr fun h => ?_; simp_all [okc]; omega) | (rw [Bool.eq_iff_iff]; constructor <;> intro h <;> simp_all [okc] <;> omega) | fail) | (rcases Nat.eq_zero_or_pos i with h0 | h0 <;> simp_all [okc] <;> omega) | (fail) | fail
         · repeat' (first | exact True.intro | refine And.intro (congrArg (D.int .i64) hw) ?_ | refine And.intro rfl ?_)
         · repeat' (first | exact True.intro | refine And.intro rfl ?_))
  have hge : ¬ i < s.size := by simpa using hb
  have hend : nameOk s = true := by rw [hN, allN_end hge, Bool.true_and]
  clear hN
  conv => whnf
  repeat' (first | (refine g_op ?_; conv => whnf) | (refine And.intro ?_ ?_; (focus (first | exact rfl | exact Nat.le_of_ble_eq_true rfl | decide | omega | fail)); conv => whnf) | (refine g_seq ?_) | (refine XS.go ?_) | (refine g_ops ?_) | (refine g_nil ?_; conv => whnf) | (refine g_ret ?_; conv => whnf) | (refine g_exit ?_; conv => whnf) | (refine r_t ?_; conv => whnf) | (refine r_nil ?_; conv => whnf) | fail)
  conv => lhs; whnf
  rw [hend]
set_option maxHeartbeats 4000000 in
theorem spec_NameOk (s : ByteArray) : Rdr Try.prog 72 [.str s] (.bool (nameOk s)) := by
  refine Rdr.intro' hm c72 (Nat.le_of_ble_eq_true rfl) ?_
  conv => whnf
  repeat' (first | (refine g_op ?_; conv => whnf) | (refine And.intro ?_ ?_; (focus (first | exact rfl | exact Nat.le_of_ble_eq_true rfl | decide | omega | fail)); conv => whnf) | (refine g_seq ?_) | (refine XS.go ?_) | (refine g_ops ?_) | (refine g_nil ?_; conv => whnf) | (refine g_cond ?_; conv => whnf) | (refine XCL.of_rdr (spec_In _ _ _) ?_; conv => whnf) | fail)
  refine Br.mk (fun hb => ?_) (fun hb => ?_)
  · have hn : inR s.size 1 20 = false := by simpa using hb
    conv => whnf
    repeat' (first | (refine g_op ?_; conv => whnf) | (refine And.intro ?_ ?_; (focus (first | exact rfl | exact Nat.le_of_ble_eq_true rfl | decide | omega | fail)); conv => whnf) | (refine g_seq ?_) | (refine XS.go ?_) | (refine g_ops ?_) | (refine g_nil ?_; conv => whnf) | (refine g_ret ?_; conv => whnf) | (refine r_t ?_; conv => whnf) | (refine r_nil ?_; conv => whnf) | fail)
    conv => lhs; whnf
    simp only [nameOk, hn, Bool.false_and]
  have hn : inR s.size 1 20 = true := by simpa using hb
  have hsz : s.size ≤ 20 := by simp [inR] at hn; omega
  conv => whnf
  repeat' (first | (refine g_op ?_; conv => whnf) | (refine And.intro ?_ ?_; (focus (first | exact rfl | exact Nat.le_of_ble_eq_true rfl | decide | omega | fail)); conv => whnf) | (refine g_seq ?_) | (refine XS.go ?_) | (refine g_ops ?_) | (refine g_loop ?_) | (refine g_nil ?_; conv => whnf) | (refine g_skip ?_; conv => whnf) | (refine g_block ?_) | fail)
  refine XLc.mkL (α := Nat) (fun i => i ≤ s.size ∧ nameOk s = (allN (fun i => okc (byteAt s i)) (s.size - i) i && true)) (fun i => s.size - i) (fun i gs => [.str s, .any, .any, .int .i64 (i : Int)]) (fun i gs => []) 0 ⟨Nat.zero_le _, by simp [nameOk, hn]⟩ ?_ ?_
  · refine ⟨?_, ?_⟩
    · repeat' (first | exact True.intro | refine And.intro rfl ?_)
    · repeat' (first | exact True.intro | refine And.intro rfl ?_)
  intro i gs hI
  obtain ⟨hi, hN⟩ := hI
  repeat' (first | (refine g_op ?_; conv => whnf) | (refine And.intro ?_ ?_; (focus (first | exact rfl | exact Nat.le_of_ble_eq_true rfl | decide | omega | fail)); conv => whnf) | (refine g_seq ?_) | (refine XS.go ?_) | (refine g_ops ?_) | (refine g_nil ?_; conv => whnf) | (refine g_cond ?_; conv => whnf) | fail)
  refine Br.mk (fun hb => ?_) (fun hb => ?_)
  · have hlt : i < s.size := by simpa using hb
    have hw : IntKind.wrap .i64 ((i : Int) + 1) = ((i + 1 : Nat) : Int) := by rw [wrap_ok (by omega) (by omega)]; rfl
    have hw1 : IntKind.wrap .i64 ((i : Int) - 1) = (i : Int) - 1 := wrap_ok (by omega) (by omega)
    have hbad := fun h => allN_bad (f := fun i => okc (byteAt s i)) hlt hN h
    have hgood := fun h => allN_good (f := fun i => okc (byteAt s i)) hlt hN h
    clear hN hb
    all_goals conv => whnf
    repeat' (first | (refine z_op ?_ ?_; (focus exact rfl); conv => whnf) | (refine z_opg0 ?_; (conv => whnf); refine And.intro ?_ ?_; (focus exact rfl); conv => whnf) | (refine z_pick ?_ ?_; (focus exact rfl); conv => whnf) | (refine z_pickg ?_; (conv => whnf); refine And.intro ?_ ?_; (focus exact rfl); conv => whnf) | (refine zs_ops ?_ ?_; (focus exact rfl)) | (refine z_nil fun vals => ?_; conv => whnf) | (refine g_op ?_; conv => whnf) | (refine And.intro ?_ ?_; (focus (first | exact rfl | exact Nat.le_of_ble_eq_true rfl | decide | omega | fail)); conv => whnf) | (refine g_seq ?_) | (refine XS.go ?_) | (refine g_ops ?_) | (refine g_nil ?_; conv => whnf) | (refine g_cond ?_; conv => whnf) | (refine g_skip ?_; conv => whnf) | (refine g_ret ?_; conv => whnf) | (refine g_block ?_) | (refine r_t ?_; conv => whnf) | (refine r_nil ?_; conv => whnf) | (refine Br.mk (fun hb => ?_) (fun hb => ?_) <;> conv => whnf) | fail)
    all_goals
      first
      | (refine ⟨(), hbad ?_, ⟨?_, True.intro⟩⟩
         · clear hbad hgood hw 
           first | (first | (refine (Bool.eq_false_iff.mpr fun h => ?_).symm; simp_all [okc]; done) | (refine Bool.eq_false_iff.mpr fun h => ?_; simp_all [okc]; done) | (simp_all [okc]; done) | (simp_all [okc]; omega) | (refine (Bool.eq_false_iff.mpr fun h => ?_).symm; simp_all [okc]; omega) | (refine Bool.eq_false_iff.mpr fun h => ?_; simp_all [okc]; omega) | (rw [Bool.eq_iff_iff]; constructor <;> intro h <;> simp_all [okc] <;> omega) | fail) | (rcases Nat.eq_zero_or_pos i with h0 | h0 <;> simp_all [okc] <;> omega) | (fail) | fail
         · repeat' (first | exact True.intro | refine And.intro rfl ?_))
      | (conv => lhs; whnf
         refine congrArg D.bool (hbad ?_)
         clear hbad hgood hw 
         first | (first | (refine (Bool.eq_false_iff.mpr fun h => ?_).symm; simp_all [okc]; done) | (refine Bool.eq_false_iff.mpr fun h => ?_; simp_all [okc]; done) | (simp_all [okc]; done) | (simp_all [okc]; omega) | (refine (Bool.eq_false_iff.mpr fun h => ?_).symm; simp_all [okc]; omega) | (refine Bool.eq_false_iff.mpr fun h => ?_; simp_all [okc]; omega) | (rw [Bool.eq_iff_iff]; constructor <;> intro h <;> simp_all [okc] <;> omega) | fail) | (rcases Nat.eq_zero_or_pos i with h0 | h0 <;> simp_all [okc] <;> omega) | (fail) | fail)
      | (refine ⟨i + 1, ⟨by omega, ?_⟩, by omega, ?_, ?_⟩
         · refine hgood ?_
           clear hbad hgood hw 
           first | (first | (refine (Bool.eq_false_iff.mpr fun h => ?_).symm; simp_all [okc]; done) | (refine Bool.eq_false_iff.mpr fun h => ?_; simp_all [okc]; done) | (simp_all [okc]; done) | (simp_all [okc]; omega) | (refine (Bool.eq_false_iff.mpr fun h => ?_).symm; simp_all [okc]; omega) | (refine Bool.eq_false_iff.mpr fun h => ?_; simp_all [okc]; omega) | (rw [Bool.eq_iff_iff]; constructor <;> intro h <;> simp_all [okc] <;> omega) | fail) | (rcases Nat.eq_zero_or_pos i with h0 | h0 <;> simp_all [okc] <;> omega) | (fail) | fail
         · repeat' (first | exact True.intro | refine And.intro (congrArg (D.int .i64) hw) ?_ | refine And.intro rfl ?_)
         · repeat' (first | exact True.intro | refine And.intro rfl ?_))
  have hge : ¬ i < s.size := by simpa using hb
  have hend : nameOk s = true := by rw [hN, allN_end hge, Bool.true_and]
  clear hN
  conv => whnf
  repeat' (first | (refine g_op ?_; conv => whnf) | (refine And.intro ?_ ?_; (focus (first | exact rfl | exact Nat.le_of_ble_eq_true rfl | decide | omega | fail)); conv => whnf) | (refine g_seq ?_) | (refine XS.go ?_) | (refine g_ops ?_) | (refine g_nil ?_; conv => whnf) | (refine g_ret ?_; conv => whnf) | (refine g_exit ?_; conv => whnf) | (refine r_t ?_; conv => whnf) | (refine r_nil ?_; conv => whnf) | fail)
  conv => lhs; whnf
  rw [hend]

end Go.Ab
