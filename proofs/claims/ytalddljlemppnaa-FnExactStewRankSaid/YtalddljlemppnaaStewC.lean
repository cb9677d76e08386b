/- Steps towards the law: contracts of functions and facts of lists. -/
import Derived.Test.YtalddljlemppnaaStewB
import Derived.Test.YtalddljlemppnaaRows
set_option linter.unusedSimpArgs false
set_option linter.unusedVariables false
namespace Go.Ab
open Go Go.RowKit Go.Proofs
attribute [local irreducible] XC Rdr IntKind.wrap xw xos xqs xr xd
set_option maxRecDepth 100000

/-- (*impl.StewBook).service -/
def cf78 : CF := ⟨31, [.t 4],
  (.seq (.ops [⟨some 4, .mv (.k (.nilp)), none⟩])
  (.seq (.seq (.ops [⟨some 6, .mv (.t 0), none⟩,
    ⟨some 7, .nilc (.t 6), none⟩,
    ⟨some 8, .fa 1 1 1 (.t 7), none⟩,
    ⟨some 9, .ld 1 false (.t 8), none⟩,
    ⟨some 10, .lenl (.t 9), none⟩,
    ⟨some 11, .mv (.k (.int .i64 0)), none⟩])
  (.block 0 (.loop (.seq (.ops [⟨some 12, .bin .lss (.t 11) (.t 10), none⟩])
  (.seq (.cond (.t 12)
  .skip
  (.exit 0))
  (.seq (.block 1 (.seq (.ops [⟨some 13, .mv (.t 11), none⟩,
    ⟨some 5, .mv (.t 13), none⟩])
  (.seq (.ops [⟨some 14, .mv (.t 0), none⟩,
    ⟨some 15, .nilc (.t 14), none⟩,
    ⟨some 16, .fa 1 1 1 (.t 15), none⟩,
    ⟨some 17, .ld 1 false (.t 16), none⟩,
    ⟨some 18, .mv (.t 5), none⟩,
    ⟨some 19, .ix 13 (.t 17) (.t 18), none⟩,
    ⟨some 20, .fa 0 1 0 (.t 19), none⟩,
    ⟨some 21, .ld 1 false (.t 20), none⟩,
    ⟨some 22, .mv (.t 1), none⟩,
    ⟨some 23, .bin .eql (.t 21) (.t 22), none⟩])
  (.cond (.t 23)
  (.seq (.ops [⟨some 24, .mv (.t 0), none⟩,
    ⟨some 25, .nilc (.t 24), none⟩,
    ⟨some 26, .fa 1 1 1 (.t 25), none⟩,
    ⟨some 27, .ld 1 false (.t 26), none⟩,
    ⟨some 28, .mv (.t 5), none⟩,
    ⟨some 29, .ix 13 (.t 27) (.t 28), none⟩,
    ⟨some 4, .mv (.t 29), none⟩])
  .ret)
  .skip))))
  (.ops [⟨some 30, .bin .add (.t 11) (.k (.int .i64 1)), none⟩,
    ⟨some 11, .mv (.t 30), none⟩])))))))
  (.seq (.ops [⟨some 4, .mv (.k (.nilp)), none⟩])
  .ret)))⟩
theorem c78 : compileF Try.prog [] 78 = some cf78 := by kernel_rfl
/-- (*impl.StewBook).berth -/
def cf79 : CF := ⟨31, [.t 4],
  (.seq (.ops [⟨some 4, .mv (.k (.nilp)), none⟩])
  (.seq (.seq (.ops [⟨some 6, .mv (.t 0), none⟩,
    ⟨some 7, .nilc (.t 6), none⟩,
    ⟨some 8, .fa 3 1 3 (.t 7), none⟩,
    ⟨some 9, .ld 1 false (.t 8), none⟩,
    ⟨some 10, .lenl (.t 9), none⟩,
    ⟨some 11, .mv (.k (.int .i64 0)), none⟩])
  (.block 0 (.loop (.seq (.ops [⟨some 12, .bin .lss (.t 11) (.t 10), none⟩])
  (.seq (.cond (.t 12)
  .skip
  (.exit 0))
  (.seq (.block 1 (.seq (.ops [⟨some 13, .mv (.t 11), none⟩,
    ⟨some 5, .mv (.t 13), none⟩])
  (.seq (.ops [⟨some 14, .mv (.t 0), none⟩,
    ⟨some 15, .nilc (.t 14), none⟩,
    ⟨some 16, .fa 3 1 3 (.t 15), none⟩,
    ⟨some 17, .ld 1 false (.t 16), none⟩,
    ⟨some 18, .mv (.t 5), none⟩,
    ⟨some 19, .ix 2 (.t 17) (.t 18), none⟩,
    ⟨some 20, .fa 0 1 0 (.t 19), none⟩,
    ⟨some 21, .ld 1 false (.t 20), none⟩,
    ⟨some 22, .mv (.t 1), none⟩,
    ⟨some 23, .bin .eql (.t 21) (.t 22), none⟩])
  (.cond (.t 23)
  (.seq (.ops [⟨some 24, .mv (.t 0), none⟩,
    ⟨some 25, .nilc (.t 24), none⟩,
    ⟨some 26, .fa 3 1 3 (.t 25), none⟩,
    ⟨some 27, .ld 1 false (.t 26), none⟩,
    ⟨some 28, .mv (.t 5), none⟩,
    ⟨some 29, .ix 2 (.t 27) (.t 28), none⟩,
    ⟨some 4, .mv (.t 29), none⟩])
  .ret)
  .skip))))
  (.ops [⟨some 30, .bin .add (.t 11) (.k (.int .i64 1)), none⟩,
    ⟨some 11, .mv (.t 30), none⟩])))))))
  (.seq (.ops [⟨some 4, .mv (.k (.nilp)), none⟩])
  .ret)))⟩
theorem c79 : compileF Try.prog [] 79 = some cf79 := by kernel_rfl
/-- spec.l18Service -/
def cf129 : CF := ⟨22, [.t 4],
  (.seq (.ops [⟨some 2, .bx (.t 0), none⟩,
    ⟨some 4, .mv (.k (.int .i64 0)), none⟩])
  (.seq (.seq (.ops [⟨some 5, .mv (.k (.int .i64 0)), none⟩])
  (.block 0 (.loop (.seq (.seq (.ops [⟨some 6, .mv (.t 5), none⟩,
    ⟨some 7, .fa 1 1 1 (.t 2), none⟩,
    ⟨some 8, .ld 1 false (.t 7), none⟩,
    ⟨some 9, .lenl (.t 8), none⟩,
    ⟨some 10, .bin .lss (.t 6) (.t 9), none⟩])
  (.cond (.t 10)
  .skip
  (.exit 0)))
  (.seq (.block 1 (.seq (.ops [⟨some 13, .fa 1 1 1 (.t 2), none⟩,
    ⟨some 14, .ld 1 false (.t 13), none⟩,
    ⟨some 15, .mv (.t 5), none⟩,
    ⟨some 16, .ix 13 (.t 14) (.t 15), none⟩,
    ⟨some 17, .fa 0 1 0 (.t 16), none⟩,
    ⟨some 18, .ld 1 false (.t 17), none⟩,
    ⟨some 19, .mv (.t 1), none⟩,
    ⟨some 20, .bin .eql (.t 18) (.t 19), none⟩])
  (.cond (.t 20)
  (.seq (.ops [⟨some 21, .mv (.t 5), none⟩,
    ⟨some 4, .mv (.t 21), none⟩])
  .ret)
  .skip)))
  (.ops [⟨some 11, .mv (.t 5), none⟩,
    ⟨some 12, .bin .add (.t 11) (.k (.int .i64 1)), none⟩,
    ⟨some 5, .mv (.t 12), none⟩]))))))
  (.seq (.ops [⟨some 4, .mv (.k (.int .i64 (-1))), none⟩])
  .ret)))⟩
theorem c129 : compileF Try.prog [] 129 = some cf129 := by kernel_rfl
/-- spec.l18Berth -/
def cf138 : CF := ⟨22, [.t 4],
  (.seq (.ops [⟨some 2, .bx (.t 0), none⟩,
    ⟨some 4, .mv (.k (.int .i64 0)), none⟩])
  (.seq (.seq (.ops [⟨some 5, .mv (.k (.int .i64 0)), none⟩])
  (.block 0 (.loop (.seq (.seq (.ops [⟨some 6, .mv (.t 5), none⟩,
    ⟨some 7, .fa 3 1 3 (.t 2), none⟩,
    ⟨some 8, .ld 1 false (.t 7), none⟩,
    ⟨some 9, .lenl (.t 8), none⟩,
    ⟨some 10, .bin .lss (.t 6) (.t 9), none⟩])
  (.cond (.t 10)
  .skip
  (.exit 0)))
  (.seq (.block 1 (.seq (.ops [⟨some 13, .fa 3 1 3 (.t 2), none⟩,
    ⟨some 14, .ld 1 false (.t 13), none⟩,
    ⟨some 15, .mv (.t 5), none⟩,
    ⟨some 16, .ix 2 (.t 14) (.t 15), none⟩,
    ⟨some 17, .fa 0 1 0 (.t 16), none⟩,
    ⟨some 18, .ld 1 false (.t 17), none⟩,
    ⟨some 19, .mv (.t 1), none⟩,
    ⟨some 20, .bin .eql (.t 18) (.t 19), none⟩])
  (.cond (.t 20)
  (.seq (.ops [⟨some 21, .mv (.t 5), none⟩,
    ⟨some 4, .mv (.t 21), none⟩])
  .ret)
  .skip)))
  (.ops [⟨some 11, .mv (.t 5), none⟩,
    ⟨some 12, .bin .add (.t 11) (.k (.int .i64 1)), none⟩,
    ⟨some 5, .mv (.t 12), none⟩]))))))
  (.seq (.ops [⟨some 4, .mv (.k (.int .i64 (-1))), none⟩])
  .ret)))⟩
theorem c138 : compileF Try.prog [] 138 = some cf138 := by kernel_rfl
/-- spec.l18CopyOk -/
def cf73 : CF := ⟨56, [.t 4],
  (.seq (.ops [⟨some 2, .bx (.t 0), none⟩,
    ⟨some 3, .bx (.t 1), none⟩,
    ⟨some 4, .mv (.k (.bool false)), none⟩])
  (.seq (.ops [⟨some 6, .ld 4 true (.t 2), none⟩,
    ⟨some 7, .fa 0 1 0 (.t 3), none⟩,
    ⟨some 8, .ld 1 false (.t 7), none⟩,
    ⟨some 9, .call 129 [(.t 6), (.t 8)], none⟩,
    ⟨some 5, .mv (.t 9), none⟩])
  (.seq (.seq (.quiet [⟨some 10, .mv (.t 5), none⟩,
    ⟨some 11, .bin .lss (.t 10) (.k (.int .i64 0)), none⟩,
    ⟨some 12, .mv (.t 11), none⟩,
    ⟨some 13, .fa 1 1 1 (.t 3), some (12, false)⟩,
    ⟨some 14, .ld 1 false (.t 13), some (12, false)⟩,
    ⟨some 15, .fa 1 1 1 (.t 2), some (12, false)⟩,
    ⟨some 16, .ld 1 false (.t 15), some (12, false)⟩,
    ⟨some 17, .mv (.t 5), some (12, false)⟩,
    ⟨some 18, .ix 13 (.t 16) (.t 17), some (12, false)⟩,
    ⟨some 19, .fa 7 1 7 (.t 18), some (12, false)⟩,
    ⟨some 20, .ld 1 false (.t 19), some (12, false)⟩,
    ⟨some 21, .bin .sub (.t 20) (.k (.int .i64 1)), some (12, false)⟩,
    ⟨some 22, .call 70 [(.t 14), (.k (.int .i64 1)), (.t 21)], some (12, false)⟩,
    ⟨some 23, .not (.t 22), some (12, false)⟩,
    ⟨some 24, .pick (.t 12) (.k (.bool true)) (.t 23), none⟩,
    ⟨some 25, .mv (.t 24), none⟩,
    ⟨some 26, .fa 2 1 2 (.t 3), some (25, false)⟩,
    ⟨some 27, .ld 1 false (.t 26), some (25, false)⟩,
    ⟨some 28, .fa 0 1 0 (.t 2), some (25, false)⟩,
    ⟨some 29, .ld 1 false (.t 28), some (25, false)⟩,
    ⟨some 30, .call 70 [(.t 27), (.k (.int .i64 1)), (.t 29)], some (25, false)⟩,
    ⟨some 31, .not (.t 30), some (25, false)⟩,
    ⟨some 32, .pick (.t 25) (.k (.bool true)) (.t 31), none⟩,
    ⟨some 33, .mv (.t 32), none⟩,
    ⟨some 34, .fa 3 1 3 (.t 3), some (33, false)⟩,
    ⟨some 35, .ld 1 false (.t 34), some (33, false)⟩,
    ⟨some 36, .call 70 [(.t 35), (.k (.int .i64 1)), (.k (.int .i64 1000000))], some (33, false)⟩,
    ⟨some 37, .not (.t 36), some (33, false)⟩,
    ⟨some 38, .pick (.t 33) (.k (.bool true)) (.t 37), none⟩,
    ⟨some 39, .mv (.t 38), none⟩,
    ⟨some 40, .fa 4 1 4 (.t 3), some (39, false)⟩,
    ⟨some 41, .ld 1 false (.t 40), some (39, false)⟩,
    ⟨some 42, .call 70 [(.t 41), (.k (.int .i64 1)), (.k (.int .i64 4))], some (39, false)⟩,
    ⟨some 43, .not (.t 42), some (39, false)⟩,
    ⟨some 44, .pick (.t 39) (.k (.bool true)) (.t 43), none⟩])
  (.cond (.t 44)
  (.seq (.ops [⟨some 4, .mv (.k (.bool false)), none⟩])
  .ret)
  .skip))
  (.seq (.seq (.ops [⟨some 45, .fa 4 1 4 (.t 3), none⟩,
    ⟨some 46, .ld 1 false (.t 45), none⟩,
    ⟨some 47, .bin .eql (.t 46) (.k (.int .i64 1)), none⟩])
  (.cond (.t 47)
  (.seq (.ops [⟨some 48, .fa 6 1 6 (.t 3), none⟩,
    ⟨some 49, .ld 1 false (.t 48), none⟩,
    ⟨some 50, .bin .eql (.t 49) (.k (.str ⟨#[]⟩)), none⟩,
    ⟨some 4, .mv (.t 50), none⟩])
  .ret)
  .skip))
  (.seq (.ops [⟨some 51, .ld 4 true (.t 2), none⟩,
    ⟨some 52, .fa 6 1 6 (.t 3), none⟩,
    ⟨some 53, .ld 1 false (.t 52), none⟩,
    ⟨some 54, .call 138 [(.t 51), (.t 53)], none⟩,
    ⟨some 55, .bin .geq (.t 54) (.k (.int .i64 0)), none⟩,
    ⟨some 4, .mv (.t 55), none⟩])
  .ret)))))⟩
theorem c73 : compileF Try.prog [] 73 = some cf73 := by kernel_rfl
/-- spec.l18Ahead -/
def cf74 : CF := ⟨24, [.t 4],
  (.seq (.ops [⟨some 2, .bx (.t 0), none⟩,
    ⟨some 3, .bx (.t 1), none⟩,
    ⟨some 4, .mv (.k (.bool false)), none⟩])
  (.seq (.ops [⟨some 5, .fa 0 1 0 (.t 2), none⟩,
    ⟨some 6, .ld 1 false (.t 5), none⟩,
    ⟨some 7, .fa 0 1 0 (.t 3), none⟩,
    ⟨some 8, .ld 1 false (.t 7), none⟩,
    ⟨some 9, .bin .lss (.t 6) (.t 8), none⟩,
    ⟨some 10, .mv (.t 9), none⟩,
    ⟨some 11, .fa 0 1 0 (.t 2), some (10, false)⟩,
    ⟨some 12, .ld 1 false (.t 11), some (10, false)⟩,
    ⟨some 13, .fa 0 1 0 (.t 3), some (10, false)⟩,
    ⟨some 14, .ld 1 false (.t 13), some (10, false)⟩,
    ⟨some 15, .bin .eql (.t 12) (.t 14), some (10, false)⟩,
    ⟨some 16, .mv (.t 15), some (10, false)⟩,
    ⟨some 17, .fa 1 1 1 (.t 2), some (16, true)⟩,
    ⟨some 18, .ld 1 false (.t 17), some (16, true)⟩,
    ⟨some 19, .fa 1 1 1 (.t 3), some (16, true)⟩,
    ⟨some 20, .ld 1 false (.t 19), some (16, true)⟩,
    ⟨some 21, .bin .lss (.t 18) (.t 20), some (16, true)⟩,
    ⟨some 22, .pick (.t 16) (.t 21) (.k (.bool false)), some (10, false)⟩,
    ⟨some 23, .pick (.t 10) (.k (.bool true)) (.t 22), none⟩,
    ⟨some 4, .mv (.t 23), none⟩])
  .ret))⟩
theorem c74 : compileF Try.prog [] 74 = some cf74 := by kernel_rfl
def svcF (b : StewBook) (name : ByteArray) (i : Nat) : Bool := (b.fServices.getD i default).fName.toList == name.toList
def berF (b : StewBook) (name : ByteArray) (i : Nat) : Bool := (b.fBerths.getD i default).fName.toList == name.toList
def svcI (b : StewBook) (name : ByteArray) : Int := idxN (svcF b name) b.fServices.length 0
def berI (b : StewBook) (name : ByteArray) : Int := idxN (berF b name) b.fBerths.length 0
set_option maxHeartbeats 4000000 in
theorem impl_service (b : StewBook) (name : ByteArray) (hl : b.fServices.length ≤ 1048576) : Rdr Try.prog 78 [.cref b.D, .str name] (ptrAt StewService.D default b.fServices (svcI b name)) := by
  refine Rdr.intro' hm c78 (Nat.le_of_ble_eq_true rfl) ?_
  conv => whnf
  repeat' (first | (refine z_ld1 ?_; first | (refine z_ld rfl rfl rfl rfl (by first | (simp only [List.length_set]; assumption) | assumption | omega) (by first | exact elt_set (by first | assumption | (simp only [List.length_set]; assumption)) | assumption) ?_; conv => whnf) | (refine z_ld0 rfl ?_; conv => whnf)) | (refine z_op ?_ ?_; (focus exact rfl); conv => whnf) | (refine zs_ops ?_ ?_; (focus exact rfl)) | (refine z_nil fun vals => ?_; conv => whnf) | (refine g_op ?_; conv => whnf) | (refine And.intro ?_ ?_; (focus (first | exact rfl | exact Nat.le_of_ble_eq_true rfl | decide | omega | fail)); conv => whnf) | (refine g_seq ?_) | (refine XS.go ?_) | (refine g_ops ?_) | (refine g_loop ?_) | (refine g_nil ?_; conv => whnf) | (refine g_block ?_) | fail)
  refine XLc.mkL (α := Nat) (fun i => i ≤ b.fServices.length ∧ svcI b name = idxN (svcF b name) (b.fServices.length - i) i) (fun i => b.fServices.length - i) (fun i gs => [.cref b.D, .str name, .any, .any, .any, .any, .any, .any, .any, .any, .int .i64 ((b.fServices.map StewService.D).length : Int), .int .i64 (i : Int)]) (fun i gs => []) 0 ⟨Nat.zero_le _, rfl⟩ ?_ ?_
  · refine ⟨?_, ?_⟩
    · repeat' (first | exact True.intro | refine And.intro rfl ?_)
    · repeat' (first | exact True.intro | refine And.intro rfl ?_)
  intro i gs hI
  obtain ⟨hi, hN⟩ := hI
  repeat' (first | (refine g_op ?_; conv => whnf) | (refine And.intro ?_ ?_; (focus (first | exact rfl | exact Nat.le_of_ble_eq_true rfl | decide | omega | fail)); conv => whnf) | (refine g_seq ?_) | (refine XS.go ?_) | (refine g_ops ?_) | (refine g_nil ?_; conv => whnf) | (refine g_cond ?_; conv => whnf) | fail)
  refine Br.mk (fun hb => ?_) (fun hb => ?_)
  · have hlt : i < b.fServices.length := by simpa using hb
    have hw : IntKind.wrap .i64 ((i : Int) + 1) = ((i + 1 : Nat) : Int) := by rw [wrap_ok (by omega) (by omega)]; rfl
    have hit := fun h => idxN_hit (f := svcF b name) hlt hN h
    have miss := fun h => idxN_miss (f := svcF b name) hlt hN h
    clear hN hb
    conv => whnf
    repeat' (first | (refine z_ld1 ?_; first | (refine z_ld rfl rfl rfl rfl (by first | (simp only [List.length_set]; assumption) | assumption | omega) (by first | exact elt_set (by first | assumption | (simp only [List.length_set]; assumption)) | assumption) ?_; conv => whnf) | (refine z_ld0 rfl ?_; conv => whnf)) | (refine z_ix1 ?_; first | (refine z_ix rfl rfl rfl rfl rfl ⟨by first | omega | (simp only [decide_eq_true_eq, Bool.not_eq_true', Bool.or_eq_false_iff, decide_eq_false_iff_not, Bool.and_eq_true, Bool.not_eq_false'] at *; omega), by first | omega | (simp only [decide_eq_true_eq, Bool.not_eq_true', Bool.or_eq_false_iff, decide_eq_false_iff_not, Bool.and_eq_true, Bool.not_eq_false'] at *; omega)⟩ ?_; conv => whnf) | (refine z_ix0 rfl rfl ?_; conv => whnf)) | (refine z_op ?_ ?_; (focus exact rfl); conv => whnf) | (refine zs_ops ?_ ?_; (focus exact rfl)) | (refine z_nil fun vals => ?_; conv => whnf) | (refine g_op ?_; conv => whnf) | (refine And.intro ?_ ?_; (focus (first | exact rfl | exact Nat.le_of_ble_eq_true rfl | decide | omega | fail)); conv => whnf) | (refine g_seq ?_) | (refine XS.go ?_) | (refine g_ops ?_) | (refine g_nil ?_; conv => whnf) | (refine g_cond ?_; conv => whnf) | (refine g_skip ?_; conv => whnf) | (refine g_ret ?_; conv => whnf) | (refine g_block ?_) | (refine r_t ?_; conv => whnf) | (refine r_nil ?_; conv => whnf) | (refine Br.mk (fun hb => ?_) (fun hb => ?_) <;> conv => whnf) | fail)
    all_goals
      first
      | ((conv => lhs; whnf); first | (rw [hit hb]; done) | (rw [hit hb]; rfl) | fail)
      | (refine ⟨i + 1, ⟨by omega, miss hb⟩, by omega, ?_, ?_⟩
         · repeat' (first | exact True.intro | refine And.intro (congrArg (D.int .i64) hw) ?_ | refine And.intro rfl ?_)
         · repeat' (first | exact True.intro | refine And.intro rfl ?_))
  have hge : ¬ i < b.fServices.length := by simpa using hb
  have hend : svcI b name = -1 := by rw [hN, idxN_end hge]
  clear hN
  conv => whnf
  repeat' (first | (refine g_op ?_; conv => whnf) | (refine And.intro ?_ ?_; (focus (first | exact rfl | exact Nat.le_of_ble_eq_true rfl | decide | omega | fail)); conv => whnf) | (refine g_seq ?_) | (refine XS.go ?_) | (refine g_ops ?_) | (refine g_nil ?_; conv => whnf) | (refine g_ret ?_; conv => whnf) | (refine g_exit ?_; conv => whnf) | (refine r_t ?_; conv => whnf) | (refine r_nil ?_; conv => whnf) | fail)
  ((conv => lhs; whnf); first | (rw [hend]; done) | (rw [hend]; rfl))
set_option maxHeartbeats 4000000 in
theorem impl_berth (b : StewBook) (name : ByteArray) (hl : b.fBerths.length ≤ 1048576) : Rdr Try.prog 79 [.cref b.D, .str name] (ptrAt StewBerth.D default b.fBerths (berI b name)) := by
  refine Rdr.intro' hm c79 (Nat.le_of_ble_eq_true rfl) ?_
  conv => whnf
  repeat' (first | (refine z_ld1 ?_; first | (refine z_ld rfl rfl rfl rfl (by first | (simp only [List.length_set]; assumption) | assumption | omega) (by first | exact elt_set (by first | assumption | (simp only [List.length_set]; assumption)) | assumption) ?_; conv => whnf) | (refine z_ld0 rfl ?_; conv => whnf)) | (refine z_op ?_ ?_; (focus exact rfl); conv => whnf) | (refine zs_ops ?_ ?_; (focus exact rfl)) | (refine z_nil fun vals => ?_; conv => whnf) | (refine g_op ?_; conv => whnf) | (refine And.intro ?_ ?_; (focus (first | exact rfl | exact Nat.le_of_ble_eq_true rfl | decide | omega | fail)); conv => whnf) | (refine g_seq ?_) | (refine XS.go ?_) | (refine g_ops ?_) | (refine g_loop ?_) | (refine g_nil ?_; conv => whnf) | (refine g_block ?_) | fail)
  refine XLc.mkL (α := Nat) (fun i => i ≤ b.fBerths.length ∧ berI b name = idxN (berF b name) (b.fBerths.length - i) i) (fun i => b.fBerths.length - i) (fun i gs => [.cref b.D, .str name, .any, .any, .any, .any, .any, .any, .any, .any, .int .i64 ((b.fBerths.map StewBerth.D).length : Int), .int .i64 (i : Int)]) (fun i gs => []) 0 ⟨Nat.zero_le _, rfl⟩ ?_ ?_
  · refine ⟨?_, ?_⟩
    · repeat' (first | exact True.intro | refine And.intro rfl ?_)
    · repeat' (first | exact True.intro | refine And.intro rfl ?_)
  intro i gs hI
  obtain ⟨hi, hN⟩ := hI
  repeat' (first | (refine g_op ?_; conv => whnf) | (refine And.intro ?_ ?_; (focus (first | exact rfl | exact Nat.le_of_ble_eq_true rfl | decide | omega | fail)); conv => whnf) | (refine g_seq ?_) | (refine XS.go ?_) | (refine g_ops ?_) | (refine g_nil ?_; conv => whnf) | (refine g_cond ?_; conv => whnf) | fail)
  refine Br.mk (fun hb => ?_) (fun hb => ?_)
  · have hlt : i < b.fBerths.length := by simpa using hb
    have hw : IntKind.wrap .i64 ((i : Int) + 1) = ((i + 1 : Nat) : Int) := by rw [wrap_ok (by omega) (by omega)]; rfl
    have hit := fun h => idxN_hit (f := berF b name) hlt hN h
    have miss := fun h => idxN_miss (f := berF b name) hlt hN h
    clear hN hb
    conv => whnf
    repeat' (first | (refine z_ld1 ?_; first | (refine z_ld rfl rfl rfl rfl (by first | (simp only [List.length_set]; assumption) | assumption | omega) (by first | exact elt_set (by first | assumption | (simp only [List.length_set]; assumption)) | assumption) ?_; conv => whnf) | (refine z_ld0 rfl ?_; conv => whnf)) | (refine z_ix1 ?_; first | (refine z_ix rfl rfl rfl rfl rfl ⟨by first | omega | (simp only [decide_eq_true_eq, Bool.not_eq_true', Bool.or_eq_false_iff, decide_eq_false_iff_not, Bool.and_eq_true, Bool.not_eq_false'] at *; omega), by first | omega | (simp only [decide_eq_true_eq, Bool.not_eq_true', Bool.or_eq_false_iff, decide_eq_false_iff_not, Bool.and_eq_true, Bool.not_eq_false'] at *; omega)⟩ ?_; conv => whnf) | (refine z_ix0 rfl rfl ?_; conv => whnf)) | (refine z_op ?_ ?_; (focus exact rfl); conv => whnf) | (refine zs_ops ?_ ?_; (focus exact rfl)) | (refine z_nil fun vals => ?_; conv => whnf) | (refine g_op ?_; conv => whnf) | (refine And.intro ?_ ?_; (focus (first | exact rfl | exact Nat.le_of_ble_eq_true rfl | decide | omega | fail)); conv => whnf) | (refine g_seq ?_) | (refine XS.go ?_) | (refine g_ops ?_) | (refine g_nil ?_; conv => whnf) | (refine g_cond ?_; conv => whnf) | (refine g_skip ?_; conv => whnf) | (refine g_ret ?_; conv => whnf) | (refine g_block ?_) | (refine r_t ?_; conv => whnf) | (refine r_nil ?_; conv => whnf) | (refine Br.mk (fun hb => ?_) (fun hb => ?_) <;> conv => whnf) | fail)
    all_goals
      first
      | ((conv => lhs; whnf); first | (rw [hit hb]; done) | (rw [hit hb]; rfl) | fail)
      | (refine ⟨i + 1, ⟨by omega, miss hb⟩, by omega, ?_, ?_⟩
         · repeat' (first | exact True.intro | refine And.intro (congrArg (D.int .i64) hw) ?_ | refine And.intro rfl ?_)
         · repeat' (first | exact True.intro | refine And.intro rfl ?_))
  have hge : ¬ i < b.fBerths.length := by simpa using hb
  have hend : berI b name = -1 := by rw [hN, idxN_end hge]
  clear hN
  conv => whnf
  repeat' (first | (refine g_op ?_; conv => whnf) | (refine And.intro ?_ ?_; (focus (first | exact rfl | exact Nat.le_of_ble_eq_true rfl | decide | omega | fail)); conv => whnf) | (refine g_seq ?_) | (refine XS.go ?_) | (refine g_ops ?_) | (refine g_nil ?_; conv => whnf) | (refine g_ret ?_; conv => whnf) | (refine g_exit ?_; conv => whnf) | (refine r_t ?_; conv => whnf) | (refine r_nil ?_; conv => whnf) | fail)
  ((conv => lhs; whnf); first | (rw [hend]; done) | (rw [hend]; rfl))
set_option maxHeartbeats 4000000 in
theorem spec_Service (b : StewBook) (name : ByteArray) (hl : b.fServices.length ≤ 1048576) : Rdr Try.prog 129 [b.D, .str name] (.int .i64 (svcI b name)) := by
  refine Rdr.intro' hm c129 (Nat.le_of_ble_eq_true rfl) ?_
  conv => whnf
  repeat' (first | (refine g_op ?_; conv => whnf) | (refine And.intro ?_ ?_; (focus (first | exact rfl | exact Nat.le_of_ble_eq_true rfl | decide | omega | fail)); conv => whnf) | (refine g_seq ?_) | (refine g_ops ?_) | (refine g_nil ?_; conv => whnf) | (refine fun _ => ?_; conv => whnf) | fail)
  refine XS.freezeB 2 rfl ?_
  repeat' (first | (refine g_op ?_; conv => whnf) | (refine And.intro ?_ ?_; (focus (first | exact rfl | exact Nat.le_of_ble_eq_true rfl | decide | omega | fail)); conv => whnf) | (refine g_seq ?_) | (refine XS.go ?_) | (refine g_ops ?_) | (refine g_loop ?_) | (refine g_nil ?_; conv => whnf) | (refine g_block ?_) | fail)
  refine XLc.mkL (α := Nat) (fun i => i ≤ b.fServices.length ∧ svcI b name = idxN (svcF b name) (b.fServices.length - i) i) (fun i => b.fServices.length - i) (fun i gs => [.any, .str name, .cref b.D, .any, .any, .int .i64 (i : Int)]) (fun i gs => []) 0 ⟨Nat.zero_le _, rfl⟩ ?_ ?_
  · refine ⟨?_, ?_⟩
    · repeat' (first | exact True.intro | refine And.intro rfl ?_)
    · repeat' (first | exact True.intro | refine And.intro rfl ?_)
  intro i gs hI
  obtain ⟨hi, hN⟩ := hI
  repeat' (first | (refine z_ld1 ?_; first | (refine z_ld rfl rfl rfl rfl (by first | (simp only [List.length_set]; assumption) | assumption | omega) (by first | exact elt_set (by first | assumption | (simp only [List.length_set]; assumption)) | assumption) ?_; conv => whnf) | (refine z_ld0 rfl ?_; conv => whnf)) | (refine z_op ?_ ?_; (focus exact rfl); conv => whnf) | (refine zs_ops ?_ ?_; (focus exact rfl)) | (refine z_nil fun vals => ?_; conv => whnf) | (refine And.intro ?_ ?_; (focus (first | exact rfl | exact Nat.le_of_ble_eq_true rfl | decide | omega | fail)); conv => whnf) | (refine g_seq ?_) | (refine XS.go ?_) | (refine g_cond ?_; conv => whnf) | fail)
  refine Br.mk (fun hb => ?_) (fun hb => ?_)
  · have hlt : i < b.fServices.length := by simpa using hb
    have hw : IntKind.wrap .i64 ((i : Int) + 1) = ((i + 1 : Nat) : Int) := by rw [wrap_ok (by omega) (by omega)]; rfl
    have hit := fun h => idxN_hit (f := svcF b name) hlt hN h
    have miss := fun h => idxN_miss (f := svcF b name) hlt hN h
    clear hN hb
    conv => whnf
    repeat' (first | (refine z_ld1 ?_; first | (refine z_ld rfl rfl rfl rfl (by first | (simp only [List.length_set]; assumption) | assumption | omega) (by first | exact elt_set (by first | assumption | (simp only [List.length_set]; assumption)) | assumption) ?_; conv => whnf) | (refine z_ld0 rfl ?_; conv => whnf)) | (refine z_ix1 ?_; first | (refine z_ix rfl rfl rfl rfl rfl ⟨by first | omega | (simp only [decide_eq_true_eq, Bool.not_eq_true', Bool.or_eq_false_iff, decide_eq_false_iff_not, Bool.and_eq_true, Bool.not_eq_false'] at *; omega), by first | omega | (simp only [decide_eq_true_eq, Bool.not_eq_true', Bool.or_eq_false_iff, decide_eq_false_iff_not, Bool.and_eq_true, Bool.not_eq_false'] at *; omega)⟩ ?_; conv => whnf) | (refine z_ix0 rfl rfl ?_; conv => whnf)) | (refine z_op ?_ ?_; (focus exact rfl); conv => whnf) | (refine zs_ops ?_ ?_; (focus exact rfl)) | (refine z_nil fun vals => ?_; conv => whnf) | (refine g_op ?_; conv => whnf) | (refine And.intro ?_ ?_; (focus (first | exact rfl | exact Nat.le_of_ble_eq_true rfl | decide | omega | fail)); conv => whnf) | (refine g_seq ?_) | (refine XS.go ?_) | (refine g_ops ?_) | (refine g_nil ?_; conv => whnf) | (refine g_cond ?_; conv => whnf) | (refine g_skip ?_; conv => whnf) | (refine g_ret ?_; conv => whnf) | (refine g_block ?_) | (refine r_t ?_; conv => whnf) | (refine r_nil ?_; conv => whnf) | (refine Br.mk (fun hb => ?_) (fun hb => ?_) <;> conv => whnf) | fail)
    all_goals
      first
      | ((conv => lhs; whnf); first | (rw [hit hb]; done) | (rw [hit hb]; rfl) | fail)
      | (refine ⟨i + 1, ⟨by omega, miss hb⟩, by omega, ?_, ?_⟩
         · repeat' (first | exact True.intro | refine And.intro (congrArg (D.int .i64) hw) ?_ | refine And.intro rfl ?_)
         · repeat' (first | exact True.intro | refine And.intro rfl ?_))
  have hge : ¬ i < b.fServices.length := by simpa using hb
  have hend : svcI b name = -1 := by rw [hN, idxN_end hge]
  clear hN
  conv => whnf
  repeat' (first | (refine g_op ?_; conv => whnf) | (refine And.intro ?_ ?_; (focus (first | exact rfl | exact Nat.le_of_ble_eq_true rfl | decide | omega | fail)); conv => whnf) | (refine g_seq ?_) | (refine XS.go ?_) | (refine g_ops ?_) | (refine g_nil ?_; conv => whnf) | (refine g_ret ?_; conv => whnf) | (refine g_exit ?_; conv => whnf) | (refine r_t ?_; conv => whnf) | (refine r_nil ?_; conv => whnf) | fail)
  ((conv => lhs; whnf); first | (rw [hend]; done) | (rw [hend]; rfl))
set_option maxHeartbeats 4000000 in
theorem spec_Berth (b : StewBook) (name : ByteArray) (hl : b.fBerths.length ≤ 1048576) : Rdr Try.prog 138 [b.D, .str name] (.int .i64 (berI b name)) := by
  refine Rdr.intro' hm c138 (Nat.le_of_ble_eq_true rfl) ?_
  conv => whnf
  repeat' (first | (refine g_op ?_; conv => whnf) | (refine And.intro ?_ ?_; (focus (first | exact rfl | exact Nat.le_of_ble_eq_true rfl | decide | omega | fail)); conv => whnf) | (refine g_seq ?_) | (refine g_ops ?_) | (refine g_nil ?_; conv => whnf) | (refine fun _ => ?_; conv => whnf) | fail)
  refine XS.freezeB 2 rfl ?_
  repeat' (first | (refine g_op ?_; conv => whnf) | (refine And.intro ?_ ?_; (focus (first | exact rfl | exact Nat.le_of_ble_eq_true rfl | decide | omega | fail)); conv => whnf) | (refine g_seq ?_) | (refine XS.go ?_) | (refine g_ops ?_) | (refine g_loop ?_) | (refine g_nil ?_; conv => whnf) | (refine g_block ?_) | fail)
  refine XLc.mkL (α := Nat) (fun i => i ≤ b.fBerths.length ∧ berI b name = idxN (berF b name) (b.fBerths.length - i) i) (fun i => b.fBerths.length - i) (fun i gs => [.any, .str name, .cref b.D, .any, .any, .int .i64 (i : Int)]) (fun i gs => []) 0 ⟨Nat.zero_le _, rfl⟩ ?_ ?_
  · refine ⟨?_, ?_⟩
    · repeat' (first | exact True.intro | refine And.intro rfl ?_)
    · repeat' (first | exact True.intro | refine And.intro rfl ?_)
  intro i gs hI
  obtain ⟨hi, hN⟩ := hI
  repeat' (first | (refine z_ld1 ?_; first | (refine z_ld rfl rfl rfl rfl (by first | (simp only [List.length_set]; assumption) | assumption | omega) (by first | exact elt_set (by first | assumption | (simp only [List.length_set]; assumption)) | assumption) ?_; conv => whnf) | (refine z_ld0 rfl ?_; conv => whnf)) | (refine z_op ?_ ?_; (focus exact rfl); conv => whnf) | (refine zs_ops ?_ ?_; (focus exact rfl)) | (refine z_nil fun vals => ?_; conv => whnf) | (refine And.intro ?_ ?_; (focus (first | exact rfl | exact Nat.le_of_ble_eq_true rfl | decide | omega | fail)); conv => whnf) | (refine g_seq ?_) | (refine XS.go ?_) | (refine g_cond ?_; conv => whnf) | fail)
  refine Br.mk (fun hb => ?_) (fun hb => ?_)
  · have hlt : i < b.fBerths.length := by simpa using hb
    have hw : IntKind.wrap .i64 ((i : Int) + 1) = ((i + 1 : Nat) : Int) := by rw [wrap_ok (by omega) (by omega)]; rfl
    have hit := fun h => idxN_hit (f := berF b name) hlt hN h
    have miss := fun h => idxN_miss (f := berF b name) hlt hN h
    clear hN hb
    conv => whnf
    repeat' (first | (refine z_ld1 ?_; first | (refine z_ld rfl rfl rfl rfl (by first | (simp only [List.length_set]; assumption) | assumption | omega) (by first | exact elt_set (by first | assumption | (simp only [List.length_set]; assumption)) | assumption) ?_; conv => whnf) | (refine z_ld0 rfl ?_; conv => whnf)) | (refine z_ix1 ?_; first | (refine z_ix rfl rfl rfl rfl rfl ⟨by first | omega | (simp only [decide_eq_true_eq, Bool.not_eq_true', Bool.or_eq_false_iff, decide_eq_false_iff_not, Bool.and_eq_true, Bool.not_eq_false'] at *; omega), by first | omega | (simp only [decide_eq_true_eq, Bool.not_eq_true', Bool.or_eq_false_iff, decide_eq_false_iff_not, Bool.and_eq_true, Bool.not_eq_false'] at *; omega)⟩ ?_; conv => whnf) | (refine z_ix0 rfl rfl ?_; conv => whnf)) | (refine z_op ?_ ?_; (focus exact rfl); conv => whnf) | (refine zs_ops ?_ ?_; (focus exact rfl)) | (refine z_nil fun vals => ?_; conv => whnf) | (refine g_op ?_; conv => whnf) | (refine And.intro ?_ ?_; (focus (first | exact rfl | exact Nat.le_of_ble_eq_true rfl | decide | omega | fail)); conv => whnf) | (refine g_seq ?_) | (refine XS.go ?_) | (refine g_ops ?_) | (refine g_nil ?_; conv => whnf) | (refine g_cond ?_; conv => whnf) | (refine g_skip ?_; conv => whnf) | (refine g_ret ?_; conv => whnf) | (refine g_block ?_) | (refine r_t ?_; conv => whnf) | (refine r_nil ?_; conv => whnf) | (refine Br.mk (fun hb => ?_) (fun hb => ?_) <;> conv => whnf) | fail)
    all_goals
      first
      | ((conv => lhs; whnf); first | (rw [hit hb]; done) | (rw [hit hb]; rfl) | fail)
      | (refine ⟨i + 1, ⟨by omega, miss hb⟩, by omega, ?_, ?_⟩
         · repeat' (first | exact True.intro | refine And.intro (congrArg (D.int .i64) hw) ?_ | refine And.intro rfl ?_)
         · repeat' (first | exact True.intro | refine And.intro rfl ?_))
  have hge : ¬ i < b.fBerths.length := by simpa using hb
  have hend : berI b name = -1 := by rw [hN, idxN_end hge]
  clear hN
  conv => whnf
  repeat' (first | (refine g_op ?_; conv => whnf) | (refine And.intro ?_ ?_; (focus (first | exact rfl | exact Nat.le_of_ble_eq_true rfl | decide | omega | fail)); conv => whnf) | (refine g_seq ?_) | (refine XS.go ?_) | (refine g_ops ?_) | (refine g_nil ?_; conv => whnf) | (refine g_ret ?_; conv => whnf) | (refine g_exit ?_; conv => whnf) | (refine r_t ?_; conv => whnf) | (refine r_nil ?_; conv => whnf) | fail)
  ((conv => lhs; whnf); first | (rw [hend]; done) | (rw [hend]; rfl))
theorem svcI_lt (b : StewBook) (name : ByteArray) : svcI b name < b.fServices.length ∨ b.fServices.length = 0 := by
  by_cases h : 0 < b.fServices.length
  · exact .inl (idxN_lt h)
  · exact .inr (by omega)
def copyOk (b : StewBook) (c : StewCopy) : Bool :=
  !decide (svcI b c.fService < 0) && inR c.fNumber 1 (IntKind.wrap .i64 ((b.fServices.getD (svcI b c.fService).toNat default).fNext - 1)) && inR c.fVersion 1 b.fNow && inR c.fImage 1 1000000 && inR c.fState 1 4 && cond (c.fState == 1) (c.fBerth.toList == (ByteArray.mk #[]).toList) (!decide (berI b c.fBerth < 0))
def ahead (a b : StewCopy) : Bool := Op.bytesLess a.fService.toList b.fService.toList || (a.fService.toList == b.fService.toList && decide (a.fNumber < b.fNumber))
set_option maxHeartbeats 4000000 in
theorem spec_Ahead (a b : StewCopy) : Rdr Try.prog 74 [a.D, b.D] (.bool (ahead a b)) := by
  refine Rdr.intro' hm c74 (Nat.le_of_ble_eq_true rfl) ?_
  conv => whnf
  repeat' (first | (refine z_ld1 ?_; first | (refine z_ld rfl rfl rfl rfl (by first | (simp only [List.length_set]; assumption) | assumption | omega) (by first | exact elt_set (by first | assumption | (simp only [List.length_set]; assumption)) | assumption) ?_; conv => whnf) | (refine z_ld0 rfl ?_; conv => whnf)) | (refine z_ld1g ?_; first | (refine z_ldg rfl rfl rfl rfl rfl rfl rfl (by (repeat intro _); exact ⟨(by first | (simp only [List.length_set]; assumption) | assumption | omega), (by first | exact elt_set (by first | assumption | (simp only [List.length_set]; assumption)) | assumption)⟩) rfl rfl rfl rfl ?_; conv => whnf) | (refine z_ld0g ?_; (conv => whnf); refine And.intro ?_ ?_; (focus exact rfl); conv => whnf)) | (refine z_op ?_ ?_; (focus exact rfl); conv => whnf) | (refine z_opg0 ?_; (conv => whnf); refine And.intro ?_ ?_; (focus exact rfl); conv => whnf) | (refine z_pick ?_ ?_; (focus exact rfl); conv => whnf) | (refine z_pickg ?_; (conv => whnf); refine And.intro ?_ ?_; (focus exact rfl); conv => whnf) | (refine zs_ops ?_ ?_; (focus exact rfl)) | (refine z_nil fun vals => ?_; conv => whnf) | (refine g_op ?_; conv => whnf) | (refine And.intro ?_ ?_; (focus (first | exact rfl | exact Nat.le_of_ble_eq_true rfl | decide | omega | fail)); conv => whnf) | (refine g_seq ?_) | (refine XS.go ?_) | (refine g_ops ?_) | (refine g_nil ?_; conv => whnf) | (refine g_ret ?_; conv => whnf) | (refine r_t ?_; conv => whnf) | (refine r_nil ?_; conv => whnf) | (refine fun _ => ?_; conv => whnf) | fail)
  (conv => lhs; whnf)
  rfl
theorem svcI_neg (b : StewBook) (name : ByteArray) (h : b.fServices.length = 0) : svcI b name < 0 := by
  unfold svcI
  rw [h]
  show (-1 : Int) < 0
  decide
set_option maxHeartbeats 4000000 in
theorem spec_CopyOk (b : StewBook) (c : StewCopy) (h1 : b.fServices.length ≤ 1048576) (h2 : b.fBerths.length ≤ 1048576) : Rdr Try.prog 73 [b.D, c.D] (.bool (copyOk b c)) := by
  refine Rdr.intro' hm c73 (Nat.le_of_ble_eq_true rfl) ?_
  conv => whnf
  have hlt : 0 ≤ svcI b c.fService → svcI b c.fService < b.fServices.length := fun h => by
    rcases svcI_lt b c.fService with q | q
    · exact q
    · have := svcI_neg b c.fService q; omega
  repeat' (first | (refine z_ld1 ?_; first | (refine z_ld rfl rfl rfl rfl (by first | (simp only [List.length_set]; assumption) | assumption | omega) (by first | exact elt_set (by first | assumption | (simp only [List.length_set]; assumption)) | assumption) ?_; conv => whnf) | (refine z_ld0 rfl ?_; conv => whnf)) | (refine z_ld1g ?_; first | (refine z_ldg rfl rfl rfl rfl rfl rfl rfl (by (repeat intro _); exact ⟨(by first | (simp only [List.length_set]; assumption) | assumption | omega), (by first | exact elt_set (by first | assumption | (simp only [List.length_set]; assumption)) | assumption)⟩) rfl rfl rfl rfl ?_; conv => whnf) | (refine z_ld0g ?_; (conv => whnf); refine And.intro ?_ ?_; (focus exact rfl); conv => whnf)) | (refine z_ix1g ?_; refine z_ixg rfl rfl rfl rfl rfl rfl rfl (by (repeat intro _); refine ⟨?_, ?_⟩ <;> first | omega | (simp only [decide_eq_true_eq, Bool.not_eq_true', Bool.or_eq_false_iff, decide_eq_false_iff_not, Bool.and_eq_true, Bool.not_eq_false'] at *; omega)) ?_) | (refine z_op ?_ ?_; (focus exact rfl); conv => whnf) | (refine z_opg0 ?_; (conv => whnf); refine And.intro ?_ ?_; (focus exact rfl); conv => whnf) | (refine z_pick ?_ ?_; (focus exact rfl); conv => whnf) | (refine zs_ops ?_ ?_; (focus exact rfl)) | (refine zs_quiet ?_ ?_; (focus exact rfl)) | (refine z_nil fun vals => ?_; conv => whnf) | (refine z_call ?_ ?_; (focus exact rfl)) | (refine z_callg0 ?_; (conv => whnf); refine And.intro ?_ ?_; (focus exact rfl)) | (refine RC.of (spec_Service b _ h1) ?_ ?_; (focus exact rfl); conv => whnf) | (refine RC.of (spec_In _ _ _) ?_ ?_; (focus exact rfl); conv => whnf) | (refine RC.of (spec_Berth b _ h2) ?_ ?_; (focus exact rfl); conv => whnf) | (refine g_op ?_; conv => whnf) | (refine And.intro ?_ ?_; (focus (first | exact rfl | exact Nat.le_of_ble_eq_true rfl | decide | omega | fail)); conv => whnf) | (refine g_seq ?_) | (refine XS.go ?_) | (refine g_ops ?_) | (refine g_nil ?_; conv => whnf) | (refine g_cond ?_; conv => whnf) | (refine g_skip ?_; conv => whnf) | (refine g_ret ?_; conv => whnf) | (refine r_t ?_; conv => whnf) | (refine r_nil ?_; conv => whnf) | (refine fun _ => ?_; conv => whnf) | (refine Br.mk (fun hb => ?_) (fun hb => ?_) <;> conv => whnf) | fail)
  all_goals clear hlt
  all_goals (conv => lhs; whnf)
  all_goals refine congrArg D.bool ?_
  all_goals first | (refine (Bool.eq_false_iff.mpr fun h => ?_).symm; simp_all [copyOk]; done) | (refine Bool.eq_false_iff.mpr fun h => ?_; simp_all [copyOk]; done) | (simp_all [copyOk]; done) | (simp_all [copyOk]; omega) | (refine (Bool.eq_false_iff.mpr fun h => ?_).symm; simp_all [copyOk]; omega) | (refine Bool.eq_false_iff.mpr fun h => ?_; simp_all [copyOk]; omega) | (rw [Bool.eq_iff_iff]; constructor <;> intro h <;> simp_all [copyOk] <;> omega) | fail
end Go.Ab
