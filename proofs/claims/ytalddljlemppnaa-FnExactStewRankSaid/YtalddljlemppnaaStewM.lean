/- Steps towards the law: contracts of functions and facts of lists. -/
import Derived.Test.YtalddljlemppnaaStewK
import Derived.Test.YtalddljlemppnaaRows
set_option linter.unusedSimpArgs false
set_option linter.unusedVariables false
namespace Go.Ab
open Go Go.RowKit Go.Proofs
attribute [local irreducible] XC Rdr IntKind.wrap xw xos xqs xr xd
set_option maxRecDepth 100000

/-- (*impl.StewBook).copy -/
def cf96 : CF := ⟨45, [.t 6],
  (.seq (.ops [⟨some 6, .mv (.k (.nilp)), none⟩])
  (.seq (.seq (.ops [⟨some 8, .mv (.t 0), none⟩,
    ⟨some 9, .nilc (.t 8), none⟩,
    ⟨some 10, .fa 2 1 2 (.t 9), none⟩,
    ⟨some 11, .ld 1 false (.t 10), none⟩,
    ⟨some 12, .lenl (.t 11), none⟩,
    ⟨some 13, .mv (.k (.int .i64 0)), none⟩])
  (.block 0 (.loop (.seq (.ops [⟨some 14, .bin .lss (.t 13) (.t 12), none⟩])
  (.seq (.cond (.t 14)
  .skip
  (.exit 0))
  (.seq (.block 1 (.seq (.ops [⟨some 15, .mv (.t 13), none⟩,
    ⟨some 7, .mv (.t 15), none⟩])
  (.seq (.ops [⟨some 16, .mv (.t 0), none⟩,
    ⟨some 17, .nilc (.t 16), none⟩,
    ⟨some 18, .fa 2 1 2 (.t 17), none⟩,
    ⟨some 19, .ld 1 false (.t 18), none⟩,
    ⟨some 20, .mv (.t 7), none⟩,
    ⟨some 21, .ix 7 (.t 19) (.t 20), none⟩,
    ⟨some 22, .fa 0 1 0 (.t 21), none⟩,
    ⟨some 23, .ld 1 false (.t 22), none⟩,
    ⟨some 24, .mv (.t 1), none⟩,
    ⟨some 25, .bin .eql (.t 23) (.t 24), none⟩,
    ⟨some 26, .mv (.t 25), none⟩,
    ⟨some 27, .mv (.t 0), some (26, true)⟩,
    ⟨some 28, .nilc (.t 27), some (26, true)⟩,
    ⟨some 29, .fa 2 1 2 (.t 28), some (26, true)⟩,
    ⟨some 30, .ld 1 false (.t 29), some (26, true)⟩,
    ⟨some 31, .mv (.t 7), some (26, true)⟩,
    ⟨some 32, .ix 7 (.t 30) (.t 31), some (26, true)⟩,
    ⟨some 33, .fa 1 1 1 (.t 32), some (26, true)⟩,
    ⟨some 34, .ld 1 false (.t 33), some (26, true)⟩,
    ⟨some 35, .mv (.t 2), some (26, true)⟩,
    ⟨some 36, .bin .eql (.t 34) (.t 35), some (26, true)⟩,
    ⟨some 37, .pick (.t 26) (.t 36) (.k (.bool false)), none⟩])
  (.cond (.t 37)
  (.seq (.ops [⟨some 38, .mv (.t 0), none⟩,
    ⟨some 39, .nilc (.t 38), none⟩,
    ⟨some 40, .fa 2 1 2 (.t 39), none⟩,
    ⟨some 41, .ld 1 false (.t 40), none⟩,
    ⟨some 42, .mv (.t 7), none⟩,
    ⟨some 43, .ix 7 (.t 41) (.t 42), none⟩,
    ⟨some 6, .mv (.t 43), none⟩])
  .ret)
  .skip))))
  (.ops [⟨some 44, .bin .add (.t 13) (.k (.int .i64 1)), none⟩,
    ⟨some 13, .mv (.t 44), none⟩])))))))
  (.seq (.ops [⟨some 6, .mv (.k (.nilp)), none⟩])
  .ret)))⟩
theorem c96 : compileF Try.prog [] 96 = some cf96 := by kernel_rfl
/-- spec.l18Copy -/
def cf137 : CF := ⟨34, [.t 6],
  (.seq (.ops [⟨some 3, .bx (.t 0), none⟩,
    ⟨some 6, .mv (.k (.int .i64 0)), none⟩])
  (.seq (.seq (.ops [⟨some 7, .mv (.k (.int .i64 0)), none⟩])
  (.block 0 (.loop (.seq (.seq (.ops [⟨some 8, .mv (.t 7), none⟩,
    ⟨some 9, .fa 2 1 2 (.t 3), none⟩,
    ⟨some 10, .ld 1 false (.t 9), none⟩,
    ⟨some 11, .lenl (.t 10), none⟩,
    ⟨some 12, .bin .lss (.t 8) (.t 11), none⟩])
  (.cond (.t 12)
  .skip
  (.exit 0)))
  (.seq (.block 1 (.seq (.ops [⟨some 15, .fa 2 1 2 (.t 3), none⟩,
    ⟨some 16, .ld 1 false (.t 15), none⟩,
    ⟨some 17, .mv (.t 7), none⟩,
    ⟨some 18, .ix 7 (.t 16) (.t 17), none⟩,
    ⟨some 19, .fa 0 1 0 (.t 18), none⟩,
    ⟨some 20, .ld 1 false (.t 19), none⟩,
    ⟨some 21, .mv (.t 1), none⟩,
    ⟨some 22, .bin .eql (.t 20) (.t 21), none⟩,
    ⟨some 23, .mv (.t 22), none⟩,
    ⟨some 24, .fa 2 1 2 (.t 3), some (23, true)⟩,
    ⟨some 25, .ld 1 false (.t 24), some (23, true)⟩,
    ⟨some 26, .mv (.t 7), some (23, true)⟩,
    ⟨some 27, .ix 7 (.t 25) (.t 26), some (23, true)⟩,
    ⟨some 28, .fa 1 1 1 (.t 27), some (23, true)⟩,
    ⟨some 29, .ld 1 false (.t 28), some (23, true)⟩,
    ⟨some 30, .mv (.t 2), some (23, true)⟩,
    ⟨some 31, .bin .eql (.t 29) (.t 30), some (23, true)⟩,
    ⟨some 32, .pick (.t 23) (.t 31) (.k (.bool false)), none⟩])
  (.cond (.t 32)
  (.seq (.ops [⟨some 33, .mv (.t 7), none⟩,
    ⟨some 6, .mv (.t 33), none⟩])
  .ret)
  .skip)))
  (.ops [⟨some 13, .mv (.t 7), none⟩,
    ⟨some 14, .bin .add (.t 13) (.k (.int .i64 1)), none⟩,
    ⟨some 7, .mv (.t 14), none⟩]))))))
  (.seq (.ops [⟨some 6, .mv (.k (.int .i64 (-1))), none⟩])
  .ret)))⟩
theorem c137 : compileF Try.prog [] 137 = some cf137 := by kernel_rfl
/-- (*impl.StewBook).mayEnd -/
def cf97 : CF := ⟨43, [.t 6],
  (.seq (.ops [⟨some 6, .mv (.k (.bool false)), none⟩])
  (.seq (.seq (.ops [⟨some 7, .mv (.t 2), none⟩,
    ⟨some 8, .ptb false (.t 7) (.k (.nilp)), none⟩,
    ⟨some 9, .mv (.t 8), none⟩,
    ⟨some 10, .mv (.t 2), some (9, false)⟩,
    ⟨some 11, .nilc (.t 10), some (9, false)⟩,
    ⟨some 12, .fa 5 1 5 (.t 11), some (9, false)⟩,
    ⟨some 13, .ld 1 false (.t 12), some (9, false)⟩,
    ⟨some 14, .pick (.t 9) (.k (.bool true)) (.t 13), none⟩])
  (.cond (.t 14)
  (.seq (.ops [⟨some 6, .mv (.k (.bool false)), none⟩])
  .ret)
  .skip))
  (.seq (.quiet [⟨some 15, .mv (.t 2), none⟩,
    ⟨some 16, .nilc (.t 15), none⟩,
    ⟨some 17, .fa 4 1 4 (.t 16), none⟩,
    ⟨some 18, .ld 1 false (.t 17), none⟩,
    ⟨some 19, .bin .neq (.t 18) (.k (.int .i64 3)), none⟩,
    ⟨some 20, .mv (.t 19), none⟩,
    ⟨some 21, .mv (.t 1), some (20, false)⟩,
    ⟨some 22, .nilc (.t 21), some (20, false)⟩,
    ⟨some 23, .fa 2 1 2 (.t 22), some (20, false)⟩,
    ⟨some 24, .ld 1 false (.t 23), some (20, false)⟩,
    ⟨some 25, .pick (.t 20) (.k (.bool true)) (.t 24), none⟩,
    ⟨some 26, .mv (.t 25), none⟩,
    ⟨some 27, .mv (.t 0), some (26, false)⟩,
    ⟨some 28, .mv (.t 1), some (26, false)⟩,
    ⟨some 29, .call 94 [(.t 27), (.t 28)], some (26, false)⟩,
    ⟨some 30, .fld 1 1 false 1 (.t 29), some (26, false)⟩,
    ⟨some 31, .bin .sub (.t 30) (.k (.int .i64 1)), some (26, false)⟩,
    ⟨some 32, .mv (.t 1), some (26, false)⟩,
    ⟨some 33, .nilc (.t 32), some (26, false)⟩,
    ⟨some 34, .fa 4 1 4 (.t 33), some (26, false)⟩,
    ⟨some 35, .ld 1 false (.t 34), some (26, false)⟩,
    ⟨some 36, .mv (.t 1), some (26, false)⟩,
    ⟨some 37, .nilc (.t 36), some (26, false)⟩,
    ⟨some 38, .fa 5 1 5 (.t 37), some (26, false)⟩,
    ⟨some 39, .ld 1 false (.t 38), some (26, false)⟩,
    ⟨some 40, .bin .sub (.t 35) (.t 39), some (26, false)⟩,
    ⟨some 41, .bin .geq (.t 31) (.t 40), some (26, false)⟩,
    ⟨some 42, .pick (.t 26) (.k (.bool true)) (.t 41), none⟩,
    ⟨some 6, .mv (.t 42), none⟩])
  .ret)))⟩
theorem c97 : compileF Try.prog [] 97 = some cf97 := by kernel_rfl
/-- spec.l20MayEnd -/
def cf95 : CF := ⟨52, [.t 6],
  (.seq (.ops [⟨some 3, .bx (.t 0), none⟩,
    ⟨some 6, .mv (.k (.bool false)), none⟩])
  (.seq (.ops [⟨some 9, .ld 4 true (.t 3), none⟩,
    ⟨some 10, .mv (.t 1), none⟩,
    ⟨some 11, .mv (.t 2), none⟩,
    ⟨some 12, .call 137 [(.t 9), (.t 10), (.t 11)], none⟩,
    ⟨some 7, .mv (.t 12), none⟩])
  (.seq (.seq (.ops [⟨some 13, .mv (.t 7), none⟩,
    ⟨some 14, .bin .lss (.t 13) (.k (.int .i64 0)), none⟩,
    ⟨some 15, .mv (.t 14), none⟩,
    ⟨some 16, .fa 2 1 2 (.t 3), some (15, false)⟩,
    ⟨some 17, .ld 1 false (.t 16), some (15, false)⟩,
    ⟨some 18, .mv (.t 7), some (15, false)⟩,
    ⟨some 19, .ix 7 (.t 17) (.t 18), some (15, false)⟩,
    ⟨some 20, .fa 5 1 5 (.t 19), some (15, false)⟩,
    ⟨some 21, .ld 1 false (.t 20), some (15, false)⟩,
    ⟨some 22, .pick (.t 15) (.k (.bool true)) (.t 21), none⟩])
  (.cond (.t 22)
  (.seq (.ops [⟨some 6, .mv (.k (.bool false)), none⟩])
  .ret)
  .skip))
  (.seq (.decl [⟨some 23, .fa 1 1 1 (.t 3), none⟩,
    ⟨some 24, .ld 1 false (.t 23), none⟩,
    ⟨some 25, .ld 4 true (.t 3), none⟩,
    ⟨some 26, .mv (.t 1), none⟩,
    ⟨some 27, .call 129 [(.t 25), (.t 26)], none⟩,
    ⟨some 28, .ix 13 (.t 24) (.t 27), none⟩,
    ⟨some 29, .ld 13 true (.t 28), none⟩] 8 (.agg [.str ⟨#[]⟩, .int .i64 0, .bool false, .int .i64 0, .int .i64 0, .int .i64 0, .int .i64 0, .int .i64 0, .int .i64 0, .int .i64 0, .int .i64 0, .int .i64 0, .int .i64 0]) 13 (.t 29))
  (.seq (.seq (.ops [⟨some 30, .fa 2 1 2 (.t 3), none⟩,
    ⟨some 31, .ld 1 false (.t 30), none⟩,
    ⟨some 32, .mv (.t 7), none⟩,
    ⟨some 33, .ix 7 (.t 31) (.t 32), none⟩,
    ⟨some 34, .fa 4 1 4 (.t 33), none⟩,
    ⟨some 35, .ld 1 false (.t 34), none⟩,
    ⟨some 36, .bin .neq (.t 35) (.k (.int .i64 3)), none⟩,
    ⟨some 37, .mv (.t 36), none⟩,
    ⟨some 38, .fa 2 1 2 (.t 8), some (37, false)⟩,
    ⟨some 39, .ld 1 false (.t 38), some (37, false)⟩,
    ⟨some 40, .pick (.t 37) (.k (.bool true)) (.t 39), none⟩])
  (.cond (.t 40)
  (.seq (.ops [⟨some 6, .mv (.k (.bool true)), none⟩])
  .ret)
  .skip))
  (.seq (.quiet [⟨some 41, .ld 4 true (.t 3), none⟩,
    ⟨some 42, .mv (.t 1), none⟩,
    ⟨some 43, .call 93 [(.t 41), (.t 42)], none⟩,
    ⟨some 44, .fld 1 1 false 1 (.t 43), none⟩,
    ⟨some 45, .bin .sub (.t 44) (.k (.int .i64 1)), none⟩,
    ⟨some 46, .fa 4 1 4 (.t 8), none⟩,
    ⟨some 47, .ld 1 false (.t 46), none⟩,
    ⟨some 48, .fa 5 1 5 (.t 8), none⟩,
    ⟨some 49, .ld 1 false (.t 48), none⟩,
    ⟨some 50, .bin .sub (.t 47) (.t 49), none⟩,
    ⟨some 51, .bin .geq (.t 45) (.t 50), none⟩,
    ⟨some 6, .mv (.t 51), none⟩])
  .ret))))))⟩
theorem c95 : compileF Try.prog [] 95 = some cf95 := by kernel_rfl
/-- impl.StewMayEnd -/
def cf34 : CF := ⟨23, [.t 6],
  (.seq (.ops [⟨some 3, .bx (.t 0), none⟩,
    ⟨some 6, .mv (.k (.bool false)), none⟩])
  (.seq (.ops [⟨some 7, .ld 4 true (.t 3), none⟩,
    ⟨some 8, .call 20 [(.t 7)], none⟩,
    ⟨some 9, .mv (.t 8), none⟩,
    ⟨some 10, .mv (.t 1), some (9, true)⟩,
    ⟨some 11, .mv (.t 2), some (9, true)⟩,
    ⟨some 12, .call 96 [(.t 3), (.t 10), (.t 11)], some (9, true)⟩,
    ⟨some 13, .ptb true (.t 12) (.k (.nilp)), some (9, true)⟩,
    ⟨some 14, .pick (.t 9) (.t 13) (.k (.bool false)), none⟩,
    ⟨some 15, .mv (.t 14), none⟩,
    ⟨some 16, .mv (.t 1), some (15, true)⟩,
    ⟨some 17, .call 78 [(.t 3), (.t 16)], some (15, true)⟩,
    ⟨some 18, .mv (.t 1), some (15, true)⟩,
    ⟨some 19, .mv (.t 2), some (15, true)⟩,
    ⟨some 20, .call 96 [(.t 3), (.t 18), (.t 19)], some (15, true)⟩,
    ⟨some 21, .call 97 [(.t 3), (.t 17), (.t 20)], some (15, true)⟩,
    ⟨some 22, .pick (.t 15) (.t 21) (.k (.bool false)), none⟩,
    ⟨some 6, .mv (.t 22), none⟩])
  .ret))⟩
theorem c34 : compileF Try.prog [] 34 = some cf34 := by kernel_rfl
/-- spec.StewMayEnd -/
def cf33 : CF := ⟨15, [.t 6],
  (.seq (.ops [⟨some 3, .bx (.t 0), none⟩,
    ⟨some 6, .mv (.k (.bool false)), none⟩])
  (.seq (.ops [⟨some 7, .ld 4 true (.t 3), none⟩,
    ⟨some 8, .call 19 [(.t 7)], none⟩,
    ⟨some 9, .mv (.t 8), none⟩,
    ⟨some 10, .ld 4 true (.t 3), some (9, true)⟩,
    ⟨some 11, .mv (.t 1), some (9, true)⟩,
    ⟨some 12, .mv (.t 2), some (9, true)⟩,
    ⟨some 13, .call 95 [(.t 10), (.t 11), (.t 12)], some (9, true)⟩,
    ⟨some 14, .pick (.t 9) (.t 13) (.k (.bool false)), none⟩,
    ⟨some 6, .mv (.t 14), none⟩])
  .ret))⟩
theorem c33 : compileF Try.prog [] 33 = some cf33 := by kernel_rfl
/-- laws.FnExactStewMayEnd -/
def cf7 : CF := ⟨38, [.t 6],
  (.seq (.ops [⟨some 3, .bx (.t 0), none⟩,
    ⟨some 6, .mv (.k (.bool false)), none⟩])
  (.seq (.seq (.ops [⟨some 11, .mv (.t 1), none⟩,
    ⟨some 12, .lens (.t 11), none⟩,
    ⟨some 13, .bin .gtr (.t 12) (.k (.int .i64 1048576)), none⟩])
  (.cond (.t 13)
  (.seq (.ops [⟨some 6, .mv (.k (.bool true)), none⟩])
  .ret)
  .skip))
  (.seq (.ops [⟨some 7, .mv (.k (.int .i64 1048576)), none⟩])
  (.seq (.ops [⟨some 14, .ld 4 true (.t 3), none⟩,
    ⟨some 15, .mv (.t 7), none⟩,
    ⟨some 16, .call 22 [(.t 14), (.t 15)], none⟩,
    ⟨some 7, .mv (.t 16), none⟩])
  (.seq (.seq (.ops [⟨some 17, .mv (.t 7), none⟩,
    ⟨some 18, .bin .lss (.t 17) (.k (.int .i64 0)), none⟩])
  (.cond (.t 18)
  (.seq (.ops [⟨some 6, .mv (.k (.bool true)), none⟩])
  .ret)
  .skip))
  (.seq (.ops [⟨some 19, .ld 4 true (.t 3), none⟩,
    ⟨some 20, .call 23 [(.t 19)], none⟩,
    ⟨some 21, .mv (.t 1), none⟩,
    ⟨some 22, .mv (.t 2), none⟩,
    ⟨some 23, .call 33 [(.t 20), (.t 21), (.t 22)], none⟩,
    ⟨some 8, .mv (.t 23), none⟩])
  (.seq (.ops [⟨some 24, .ld 4 true (.t 3), none⟩,
    ⟨some 25, .call 23 [(.t 24)], none⟩,
    ⟨some 9, .al (.agg [.int .i64 0, .nil, .nil, .nil]), none⟩,
    ⟨none, .st 4 (.t 9) (.t 25), none⟩])
  (.seq (.ops [⟨some 26, .ld 4 true (.t 9), none⟩,
    ⟨some 27, .mv (.t 1), none⟩,
    ⟨some 28, .mv (.t 2), none⟩,
    ⟨some 29, .call 34 [(.t 26), (.t 27), (.t 28)], none⟩,
    ⟨some 10, .mv (.t 29), none⟩])
  (.seq (.seq (.ops [⟨some 30, .mv (.t 10), none⟩,
    ⟨some 31, .mv (.t 8), none⟩,
    ⟨some 32, .binb true (.t 30) (.t 31), none⟩])
  (.cond (.t 32)
  (.seq (.ops [⟨some 6, .mv (.k (.bool false)), none⟩])
  .ret)
  .skip))
  (.seq (.seq (.quiet [⟨some 33, .ld 4 true (.t 9), none⟩,
    ⟨some 34, .ld 4 true (.t 3), none⟩,
    ⟨some 35, .call 23 [(.t 34)], none⟩,
    ⟨some 36, .call 24 [(.t 33), (.t 35)], none⟩,
    ⟨some 37, .not (.t 36), none⟩])
  (.cond (.t 37)
  (.seq (.ops [⟨some 6, .mv (.k (.bool false)), none⟩])
  .ret)
  .skip))
  (.seq (.ops [⟨some 6, .mv (.k (.bool true)), none⟩])
  .ret)))))))))))⟩
theorem c7 : compileF Try.prog [] 7 = some cf7 := by kernel_rfl
def cpyF (b : StewBook) (name : ByteArray) (k : Int) (i : Nat) : Bool := (b.fCopies.getD i default).fService.toList == name.toList && (b.fCopies.getD i default).fNumber == k
def cpyI (b : StewBook) (name : ByteArray) (k : Int) : Int := idxN (cpyF b name k) b.fCopies.length 0
set_option maxHeartbeats 4000000 in
theorem impl_copy (b : StewBook) (name : ByteArray) (k : Int) (hl : b.fCopies.length ≤ 1048576) : Rdr Try.prog 96 [.cref b.D, .str name, .int .i64 k] (ptrAt StewCopy.D default b.fCopies (cpyI b name k)) := by
  refine Rdr.intro' hm c96 (Nat.le_of_ble_eq_true rfl) ?_
  conv => whnf
  repeat' (first | (refine z_ld1 ?_; first | (refine z_ld rfl rfl rfl rfl (by first | (simp only [List.length_set]; assumption) | assumption | omega) (by first | exact elt_set (by first | assumption | (simp only [List.length_set]; assumption)) | assumption) ?_; conv => whnf) | (refine z_ld0 rfl ?_; conv => whnf)) | (refine z_op ?_ ?_; (focus exact rfl); conv => whnf) | (refine zs_ops ?_ ?_; (focus exact rfl)) | (refine z_nil fun vals => ?_; conv => whnf) | (refine g_op ?_; conv => whnf) | (refine And.intro ?_ ?_; (focus (first | exact rfl | exact Nat.le_of_ble_eq_true rfl | decide | omega | fail)); conv => whnf) | (refine g_seq ?_) | (refine XS.go ?_) | (refine g_ops ?_) | (refine g_loop ?_) | (refine g_nil ?_; conv => whnf) | (refine g_block ?_) | fail)
  refine XLc.mkL (α := Nat) (fun i => i ≤ b.fCopies.length ∧ cpyI b name k = idxN (cpyF b name k) (b.fCopies.length - i) i) (fun i => b.fCopies.length - i) (fun i gs => [.cref b.D, .str name, .int .i64 k, .any, .any, .any, .any, .any, .any, .any, .any, .any, .int .i64 ((b.fCopies.map StewCopy.D).length : Int), .int .i64 (i : Int)]) (fun i gs => []) 0 ⟨Nat.zero_le _, rfl⟩ ?_ ?_
  · refine ⟨?_, ?_⟩
    · repeat' (first | exact True.intro | refine And.intro rfl ?_)
    · repeat' (first | exact True.intro | refine And.intro rfl ?_)
  intro i gs hI
  obtain ⟨hi, hN⟩ := hI
  repeat' (first | (refine g_op ?_; conv => whnf) | (refine And.intro ?_ ?_; (focus (first | exact rfl | exact Nat.le_of_ble_eq_true rfl | decide | omega | fail)); conv => whnf) | (refine g_seq ?_) | (refine XS.go ?_) | (refine g_ops ?_) | (refine g_nil ?_; conv => whnf) | (refine g_cond ?_; conv => whnf) | fail)
  refine Br.mk (fun hb => ?_) (fun hb => ?_)
  · have hlt : i < b.fCopies.length := by simpa using hb
    have hw : IntKind.wrap .i64 ((i : Int) + 1) = ((i + 1 : Nat) : Int) := by rw [wrap_ok (by omega) (by omega)]; rfl
    have hit := fun h => idxN_hit (f := cpyF b name k) hlt hN h
    have miss := fun h => idxN_miss (f := cpyF b name k) hlt hN h
    clear hN hb
    conv => whnf
    repeat' (first | (refine z_ld1 ?_; first | (refine z_ld rfl rfl rfl rfl (by first | (simp only [List.length_set]; assumption) | assumption | omega) (by first | exact elt_set (by first | assumption | (simp only [List.length_set]; assumption)) | assumption) ?_; conv => whnf) | (refine z_ld0 rfl ?_; conv => whnf)) | (refine z_ld1g ?_; first | (refine z_ldg rfl rfl rfl rfl rfl rfl rfl (by (repeat intro _); exact ⟨(by first | (simp only [List.length_set]; assumption) | assumption | omega), (by first | exact elt_set (by first | assumption | (simp only [List.length_set]; assumption)) | assumption)⟩) rfl rfl rfl rfl ?_; conv => whnf) | (refine z_ld0g ?_; (conv => whnf); refine And.intro ?_ ?_; (focus exact rfl); conv => whnf)) | (refine z_ix1 ?_; first | (refine z_ix rfl rfl rfl rfl rfl ⟨by first | omega | (simp only [decide_eq_true_eq, Bool.not_eq_true', Bool.or_eq_false_iff, decide_eq_false_iff_not, Bool.and_eq_true, Bool.not_eq_false'] at *; omega), by first | omega | (simp only [decide_eq_true_eq, Bool.not_eq_true', Bool.or_eq_false_iff, decide_eq_false_iff_not, Bool.and_eq_true, Bool.not_eq_false'] at *; omega)⟩ ?_; conv => whnf) | (refine z_ix0 rfl rfl ?_; conv => whnf)) | (refine z_ix1g ?_; refine z_ixg rfl rfl rfl rfl rfl rfl rfl (by (repeat intro _); refine ⟨?_, ?_⟩ <;> first | omega | (simp only [decide_eq_true_eq, Bool.not_eq_true', Bool.or_eq_false_iff, decide_eq_false_iff_not, Bool.and_eq_true, Bool.not_eq_false'] at *; omega)) ?_) | (refine z_op ?_ ?_; (focus exact rfl); conv => whnf) | (refine z_opg0 ?_; (conv => whnf); refine And.intro ?_ ?_; (focus exact rfl); conv => whnf) | (refine z_pick ?_ ?_; (focus exact rfl); conv => whnf) | (refine zs_ops ?_ ?_; (focus exact rfl)) | (refine z_nil fun vals => ?_; conv => whnf) | (refine g_op ?_; conv => whnf) | (refine And.intro ?_ ?_; (focus (first | exact rfl | exact Nat.le_of_ble_eq_true rfl | decide | omega | fail)); conv => whnf) | (refine g_seq ?_) | (refine XS.go ?_) | (refine g_ops ?_) | (refine g_nil ?_; conv => whnf) | (refine g_cond ?_; conv => whnf) | (refine g_skip ?_; conv => whnf) | (refine g_ret ?_; conv => whnf) | (refine g_block ?_) | (refine r_t ?_; conv => whnf) | (refine r_nil ?_; conv => whnf) | (refine Br.mk (fun hb => ?_) (fun hb => ?_) <;> conv => whnf) | fail)
    all_goals
      first
      | ((conv => lhs; whnf); first | (rw [hit hb]; done) | (rw [hit hb]; rfl) | fail)
      | (refine ⟨i + 1, ⟨by omega, miss hb⟩, by omega, ?_, ?_⟩
         · repeat' (first | exact True.intro | refine And.intro (congrArg (D.int .i64) hw) ?_ | refine And.intro rfl ?_)
         · repeat' (first | exact True.intro | refine And.intro rfl ?_))
  have hge : ¬ i < b.fCopies.length := by simpa using hb
  have hend : cpyI b name k = -1 := by rw [hN, idxN_end hge]
  clear hN
  conv => whnf
  repeat' (first | (refine g_op ?_; conv => whnf) | (refine And.intro ?_ ?_; (focus (first | exact rfl | exact Nat.le_of_ble_eq_true rfl | decide | omega | fail)); conv => whnf) | (refine g_seq ?_) | (refine XS.go ?_) | (refine g_ops ?_) | (refine g_nil ?_; conv => whnf) | (refine g_ret ?_; conv => whnf) | (refine g_exit ?_; conv => whnf) | (refine r_t ?_; conv => whnf) | (refine r_nil ?_; conv => whnf) | fail)
  ((conv => lhs; whnf); first | (rw [hend]; done) | (rw [hend]; rfl))
set_option maxHeartbeats 4000000 in
theorem spec_Copy (b : StewBook) (name : ByteArray) (k : Int) (hl : b.fCopies.length ≤ 1048576) : Rdr Try.prog 137 [b.D, .str name, .int .i64 k] (.int .i64 (cpyI b name k)) := by
  refine Rdr.intro' hm c137 (Nat.le_of_ble_eq_true rfl) ?_
  conv => whnf
  repeat' (first | (refine g_op ?_; conv => whnf) | (refine And.intro ?_ ?_; (focus (first | exact rfl | exact Nat.le_of_ble_eq_true rfl | decide | omega | fail)); conv => whnf) | (refine g_seq ?_) | (refine g_ops ?_) | (refine g_nil ?_; conv => whnf) | (refine fun _ => ?_; conv => whnf) | fail)
  refine XS.freezeB 3 rfl ?_
  repeat' (first | (refine g_op ?_; conv => whnf) | (refine And.intro ?_ ?_; (focus (first | exact rfl | exact Nat.le_of_ble_eq_true rfl | decide | omega | fail)); conv => whnf) | (refine g_seq ?_) | (refine XS.go ?_) | (refine g_ops ?_) | (refine g_loop ?_) | (refine g_nil ?_; conv => whnf) | (refine g_block ?_) | fail)
  refine XLc.mkL (α := Nat) (fun i => i ≤ b.fCopies.length ∧ cpyI b name k = idxN (cpyF b name k) (b.fCopies.length - i) i) (fun i => b.fCopies.length - i) (fun i gs => [.any, .str name, .int .i64 k, .cref b.D, .any, .any, .any, .int .i64 (i : Int)]) (fun i gs => []) 0 ⟨Nat.zero_le _, rfl⟩ ?_ ?_
  · refine ⟨?_, ?_⟩
    · repeat' (first | exact True.intro | refine And.intro rfl ?_)
    · repeat' (first | exact True.intro | refine And.intro rfl ?_)
  intro i gs hI
  obtain ⟨hi, hN⟩ := hI
  repeat' (first | (refine z_ld1 ?_; first | (refine z_ld rfl rfl rfl rfl (by first | (simp only [List.length_set]; assumption) | assumption | omega) (by first | exact elt_set (by first | assumption | (simp only [List.length_set]; assumption)) | assumption) ?_; conv => whnf) | (refine z_ld0 rfl ?_; conv => whnf)) | (refine z_op ?_ ?_; (focus exact rfl); conv => whnf) | (refine zs_ops ?_ ?_; (focus exact rfl)) | (refine z_nil fun vals => ?_; conv => whnf) | (refine And.intro ?_ ?_; (focus (first | exact rfl | exact Nat.le_of_ble_eq_true rfl | decide | omega | fail)); conv => whnf) | (refine g_seq ?_) | (refine XS.go ?_) | (refine g_cond ?_; conv => whnf) | fail)
  refine Br.mk (fun hb => ?_) (fun hb => ?_)
  · have hlt : i < b.fCopies.length := by simpa using hb
    have hw : IntKind.wrap .i64 ((i : Int) + 1) = ((i + 1 : Nat) : Int) := by rw [wrap_ok (by omega) (by omega)]; rfl
    have hit := fun h => idxN_hit (f := cpyF b name k) hlt hN h
    have miss := fun h => idxN_miss (f := cpyF b name k) hlt hN h
    clear hN hb
    conv => whnf
    repeat' (first | (refine z_ld1 ?_; first | (refine z_ld rfl rfl rfl rfl (by first | (simp only [List.length_set]; assumption) | assumption | omega) (by first | exact elt_set (by first | assumption | (simp only [List.length_set]; assumption)) | assumption) ?_; conv => whnf) | (refine z_ld0 rfl ?_; conv => whnf)) | (refine z_ld1g ?_; first | (refine z_ldg rfl rfl rfl rfl rfl rfl rfl (by (repeat intro _); exact ⟨(by first | (simp only [List.length_set]; assumption) | assumption | omega), (by first | exact elt_set (by first | assumption | (simp only [List.length_set]; assumption)) | assumption)⟩) rfl rfl rfl rfl ?_; conv => whnf) | (refine z_ld0g ?_; (conv => whnf); refine And.intro ?_ ?_; (focus exact rfl); conv => whnf)) | (refine z_ix1 ?_; first | (refine z_ix rfl rfl rfl rfl rfl ⟨by first | omega | (simp only [decide_eq_true_eq, Bool.not_eq_true', Bool.or_eq_false_iff, decide_eq_false_iff_not, Bool.and_eq_true, Bool.not_eq_false'] at *; omega), by first | omega | (simp only [decide_eq_true_eq, Bool.not_eq_true', Bool.or_eq_false_iff, decide_eq_false_iff_not, Bool.and_eq_true, Bool.not_eq_false'] at *; omega)⟩ ?_; conv => whnf) | (refine z_ix0 rfl rfl ?_; conv => whnf)) | (refine z_ix1g ?_; refine z_ixg rfl rfl rfl rfl rfl rfl rfl (by (repeat intro _); refine ⟨?_, ?_⟩ <;> first | omega | (simp only [decide_eq_true_eq, Bool.not_eq_true', Bool.or_eq_false_iff, decide_eq_false_iff_not, Bool.and_eq_true, Bool.not_eq_false'] at *; omega)) ?_) | (refine z_op ?_ ?_; (focus exact rfl); conv => whnf) | (refine z_opg0 ?_; (conv => whnf); refine And.intro ?_ ?_; (focus exact rfl); conv => whnf) | (refine z_pick ?_ ?_; (focus exact rfl); conv => whnf) | (refine zs_ops ?_ ?_; (focus exact rfl)) | (refine z_nil fun vals => ?_; conv => whnf) | (refine g_op ?_; conv => whnf) | (refine And.intro ?_ ?_; (focus (first | exact rfl | exact Nat.le_of_ble_eq_true rfl | decide | omega | fail)); conv => whnf) | (refine g_seq ?_) | (refine XS.go ?_) | (refine g_ops ?_) | (refine g_nil ?_; conv => whnf) | (refine g_cond ?_; conv => whnf) | (refine g_skip ?_; conv => whnf) | (refine g_ret ?_; conv => whnf) | (refine g_block ?_) | (refine r_t ?_; conv => whnf) | (refine r_nil ?_; conv => whnf) | (refine Br.mk (fun hb => ?_) (fun hb => ?_) <;> conv => whnf) | fail)
    all_goals
      first
      | ((conv => lhs; whnf); first | (rw [hit hb]; done) | (rw [hit hb]; rfl) | fail)
      | (refine ⟨i + 1, ⟨by omega, miss hb⟩, by omega, ?_, ?_⟩
         · repeat' (first | exact True.intro | refine And.intro (congrArg (D.int .i64) hw) ?_ | refine And.intro rfl ?_)
         · repeat' (first | exact True.intro | refine And.intro rfl ?_))
  have hge : ¬ i < b.fCopies.length := by simpa using hb
  have hend : cpyI b name k = -1 := by rw [hN, idxN_end hge]
  clear hN
  conv => whnf
  repeat' (first | (refine g_op ?_; conv => whnf) | (refine And.intro ?_ ?_; (focus (first | exact rfl | exact Nat.le_of_ble_eq_true rfl | decide | omega | fail)); conv => whnf) | (refine g_seq ?_) | (refine XS.go ?_) | (refine g_ops ?_) | (refine g_nil ?_; conv => whnf) | (refine g_ret ?_; conv => whnf) | (refine g_exit ?_; conv => whnf) | (refine r_t ?_; conv => whnf) | (refine r_nil ?_; conv => whnf) | fail)
  ((conv => lhs; whnf); first | (rw [hend]; done) | (rw [hend]; rfl))
def mayC (s : StewService) (c : StewCopy) (n : StewCount) : Bool := !c.fEnding && ((c.fState != 3 || s.fGone) || decide (IntKind.wrap .i64 (n.fReady - 1) ≥ IntKind.wrap .i64 (s.fWant - s.fDown)))
set_option maxHeartbeats 4000000 in
theorem impl_mayEnd_nil (b : StewBook) (p : D) : Rdr Try.prog 97 [.cref b.D, p, .nilp] (.bool false) := by
  refine Rdr.intro' hm c97 (Nat.le_of_ble_eq_true rfl) ?_
  conv => whnf
  repeat' (first | (refine z_skipT' ?_ ?_; (focus ((conv => lhs; whnf); done)); (conv => whnf); refine And.intro ?_ ?_; (focus exact rfl)) | (refine z_op ?_ ?_; (focus exact rfl); conv => whnf) | (refine z_pick ?_ ?_; (focus exact rfl); conv => whnf) | (refine zs_ops ?_ ?_; (focus exact rfl)) | (refine z_nil fun vals => ?_; conv => whnf) | (refine g_op ?_; conv => whnf) | (refine And.intro ?_ ?_; (focus (first | exact rfl | exact Nat.le_of_ble_eq_true rfl | decide | omega | fail)); conv => whnf) | (refine g_seq ?_) | (refine XS.go ?_) | (refine g_ops ?_) | (refine g_nil ?_; conv => whnf) | (refine Br.t ?_ ?_; (focus (first | assumption | exact rfl)); conv => whnf) | (refine g_cond ?_; conv => whnf) | (refine g_ret ?_; conv => whnf) | (refine r_t ?_; conv => whnf) | (refine r_nil ?_; conv => whnf) | fail)
  (conv => lhs; whnf)
set_option maxHeartbeats 4000000 in
theorem impl_mayEnd (b : StewBook) (s : StewService) (c : StewCopy) (hl : b.fCopies.length ≤ 1048576) : Rdr Try.prog 97 [.cref b.D, .cref s.D, .cref c.D] (.bool (mayC s c (cntUp s.fName.toList s.fImage b.fCopies b.fCopies.length))) := by
  refine Rdr.intro' hm c97 (Nat.le_of_ble_eq_true rfl) ?_
  conv => whnf
  have hc := impl_count b s hl
  generalize cntUp s.fName.toList s.fImage b.fCopies b.fCopies.length = n at *
  repeat' (first | (refine z_ld1 ?_; first | (refine z_ld rfl rfl rfl rfl (by first | (simp only [List.length_set]; assumption) | assumption | omega) (by first | exact elt_set (by first | assumption | (simp only [List.length_set]; assumption)) | assumption) ?_; conv => whnf) | (refine z_ld0 rfl ?_; conv => whnf)) | (refine z_ld1g ?_; first | (refine z_ldg rfl rfl rfl rfl rfl rfl rfl (by (repeat intro _); exact ⟨(by first | (simp only [List.length_set]; assumption) | assumption | omega), (by first | exact elt_set (by first | assumption | (simp only [List.length_set]; assumption)) | assumption)⟩) rfl rfl rfl rfl ?_; conv => whnf) | (refine z_ld0g ?_; (conv => whnf); refine And.intro ?_ ?_; (focus exact rfl); conv => whnf)) | (refine z_op ?_ ?_; (focus exact rfl); conv => whnf) | (refine z_opg0 ?_; (conv => whnf); refine And.intro ?_ ?_; (focus exact rfl); conv => whnf) | (refine z_pick ?_ ?_; (focus exact rfl); conv => whnf) | (refine zs_ops ?_ ?_; (focus exact rfl)) | (refine zs_quiet ?_ ?_; (focus exact rfl)) | (refine z_nil fun vals => ?_; conv => whnf) | (refine z_callg0 ?_; (conv => whnf); refine And.intro ?_ ?_; (focus exact rfl)) | (refine RC.of (hc) ?_ ?_; (focus exact rfl); conv => whnf) | (refine g_op ?_; conv => whnf) | (refine And.intro ?_ ?_; (focus (first | exact rfl | exact Nat.le_of_ble_eq_true rfl | decide | omega | fail)); conv => whnf) | (refine g_seq ?_) | (refine XS.go ?_) | (refine g_ops ?_) | (refine g_nil ?_; conv => whnf) | (refine g_cond ?_; conv => whnf) | (refine g_skip ?_; conv => whnf) | (refine g_ret ?_; conv => whnf) | (refine r_t ?_; conv => whnf) | (refine r_nil ?_; conv => whnf) | (refine Br.mk (fun hb => ?_) (fun hb => ?_) <;> conv => whnf) | fail)
  all_goals (conv => lhs; whnf)
  all_goals refine congrArg D.bool ?_
  all_goals clear hc
  all_goals first | (refine (Bool.eq_false_iff.mpr fun h => ?_).symm; simp_all [mayC]; done) | (refine Bool.eq_false_iff.mpr fun h => ?_; simp_all [mayC]; done) | (simp_all [mayC]; done) | (simp_all [mayC]; omega) | (refine (Bool.eq_false_iff.mpr fun h => ?_).symm; simp_all [mayC]; omega) | (refine Bool.eq_false_iff.mpr fun h => ?_; simp_all [mayC]; omega) | (rw [Bool.eq_iff_iff]; constructor <;> intro h <;> simp_all [mayC] <;> omega) | fail
theorem cpyI_hit (b : StewBook) (name : ByteArray) (k : Int) (h : ¬ cpyI b name k < 0) : cpyI b name k < b.fCopies.length ∧ (b.fCopies.getD (cpyI b name k).toNat default).fService.toList = name.toList := by
  rcases idxN_cases (f := cpyF b name k) (k := b.fCopies.length) (i := 0) with ⟨h1, _⟩ | ⟨j, h1, _, h3, h4⟩
  · exact absurd (show cpyI b name k < 0 by unfold cpyI; rw [h1]; decide) h
  · have e : cpyI b name k = j := h1
    refine ⟨by omega, ?_⟩
    rw [e]
    simp only [cpyF, Bool.and_eq_true, beq_iff_eq] at h4
    exact h4.1
theorem svcI_congr (b : StewBook) {m n : ByteArray} (h : m.toList = n.toList) : svcI b m = svcI b n := by
  unfold svcI svcF
  rw [h]
theorem valid_copy (b : StewBook) (hv : valid b = true) {k : Nat} (hk : k < b.fCopies.length) : ¬ svcI b (b.fCopies.getD k default).fService < 0 := by
  simp only [valid, Bool.and_eq_true] at hv
  have h1 := allN_get hv.2.2.2.1 (Nat.zero_le k) (by omega)
  simp only [vC, copyOk, Bool.and_eq_true] at h1
  simpa using h1.1.1.1.1.1.1
def mayP (b : StewBook) (name : ByteArray) (k : Int) : Bool := !decide (cpyI b name k < 0) && mayC (b.fServices.getD (svcI b name).toNat default) (b.fCopies.getD (cpyI b name k).toNat default) (cntOf b name)
set_option maxHeartbeats 8000000 in
theorem spec_MayEnd20 (b : StewBook) (name : ByteArray) (k : Int) (h1 : b.fServices.length ≤ 1048576) (h2 : b.fBerths.length ≤ 1048576) (h3 : b.fCopies.length ≤ 1048576) (hv : valid b = true) : Rdr Try.prog 95 [b.D, .str name, .int .i64 k] (.bool (mayP b name k)) := by
  refine Rdr.intro' hm c95 (Nat.le_of_ble_eq_true rfl) ?_
  conv => whnf
  repeat' (first | (refine g_op ?_; conv => whnf) | (refine And.intro ?_ ?_; (focus (first | exact rfl | exact Nat.le_of_ble_eq_true rfl | decide | omega | fail)); conv => whnf) | (refine g_seq ?_) | (refine g_ops ?_) | (refine g_nil ?_; conv => whnf) | (refine fun _ => ?_; conv => whnf) | fail)
  refine XS.freezeB 3 rfl ?_
  have hcp : ¬ cpyI b name k < 0 → cpyI b name k < b.fCopies.length := fun h => (cpyI_hit b name k h).1
  have hsv : ¬ cpyI b name k < 0 → ¬ svcI b name < 0 ∧ svcI b name < b.fServices.length := fun h => by
    obtain ⟨q1, q2⟩ := cpyI_hit b name k h
    have := valid_copy b hv (k := (cpyI b name k).toNat) (by omega)
    rw [svcI_congr b q2] at this
    exact ⟨this, (svcI_hit b name this).1⟩
  by_cases hc0 : cpyI b name k < 0
  · skip
    repeat' (first | (refine z_ld1 ?_; first | (refine z_ld rfl rfl rfl rfl (by first | (simp only [List.length_set]; assumption) | assumption | omega) (by first | exact elt_set (by first | assumption | (simp only [List.length_set]; assumption)) | assumption) ?_; conv => whnf) | (refine z_ld0 rfl ?_; conv => whnf)) | (refine z_ld1g ?_; first | (refine z_ldg rfl rfl rfl rfl rfl rfl rfl (by (repeat intro _); exact ⟨(by first | (simp only [List.length_set]; assumption) | assumption | omega), (by first | exact elt_set (by first | assumption | (simp only [List.length_set]; assumption)) | assumption)⟩) rfl rfl rfl rfl ?_; conv => whnf) | (refine z_ld0g ?_; (conv => whnf); refine And.intro ?_ ?_; (focus exact rfl); conv => whnf)) | (refine z_ix1g ?_; refine z_ixg rfl rfl rfl rfl rfl rfl rfl (by (repeat intro _); refine ⟨?_, ?_⟩ <;> first | omega | (simp only [decide_eq_true_eq, Bool.not_eq_true', Bool.or_eq_false_iff, decide_eq_false_iff_not, Bool.and_eq_true, Bool.not_eq_false'] at *; omega)) ?_) | (refine z_op ?_ ?_; (focus exact rfl); conv => whnf) | (refine z_opg0 ?_; (conv => whnf); refine And.intro ?_ ?_; (focus exact rfl); conv => whnf) | (refine z_pick ?_ ?_; (focus exact rfl); conv => whnf) | (refine zs_ops ?_ ?_; (focus exact rfl)) | (refine z_nil fun vals => ?_; conv => whnf) | (refine z_call ?_ ?_; (focus exact rfl)) | (refine RC.of (spec_Copy b _ _ h3) ?_ ?_; (focus exact rfl); conv => whnf) | (refine And.intro ?_ ?_; (focus (first | exact rfl | exact Nat.le_of_ble_eq_true rfl | decide | omega | fail)); conv => whnf) | (refine g_seq ?_) | (refine XS.go ?_) | (refine g_cond ?_; conv => whnf) | fail)
    refine Br.t ?_ ?_
    · simp [hc0]
    conv => whnf
    repeat' (first | (refine g_op ?_; conv => whnf) | (refine And.intro ?_ ?_; (focus (first | exact rfl | exact Nat.le_of_ble_eq_true rfl | decide | omega | fail)); conv => whnf) | (refine g_seq ?_) | (refine XS.go ?_) | (refine g_ops ?_) | (refine g_nil ?_; conv => whnf) | (refine g_ret ?_; conv => whnf) | (refine r_t ?_; conv => whnf) | (refine r_nil ?_; conv => whnf) | fail)
    (conv => lhs; whnf)
    refine congrArg D.bool ?_
    simp [mayP, hc0]
  · have hcl := hcp hc0
    obtain ⟨hs0, hsl⟩ := hsv hc0
    have hcn := spec_count b name h1 h3
    clear hcp hsv
    unfold mayP
    generalize cntOf b name = n at *
    repeat' (first | (refine z_ld1 ?_; first | (refine z_ld rfl rfl rfl rfl (by first | (simp only [List.length_set]; assumption) | assumption | omega) (by first | exact elt_set (by first | assumption | (simp only [List.length_set]; assumption)) | assumption) ?_; conv => whnf) | (refine z_ld0 rfl ?_; conv => whnf)) | (refine z_ld1g ?_; first | (refine z_ldg rfl rfl rfl rfl rfl rfl rfl (by (repeat intro _); exact ⟨(by first | (simp only [List.length_set]; assumption) | assumption | omega), (by first | exact elt_set (by first | assumption | (simp only [List.length_set]; assumption)) | assumption)⟩) rfl rfl rfl rfl ?_; conv => whnf) | (refine z_ld0g ?_; (conv => whnf); refine And.intro ?_ ?_; (focus exact rfl); conv => whnf)) | (refine z_ix1 ?_; first | (refine z_ix rfl rfl rfl rfl rfl ⟨by first | omega | (simp only [decide_eq_true_eq, Bool.not_eq_true', Bool.or_eq_false_iff, decide_eq_false_iff_not, Bool.and_eq_true, Bool.not_eq_false'] at *; omega), by first | omega | (simp only [decide_eq_true_eq, Bool.not_eq_true', Bool.or_eq_false_iff, decide_eq_false_iff_not, Bool.and_eq_true, Bool.not_eq_false'] at *; omega)⟩ ?_; conv => whnf) | (refine z_ix0 rfl rfl ?_; conv => whnf)) | (refine z_ix1g ?_; refine z_ixg rfl rfl rfl rfl rfl rfl rfl (by (repeat intro _); refine ⟨?_, ?_⟩ <;> first | omega | (simp only [decide_eq_true_eq, Bool.not_eq_true', Bool.or_eq_false_iff, decide_eq_false_iff_not, Bool.and_eq_true, Bool.not_eq_false'] at *; omega)) ?_) | (refine z_op ?_ ?_; (focus exact rfl); conv => whnf) | (refine z_opg0 ?_; (conv => whnf); refine And.intro ?_ ?_; (focus exact rfl); conv => whnf) | (refine z_pick ?_ ?_; (focus exact rfl); conv => whnf) | (refine zs_ops ?_ ?_; (focus exact rfl)) | (refine zs_quiet ?_ ?_; (focus exact rfl)) | (refine zs_decl ?_) | (refine z_nil fun vals => ?_; conv => whnf) | (refine z_call ?_ ?_; (focus exact rfl)) | (refine RC.of (spec_Copy b _ _ h3) ?_ ?_; (focus exact rfl); conv => whnf) | (refine RC.of (spec_Service b _ h1) ?_ ?_; (focus exact rfl); conv => whnf) | (refine RC.of (hcn) ?_ ?_; (focus exact rfl); conv => whnf) | (refine g_op ?_; conv => whnf) | (refine And.intro ?_ ?_; (focus (first | exact rfl | exact Nat.le_of_ble_eq_true rfl | decide | omega | fail)); conv => whnf) | (refine g_seq ?_) | (refine XS.go ?_) | (refine g_ops ?_) | (refine g_nil ?_; conv => whnf) | (refine g_cond ?_; conv => whnf) | (refine g_skip ?_; conv => whnf) | (refine g_ret ?_; conv => whnf) | (refine r_t ?_; conv => whnf) | (refine r_nil ?_; conv => whnf) | (refine fun _ => ?_; conv => whnf) | (refine Br.mk (fun hb => ?_) (fun hb => ?_) <;> conv => whnf) | fail)
    all_goals (conv => lhs; whnf)
    all_goals refine congrArg D.bool ?_
    all_goals clear hcn
    all_goals first | (refine (Bool.eq_false_iff.mpr fun h => ?_).symm; simp_all [mayC]; done) | (refine Bool.eq_false_iff.mpr fun h => ?_; simp_all [mayC]; done) | (simp_all [mayC]; done) | (simp_all [mayC]; omega) | (refine (Bool.eq_false_iff.mpr fun h => ?_).symm; simp_all [mayC]; omega) | (refine Bool.eq_false_iff.mpr fun h => ?_; simp_all [mayC]; omega) | (rw [Bool.eq_iff_iff]; constructor <;> intro h <;> simp_all [mayC] <;> omega) | fail
def mayEndP (b : StewBook) (name : ByteArray) (k : Int) : Bool := valid b && mayP b name k
set_option maxHeartbeats 8000000 in
theorem spec_MayEnd (b : StewBook) (name : ByteArray) (k : Int) (h1 : b.fServices.length ≤ 1048576) (h2 : b.fBerths.length ≤ 1048576) (h3 : b.fCopies.length ≤ 1048576) : Rdr Try.prog 33 [b.D, .str name, .int .i64 k] (.bool (mayEndP b name k)) := by
  refine Rdr.intro' hm c33 (Nat.le_of_ble_eq_true rfl) ?_
  conv => whnf
  have hV := spec_Valid b h1 h2 h3
  cases hv : valid b with
  | false =>
    rw [hv] at hV
    repeat' (first | (refine z_skipF ?_ ?_; (focus ((conv => lhs; whnf); done)); (conv => whnf); refine And.intro ?_ ?_; (focus exact rfl)) | (refine z_pickF ?_ ?_ ?_; (focus ((conv => lhs; whnf); done)); (focus exact rfl); (conv => whnf)) | (refine z_ld1 ?_; first | (refine z_ld rfl rfl rfl rfl (by first | (simp only [List.length_set]; assumption) | assumption | omega) (by first | exact elt_set (by first | assumption | (simp only [List.length_set]; assumption)) | assumption) ?_; conv => whnf) | (refine z_ld0 rfl ?_; conv => whnf)) | (refine z_op ?_ ?_; (focus exact rfl); conv => whnf) | (refine zs_ops ?_ ?_; (focus exact rfl)) | (refine z_nil fun vals => ?_; conv => whnf) | (refine z_call ?_ ?_; (focus exact rfl)) | (refine RC.of (hV) ?_ ?_; (focus exact rfl); conv => whnf) | (refine g_op ?_; conv => whnf) | (refine And.intro ?_ ?_; (focus (first | exact rfl | exact Nat.le_of_ble_eq_true rfl | decide | omega | fail)); conv => whnf) | (refine g_seq ?_) | (refine XS.go ?_) | (refine g_ops ?_) | (refine g_nil ?_; conv => whnf) | (refine g_ret ?_; conv => whnf) | (refine r_t ?_; conv => whnf) | (refine r_nil ?_; conv => whnf) | (refine fun _ => ?_; conv => whnf) | fail)
    (conv => lhs; whnf)
    rw [mayEndP, hv]
    rfl
  | true =>
    rw [hv] at hV
    have hM := spec_MayEnd20 b name k h1 h2 h3 hv
    repeat' (first | (refine z_ld1 ?_; first | (refine z_ld rfl rfl rfl rfl (by first | (simp only [List.length_set]; assumption) | assumption | omega) (by first | exact elt_set (by first | assumption | (simp only [List.length_set]; assumption)) | assumption) ?_; conv => whnf) | (refine z_ld0 rfl ?_; conv => whnf)) | (refine z_ld1g ?_; first | (refine z_ldg rfl rfl rfl rfl rfl rfl rfl (by (repeat intro _); exact ⟨(by first | (simp only [List.length_set]; assumption) | assumption | omega), (by first | exact elt_set (by first | assumption | (simp only [List.length_set]; assumption)) | assumption)⟩) rfl rfl rfl rfl ?_; conv => whnf) | (refine z_ld0g ?_; (conv => whnf); refine And.intro ?_ ?_; (focus exact rfl); conv => whnf)) | (refine z_op ?_ ?_; (focus exact rfl); conv => whnf) | (refine z_opg0 ?_; (conv => whnf); refine And.intro ?_ ?_; (focus exact rfl); conv => whnf) | (refine z_pick ?_ ?_; (focus exact rfl); conv => whnf) | (refine zs_ops ?_ ?_; (focus exact rfl)) | (refine z_nil fun vals => ?_; conv => whnf) | (refine z_call ?_ ?_; (focus exact rfl)) | (refine z_callg0 ?_; (conv => whnf); refine And.intro ?_ ?_; (focus exact rfl)) | (refine RC.of (hV) ?_ ?_; (focus exact rfl); conv => whnf) | (refine RC.of (hM) ?_ ?_; (focus exact rfl); conv => whnf) | (refine g_op ?_; conv => whnf) | (refine And.intro ?_ ?_; (focus (first | exact rfl | exact Nat.le_of_ble_eq_true rfl | decide | omega | fail)); conv => whnf) | (refine g_seq ?_) | (refine XS.go ?_) | (refine g_ops ?_) | (refine g_nil ?_; conv => whnf) | (refine g_ret ?_; conv => whnf) | (refine r_t ?_; conv => whnf) | (refine r_nil ?_; conv => whnf) | (refine fun _ => ?_; conv => whnf) | fail)
    (conv => lhs; whnf)
    rw [mayEndP, hv]
set_option maxHeartbeats 8000000 in
theorem impl_MayEnd (b : StewBook) (name : ByteArray) (k : Int) (h1 : b.fServices.length ≤ 1048576) (h2 : b.fBerths.length ≤ 1048576) (h3 : b.fCopies.length ≤ 1048576) : Rdr Try.prog 34 [b.D, .str name, .int .i64 k] (.bool (mayEndP b name k)) := by
  refine Rdr.intro' hm c34 (Nat.le_of_ble_eq_true rfl) ?_
  conv => whnf
  repeat' (first | (refine g_op ?_; conv => whnf) | (refine And.intro ?_ ?_; (focus (first | exact rfl | exact Nat.le_of_ble_eq_true rfl | decide | omega | fail)); conv => whnf) | (refine g_seq ?_) | (refine g_ops ?_) | (refine g_nil ?_; conv => whnf) | (refine fun _ => ?_; conv => whnf) | fail)
  refine XS.freezeB 3 rfl ?_
  have hV := impl_Valid b h1 h2 h3
  have hC := impl_copy b name k h3
  have hS := impl_service b name h1
  cases hv : valid b with
  | false =>
    rw [hv] at hV
    repeat' (first | (refine z_skipF ?_ ?_; (focus ((conv => lhs; whnf); done)); (conv => whnf); refine And.intro ?_ ?_; (focus exact rfl)) | (refine z_pickF ?_ ?_ ?_; (focus ((conv => lhs; whnf); done)); (focus exact rfl); (conv => whnf)) | (refine z_ld1 ?_; first | (refine z_ld rfl rfl rfl rfl (by first | (simp only [List.length_set]; assumption) | assumption | omega) (by first | exact elt_set (by first | assumption | (simp only [List.length_set]; assumption)) | assumption) ?_; conv => whnf) | (refine z_ld0 rfl ?_; conv => whnf)) | (refine z_op ?_ ?_; (focus exact rfl); conv => whnf) | (refine zs_ops ?_ ?_; (focus exact rfl)) | (refine z_nil fun vals => ?_; conv => whnf) | (refine z_call ?_ ?_; (focus exact rfl)) | (refine RC.of (hV) ?_ ?_; (focus exact rfl); conv => whnf) | (refine And.intro ?_ ?_; (focus (first | exact rfl | exact Nat.le_of_ble_eq_true rfl | decide | omega | fail)); conv => whnf) | (refine g_seq ?_) | (refine XS.go ?_) | (refine g_ret ?_; conv => whnf) | (refine r_t ?_; conv => whnf) | (refine r_nil ?_; conv => whnf) | fail)
    (conv => lhs; whnf)
    rw [mayEndP, hv]
    rfl
  | true =>
    rw [hv] at hV
    have hsv : ¬ cpyI b name k < 0 → ¬ svcI b name < 0 := fun h => by
      obtain ⟨q1, q2⟩ := cpyI_hit b name k h
      have := valid_copy b hv (k := (cpyI b name k).toNat) (by omega)
      rw [svcI_congr b q2] at this
      exact this
    by_cases hc0 : cpyI b name k < 0
    · rw [ptr_none hc0] at hC
      repeat' (first | (refine z_skipF' ?_ ?_; (focus ((conv => lhs; whnf); done)); (conv => whnf); refine And.intro ?_ ?_; (focus exact rfl)) | (refine z_pickT ?_ ?_ ?_; (focus ((conv => lhs; whnf); done)); (focus exact rfl); (conv => whnf)) | (refine z_ld1 ?_; first | (refine z_ld rfl rfl rfl rfl (by first | (simp only [List.length_set]; assumption) | assumption | omega) (by first | exact elt_set (by first | assumption | (simp only [List.length_set]; assumption)) | assumption) ?_; conv => whnf) | (refine z_ld0 rfl ?_; conv => whnf)) | (refine z_op ?_ ?_; (focus exact rfl); conv => whnf) | (refine z_opg0 ?_; (conv => whnf); refine And.intro ?_ ?_; (focus exact rfl); conv => whnf) | (refine z_pick ?_ ?_; (focus exact rfl); conv => whnf) | (refine zs_ops ?_ ?_; (focus exact rfl)) | (refine z_nil fun vals => ?_; conv => whnf) | (refine z_call ?_ ?_; (focus exact rfl)) | (refine z_callg0 ?_; (conv => whnf); refine And.intro ?_ ?_; (focus exact rfl)) | (refine RC.of (hV) ?_ ?_; (focus exact rfl); conv => whnf) | (refine RC.of (hC) ?_ ?_; (focus exact rfl); conv => whnf) | (refine And.intro ?_ ?_; (focus (first | exact rfl | exact Nat.le_of_ble_eq_true rfl | decide | omega | fail)); conv => whnf) | (refine g_seq ?_) | (refine XS.go ?_) | (refine g_ret ?_; conv => whnf) | (refine r_t ?_; conv => whnf) | (refine r_nil ?_; conv => whnf) | fail)
      (conv => lhs; whnf)
      rw [mayEndP, hv, mayP, decide_eq_true hc0]
      rfl
    · have hs0 := hsv hc0
      rw [ptr_some hc0] at hC
      rw [ptr_some hs0] at hS
      have hM := impl_mayEnd b (b.fServices.getD (svcI b name).toNat default) (b.fCopies.getD (cpyI b name k).toNat default) h3
      have e0 : cntOf b name = cntUp (b.fServices.getD (svcI b name).toNat default).fName.toList (b.fServices.getD (svcI b name).toNat default).fImage b.fCopies b.fCopies.length := by unfold cntOf; rw [if_neg hs0, (svcI_hit b name hs0).2]
      rw [← e0] at hM
      repeat' (first | (refine z_pickT ?_ ?_ ?_; (focus ((conv => lhs; whnf); done)); (focus exact rfl); (conv => whnf)) | (refine z_ld1 ?_; first | (refine z_ld rfl rfl rfl rfl (by first | (simp only [List.length_set]; assumption) | assumption | omega) (by first | exact elt_set (by first | assumption | (simp only [List.length_set]; assumption)) | assumption) ?_; conv => whnf) | (refine z_ld0 rfl ?_; conv => whnf)) | (refine z_op ?_ ?_; (focus exact rfl); conv => whnf) | (refine z_opg0 ?_; (conv => whnf); refine And.intro ?_ ?_; (focus exact rfl); conv => whnf) | (refine zs_ops ?_ ?_; (focus exact rfl)) | (refine z_nil fun vals => ?_; conv => whnf) | (refine z_call ?_ ?_; (focus exact rfl)) | (refine z_callg0 ?_; (conv => whnf); refine And.intro ?_ ?_; (focus exact rfl)) | (refine RC.of (hV) ?_ ?_; (focus exact rfl); conv => whnf) | (refine RC.of (hC) ?_ ?_; (focus exact rfl); conv => whnf) | (refine RC.of (hS) ?_ ?_; (focus exact rfl); conv => whnf) | (refine RC.of (hM) ?_ ?_; (focus exact rfl); conv => whnf) | (refine And.intro ?_ ?_; (focus (first | exact rfl | exact Nat.le_of_ble_eq_true rfl | decide | omega | fail)); conv => whnf) | (refine g_seq ?_) | (refine XS.go ?_) | (refine g_ret ?_; conv => whnf) | (refine r_t ?_; conv => whnf) | (refine r_nil ?_; conv => whnf) | fail)
      (conv => lhs; whnf)
      rw [mayEndP, hv, mayP, decide_eq_false hc0]
      rfl
set_option maxHeartbeats 8000000 in
theorem law_StewMayEnd (x : StewBook) (name : ByteArray) (k : Int) (hw : x.wf) : Rdr Try.prog 7 [x.D, .str name, .int .i64 k] (.bool true) := by
  refine Rdr.intro' hm c7 (Nat.le_of_ble_eq_true rfl) ?_
  conv => whnf
  repeat' (first | (refine g_op ?_; conv => whnf) | (refine And.intro ?_ ?_; (focus (first | exact rfl | exact Nat.le_of_ble_eq_true rfl | decide | omega | fail)); conv => whnf) | (refine g_seq ?_) | (refine g_ops ?_) | (refine g_nil ?_; conv => whnf) | (refine fun _ => ?_; conv => whnf) | fail)
  refine XS.freezeB 3 rfl ?_
  repeat' (first | (refine g_op ?_; conv => whnf) | (refine And.intro ?_ ?_; (focus (first | exact rfl | exact Nat.le_of_ble_eq_true rfl | decide | omega | fail)); conv => whnf) | (refine g_seq ?_) | (refine XS.go ?_) | (refine g_ops ?_) | (refine g_nil ?_; conv => whnf) | (refine g_cond ?_; conv => whnf) | fail)
  refine Br.mk (fun hb => ?_) (fun hb => ?_)
  · conv => whnf
    repeat' (first | (refine g_op ?_; conv => whnf) | (refine And.intro ?_ ?_; (focus (first | exact rfl | exact Nat.le_of_ble_eq_true rfl | decide | omega | fail)); conv => whnf) | (refine g_seq ?_) | (refine XS.go ?_) | (refine g_ops ?_) | (refine g_nil ?_; conv => whnf) | (refine g_ret ?_; conv => whnf) | (refine r_t ?_; conv => whnf) | (refine r_nil ?_; conv => whnf) | fail)
    rfl
  conv => whnf
  repeat' (first | (refine g_op ?_; conv => whnf) | (refine And.intro ?_ ?_; (focus (first | exact rfl | exact Nat.le_of_ble_eq_true rfl | decide | omega | fail)); conv => whnf) | (refine g_seq ?_) | (refine XS.go ?_) | (refine g_ops ?_) | (refine g_nil ?_; conv => whnf) | (refine g_skip ?_; conv => whnf) | fail)
  refine XCL.ask (sz_StewBook x _ hw (by decide) (by decide)) (fun d h => ?_)
  obtain ⟨n, rfl, hn⟩ := h
  conv => whnf
  repeat' (first | (refine g_op ?_; conv => whnf) | (refine And.intro ?_ ?_; (focus (first | exact rfl | exact Nat.le_of_ble_eq_true rfl | decide | omega | fail)); conv => whnf) | (refine g_seq ?_) | (refine XS.go ?_) | (refine g_ops ?_) | (refine g_nil ?_; conv => whnf) | (refine g_cond ?_; conv => whnf) | fail)
  refine Br.mk (fun hb => ?_) (fun hb => ?_)
  · conv => whnf
    repeat' (first | (refine g_op ?_; conv => whnf) | (refine And.intro ?_ ?_; (focus (first | exact rfl | exact Nat.le_of_ble_eq_true rfl | decide | omega | fail)); conv => whnf) | (refine g_seq ?_) | (refine XS.go ?_) | (refine g_ops ?_) | (refine g_nil ?_; conv => whnf) | (refine g_ret ?_; conv => whnf) | (refine r_t ?_; conv => whnf) | (refine r_nil ?_; conv => whnf) | fail)
    rfl
  have hs := (hn (Int.not_lt.1 (of_decide_eq_false hb))).2
  have q1 := spec_MayEnd x name k hs.fServices.1 hs.fBerths.1 hs.fCopies.1
  have q2 := impl_MayEnd x name k hs.fServices.1 hs.fBerths.1 hs.fCopies.1
  generalize mayEndP x name k = r at *
  conv => whnf
  repeat' (first | (refine g_op ?_; conv => whnf) | (refine And.intro ?_ ?_; (focus (first | exact rfl | exact Nat.le_of_ble_eq_true rfl | decide | omega | fail)); conv => whnf) | (refine g_seq ?_) | (refine XS.go ?_) | (refine g_ops ?_) | (refine g_nil ?_; conv => whnf) | (refine Br.f ?_ ?_; (focus (first | assumption | exact rfl)); conv => whnf) | (refine g_cond ?_; conv => whnf) | (refine g_skip ?_; conv => whnf) | (refine g_ret ?_; conv => whnf) | (refine g_quiet ?_) | (refine q_op ?_; conv => whnf) | (refine q_nil ?_; conv => whnf) | (refine r_t ?_; conv => whnf) | (refine r_nil ?_; conv => whnf) | (refine fun _ => ?_; conv => whnf) | (refine Br.f (by simp) ?_; conv => whnf) | (refine XCL.of_rdr (to_StewBook x hs) ?_; conv => whnf) | (refine XCL.of_rdr (q1) ?_; conv => whnf) | (refine XCL.of_rdr (q2) ?_; conv => whnf) | (refine QC.of_rdr (to_StewBook x hs) ?_; conv => whnf) | (refine QC.of_rdr (eq_StewBook x hs) ?_; conv => whnf) | fail)
  rfl
end Go.Ab
