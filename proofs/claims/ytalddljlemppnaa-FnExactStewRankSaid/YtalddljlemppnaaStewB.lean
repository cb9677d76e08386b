/- Steps towards the law: contracts of functions and facts of lists. -/
import Derived.Test.YtalddljlemppnaaStewA
import Derived.Test.YtalddljlemppnaaRows
set_option linter.unusedSimpArgs false
set_option linter.unusedVariables false
namespace Go.Ab
open Go Go.RowKit Go.Proofs
attribute [local irreducible] XC Rdr IntKind.wrap xw xos xqs xr xd
set_option maxRecDepth 100000

/-- impl.serviceOk -/
def cf76 : CF := ⟨112, [.t 4],
  (.seq (.ops [⟨some 2, .bx (.t 0), none⟩,
    ⟨some 4, .mv (.k (.bool false)), none⟩])
  (.seq (.seq (.ops [⟨some 5, .fa 0 1 0 (.t 2), none⟩,
    ⟨some 6, .ld 1 false (.t 5), none⟩,
    ⟨some 7, .call 77 [(.t 6)], none⟩,
    ⟨some 8, .not (.t 7), none⟩,
    ⟨some 9, .mv (.t 8), none⟩,
    ⟨some 10, .fa 1 1 1 (.t 2), some (9, false)⟩,
    ⟨some 11, .ld 1 false (.t 10), some (9, false)⟩,
    ⟨some 12, .mv (.t 1), some (9, false)⟩,
    ⟨some 13, .call 75 [(.t 11), (.k (.int .i64 1)), (.t 12)], some (9, false)⟩,
    ⟨some 14, .not (.t 13), some (9, false)⟩,
    ⟨some 15, .pick (.t 9) (.k (.bool true)) (.t 14), none⟩,
    ⟨some 16, .mv (.t 15), none⟩,
    ⟨some 17, .fa 3 1 3 (.t 2), some (16, false)⟩,
    ⟨some 18, .ld 1 false (.t 17), some (16, false)⟩,
    ⟨some 19, .call 75 [(.t 18), (.k (.int .i64 1)), (.k (.int .i64 1000000))], some (16, false)⟩,
    ⟨some 20, .not (.t 19), some (16, false)⟩,
    ⟨some 21, .pick (.t 16) (.k (.bool true)) (.t 20), none⟩,
    ⟨some 22, .mv (.t 21), none⟩,
    ⟨some 23, .fa 7 1 7 (.t 2), some (22, false)⟩,
    ⟨some 24, .ld 1 false (.t 23), some (22, false)⟩,
    ⟨some 25, .call 75 [(.t 24), (.k (.int .i64 1)), (.k (.int .i64 1000000))], some (22, false)⟩,
    ⟨some 26, .not (.t 25), some (22, false)⟩,
    ⟨some 27, .pick (.t 22) (.k (.bool true)) (.t 26), none⟩,
    ⟨some 28, .mv (.t 27), none⟩,
    ⟨some 29, .fa 4 1 4 (.t 2), some (28, false)⟩,
    ⟨some 30, .ld 1 false (.t 29), some (28, false)⟩,
    ⟨some 31, .call 75 [(.t 30), (.k (.int .i64 0)), (.k (.int .i64 10))], some (28, false)⟩,
    ⟨some 32, .not (.t 31), some (28, false)⟩,
    ⟨some 33, .pick (.t 28) (.k (.bool true)) (.t 32), none⟩,
    ⟨some 34, .mv (.t 33), none⟩,
    ⟨some 35, .fa 5 1 5 (.t 2), some (34, false)⟩,
    ⟨some 36, .ld 1 false (.t 35), some (34, false)⟩,
    ⟨some 37, .call 75 [(.t 36), (.k (.int .i64 0)), (.k (.int .i64 10))], some (34, false)⟩,
    ⟨some 38, .not (.t 37), some (34, false)⟩,
    ⟨some 39, .pick (.t 34) (.k (.bool true)) (.t 38), none⟩,
    ⟨some 40, .mv (.t 39), none⟩,
    ⟨some 41, .fa 6 1 6 (.t 2), some (40, false)⟩,
    ⟨some 42, .ld 1 false (.t 41), some (40, false)⟩,
    ⟨some 43, .call 75 [(.t 42), (.k (.int .i64 0)), (.k (.int .i64 10))], some (40, false)⟩,
    ⟨some 44, .not (.t 43), some (40, false)⟩,
    ⟨some 45, .pick (.t 40) (.k (.bool true)) (.t 44), none⟩,
    ⟨some 46, .mv (.t 45), none⟩,
    ⟨some 47, .fa 5 1 5 (.t 2), some (46, false)⟩,
    ⟨some 48, .ld 1 false (.t 47), some (46, false)⟩,
    ⟨some 49, .fa 6 1 6 (.t 2), some (46, false)⟩,
    ⟨some 50, .ld 1 false (.t 49), some (46, false)⟩,
    ⟨some 51, .bin .add (.t 48) (.t 50), some (46, false)⟩,
    ⟨some 52, .bin .eql (.t 51) (.k (.int .i64 0)), some (46, false)⟩,
    ⟨some 53, .pick (.t 46) (.k (.bool true)) (.t 52), none⟩])
  (.cond (.t 53)
  (.seq (.ops [⟨some 4, .mv (.k (.bool false)), none⟩])
  .ret)
  .skip))
  (.seq (.seq (.ops [⟨some 54, .fa 8 1 8 (.t 2), none⟩,
    ⟨some 55, .ld 1 false (.t 54), none⟩,
    ⟨some 56, .call 75 [(.t 55), (.k (.int .i64 0)), (.k (.int .i64 1000000))], none⟩,
    ⟨some 57, .not (.t 56), none⟩,
    ⟨some 58, .mv (.t 57), none⟩,
    ⟨some 59, .fa 11 1 11 (.t 2), some (58, false)⟩,
    ⟨some 60, .ld 1 false (.t 59), some (58, false)⟩,
    ⟨some 61, .call 75 [(.t 60), (.k (.int .i64 0)), (.k (.int .i64 1000000))], some (58, false)⟩,
    ⟨some 62, .not (.t 61), some (58, false)⟩,
    ⟨some 63, .pick (.t 58) (.k (.bool true)) (.t 62), none⟩,
    ⟨some 64, .mv (.t 63), none⟩,
    ⟨some 65, .fa 9 1 9 (.t 2), some (64, false)⟩,
    ⟨some 66, .ld 1 false (.t 65), some (64, false)⟩,
    ⟨some 67, .call 75 [(.t 66), (.k (.int .i64 0)), (.k (.int .i64 10))], some (64, false)⟩,
    ⟨some 68, .not (.t 67), some (64, false)⟩,
    ⟨some 69, .pick (.t 64) (.k (.bool true)) (.t 68), none⟩,
    ⟨some 70, .mv (.t 69), none⟩,
    ⟨some 71, .fa 10 1 10 (.t 2), some (70, false)⟩,
    ⟨some 72, .ld 1 false (.t 71), some (70, false)⟩,
    ⟨some 73, .call 75 [(.t 72), (.k (.int .i64 0)), (.k (.int .i64 10))], some (70, false)⟩,
    ⟨some 74, .not (.t 73), some (70, false)⟩,
    ⟨some 75, .pick (.t 70) (.k (.bool true)) (.t 74), none⟩,
    ⟨some 76, .mv (.t 75), none⟩,
    ⟨some 77, .fa 9 1 9 (.t 2), some (76, false)⟩,
    ⟨some 78, .ld 1 false (.t 77), some (76, false)⟩,
    ⟨some 79, .fa 10 1 10 (.t 2), some (76, false)⟩,
    ⟨some 80, .ld 1 false (.t 79), some (76, false)⟩,
    ⟨some 81, .bin .gtr (.t 78) (.t 80), some (76, false)⟩,
    ⟨some 82, .pick (.t 76) (.k (.bool true)) (.t 81), none⟩,
    ⟨some 83, .mv (.t 82), none⟩,
    ⟨some 84, .fa 12 1 12 (.t 2), some (83, false)⟩,
    ⟨some 85, .ld 1 false (.t 84), some (83, false)⟩,
    ⟨some 86, .call 75 [(.t 85), (.k (.int .i64 0)), (.k (.int .i64 3))], some (83, false)⟩,
    ⟨some 87, .not (.t 86), some (83, false)⟩,
    ⟨some 88, .pick (.t 83) (.k (.bool true)) (.t 87), none⟩])
  (.cond (.t 88)
  (.seq (.ops [⟨some 4, .mv (.k (.bool false)), none⟩])
  .ret)
  .skip))
  (.seq (.ops [⟨some 89, .fa 8 1 8 (.t 2), none⟩,
    ⟨some 90, .ld 1 false (.t 89), none⟩,
    ⟨some 91, .bin .gtr (.t 90) (.k (.int .i64 0)), none⟩,
    ⟨some 92, .mv (.t 91), none⟩,
    ⟨some 93, .fa 9 1 9 (.t 2), some (92, false)⟩,
    ⟨some 94, .ld 1 false (.t 93), some (92, false)⟩,
    ⟨some 95, .bin .eql (.t 94) (.k (.int .i64 0)), some (92, false)⟩,
    ⟨some 96, .mv (.t 95), some (92, false)⟩,
    ⟨some 97, .fa 10 1 10 (.t 2), some (96, true)⟩,
    ⟨some 98, .ld 1 false (.t 97), some (96, true)⟩,
    ⟨some 99, .bin .eql (.t 98) (.k (.int .i64 0)), some (96, true)⟩,
    ⟨some 100, .pick (.t 96) (.t 99) (.k (.bool false)), some (92, false)⟩,
    ⟨some 101, .mv (.t 100), some (92, false)⟩,
    ⟨some 102, .fa 11 1 11 (.t 2), some (101, true)⟩,
    ⟨some 103, .ld 1 false (.t 102), some (101, true)⟩,
    ⟨some 104, .bin .eql (.t 103) (.k (.int .i64 0)), some (101, true)⟩,
    ⟨some 105, .pick (.t 101) (.t 104) (.k (.bool false)), some (92, false)⟩,
    ⟨some 106, .mv (.t 105), some (92, false)⟩,
    ⟨some 107, .fa 12 1 12 (.t 2), some (106, true)⟩,
    ⟨some 108, .ld 1 false (.t 107), some (106, true)⟩,
    ⟨some 109, .bin .eql (.t 108) (.k (.int .i64 0)), some (106, true)⟩,
    ⟨some 110, .pick (.t 106) (.t 109) (.k (.bool false)), some (92, false)⟩,
    ⟨some 111, .pick (.t 92) (.k (.bool true)) (.t 110), none⟩,
    ⟨some 4, .mv (.t 111), none⟩])
  .ret))))⟩
theorem c76 : compileF Try.prog [] 76 = some cf76 := by kernel_rfl
/-- spec.l18ServiceOk -/
def cf71 : CF := ⟨100, [.t 4],
  (.seq (.ops [⟨some 2, .bx (.t 0), none⟩,
    ⟨some 4, .mv (.k (.bool false)), none⟩])
  (.seq (.seq (.ops [⟨some 5, .fa 0 1 0 (.t 2), none⟩,
    ⟨some 6, .ld 1 false (.t 5), none⟩,
    ⟨some 7, .call 72 [(.t 6)], none⟩,
    ⟨some 8, .not (.t 7), none⟩,
    ⟨some 9, .mv (.t 8), none⟩,
    ⟨some 10, .fa 1 1 1 (.t 2), some (9, false)⟩,
    ⟨some 11, .ld 1 false (.t 10), some (9, false)⟩,
    ⟨some 12, .mv (.t 1), some (9, false)⟩,
    ⟨some 13, .call 70 [(.t 11), (.k (.int .i64 1)), (.t 12)], some (9, false)⟩,
    ⟨some 14, .not (.t 13), some (9, false)⟩,
    ⟨some 15, .pick (.t 9) (.k (.bool true)) (.t 14), none⟩,
    ⟨some 16, .mv (.t 15), none⟩,
    ⟨some 17, .fa 3 1 3 (.t 2), some (16, false)⟩,
    ⟨some 18, .ld 1 false (.t 17), some (16, false)⟩,
    ⟨some 19, .call 70 [(.t 18), (.k (.int .i64 1)), (.k (.int .i64 1000000))], some (16, false)⟩,
    ⟨some 20, .not (.t 19), some (16, false)⟩,
    ⟨some 21, .pick (.t 16) (.k (.bool true)) (.t 20), none⟩,
    ⟨some 22, .mv (.t 21), none⟩,
    ⟨some 23, .fa 7 1 7 (.t 2), some (22, false)⟩,
    ⟨some 24, .ld 1 false (.t 23), some (22, false)⟩,
    ⟨some 25, .call 70 [(.t 24), (.k (.int .i64 1)), (.k (.int .i64 1000000))], some (22, false)⟩,
    ⟨some 26, .not (.t 25), some (22, false)⟩,
    ⟨some 27, .pick (.t 22) (.k (.bool true)) (.t 26), none⟩,
    ⟨some 28, .mv (.t 27), none⟩,
    ⟨some 29, .fa 4 1 4 (.t 2), some (28, false)⟩,
    ⟨some 30, .ld 1 false (.t 29), some (28, false)⟩,
    ⟨some 31, .call 70 [(.t 30), (.k (.int .i64 0)), (.k (.int .i64 10))], some (28, false)⟩,
    ⟨some 32, .not (.t 31), some (28, false)⟩,
    ⟨some 33, .pick (.t 28) (.k (.bool true)) (.t 32), none⟩,
    ⟨some 34, .mv (.t 33), none⟩,
    ⟨some 35, .fa 5 1 5 (.t 2), some (34, false)⟩,
    ⟨some 36, .ld 1 false (.t 35), some (34, false)⟩,
    ⟨some 37, .call 70 [(.t 36), (.k (.int .i64 0)), (.k (.int .i64 10))], some (34, false)⟩,
    ⟨some 38, .not (.t 37), some (34, false)⟩,
    ⟨some 39, .pick (.t 34) (.k (.bool true)) (.t 38), none⟩,
    ⟨some 40, .mv (.t 39), none⟩,
    ⟨some 41, .fa 6 1 6 (.t 2), some (40, false)⟩,
    ⟨some 42, .ld 1 false (.t 41), some (40, false)⟩,
    ⟨some 43, .call 70 [(.t 42), (.k (.int .i64 0)), (.k (.int .i64 10))], some (40, false)⟩,
    ⟨some 44, .not (.t 43), some (40, false)⟩,
    ⟨some 45, .pick (.t 40) (.k (.bool true)) (.t 44), none⟩,
    ⟨some 46, .mv (.t 45), none⟩,
    ⟨some 47, .fa 5 1 5 (.t 2), some (46, false)⟩,
    ⟨some 48, .ld 1 false (.t 47), some (46, false)⟩,
    ⟨some 49, .fa 6 1 6 (.t 2), some (46, false)⟩,
    ⟨some 50, .ld 1 false (.t 49), some (46, false)⟩,
    ⟨some 51, .bin .add (.t 48) (.t 50), some (46, false)⟩,
    ⟨some 52, .bin .eql (.t 51) (.k (.int .i64 0)), some (46, false)⟩,
    ⟨some 53, .pick (.t 46) (.k (.bool true)) (.t 52), none⟩])
  (.cond (.t 53)
  (.seq (.ops [⟨some 4, .mv (.k (.bool false)), none⟩])
  .ret)
  .skip))
  (.seq (.seq (.ops [⟨some 54, .fa 8 1 8 (.t 2), none⟩,
    ⟨some 55, .ld 1 false (.t 54), none⟩,
    ⟨some 56, .bin .eql (.t 55) (.k (.int .i64 0)), none⟩])
  (.cond (.t 56)
  (.seq (.ops [⟨some 57, .fa 9 1 9 (.t 2), none⟩,
    ⟨some 58, .ld 1 false (.t 57), none⟩,
    ⟨some 59, .bin .eql (.t 58) (.k (.int .i64 0)), none⟩,
    ⟨some 60, .mv (.t 59), none⟩,
    ⟨some 61, .fa 10 1 10 (.t 2), some (60, true)⟩,
    ⟨some 62, .ld 1 false (.t 61), some (60, true)⟩,
    ⟨some 63, .bin .eql (.t 62) (.k (.int .i64 0)), some (60, true)⟩,
    ⟨some 64, .pick (.t 60) (.t 63) (.k (.bool false)), none⟩,
    ⟨some 65, .mv (.t 64), none⟩,
    ⟨some 66, .fa 11 1 11 (.t 2), some (65, true)⟩,
    ⟨some 67, .ld 1 false (.t 66), some (65, true)⟩,
    ⟨some 68, .bin .eql (.t 67) (.k (.int .i64 0)), some (65, true)⟩,
    ⟨some 69, .pick (.t 65) (.t 68) (.k (.bool false)), none⟩,
    ⟨some 70, .mv (.t 69), none⟩,
    ⟨some 71, .fa 12 1 12 (.t 2), some (70, true)⟩,
    ⟨some 72, .ld 1 false (.t 71), some (70, true)⟩,
    ⟨some 73, .bin .eql (.t 72) (.k (.int .i64 0)), some (70, true)⟩,
    ⟨some 74, .pick (.t 70) (.t 73) (.k (.bool false)), none⟩,
    ⟨some 4, .mv (.t 74), none⟩])
  .ret)
  .skip))
  (.seq (.ops [⟨some 75, .fa 8 1 8 (.t 2), none⟩,
    ⟨some 76, .ld 1 false (.t 75), none⟩,
    ⟨some 77, .call 70 [(.t 76), (.k (.int .i64 0)), (.k (.int .i64 1000000))], none⟩,
    ⟨some 78, .mv (.t 77), none⟩,
    ⟨some 79, .fa 11 1 11 (.t 2), some (78, true)⟩,
    ⟨some 80, .ld 1 false (.t 79), some (78, true)⟩,
    ⟨some 81, .call 70 [(.t 80), (.k (.int .i64 0)), (.k (.int .i64 1000000))], some (78, true)⟩,
    ⟨some 82, .pick (.t 78) (.t 81) (.k (.bool false)), none⟩,
    ⟨some 83, .mv (.t 82), none⟩,
    ⟨some 84, .fa 9 1 9 (.t 2), some (83, true)⟩,
    ⟨some 85, .ld 1 false (.t 84), some (83, true)⟩,
    ⟨some 86, .call 70 [(.t 85), (.k (.int .i64 0)), (.k (.int .i64 10))], some (83, true)⟩,
    ⟨some 87, .pick (.t 83) (.t 86) (.k (.bool false)), none⟩,
    ⟨some 88, .mv (.t 87), none⟩,
    ⟨some 89, .fa 10 1 10 (.t 2), some (88, true)⟩,
    ⟨some 90, .ld 1 false (.t 89), some (88, true)⟩,
    ⟨some 91, .fa 9 1 9 (.t 2), some (88, true)⟩,
    ⟨some 92, .ld 1 false (.t 91), some (88, true)⟩,
    ⟨some 93, .call 70 [(.t 90), (.t 92), (.k (.int .i64 10))], some (88, true)⟩,
    ⟨some 94, .pick (.t 88) (.t 93) (.k (.bool false)), none⟩,
    ⟨some 95, .mv (.t 94), none⟩,
    ⟨some 96, .fa 12 1 12 (.t 2), some (95, true)⟩,
    ⟨some 97, .ld 1 false (.t 96), some (95, true)⟩,
    ⟨some 98, .call 70 [(.t 97), (.k (.int .i64 0)), (.k (.int .i64 3))], some (95, true)⟩,
    ⟨some 99, .pick (.t 95) (.t 98) (.k (.bool false)), none⟩,
    ⟨some 4, .mv (.t 99), none⟩])
  .ret))))⟩
theorem c71 : compileF Try.prog [] 71 = some cf71 := by kernel_rfl
def pOk (s : StewService) : Bool := inR s.fPer 0 1000000 && inR s.fLoad 0 1000000 && inR s.fLeast 0 10 && inR s.fMost 0 10 && !decide (s.fLeast > s.fMost) && inR s.fCool 0 3
def svcOk (s : StewService) (now : Int) : Bool := nameOk s.fName && inR s.fVersion 1 now && inR s.fImage 1 1000000 && inR s.fNext 1 1000000 && inR s.fWant 0 10 && inR s.fDown 0 10 && inR s.fOver 0 10 && !(IntKind.wrap .i64 (s.fDown + s.fOver) == 0) && pOk s && (decide (s.fPer > 0) || (s.fLeast == 0 && s.fMost == 0 && s.fLoad == 0 && s.fCool == 0))
theorem pOk_zero {s : StewService} (h : s.fPer = 0) (h1 : s.fLeast = 0) (h2 : s.fMost = 0) (h3 : s.fLoad = 0) (h4 : s.fCool = 0) : pOk s = true := by simp [pOk, inR, *]
set_option maxHeartbeats 4000000 in
theorem impl_serviceOk (s : StewService) (now : Int) : Rdr Try.prog 76 [s.D, .int .i64 now] (.bool (svcOk s now)) := by
  refine Rdr.intro' hm c76 (Nat.le_of_ble_eq_true rfl) ?_
  conv => whnf
  repeat' (first | (refine z_ld1 ?_; first | (refine z_ld rfl rfl rfl rfl (by first | (simp only [List.length_set]; assumption) | assumption | omega) (by first | exact elt_set (by first | assumption | (simp only [List.length_set]; assumption)) | assumption) ?_; conv => whnf) | (refine z_ld0 rfl ?_; conv => whnf)) | (refine z_ld1g ?_; first | (refine z_ldg rfl rfl rfl rfl rfl rfl rfl (by (repeat intro _); exact ⟨(by first | (simp only [List.length_set]; assumption) | assumption | omega), (by first | exact elt_set (by first | assumption | (simp only [List.length_set]; assumption)) | assumption)⟩) rfl rfl rfl rfl ?_; conv => whnf) | (refine z_ld0g ?_; (conv => whnf); refine And.intro ?_ ?_; (focus exact rfl); conv => whnf)) | (refine z_op ?_ ?_; (focus exact rfl); conv => whnf) | (refine z_opg0 ?_; (conv => whnf); refine And.intro ?_ ?_; (focus exact rfl); conv => whnf) | (refine z_pick ?_ ?_; (focus exact rfl); conv => whnf) | (refine z_pickg ?_; (conv => whnf); refine And.intro ?_ ?_; (focus exact rfl); conv => whnf) | (refine zs_ops ?_ ?_; (focus exact rfl)) | (refine z_nil fun vals => ?_; conv => whnf) | (refine z_call ?_ ?_; (focus exact rfl)) | (refine z_callg0 ?_; (conv => whnf); refine And.intro ?_ ?_; (focus exact rfl)) | (refine RC.of (impl_isName _) ?_ ?_; (focus exact rfl); conv => whnf) | (refine RC.of (impl_within _ _ _) ?_ ?_; (focus exact rfl); conv => whnf) | (refine g_op ?_; conv => whnf) | (refine And.intro ?_ ?_; (focus (first | exact rfl | exact Nat.le_of_ble_eq_true rfl | decide | omega | fail)); conv => whnf) | (refine g_seq ?_) | (refine XS.go ?_) | (refine g_ops ?_) | (refine g_nil ?_; conv => whnf) | (refine g_cond ?_; conv => whnf) | (refine g_skip ?_; conv => whnf) | (refine g_ret ?_; conv => whnf) | (refine r_t ?_; conv => whnf) | (refine r_nil ?_; conv => whnf) | (refine fun _ => ?_; conv => whnf) | (refine Br.mk (fun hb => ?_) (fun hb => ?_) <;> conv => whnf) | fail)
  all_goals (conv => lhs; whnf)
  all_goals refine congrArg D.bool ?_
  all_goals first | (refine (Bool.eq_false_iff.mpr fun h => ?_).symm; simp_all [svcOk, pOk]; done) | (refine Bool.eq_false_iff.mpr fun h => ?_; simp_all [svcOk, pOk]; done) | (simp_all [svcOk, pOk]; done) | (simp_all [svcOk, pOk]; omega) | (refine (Bool.eq_false_iff.mpr fun h => ?_).symm; simp_all [svcOk, pOk]; omega) | (refine Bool.eq_false_iff.mpr fun h => ?_; simp_all [svcOk, pOk]; omega) | (rw [Bool.eq_iff_iff]; constructor <;> intro h <;> simp_all [svcOk, pOk] <;> omega) | fail
set_option maxHeartbeats 4000000 in
theorem spec_ServiceOk (s : StewService) (now : Int) : Rdr Try.prog 71 [s.D, .int .i64 now] (.bool (svcOk s now)) := by
  refine Rdr.intro' hm c71 (Nat.le_of_ble_eq_true rfl) ?_
  conv => whnf
  repeat' (first | (refine z_ld1 ?_; first | (refine z_ld rfl rfl rfl rfl (by first | (simp only [List.length_set]; assumption) | assumption | omega) (by first | exact elt_set (by first | assumption | (simp only [List.length_set]; assumption)) | assumption) ?_; conv => whnf) | (refine z_ld0 rfl ?_; conv => whnf)) | (refine z_ld1g ?_; first | (refine z_ldg rfl rfl rfl rfl rfl rfl rfl (by (repeat intro _); exact ⟨(by first | (simp only [List.length_set]; assumption) | assumption | omega), (by first | exact elt_set (by first | assumption | (simp only [List.length_set]; assumption)) | assumption)⟩) rfl rfl rfl rfl ?_; conv => whnf) | (refine z_ld0g ?_; (conv => whnf); refine And.intro ?_ ?_; (focus exact rfl); conv => whnf)) | (refine z_op ?_ ?_; (focus exact rfl); conv => whnf) | (refine z_opg0 ?_; (conv => whnf); refine And.intro ?_ ?_; (focus exact rfl); conv => whnf) | (refine z_pick ?_ ?_; (focus exact rfl); conv => whnf) | (refine zs_ops ?_ ?_; (focus exact rfl)) | (refine z_nil fun vals => ?_; conv => whnf) | (refine z_call ?_ ?_; (focus exact rfl)) | (refine z_callg0 ?_; (conv => whnf); refine And.intro ?_ ?_; (focus exact rfl)) | (refine RC.of (spec_NameOk _) ?_ ?_; (focus exact rfl); conv => whnf) | (refine RC.of (spec_In _ _ _) ?_ ?_; (focus exact rfl); conv => whnf) | (refine g_op ?_; conv => whnf) | (refine And.intro ?_ ?_; (focus (first | exact rfl | exact Nat.le_of_ble_eq_true rfl | decide | omega | fail)); conv => whnf) | (refine g_seq ?_) | (refine XS.go ?_) | (refine g_ops ?_) | (refine g_nil ?_; conv => whnf) | (refine g_cond ?_; conv => whnf) | (refine g_skip ?_; conv => whnf) | (refine g_ret ?_; conv => whnf) | (refine r_t ?_; conv => whnf) | (refine r_nil ?_; conv => whnf) | (refine fun _ => ?_; conv => whnf) | (refine Br.mk (fun hb => ?_) (fun hb => ?_) <;> conv => whnf) | fail)
  all_goals (conv => lhs; whnf)
  all_goals refine congrArg D.bool ?_
  all_goals first | (refine (Bool.eq_false_iff.mpr fun h => ?_).symm; simp_all [svcOk, pOk, inR]; done) | (refine Bool.eq_false_iff.mpr fun h => ?_; simp_all [svcOk, pOk, inR]; done) | (simp_all [svcOk, pOk, inR]; done) | (simp_all [svcOk, pOk, inR]; omega) | (refine (Bool.eq_false_iff.mpr fun h => ?_).symm; simp_all [svcOk, pOk, inR]; omega) | (refine Bool.eq_false_iff.mpr fun h => ?_; simp_all [svcOk, pOk, inR]; omega) | (rw [Bool.eq_iff_iff]; constructor <;> intro h <;> simp_all [svcOk, pOk, inR] <;> omega) | fail
end Go.Ab
