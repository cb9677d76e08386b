/- Steps towards the law: contracts of functions and facts of lists. -/
import Derived.Test.YtagleaabhljkfaaMateTC
import Derived.Test.YtagleaabhljkfaaRows
set_option linter.unusedSimpArgs false
set_option linter.unusedVariables false
namespace Go.Ab
open Go Go.RowKit Go.Proofs
attribute [local irreducible] XC Rdr IntKind.wrap xw xos xqs xr xd
set_option maxRecDepth 100000

/-- spec.l13Drop -/
def cf102 : CF := ⟨29, [.t 4],
  (.seq (.ops [⟨some 4, .mv (.k (.nil)), none⟩])
  (.seq (.ops [⟨some 7, .bsl (.agg [.str ⟨#[]⟩, .str ⟨#[]⟩, .int .i64 0, .int .i64 0]) 0 [], none⟩,
    ⟨some 5, .mv (.t 7), none⟩])
  (.seq (.seq (.ops [⟨some 6, .mv (.k (.int .i64 0)), none⟩])
  (.block 0 (.loop (.seq (.seq (.ops [⟨some 8, .mv (.t 6), none⟩,
    ⟨some 9, .mv (.t 0), none⟩,
    ⟨some 10, .lenl (.t 9), none⟩,
    ⟨some 11, .bin .lss (.t 8) (.t 10), none⟩])
  (.cond (.t 11)
  .skip
  (.exit 0)))
  (.seq (.block 1 (.seq (.ops [⟨some 14, .mv (.t 0), none⟩,
    ⟨some 15, .mv (.t 6), none⟩,
    ⟨some 16, .ix 4 (.t 14) (.t 15), none⟩,
    ⟨some 17, .fa 0 1 0 (.t 16), none⟩,
    ⟨some 18, .ld 1 false (.t 17), none⟩,
    ⟨some 19, .mv (.t 1), none⟩,
    ⟨some 20, .bin .neq (.t 18) (.t 19), none⟩])
  (.cond (.t 20)
  (.ops [⟨some 21, .mv (.t 5), none⟩,
    ⟨some 22, .mv (.t 0), none⟩,
    ⟨some 23, .mv (.t 6), none⟩,
    ⟨some 24, .ix 4 (.t 22) (.t 23), none⟩,
    ⟨some 25, .ld 4 true (.t 24), none⟩,
    ⟨some 26, .bsl (.agg [.str ⟨#[]⟩, .str ⟨#[]⟩, .int .i64 0, .int .i64 0]) 1 [(0, (.t 25))], none⟩,
    ⟨some 27, .app 4 48 (.t 21) (.t 26), none⟩,
    ⟨some 5, .mv (.t 27), none⟩])
  .skip)))
  (.ops [⟨some 12, .mv (.t 6), none⟩,
    ⟨some 13, .bin .add (.t 12) (.k (.int .i64 1)), none⟩,
    ⟨some 6, .mv (.t 13), none⟩]))))))
  (.seq (.ops [⟨some 28, .mv (.t 5), none⟩,
    ⟨some 4, .mv (.t 28), none⟩])
  .ret))))⟩
theorem c102 : compileF Try.prog [] 102 = some cf102 := by kernel_rfl
/-- spec.MateTake -/
def cf55 : CF := ⟨168, [.c 4 9 true],
  (.seq (.ops [⟨some 2, .bx (.t 0), none⟩,
    ⟨some 3, .bx (.t 1), none⟩,
    ⟨some 4, .al (.agg [.str ⟨#[]⟩, .bool false, .int .i64 0, .bool false, .int .i64 0, .nil, .nil, .nil, .nil]), none⟩])
  (.seq (.seq (.ops [⟨some 10, .ld 9 true (.t 2), none⟩,
    ⟨some 11, .call 45 [(.t 10)], none⟩,
    ⟨some 12, .not (.t 11), none⟩])
  (.cond (.t 12)
  (.seq (.ops [⟨some 13, .bld (.agg [.str ⟨#[]⟩, .bool false, .int .i64 0, .bool false, .int .i64 0, .nil, .nil, .nil, .nil]) [], none⟩,
    ⟨none, .st 9 (.t 4) (.t 13), none⟩])
  .ret)
  .skip))
  (.seq (.ops [⟨some 14, .ld 9 true (.t 2), none⟩,
    ⟨some 15, .call 79 [(.t 14)], none⟩,
    ⟨some 5, .al (.agg [.str ⟨#[]⟩, .bool false, .int .i64 0, .bool false, .int .i64 0, .nil, .nil, .nil, .nil]), none⟩,
    ⟨none, .st 9 (.t 5) (.t 15), none⟩])
  (.seq (.seq (.ops [⟨some 16, .fa 1 1 1 (.t 2), none⟩,
    ⟨some 17, .ld 1 false (.t 16), none⟩,
    ⟨some 18, .not (.t 17), none⟩,
    ⟨some 19, .mv (.t 18), none⟩,
    ⟨some 20, .fa 1 1 1 (.t 3), some (19, false)⟩,
    ⟨some 21, .ld 1 false (.t 20), some (19, false)⟩,
    ⟨some 22, .fa 0 1 0 (.t 2), some (19, false)⟩,
    ⟨some 23, .ld 1 false (.t 22), some (19, false)⟩,
    ⟨some 24, .bin .neq (.t 21) (.t 23), some (19, false)⟩,
    ⟨some 25, .pick (.t 19) (.k (.bool true)) (.t 24), none⟩])
  (.cond (.t 25)
  (.seq (.ops [⟨some 26, .ld 9 true (.t 5), none⟩,
    ⟨none, .st 9 (.t 4) (.t 26), none⟩])
  .ret)
  .skip))
  (.seq (.seq (.ops [⟨some 27, .fa 0 1 0 (.t 3), none⟩,
    ⟨some 28, .ld 1 false (.t 27), none⟩])
  (.block 0 (.seq (.ops [⟨some 30, .bin .eql (.t 28) (.k (.int .i64 1)), none⟩,
    ⟨some 29, .mv (.t 30), none⟩])
  (.cond (.t 29)
  (.seq (.ops [⟨some 31, .fa 3 1 3 (.t 3), none⟩,
    ⟨some 32, .ld 1 false (.t 31), none⟩,
    ⟨some 33, .call 19 [(.t 32)], none⟩,
    ⟨some 34, .mv (.t 33), none⟩,
    ⟨some 35, .fa 2 1 2 (.t 3), some (34, true)⟩,
    ⟨some 36, .ld 1 false (.t 35), some (34, true)⟩,
    ⟨some 37, .call 80 [(.t 36), (.k (.int .i64 1)), (.k (.int .i64 1000000))], some (34, true)⟩,
    ⟨some 38, .pick (.t 34) (.t 37) (.k (.bool false)), none⟩,
    ⟨some 39, .mv (.t 38), none⟩,
    ⟨some 40, .fa 3 1 3 (.t 2), some (39, true)⟩,
    ⟨some 41, .ld 1 false (.t 40), some (39, true)⟩,
    ⟨some 42, .not (.t 41), some (39, true)⟩,
    ⟨some 43, .mv (.t 42), some (39, true)⟩,
    ⟨some 44, .fa 2 1 2 (.t 3), some (43, false)⟩,
    ⟨some 45, .ld 1 false (.t 44), some (43, false)⟩,
    ⟨some 46, .fa 4 1 4 (.t 2), some (43, false)⟩,
    ⟨some 47, .ld 1 false (.t 46), some (43, false)⟩,
    ⟨some 48, .bin .gtr (.t 45) (.t 47), some (43, false)⟩,
    ⟨some 49, .pick (.t 43) (.k (.bool true)) (.t 48), some (39, true)⟩,
    ⟨some 50, .pick (.t 39) (.t 49) (.k (.bool false)), none⟩])
  (.cond (.t 50)
  (.seq (.ops [⟨some 51, .fa 3 1 3 (.t 5), none⟩,
    ⟨none, .st 1 (.t 51) (.k (.bool true)), none⟩])
  (.seq (.ops [⟨some 52, .fa 2 1 2 (.t 3), none⟩,
    ⟨some 53, .ld 1 false (.t 52), none⟩,
    ⟨some 54, .fa 4 1 4 (.t 5), none⟩,
    ⟨none, .st 1 (.t 54) (.t 53), none⟩])
  (.ops [⟨some 55, .bsl (.agg [.str ⟨#[]⟩, .int .i64 0, .str ⟨#[]⟩, .int .i64 0, .int .i64 0, .int .i64 0, .int .i64 0]) 0 [], none⟩,
    ⟨some 56, .fa 3 1 3 (.t 3), none⟩,
    ⟨some 57, .ld 1 false (.t 56), none⟩,
    ⟨some 58, .app 7 72 (.t 55) (.t 57), none⟩,
    ⟨some 59, .fa 5 1 5 (.t 5), none⟩,
    ⟨none, .st 1 (.t 59) (.t 58), none⟩])))
  .skip))
  (.seq (.ops [⟨some 61, .bin .eql (.t 28) (.k (.int .i64 3)), none⟩,
    ⟨some 60, .mv (.t 61), none⟩])
  (.cond (.t 60)
  (.seq (.ops [⟨some 62, .fa 7 1 7 (.t 2), none⟩,
    ⟨some 63, .ld 1 false (.t 62), none⟩,
    ⟨some 64, .fa 4 1 4 (.t 3), none⟩,
    ⟨some 65, .ld 1 false (.t 64), none⟩,
    ⟨some 66, .call 93 [(.t 63), (.t 65)], none⟩,
    ⟨some 6, .mv (.t 66), none⟩])
  (.seq (.seq (.quiet [⟨some 67, .mv (.t 6), none⟩,
    ⟨some 68, .bin .lss (.t 67) (.k (.int .i64 0)), none⟩,
    ⟨some 69, .mv (.t 68), none⟩,
    ⟨some 70, .fa 7 1 7 (.t 2), some (69, false)⟩,
    ⟨some 71, .ld 1 false (.t 70), some (69, false)⟩,
    ⟨some 72, .mv (.t 6), some (69, false)⟩,
    ⟨some 73, .ix 4 (.t 71) (.t 72), some (69, false)⟩,
    ⟨some 74, .fa 1 1 1 (.t 73), some (69, false)⟩,
    ⟨some 75, .ld 1 false (.t 74), some (69, false)⟩,
    ⟨some 76, .fa 5 1 5 (.t 3), some (69, false)⟩,
    ⟨some 77, .ld 1 false (.t 76), some (69, false)⟩,
    ⟨some 78, .bin .neq (.t 75) (.t 77), some (69, false)⟩,
    ⟨some 79, .pick (.t 69) (.k (.bool true)) (.t 78), none⟩,
    ⟨some 80, .mv (.t 79), none⟩,
    ⟨some 81, .fa 6 1 6 (.t 3), some (80, false)⟩,
    ⟨some 82, .ld 1 false (.t 81), some (80, false)⟩,
    ⟨some 83, .fa 7 1 7 (.t 2), some (80, false)⟩,
    ⟨some 84, .ld 1 false (.t 83), some (80, false)⟩,
    ⟨some 85, .mv (.t 6), some (80, false)⟩,
    ⟨some 86, .ix 4 (.t 84) (.t 85), some (80, false)⟩,
    ⟨some 87, .fa 2 1 2 (.t 86), some (80, false)⟩,
    ⟨some 88, .ld 1 false (.t 87), some (80, false)⟩,
    ⟨some 89, .fa 7 1 7 (.t 2), some (80, false)⟩,
    ⟨some 90, .ld 1 false (.t 89), some (80, false)⟩,
    ⟨some 91, .mv (.t 6), some (80, false)⟩,
    ⟨some 92, .ix 4 (.t 90) (.t 91), some (80, false)⟩,
    ⟨some 93, .fa 3 1 3 (.t 92), some (80, false)⟩,
    ⟨some 94, .ld 1 false (.t 93), some (80, false)⟩,
    ⟨some 95, .call 80 [(.t 82), (.t 88), (.t 94)], some (80, false)⟩,
    ⟨some 96, .not (.t 95), some (80, false)⟩,
    ⟨some 97, .pick (.t 80) (.k (.bool true)) (.t 96), none⟩])
  (.cond (.t 97)
  (.seq (.ops [⟨some 98, .ld 9 true (.t 5), none⟩,
    ⟨none, .st 9 (.t 4) (.t 98), none⟩])
  .ret)
  .skip))
  (.seq (.ops [⟨some 7, .mv (.k (.int .i64 0)), none⟩])
  (.block 1 (.loop (.seq (.seq (.ops [⟨some 99, .mv (.t 7), none⟩,
    ⟨some 100, .fa 6 1 6 (.t 5), none⟩,
    ⟨some 101, .ld 1 false (.t 100), none⟩,
    ⟨some 102, .lenl (.t 101), none⟩,
    ⟨some 103, .bin .lss (.t 99) (.t 102), none⟩])
  (.cond (.t 103)
  .skip
  (.exit 1)))
  (.seq (.block 2 (.seq (.ops [⟨some 106, .fa 6 1 6 (.t 5), none⟩,
    ⟨some 107, .ld 1 false (.t 106), none⟩,
    ⟨some 108, .mv (.t 7), none⟩,
    ⟨some 109, .ix 11 (.t 107) (.t 108), none⟩,
    ⟨some 110, .ld 11 true (.t 109), none⟩,
    ⟨some 8, .al (.agg [.agg [.str ⟨#[]⟩, .int .i64 0, .str ⟨#[]⟩, .int .i64 0, .int .i64 0, .int .i64 0, .int .i64 0], .int .i64 0, .int .i64 0, .int .i64 0, .int .i64 0]), none⟩,
    ⟨none, .st 11 (.t 8) (.t 110), none⟩])
  (.seq (.ops [⟨some 111, .fa 0 7 0 (.t 8), none⟩,
    ⟨some 112, .fa 2 1 2 (.t 111), none⟩,
    ⟨some 113, .ld 1 false (.t 112), none⟩,
    ⟨some 114, .fa 4 1 4 (.t 3), none⟩,
    ⟨some 115, .ld 1 false (.t 114), none⟩,
    ⟨some 116, .bin .eql (.t 113) (.t 115), none⟩,
    ⟨some 117, .mv (.t 116), none⟩,
    ⟨some 118, .fa 0 7 0 (.t 8), some (117, true)⟩,
    ⟨some 119, .fa 0 1 0 (.t 118), some (117, true)⟩,
    ⟨some 120, .ld 1 false (.t 119), some (117, true)⟩,
    ⟨some 121, .fa 5 1 5 (.t 3), some (117, true)⟩,
    ⟨some 122, .ld 1 false (.t 121), some (117, true)⟩,
    ⟨some 123, .bin .eql (.t 120) (.t 122), some (117, true)⟩,
    ⟨some 124, .pick (.t 117) (.t 123) (.k (.bool false)), none⟩,
    ⟨some 125, .mv (.t 124), none⟩,
    ⟨some 126, .fa 10 1 4 (.t 8), some (125, true)⟩,
    ⟨some 127, .ld 1 false (.t 126), some (125, true)⟩,
    ⟨some 128, .fa 6 1 6 (.t 3), some (125, true)⟩,
    ⟨some 129, .ld 1 false (.t 128), some (125, true)⟩,
    ⟨some 130, .bin .add (.t 129) (.k (.int .i64 16)), some (125, true)⟩,
    ⟨some 131, .bin .lss (.t 127) (.t 130), some (125, true)⟩,
    ⟨some 132, .pick (.t 125) (.t 131) (.k (.bool false)), none⟩])
  (.cond (.t 132)
  (.ops [⟨some 133, .fa 6 1 6 (.t 5), none⟩,
    ⟨some 134, .ld 1 false (.t 133), none⟩,
    ⟨some 135, .mv (.t 7), none⟩,
    ⟨some 136, .fa 6 1 6 (.t 3), none⟩,
    ⟨some 137, .ld 1 false (.t 136), none⟩,
    ⟨some 138, .bin .add (.t 137) (.k (.int .i64 16)), none⟩,
    ⟨some 139, .ix 11 (.t 134) (.t 135), none⟩,
    ⟨some 140, .fa 10 1 4 (.t 139), none⟩,
    ⟨none, .st 1 (.t 140) (.t 138), none⟩])
  .skip))))
  (.ops [⟨some 104, .mv (.t 7), none⟩,
    ⟨some 105, .bin .add (.t 104) (.k (.int .i64 1)), none⟩,
    ⟨some 7, .mv (.t 105), none⟩]))))))))
  (.seq (.ops [⟨some 142, .bin .eql (.t 28) (.k (.int .i64 5)), none⟩,
    ⟨some 141, .mv (.t 142), none⟩])
  (.cond (.t 141)
  (.seq (.ops [⟨some 143, .fa 8 1 8 (.t 2), none⟩,
    ⟨some 144, .ld 1 false (.t 143), none⟩,
    ⟨some 145, .fa 4 1 4 (.t 3), none⟩,
    ⟨some 146, .ld 1 false (.t 145), none⟩,
    ⟨some 147, .call 93 [(.t 144), (.t 146)], none⟩,
    ⟨some 9, .mv (.t 147), none⟩])
  (.seq (.quiet [⟨some 148, .mv (.t 9), none⟩,
    ⟨some 149, .bin .geq (.t 148) (.k (.int .i64 0)), none⟩,
    ⟨some 150, .mv (.t 149), none⟩,
    ⟨some 151, .fa 8 1 8 (.t 2), some (150, true)⟩,
    ⟨some 152, .ld 1 false (.t 151), some (150, true)⟩,
    ⟨some 153, .mv (.t 9), some (150, true)⟩,
    ⟨some 154, .ix 4 (.t 152) (.t 153), some (150, true)⟩,
    ⟨some 155, .fa 3 1 3 (.t 154), some (150, true)⟩,
    ⟨some 156, .ld 1 false (.t 155), some (150, true)⟩,
    ⟨some 157, .fa 6 1 6 (.t 3), some (150, true)⟩,
    ⟨some 158, .ld 1 false (.t 157), some (150, true)⟩,
    ⟨some 159, .bin .eql (.t 156) (.t 158), some (150, true)⟩,
    ⟨some 160, .pick (.t 150) (.t 159) (.k (.bool false)), none⟩])
  (.cond (.t 160)
  (.ops [⟨some 161, .fa 8 1 8 (.t 2), none⟩,
    ⟨some 162, .ld 1 false (.t 161), none⟩,
    ⟨some 163, .fa 4 1 4 (.t 3), none⟩,
    ⟨some 164, .ld 1 false (.t 163), none⟩,
    ⟨some 165, .call 102 [(.t 162), (.t 164)], none⟩,
    ⟨some 166, .fa 8 1 8 (.t 5), none⟩,
    ⟨none, .st 1 (.t 166) (.t 165), none⟩])
  .skip)))
  .skip))))))))
  (.seq (.ops [⟨some 167, .ld 9 true (.t 5), none⟩,
    ⟨none, .st 9 (.t 4) (.t 167), none⟩])
  .ret))))))⟩
theorem c55 : compileF Try.prog [] 55 = some cf55 := by kernel_rfl
def dropQ (hold : ByteArray) (a : MateAsk) : Bool := a.fHold.toList != hold.toList
set_option maxHeartbeats 8000000 in
theorem spec_Drop (xs : List MateAsk) (hold : ByteArray) (hl : xs.length ≤ 1048576) : Rdr Try.prog 102 [.ro 4 (xs.map MateAsk.D), .str hold] (.ro 4 ((xs.filter (dropQ hold)).map MateAsk.D)) := by
  refine Rdr.introF hm [27] rfl c102 (Nat.le_of_ble_eq_true rfl) ?_
  conv => whnf
  repeat' (first | (refine g_op ?_; conv => whnf) | (refine And.intro ?_ ?_; (focus (first | exact rfl | exact Nat.le_of_ble_eq_true rfl | decide | omega | fail)); conv => whnf) | (refine g_seq ?_) | (refine g_ops ?_) | (refine g_nil ?_; conv => whnf) | fail)
  refine XS.go ?_
  repeat' (first | (refine g_op ?_; conv => whnf) | (refine And.intro ?_ ?_; (focus (first | exact rfl | exact Nat.le_of_ble_eq_true rfl | decide | omega | fail)); conv => whnf) | (refine g_seq ?_) | (refine g_ops ?_) | (refine g_nil ?_; conv => whnf) | fail)
  refine XS.own 5 27 4 rfl fun b0 => ?_
  repeat' (first | (refine g_op ?_; conv => whnf) | (refine And.intro ?_ ?_; (focus (first | exact rfl | exact Nat.le_of_ble_eq_true rfl | decide | omega | fail)); conv => whnf) | (refine g_seq ?_) | (refine XS.go ?_) | (refine g_ops ?_) | (refine g_loop ?_) | (refine g_nil ?_; conv => whnf) | (refine g_block ?_) | fail)
  refine XLc.mkA (α := Nat × Nat) (fun i => i.1 ≤ xs.length ∧ ((xs.take i.1).filter (dropQ hold)).length ≤ i.2) (fun i => xs.length - i.1) (fun i gs => [.ro 4 (xs.map MateAsk.D), .str hold, .any, .any, .nil, .lsl 27 (gs 27) ((xs.take i.1).filter (dropQ hold)).length i.2, .int .i64 (i.1 : Int)]) (fun i gs => [(27, .arr 4 (((xs.take i.1).filter (dropQ hold)).map MateAsk.D) i.2)]) (0, 0) ⟨Nat.zero_le _, by simp⟩ ?_ ?_
  · refine ⟨?_, ?_⟩
    · repeat' (first | exact True.intro | refine And.intro rfl ?_)
    · refine And.intro rfl True.intro
  intro i gs hI
  obtain ⟨i, cp⟩ := i
  obtain ⟨hi0, hi1⟩ := hI
  simp only at hi0 hi1
  dsimp only
  repeat' (first | (refine g_op ?_; conv => whnf) | (refine And.intro ?_ ?_; (focus (first | exact rfl | exact Nat.le_of_ble_eq_true rfl | decide | omega | fail)); conv => whnf) | (refine g_seq ?_) | (refine XS.go ?_) | (refine g_ops ?_) | (refine g_nil ?_; conv => whnf) | (refine g_cond ?_; conv => whnf) | fail)
  refine Br.mk (fun hb => ?_) (fun hb => ?_)
  · have hlt : i < xs.length := by simpa using hb
    have hF := take_filter (dropQ hold) hlt
    have hFl : ((xs.take i).filter (dropQ hold)).length ≤ i := Nat.le_trans (List.length_filter_le _ _) (by rw [List.length_take]; omega)
    generalize (xs.take i).filter (dropQ hold) = A at hi1 hF hFl ⊢
    have hw : IntKind.wrap .i64 ((i : Int) + 1) = ((i + 1 : Nat) : Int) := by rw [wrap_ok (by omega) (by omega)]; rfl
    clear hb
    conv => whnf
    repeat' (first | (refine z_ld1 ?_; first | (refine z_ld rfl rfl rfl rfl (by first | (simp only [List.length_set]; assumption) | assumption | omega) (by first | exact elt_set (by first | assumption | (simp only [List.length_set]; assumption)) | assumption) ?_; conv => whnf) | (refine z_ld0 rfl ?_; conv => whnf)) | (refine z_ix1 ?_; first | (refine z_ix rfl rfl rfl rfl rfl ⟨by first | omega | (simp only [decide_eq_true_eq, Bool.not_eq_true', Bool.or_eq_false_iff, decide_eq_false_iff_not, Bool.and_eq_true, Bool.not_eq_false'] at *; omega), by first | omega | (simp only [decide_eq_true_eq, Bool.not_eq_true', Bool.or_eq_false_iff, decide_eq_false_iff_not, Bool.and_eq_true, Bool.not_eq_false'] at *; omega)⟩ ?_; conv => whnf) | (refine z_ix0 rfl rfl ?_; conv => whnf)) | (refine z_op ?_ ?_; (focus exact rfl); conv => whnf) | (refine zs_ops ?_ ?_; (focus exact rfl)) | (refine z_nil fun vals => ?_; conv => whnf) | (refine And.intro ?_ ?_; (focus (first | exact rfl | exact Nat.le_of_ble_eq_true rfl | decide | omega | fail)); conv => whnf) | (refine g_seq ?_) | (refine XS.go ?_) | (refine g_cond ?_; conv => whnf) | (refine g_skip ?_; conv => whnf) | (refine g_block ?_) | fail)
    refine Br.mk (fun hb => ?_) (fun hb => ?_)
    · have he : (xs.take (i + 1)).filter (dropQ hold) = A ++ [xs.getD i default] := by rw [hF, if_pos (show dropQ hold (xs.getD i default) = true from hb)]
      clear hb hF
      conv => whnf
      repeat' (first | (refine z_ld1 ?_; first | (refine z_ld rfl rfl rfl rfl (by first | (simp only [List.length_set]; assumption) | assumption | omega) (by first | exact elt_set (by first | assumption | (simp only [List.length_set]; assumption)) | assumption) ?_; conv => whnf) | (refine z_ld0 rfl ?_; conv => whnf)) | (refine z_ix1 ?_; first | (refine z_ix rfl rfl rfl rfl rfl ⟨by first | omega | (simp only [decide_eq_true_eq, Bool.not_eq_true', Bool.or_eq_false_iff, decide_eq_false_iff_not, Bool.and_eq_true, Bool.not_eq_false'] at *; omega), by first | omega | (simp only [decide_eq_true_eq, Bool.not_eq_true', Bool.or_eq_false_iff, decide_eq_false_iff_not, Bool.and_eq_true, Bool.not_eq_false'] at *; omega)⟩ ?_; conv => whnf) | (refine z_ix0 rfl rfl ?_; conv => whnf)) | (refine z_op ?_ ?_; (focus exact rfl); conv => whnf) | (refine zs_ops ?_ ?_; (focus exact rfl)) | (refine z_eff ?_; conv => whnf) | (refine And.intro ?_ ?_; (focus (first | exact rfl | exact Nat.le_of_ble_eq_true rfl | decide | omega | fail)); conv => whnf) | (refine fun _ => ?_; conv => whnf) | fail)
      refine ⟨by simp, rfl, ?_⟩
      conv => whnf
      refine ⟨rfl, ?_⟩
      conv => whnf
      refine ⟨rfl, rfl, rfl, ?_⟩
      conv => whnf
      refine ⟨?_, Nat.le_of_ble_eq_true rfl, (by decide), fun n' b' c' hn hc => ?_⟩
      · show _ + 1 ≤ 1073741824
        rw [List.length_map]; omega
      have hn : n' = ((xs.take (i + 1)).filter (dropQ hold)).length := by
        rw [hn, he, List.length_map, List.length_append]
        rfl
      subst hn
      conv => whnf
      repeat' (first | (refine z_op ?_ ?_; (focus exact rfl); conv => whnf) | (refine z_nil fun vals => ?_; conv => whnf) | (refine g_op ?_; conv => whnf) | (refine And.intro ?_ ?_; (focus (first | exact rfl | exact Nat.le_of_ble_eq_true rfl | decide | omega | fail)); conv => whnf) | (refine XS.go ?_) | (refine g_ops ?_) | (refine g_nil ?_; conv => whnf) | fail)
      refine ⟨(i + 1, c'), ⟨hlt, hc⟩, by simp only; omega, ?_, ?_⟩
      · repeat' (first | exact True.intro | refine And.intro (congrArg (D.int .i64) hw) ?_ | refine And.intro rfl ?_)
      · dsimp only
        rw [he, List.map_append]
        exact ⟨rfl, True.intro⟩
    · have he : (xs.take (i + 1)).filter (dropQ hold) = A := by
        rw [hF, if_neg (by rw [show dropQ hold (xs.getD i default) = false from hb]; exact Bool.false_ne_true), List.append_nil]
      clear hb hF
      conv => whnf
      repeat' (first | (refine g_op ?_; conv => whnf) | (refine And.intro ?_ ?_; (focus (first | exact rfl | exact Nat.le_of_ble_eq_true rfl | decide | omega | fail)); conv => whnf) | (refine XS.go ?_) | (refine g_ops ?_) | (refine g_nil ?_; conv => whnf) | (refine g_skip ?_; conv => whnf) | fail)
      refine ⟨(i + 1, cp), ⟨hlt, by rw [he]; exact hi1⟩, by simp only; omega, ?_, ?_⟩
      · dsimp only
        rw [he]
        repeat' (first | exact True.intro | refine And.intro (congrArg (D.int .i64) hw) ?_ | refine And.intro rfl ?_)
      · dsimp only
        rw [he]
        exact ⟨rfl, True.intro⟩
  have hi : i = xs.length := by
    have : ¬ i < xs.length := by simpa using hb
    omega
  subst hi
  rw [List.take_length]
  clear hb
  conv => whnf
  repeat' (first | (refine g_op ?_; conv => whnf) | (refine And.intro ?_ ?_; (focus (first | exact rfl | exact Nat.le_of_ble_eq_true rfl | decide | omega | fail)); conv => whnf) | (refine g_seq ?_) | (refine XS.go ?_) | (refine g_ops ?_) | (refine g_nil ?_; conv => whnf) | (refine g_ret ?_; conv => whnf) | (refine g_exit ?_; conv => whnf) | (refine r_t ?_; conv => whnf) | (refine r_nil ?_; conv => whnf) | fail)
  refine ⟨⟨rfl, Nat.le_of_eq (by simp)⟩, ?_⟩
  show D.ro 4 ((D.frozs ((xs.filter (dropQ hold)).map MateAsk.D)).take (xs.filter (dropQ hold)).length) = _
  rw [D.frozs_map (fun _ => rfl), List.take_of_length_le (by simp)]
/-! ### The lists -/
theorem bl_trans : ∀ {a b c : List UInt8}, Op.bytesLess a b = true → Op.bytesLess b c = true → Op.bytesLess a c = true
  | [], [], _, h, _ => by simp [Op.bytesLess] at h
  | [], _ :: _, [], _, h => by simp [Op.bytesLess] at h
  | [], _ :: _, _ :: _, _, _ => rfl
  | _ :: _, [], _, h, _ => by simp [Op.bytesLess] at h
  | _ :: _, _ :: _, [], _, h => by simp [Op.bytesLess] at h
  | x :: a, y :: b, z :: c, h1, h2 => by
    simp only [Op.bytesLess, Bool.or_eq_true, Bool.and_eq_true, decide_eq_true_eq, beq_iff_eq] at h1 h2 ⊢
    rcases h1 with h1 | ⟨rfl, h1⟩ <;> rcases h2 with h2 | ⟨rfl, h2⟩
    · exact .inl (UInt8.lt_trans h1 h2)
    · exact .inl h1
    · exact .inl h2
    · exact .inr ⟨rfl, bl_trans h1 h2⟩
theorem ord_less {f : Nat → List UInt8} {n : Nat} (h : ∀ i, 0 < i → i < n → Op.bytesLess (f (i - 1)) (f i) = true) : ∀ {d i : Nat}, i + d + 1 < n → Op.bytesLess (f i) (f (i + d + 1)) = true
  | 0, i, hn => by
    have := h (i + 1) (by omega) hn
    simpa using this
  | d + 1, i, hn => by
    have h1 := ord_less h (d := d) (i := i) (by omega)
    have h2 := h (i + (d + 1) + 1) (by omega) hn
    have e : i + (d + 1) + 1 - 1 = i + d + 1 := by omega
    rw [e] at h2
    exact bl_trans h1 h2
theorem ord_ne {f : Nat → List UInt8} {n : Nat} (h : ∀ i, 0 < i → i < n → Op.bytesLess (f (i - 1)) (f i) = true) {i j : Nat} (hij : i < j) (hj : j < n) : f i ≠ f j := fun e => by
  have := ord_less h (d := j - i - 1) (i := i) (by omega)
  have e2 : i + (j - i - 1) + 1 = j := by omega
  rw [e2, e, bl_irr] at this
  cases this
theorem asks_ord {xs : List MateAsk} {c : Int} (h : asksOk xs c = true) : ∀ i, 0 < i → i < xs.length → Op.bytesLess (xs.getD (i - 1) default).fHold.toList (xs.getD i default).fHold.toList = true := fun i h0 hi => by
  simp only [asksOk, Bool.and_eq_true, Bool.not_eq_true', decide_eq_false_iff_not] at h
  have hl : xs.length ≤ 40 := by have := h.1; omega
  have := allN_get h.2.1 (Nat.zero_le i) (by omega)
  simp only [aS, Bool.and_eq_true, Bool.not_eq_true', Bool.and_eq_false_iff, Bool.not_eq_false', decide_eq_false_iff_not] at this
  have e : pr i = i - 1 := by unfold pr; rw [wrap_ok (by omega) (by omega)]; omega
  rcases this.2 with q | q
  · omega
  · rw [e] at q
    exact q
theorem asks_one {xs : List MateAsk} {c : Int} (h : asksOk xs c = true) {i j : Nat} (hi : i < xs.length) (hj : j < xs.length) (e : (xs.getD i default).fHold.toList = (xs.getD j default).fHold.toList) : i = j := by
  rcases Nat.lt_trichotomy i j with q | q | q
  · exact absurd e (ord_ne (f := fun i => (xs.getD i default).fHold.toList) (asks_ord h) q hj)
  · exact q
  · exact absurd e.symm (ord_ne (f := fun i => (xs.getD i default).fHold.toList) (asks_ord h) q hi)
theorem filter_at {α : Type} [Inhabited α] {p q : α → Bool} {xs : List α} (h : ∀ i, i < xs.length → p (xs.getD i default) = q (xs.getD i default)) : xs.filter p = xs.filter q := by
  refine List.filter_congr fun a ha => ?_
  obtain ⟨i, hi, rfl⟩ := List.getElem_of_mem ha
  have := h i hi
  simpa [hi] using this
/-- What the document drops. -/
def backR (x : Mate) (p : MateParcel) : List MateAsk := if decide (askI x.fGives p.fHold ≥ 0) = true ∧ (x.fGives.getD (askI x.fGives p.fHold).toNat default).fAt = p.fAt then x.fGives.filter (dropQ p.fHold) else x.fGives
theorem back_eq {x : Mate} {p : MateParcel} {c : Int} (h : asksOk x.fGives c = true) : backR x p = x.fGives.filter fun a => !delQ p a := by
  rcases idxN_cases (f := askF x.fGives p.fHold) (k := x.fGives.length) (i := 0) with ⟨h1, h2⟩ | ⟨j, h1, _, h3, h4⟩
  · have hk : askI x.fGives p.fHold = -1 := h1
    rw [backR, if_neg (by rw [hk]; simp)]
    refine (List.filter_eq_self.2 fun a ha => ?_).symm
    obtain ⟨i, hi, rfl⟩ := List.getElem_of_mem ha
    have := h2 i (Nat.zero_le _) (by omega)
    simp only [askF] at this
    simp [hi] at this
    simp [delQ, this]
  · have hk : askI x.fGives p.fHold = ((j : Nat) : Int) := h1
    have h4 : (x.fGives.getD j default).fHold.toList = p.fHold.toList := by simpa [askF] using h4
    have one : ∀ i, i < x.fGives.length → (x.fGives.getD i default).fHold.toList = p.fHold.toList → i = j := fun i hi e => asks_one h hi (by omega) (e.trans h4.symm)
    rw [backR, hk]
    by_cases ha : (x.fGives.getD j default).fAt = p.fAt
    · rw [if_pos ⟨by simp, ha⟩]
      refine filter_at fun i hi => ?_
      by_cases e : (x.fGives.getD i default).fHold.toList = p.fHold.toList
      · have := one i hi e
        subst this
        simp only [dropQ, delQ, e, ha, bne_self_eq_false, beq_self_eq_true, Bool.and_self, Bool.not_true]
      · have e' : ((x.fGives.getD i default).fHold.toList == p.fHold.toList) = false := by simpa using e
        simp only [dropQ, delQ, bne, e', Bool.false_and]
    · rw [if_neg (fun q => ha q.2)]
      refine (List.filter_eq_self.2 fun a hm => ?_).symm
      obtain ⟨i, hi, rfl⟩ := List.getElem_of_mem hm
      by_cases e : (x.fGives.getD i default).fHold.toList = p.fHold.toList
      · have hij := one i hi e
        subst hij
        have ha' : ((x.fGives.getD i default).fAt == p.fAt) = false := by simpa using ha
        have e2 : x.fGives.getD i default = x.fGives[i] := by simp [hi]
        rw [e2] at ha'
        simp only [delQ, ha', Bool.and_false, Bool.not_false]
      · have e' : ((x.fGives.getD i default).fHold.toList == p.fHold.toList) = false := by simpa using e
        have e2 : x.fGives.getD i default = x.fGives[i] := by simp [hi]
        rw [e2] at e'
        simp only [delQ, e', Bool.false_and, Bool.not_false]
theorem valid_gives {x : Mate} (h : validM x = true) : asksOk x.fGives x.fClock = true := by
  simp only [validM, c1, Bool.and_eq_true, Bool.not_eq_true', Bool.or_eq_false_iff, Bool.not_eq_false'] at h
  exact h.1.2
theorem updU_eq (p : MateParcel) (r : MateRun) : updU p r = if ((r.fWant.fHold.toList == p.fHold.toList && r.fWant.fCopy.toList == p.fCopy.toList) && decide (r.fUntil < IntKind.wrap .i64 (p.fAt + 16))) = true then { r with fUntil := IntKind.wrap .i64 (p.fAt + 16) } else r := by
  unfold updU
  cases h : (r.fWant.fHold.toList == p.fHold.toList && r.fWant.fCopy.toList == p.fCopy.toList) with
  | false => rfl
  | true =>
    rw [if_pos rfl, Bool.true_and]
    by_cases hu : r.fUntil < IntKind.wrap .i64 (p.fAt + 16)
    · rw [if_pos (decide_eq_true hu)]
      have : max r.fUntil (IntKind.wrap .i64 (p.fAt + 16)) = IntKind.wrap .i64 (p.fAt + 16) := by omega
      rw [this]
    · rw [if_neg (by rw [decide_eq_false hu]; exact Bool.false_ne_true)]
      have : max r.fUntil (IntKind.wrap .i64 (p.fAt + 16)) = r.fUntil := by omega
      rw [this]
end Go.Ab
