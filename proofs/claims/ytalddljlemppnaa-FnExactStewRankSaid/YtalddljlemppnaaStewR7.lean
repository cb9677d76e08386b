/- Steps towards the law: contracts of functions and facts of lists. -/
import Derived.Test.YtalddljlemppnaaStewR3
import Derived.Test.YtalddljlemppnaaStewSB
import Derived.Test.YtalddljlemppnaaRows
set_option linter.unusedSimpArgs false
set_option linter.unusedVariables false
namespace Go.Ab
open Go Go.RowKit Go.Proofs
attribute [local irreducible] XC Rdr IntKind.wrap xw xos xqs xr xd
set_option maxRecDepth 100000

/-- laws.eqIntS -/
def cf39 : CF := ⟨26, [.t 4],
  (.seq (.ops [⟨some 4, .mv (.k (.bool false)), none⟩])
  (.seq (.seq (.ops [⟨some 6, .mv (.t 0), none⟩,
    ⟨some 7, .lenl (.t 6), none⟩,
    ⟨some 8, .mv (.t 1), none⟩,
    ⟨some 9, .lenl (.t 8), none⟩,
    ⟨some 10, .bin .neq (.t 7) (.t 9), none⟩])
  (.cond (.t 10)
  (.seq (.ops [⟨some 4, .mv (.k (.bool false)), none⟩])
  .ret)
  .skip))
  (.seq (.seq (.ops [⟨some 5, .mv (.k (.int .i64 0)), none⟩])
  (.block 0 (.loop (.seq (.seq (.ops [⟨some 11, .mv (.t 5), none⟩,
    ⟨some 12, .mv (.t 0), none⟩,
    ⟨some 13, .lenl (.t 12), none⟩,
    ⟨some 14, .bin .lss (.t 11) (.t 13), none⟩])
  (.cond (.t 14)
  .skip
  (.exit 0)))
  (.seq (.block 1 (.seq (.quiet [⟨some 17, .mv (.t 0), none⟩,
    ⟨some 18, .mv (.t 5), none⟩,
    ⟨some 19, .ix 1 (.t 17) (.t 18), none⟩,
    ⟨some 20, .ld 1 false (.t 19), none⟩,
    ⟨some 21, .mv (.t 1), none⟩,
    ⟨some 22, .mv (.t 5), none⟩,
    ⟨some 23, .ix 1 (.t 21) (.t 22), none⟩,
    ⟨some 24, .ld 1 false (.t 23), none⟩,
    ⟨some 25, .bin .neq (.t 20) (.t 24), none⟩])
  (.cond (.t 25)
  (.seq (.ops [⟨some 4, .mv (.k (.bool false)), none⟩])
  .ret)
  .skip)))
  (.ops [⟨some 15, .mv (.t 5), none⟩,
    ⟨some 16, .bin .add (.t 15) (.k (.int .i64 1)), none⟩,
    ⟨some 5, .mv (.t 16), none⟩]))))))
  (.seq (.ops [⟨some 4, .mv (.k (.bool true)), none⟩])
  .ret))))⟩
theorem c39 : compileF Try.prog [] 39 = some cf39 := by kernel_rfl
theorem args_IntS {d : D} (h : Has (.sl 1 (.int .i64)) d) : ∃ l : (List Int), d = .ro 1 (l.map (D.int .i64)) ∧ l.length ≤ 9223372036854775807 ∧ ∀ y ∈ l, True := by
  rw [Has] at h
  obtain ⟨ds, rfl, hm, hd⟩ := h
  have : ∃ l : (List Int), ds = l.map (D.int .i64) ∧ ∀ y ∈ l, True := by
    clear hm
    induction ds with
    | nil => exact ⟨[], rfl, by simp⟩
    | cons d ds ih =>
      obtain ⟨l, rfl, hl⟩ := ih (fun x hx => hd x (List.mem_cons_of_mem _ hx))
      obtain ⟨v, rfl, wv⟩ : ∃ v : Int, d = (D.int .i64) v ∧ True := by
        have h := hd _ (List.mem_cons_self ..)
        rw [Has] at h
        obtain ⟨v, rfl, _⟩ := h
        exact ⟨v, rfl, trivial⟩
      exact ⟨v :: l, rfl, fun y hy => by rcases List.mem_cons.1 hy with rfl | hy <;> first | exact wv | exact hl y hy⟩
  obtain ⟨l, rfl, hl⟩ := this
  exact ⟨l, rfl, by rw [List.length_map] at hm; exact hm, hl⟩
theorem eq_IntS (l : (List Int)) (hs : l.length ≤ 1048576 ∧ ∀ y ∈ l, True) : Rdr Try.prog 39 [.ro 1 (l.map (D.int .i64)), .ro 1 (l.map (D.int .i64))] (.bool true) := eqInt_rdr hm c39 hs.1
/-- laws.FnExactStewRank -/
def cf9 : CF := ⟨69, [.t 2],
  (.seq (.ops [⟨some 1, .bx (.t 0), none⟩,
    ⟨some 2, .mv (.k (.bool false)), none⟩])
  (.seq (.ops [⟨some 3, .mv (.k (.int .i64 1048576)), none⟩])
  (.seq (.ops [⟨some 11, .ld 4 true (.t 1), none⟩,
    ⟨some 12, .mv (.t 3), none⟩,
    ⟨some 13, .call 22 [(.t 11), (.t 12)], none⟩,
    ⟨some 3, .mv (.t 13), none⟩])
  (.seq (.seq (.ops [⟨some 14, .mv (.t 3), none⟩,
    ⟨some 15, .bin .lss (.t 14) (.k (.int .i64 0)), none⟩])
  (.cond (.t 15)
  (.seq (.ops [⟨some 2, .mv (.k (.bool true)), none⟩])
  .ret)
  .skip))
  (.seq (.ops [⟨some 16, .ld 4 true (.t 1), none⟩,
    ⟨some 17, .call 23 [(.t 16)], none⟩,
    ⟨some 18, .call 37 [(.t 17)], none⟩,
    ⟨some 4, .mv (.t 18), none⟩])
  (.seq (.ops [⟨some 19, .ld 4 true (.t 1), none⟩,
    ⟨some 20, .call 23 [(.t 19)], none⟩,
    ⟨some 5, .al (.agg [.int .i64 0, .nil, .nil, .nil]), none⟩,
    ⟨none, .st 4 (.t 5) (.t 20), none⟩])
  (.seq (.ops [⟨some 21, .ld 4 true (.t 5), none⟩,
    ⟨some 22, .call 38 [(.t 21)], none⟩,
    ⟨some 6, .mv (.t 22), none⟩])
  (.seq (.seq (.ops [⟨some 23, .mv (.t 6), none⟩,
    ⟨some 24, .mv (.t 4), none⟩,
    ⟨some 25, .call 39 [(.t 23), (.t 24)], none⟩,
    ⟨some 26, .not (.t 25), none⟩])
  (.cond (.t 26)
  (.seq (.ops [⟨some 2, .mv (.k (.bool false)), none⟩])
  .ret)
  .skip))
  (.seq (.seq (.quiet [⟨some 27, .ld 4 true (.t 5), none⟩,
    ⟨some 28, .ld 4 true (.t 1), none⟩,
    ⟨some 29, .call 23 [(.t 28)], none⟩,
    ⟨some 30, .call 24 [(.t 27), (.t 29)], none⟩,
    ⟨some 31, .not (.t 30), none⟩])
  (.cond (.t 31)
  (.seq (.ops [⟨some 2, .mv (.k (.bool false)), none⟩])
  .ret)
  .skip))
  (.seq (.ops [⟨some 7, .mv (.k (.int .i64 1)), none⟩])
  (.seq (.ops [⟨some 32, .ld 4 true (.t 5), none⟩,
    ⟨some 33, .mv (.t 7), none⟩,
    ⟨some 34, .call 40 [(.t 32), (.t 33)], none⟩,
    ⟨some 7, .mv (.t 34), none⟩])
  (.seq (.seq (.ops [⟨some 35, .mv (.t 7), none⟩,
    ⟨some 36, .bin .lss (.t 35) (.k (.int .i64 0)), none⟩,
    ⟨some 37, .mv (.t 36), none⟩,
    ⟨some 38, .mv (.t 6), some (37, false)⟩,
    ⟨some 39, .mv (.t 4), some (37, false)⟩,
    ⟨some 40, .call 39 [(.t 38), (.t 39)], some (37, false)⟩,
    ⟨some 41, .not (.t 40), some (37, false)⟩,
    ⟨some 42, .pick (.t 37) (.k (.bool true)) (.t 41), none⟩])
  (.cond (.t 42)
  (.seq (.ops [⟨some 2, .mv (.k (.bool false)), none⟩])
  .ret)
  .skip))
  (.seq (.ops [⟨some 8, .mv (.k (.int .i64 1)), none⟩])
  (.seq (.ops [⟨some 43, .mv (.t 6), none⟩,
    ⟨some 44, .mv (.t 8), none⟩,
    ⟨some 45, .call 41 [(.t 43), (.t 44)], none⟩,
    ⟨some 8, .mv (.t 45), none⟩])
  (.seq (.ops [⟨some 9, .mv (.k (.int .i64 1)), none⟩])
  (.seq (.ops [⟨some 46, .mv (.t 6), none⟩,
    ⟨some 47, .mv (.t 9), none⟩,
    ⟨some 48, .call 42 [(.t 46), (.t 47)], none⟩,
    ⟨some 9, .mv (.t 48), none⟩])
  (.seq (.seq (.ops [⟨some 49, .mv (.t 9), none⟩,
    ⟨some 50, .bin .lss (.t 49) (.k (.int .i64 0)), none⟩])
  (.cond (.t 50)
  (.seq (.ops [⟨some 2, .mv (.k (.bool false)), none⟩])
  .ret)
  .skip))
  (.seq (.seq (.ops [⟨some 51, .mv (.t 9), none⟩,
    ⟨some 52, .mv (.t 8), none⟩,
    ⟨some 53, .bin .neq (.t 51) (.t 52), none⟩])
  (.cond (.t 53)
  (.seq (.ops [⟨some 2, .mv (.k (.bool false)), none⟩])
  .ret)
  .skip))
  (.seq (.ops [⟨some 54, .ld 4 true (.t 1), none⟩,
    ⟨some 55, .call 23 [(.t 54)], none⟩,
    ⟨some 56, .call 38 [(.t 55)], none⟩,
    ⟨some 10, .mv (.t 56), none⟩])
  (.seq (.seq (.ops [⟨some 57, .mv (.t 10), none⟩,
    ⟨some 58, .mv (.t 4), none⟩,
    ⟨some 59, .call 39 [(.t 57), (.t 58)], none⟩,
    ⟨some 60, .not (.t 59), none⟩])
  (.cond (.t 60)
  (.seq (.ops [⟨some 2, .mv (.k (.bool false)), none⟩])
  .ret)
  .skip))
  (.seq (.ops [⟨some 9, .mv (.k (.int .i64 1)), none⟩])
  (.seq (.ops [⟨some 61, .mv (.t 6), none⟩,
    ⟨some 62, .mv (.t 9), none⟩,
    ⟨some 63, .call 42 [(.t 61), (.t 62)], none⟩,
    ⟨some 9, .mv (.t 63), none⟩])
  (.seq (.seq (.ops [⟨some 64, .mv (.t 9), none⟩,
    ⟨some 65, .bin .lss (.t 64) (.k (.int .i64 0)), none⟩])
  (.cond (.t 65)
  (.seq (.ops [⟨some 2, .mv (.k (.bool false)), none⟩])
  .ret)
  .skip))
  (.seq (.seq (.ops [⟨some 66, .mv (.t 9), none⟩,
    ⟨some 67, .mv (.t 8), none⟩,
    ⟨some 68, .bin .neq (.t 66) (.t 67), none⟩])
  (.cond (.t 68)
  (.seq (.ops [⟨some 2, .mv (.k (.bool false)), none⟩])
  .ret)
  .skip))
  (.seq (.ops [⟨some 2, .mv (.k (.bool true)), none⟩])
  .ret)))))))))))))))))))))))))⟩
theorem c9 : compileF Try.prog [] 9 = some cf9 := by kernel_rfl
/-- impl.StewRank -/
def cf38 : CF := ⟨108, [.t 2],
  (.seq (.ops [⟨some 1, .bx (.t 0), none⟩,
    ⟨some 2, .mv (.k (.nil)), none⟩])
  (.seq (.ops [⟨some 10, .mk (.int .i64 0) 8 (.k (.int .i64 5)) (.k (.int .i64 5)), none⟩,
    ⟨some 3, .mv (.t 10), none⟩])
  (.seq (.seq (.ops [⟨some 11, .ld 4 true (.t 1), none⟩,
    ⟨some 12, .call 20 [(.t 11)], none⟩,
    ⟨some 13, .not (.t 12), none⟩])
  (.cond (.t 13)
  (.seq (.ops [⟨some 14, .mv (.t 3), none⟩,
    ⟨some 2, .mv (.t 14), none⟩])
  .ret)
  .skip))
  (.seq (.seq (.ops [⟨some 15, .fa 1 1 1 (.t 1), none⟩,
    ⟨some 16, .ld 1 false (.t 15), none⟩,
    ⟨some 17, .lenl (.t 16), none⟩,
    ⟨some 18, .mv (.k (.int .i64 0)), none⟩])
  (.block 0 (.loop (.seq (.ops [⟨some 19, .bin .lss (.t 18) (.t 17), none⟩])
  (.seq (.cond (.t 19)
  .skip
  (.exit 0))
  (.seq (.block 1 (.seq (.ops [⟨some 20, .mv (.t 18), none⟩,
    ⟨some 4, .mv (.t 20), none⟩])
  (.seq (.ops [⟨some 21, .fa 1 1 1 (.t 1), none⟩,
    ⟨some 22, .ld 1 false (.t 21), none⟩,
    ⟨some 23, .mv (.t 4), none⟩,
    ⟨some 24, .ix 13 (.t 22) (.t 23), none⟩,
    ⟨some 5, .mv (.t 24), none⟩])
  (.seq (.seq (.ops [⟨some 25, .mv (.t 5), none⟩,
    ⟨some 26, .nilc (.t 25), none⟩,
    ⟨some 27, .fa 2 1 2 (.t 26), none⟩,
    ⟨some 28, .ld 1 false (.t 27), none⟩])
  (.cond (.t 28)
  (.seq (.ops [⟨some 29, .mv (.t 3), none⟩,
    ⟨some 30, .ix 1 (.t 29) (.k (.int .i64 0)), none⟩,
    ⟨some 31, .ld 1 false (.t 30), none⟩,
    ⟨some 32, .bin .add (.t 31) (.k (.int .i64 1)), none⟩,
    ⟨some 33, .ix 1 (.t 29) (.k (.int .i64 0)), none⟩,
    ⟨none, .st 1 (.t 33) (.t 32), none⟩])
  (.exit 1))
  .skip))
  (.seq (.ops [⟨some 34, .mv (.t 5), none⟩,
    ⟨some 35, .call 94 [(.t 1), (.t 34)], none⟩,
    ⟨some 6, .al (.agg [.int .i64 0, .int .i64 0, .int .i64 0, .int .i64 0, .int .i64 0]), none⟩,
    ⟨none, .st 5 (.t 6) (.t 35), none⟩])
  (.drawn [(⟨some 36, .mv (.t 3), none⟩, false, []),
    (⟨some 37, .ix 1 (.t 36) (.k (.int .i64 2)), none⟩, false, []),
    (⟨some 38, .ld 1 false (.t 37), none⟩, false, []),
    (⟨some 39, .fa 0 1 0 (.t 6), none⟩, false, []),
    (⟨some 40, .ld 1 false (.t 39), none⟩, false, []),
    (⟨some 41, .mv (.t 5), none⟩, false, []),
    (⟨some 42, .nilc (.t 41), none⟩, false, []),
    (⟨some 43, .fa 4 1 4 (.t 42), none⟩, false, []),
    (⟨some 44, .ld 1 false (.t 43), none⟩, false, []),
    (⟨some 45, .bin .sub (.t 40) (.t 44), none⟩, false, []),
    (⟨some 46, .mv (.t 5), none⟩, false, []),
    (⟨some 47, .nilc (.t 46), none⟩, false, []),
    (⟨some 48, .fa 4 1 4 (.t 47), none⟩, false, []),
    (⟨some 49, .ld 1 false (.t 48), none⟩, false, []),
    (⟨some 50, .fa 0 1 0 (.t 6), none⟩, false, []),
    (⟨some 51, .ld 1 false (.t 50), none⟩, false, []),
    (⟨some 52, .bin .sub (.t 49) (.t 51), none⟩, false, []),
    (⟨some 53, .mnx true (.t 45) (.t 52), none⟩, false, []),
    (⟨some 54, .bin .add (.t 38) (.t 53), none⟩, false, []),
    (⟨some 55, .ix 1 (.t 36) (.k (.int .i64 2)), none⟩, false, []),
    (⟨none, .st 1 (.t 55) (.t 54), none⟩, true, [])]))))))
  (.ops [⟨some 56, .bin .add (.t 18) (.k (.int .i64 1)), none⟩,
    ⟨some 18, .mv (.t 56), none⟩])))))))
  (.seq (.seq (.ops [⟨some 57, .fa 2 1 2 (.t 1), none⟩,
    ⟨some 58, .ld 1 false (.t 57), none⟩,
    ⟨some 59, .lenl (.t 58), none⟩,
    ⟨some 60, .mv (.k (.int .i64 0)), none⟩])
  (.block 2 (.loop (.seq (.ops [⟨some 61, .bin .lss (.t 60) (.t 59), none⟩])
  (.seq (.cond (.t 61)
  .skip
  (.exit 2))
  (.seq (.block 3 (.seq (.ops [⟨some 62, .ix 7 (.t 58) (.t 60), none⟩,
    ⟨some 63, .ld 7 true (.t 62), none⟩,
    ⟨some 8, .al (.agg [.str ⟨#[]⟩, .int .i64 0, .int .i64 0, .int .i64 0, .int .i64 0, .bool false, .str ⟨#[]⟩]), none⟩,
    ⟨none, .st 7 (.t 8) (.t 63), none⟩])
  (.seq (.ops [⟨some 64, .fa 0 1 0 (.t 8), none⟩,
    ⟨some 65, .ld 1 false (.t 64), none⟩,
    ⟨some 66, .call 78 [(.t 1), (.t 65)], none⟩,
    ⟨some 9, .mv (.t 66), none⟩])
  (.seq (.seq (.ops [⟨some 67, .fa 5 1 5 (.t 8), none⟩,
    ⟨some 68, .ld 1 false (.t 67), none⟩,
    ⟨some 69, .mv (.t 68), none⟩,
    ⟨some 70, .mv (.t 9), some (69, false)⟩,
    ⟨some 71, .nilc (.t 70), some (69, false)⟩,
    ⟨some 72, .fa 2 1 2 (.t 71), some (69, false)⟩,
    ⟨some 73, .ld 1 false (.t 72), some (69, false)⟩,
    ⟨some 74, .pick (.t 69) (.k (.bool true)) (.t 73), none⟩])
  (.cond (.t 74)
  (.seq (.ops [⟨some 75, .mv (.t 3), none⟩,
    ⟨some 76, .ix 1 (.t 75) (.k (.int .i64 1)), none⟩,
    ⟨some 77, .ld 1 false (.t 76), none⟩,
    ⟨some 78, .bin .add (.t 77) (.k (.int .i64 1)), none⟩,
    ⟨some 79, .ix 1 (.t 75) (.k (.int .i64 1)), none⟩,
    ⟨none, .st 1 (.t 79) (.t 78), none⟩])
  (.exit 3))
  .skip))
  (.seq (.drawn [(⟨some 80, .mv (.t 3), none⟩, false, []),
    (⟨some 81, .ix 1 (.t 80) (.k (.int .i64 3)), none⟩, false, []),
    (⟨some 82, .ld 1 false (.t 81), none⟩, false, []),
    (⟨some 83, .fa 3 1 3 (.t 8), none⟩, false, []),
    (⟨some 84, .ld 1 false (.t 83), none⟩, false, []),
    (⟨some 85, .mv (.t 9), none⟩, false, []),
    (⟨some 86, .nilc (.t 85), none⟩, false, []),
    (⟨some 87, .fa 3 1 3 (.t 86), none⟩, false, []),
    (⟨some 88, .ld 1 false (.t 87), none⟩, false, []),
    (⟨some 89, .bin .neq (.t 84) (.t 88), none⟩, false, []),
    (⟨some 90, .mv (.t 89), none⟩, false, []),
    (⟨some 91, .ld 7 true (.t 8), some (90, false)⟩, false, []),
    (⟨some 92, .call 103 [(.t 1), (.t 91)], some (90, false)⟩, true, [(.t 81)]),
    (⟨some 93, .pick (.t 90) (.k (.bool true)) (.t 92), none⟩, false, []),
    (⟨some 94, .call 102 [(.t 93)], none⟩, true, [(.t 81)]),
    (⟨some 95, .bin .add (.t 82) (.t 94), none⟩, false, []),
    (⟨some 96, .ix 1 (.t 80) (.k (.int .i64 3)), none⟩, false, []),
    (⟨none, .st 1 (.t 96) (.t 95), none⟩, true, [])])
  (.drawn [(⟨some 97, .mv (.t 3), none⟩, false, []),
    (⟨some 98, .ix 1 (.t 97) (.k (.int .i64 4)), none⟩, false, []),
    (⟨some 99, .ld 1 false (.t 98), none⟩, false, []),
    (⟨some 100, .fa 4 1 4 (.t 8), none⟩, false, []),
    (⟨some 101, .ld 1 false (.t 100), none⟩, false, []),
    (⟨some 102, .bin .neq (.t 101) (.k (.int .i64 3)), none⟩, false, []),
    (⟨some 103, .call 102 [(.t 102)], none⟩, true, [(.t 98)]),
    (⟨some 104, .bin .add (.t 99) (.t 103), none⟩, false, []),
    (⟨some 105, .ix 1 (.t 97) (.k (.int .i64 4)), none⟩, false, []),
    (⟨none, .st 1 (.t 105) (.t 104), none⟩, true, [])]))))))
  (.ops [⟨some 106, .bin .add (.t 60) (.k (.int .i64 1)), none⟩,
    ⟨some 60, .mv (.t 106), none⟩])))))))
  (.seq (.ops [⟨some 107, .mv (.t 3), none⟩,
    ⟨some 2, .mv (.t 107), none⟩])
  .ret))))))⟩
theorem c38 : compileF Try.prog [] 38 = some cf38 := by kernel_rfl
theorem rankL_len (b : StewBook) : (rankL b).length = 5 := by
  unfold rankL
  split <;> rfl
theorem cntS (b : StewBook) (h3 : b.fCopies.length ≤ 1048576) {i : Nat} (hi : i < b.fServices.length) : (cntUp (sv b i).fName.toList (sv b i).fImage b.fCopies b.fCopies.length).fLive = (cntOf b (sv b i).fName).fLive :=
  (cnt_exact (sv b i).fName.toList (sv b i).fImage b.fCopies h3).1.trans (cnt_of b h3 hi).1.symm
theorem absMax {x y : Int} (hx : 0 ≤ x ∧ x ≤ 1000) (hy : 0 ≤ y ∧ y ≤ 1000) : max (IntKind.wrap .i64 (x - y)) (IntKind.wrap .i64 (y - x)) = absI (x - y) := by
  rw [wrap_ok (n := x - y) (by omega) (by omega), wrap_ok (n := y - x) (by omega) (by omega)]
  unfold absI
  split <;> omega
theorem e_bd {b : StewBook} (v2 : b.fCopies.length ≤ 200) {j : Nat} (hj : j ≤ b.fCopies.length) : (0 ≤ sumN (e1 b) j ∧ sumN (e1 b) j ≤ 200) ∧ (0 ≤ sumN (e3 b) j ∧ sumN (e3 b) j ≤ 200) ∧ (0 ≤ sumN (e4 b) j ∧ sumN (e4 b) j ≤ 200) := by
  have q1 := sumN_bd (f := e1 b) (M := 1) (n := j) (fun k _ => b01_bd _)
  have q3 := sumN_bd (f := e3 b) (M := 1) (n := j) (fun k _ => by
    unfold e3
    split
    · omega
    · exact b01_bd _)
  have q4 := sumN_bd (f := e4 b) (M := 1) (n := j) (fun k _ => by
    unfold e4
    split
    · omega
    · exact b01_bd _)
  omega
set_option maxHeartbeats 8000000 in
theorem impl_RankX (b : StewBook) (h1 : b.fServices.length ≤ 1048576) (h2 : b.fBerths.length ≤ 1048576) (h3 : b.fCopies.length ≤ 1048576) : XC Try.prog 38 [b.D] [] (fun d ls => ∃ q, d = .lsl 10 q (rankL b).length 5 ∧ ls = [(10, q, .arr 1 ((rankL b).map (D.int .i64)) 5)]) := by
  have hlen := rankL_len b
  rw [hlen]
  refine XC.intro' hm [10] rfl c38 (Nat.le_of_ble_eq_true rfl) ?_
  have hV := impl_Valid b h1 h2 h3
  conv => whnf
  repeat' (first | (refine g_op ?_; conv => whnf) | (refine And.intro ?_ ?_; (focus (first | exact rfl | exact Nat.le_of_ble_eq_true rfl | decide | omega | fail)); conv => whnf) | (refine g_seq ?_) | (refine g_ops ?_) | (refine g_nil ?_; conv => whnf) | (refine fun _ => ?_; conv => whnf) | fail)
  refine XS.freezeB 1 rfl ?_
  cases hv : valid b with
  | false =>
    rw [hv] at hV
    have e : rankL b = [0, 0, 0, 0, 0] := by rw [rankL, if_neg (by rw [hv]; exact Bool.false_ne_true)]
    rw [e]
    repeat' (first | (refine z_ld1 ?_; first | (refine z_ld rfl rfl rfl rfl (by first | (simp only [List.length_set]; assumption) | assumption | omega) (by first | exact elt_set (by first | assumption | (simp only [List.length_set]; assumption)) | assumption) ?_; conv => whnf) | (refine z_ld0 rfl ?_; conv => whnf)) | (refine z_op ?_ ?_; (focus exact rfl); conv => whnf) | (refine zs_ops ?_ ?_; (focus exact rfl)) | (refine z_nil fun vals => ?_; conv => whnf) | (refine z_call ?_ ?_; (focus exact rfl)) | (refine RC.of (hV) ?_ ?_; (focus exact rfl); conv => whnf) | (refine g_op ?_; conv => whnf) | (refine And.intro ?_ ?_; (focus (first | exact rfl | exact Nat.le_of_ble_eq_true rfl | decide | omega | fail)); conv => whnf) | (refine g_seq ?_) | (refine XS.go ?_) | (refine g_ops ?_) | (refine g_nil ?_; conv => whnf) | (refine Br.t ?_ ?_; (focus (first | assumption | exact rfl)); conv => whnf) | (refine g_cond ?_; conv => whnf) | (refine g_ret ?_; conv => whnf) | (refine r_t ?_; conv => whnf) | (refine r_nil ?_; conv => whnf) | (refine fun _ => ?_; conv => whnf) | fail)
    exact ⟨_, rfl, rfl⟩
  | true =>
    rw [hv] at hV
    obtain ⟨v1, v2, _, _, _⟩ := valid_parts hv
    repeat' (first | (refine z_ld1 ?_; first | (refine z_ld rfl rfl rfl rfl (by first | (simp only [List.length_set]; assumption) | assumption | omega) (by first | exact elt_set (by first | assumption | (simp only [List.length_set]; assumption)) | assumption) ?_; conv => whnf) | (refine z_ld0 rfl ?_; conv => whnf)) | (refine z_op ?_ ?_; (focus exact rfl); conv => whnf) | (refine zs_ops ?_ ?_; (focus exact rfl)) | (refine z_nil fun vals => ?_; conv => whnf) | (refine z_call ?_ ?_; (focus exact rfl)) | (refine RC.of (hV) ?_ ?_; (focus exact rfl); conv => whnf) | (refine g_op ?_; conv => whnf) | (refine And.intro ?_ ?_; (focus (first | exact rfl | exact Nat.le_of_ble_eq_true rfl | decide | omega | fail)); conv => whnf) | (refine g_seq ?_) | (refine XS.go ?_) | (refine g_ops ?_) | (refine g_loop ?_) | (refine g_nil ?_; conv => whnf) | (refine Br.f ?_ ?_; (focus (first | assumption | exact rfl)); conv => whnf) | (refine g_cond ?_; conv => whnf) | (refine g_skip ?_; conv => whnf) | (refine g_block ?_) | (refine fun _ => ?_; conv => whnf) | fail)
    refine XLc.mkA (α := Nat) (fun i => i ≤ b.fServices.length) (fun i => b.fServices.length - i) (fun i gs => [.any, .cref b.D, .nil, .lsl 10 (gs 10) 5 5, .any, .any, .any, .any, .any, .any, .any, .any, .any, .any, .any, .any, .any, .int .i64 ((b.fServices.map StewService.D).length : Int), .int .i64 (i : Int)]) (fun i gs => [(10, .arr 1 [.int .i64 (sumN (g0 b) i), .int .i64 0, .int .i64 (sumN (g2 b) i), .int .i64 0, .int .i64 0] 5)]) 0 (Nat.zero_le _) ?_ ?_
    · refine ⟨?_, ?_⟩
      · repeat' (first | exact True.intro | refine And.intro rfl ?_)
      · refine And.intro rfl True.intro
    intro i gs hi
    repeat' (first | (refine g_op ?_; conv => whnf) | (refine And.intro ?_ ?_; (focus (first | exact rfl | exact Nat.le_of_ble_eq_true rfl | decide | omega | fail)); conv => whnf) | (refine g_seq ?_) | (refine XS.go ?_) | (refine g_ops ?_) | (refine g_nil ?_; conv => whnf) | (refine g_cond ?_; conv => whnf) | fail)
    refine Br.mk (fun hb => ?_) (fun hb => ?_)
    · have hlt : i < b.fServices.length := by simpa using hb
      have hw : IntKind.wrap .i64 ((i : Int) + 1) = ((i + 1 : Nat) : Int) := by rw [wrap_ok (by omega) (by omega)]; rfl
      clear hb hV
      have hc := impl_count b (sv b i) h3
      have cb := cnt_bd b v2 hlt
      rw [← cntS b h3 hlt] at cb
      have sb := sums_bd hv (i := i) hi
      have hw10 := valid_want hv hlt
      have E0 : sumN (g0 b) (i + 1) = sumN (g0 b) i + g0 b i := rfl
      have E2 : sumN (g2 b) (i + 1) = sumN (g2 b) i + g2 b i := rfl
      rw [g0] at E0
      rw [g2, ← cntS b h3 hlt] at E2
      generalize cntUp (sv b i).fName.toList (sv b i).fImage b.fCopies b.fCopies.length = n at *
      generalize sumN (g0 b) i = a0 at *
      generalize sumN (g2 b) i = a2 at *
      conv => whnf
      repeat' (first | (refine z_ld1 ?_; first | (refine z_ld rfl rfl rfl rfl (by first | (simp only [List.length_set]; assumption) | assumption | omega) (by first | exact elt_set (by first | assumption | (simp only [List.length_set]; assumption)) | assumption) ?_; conv => whnf) | (refine z_ld0 rfl ?_; conv => whnf)) | (refine z_ix1 ?_; first | (refine z_ix rfl rfl rfl rfl rfl ⟨by first | omega | (simp only [decide_eq_true_eq, Bool.not_eq_true', Bool.or_eq_false_iff, decide_eq_false_iff_not, Bool.and_eq_true, Bool.not_eq_false'] at *; omega), by first | omega | (simp only [decide_eq_true_eq, Bool.not_eq_true', Bool.or_eq_false_iff, decide_eq_false_iff_not, Bool.and_eq_true, Bool.not_eq_false'] at *; omega)⟩ ?_; conv => whnf) | (refine z_ix0 rfl rfl ?_; conv => whnf)) | (refine z_op ?_ ?_; (focus exact rfl); conv => whnf) | (refine zs_ops ?_ ?_; (focus exact rfl)) | (refine z_nil fun vals => ?_; conv => whnf) | (refine g_op ?_; conv => whnf) | (refine And.intro ?_ ?_; (focus (first | exact rfl | exact Nat.le_of_ble_eq_true rfl | decide | omega | fail)); conv => whnf) | (refine g_seq ?_) | (refine XS.go ?_) | (refine g_ops ?_) | (refine g_nil ?_; conv => whnf) | (refine g_cond ?_; conv => whnf) | (refine g_skip ?_; conv => whnf) | (refine g_block ?_) | fail)
      refine Br.mk (fun hb => ?_) (fun hb => ?_)
      · have hg : (sv b i).fGone = true := hb
        rw [hg] at E0
        rw [if_pos hg] at E2
        clear hb
        conv => whnf
        repeat' (first | (refine z_ld1 ?_; first | (refine z_ld rfl rfl rfl rfl (by first | (simp only [List.length_set]; assumption) | assumption | omega) (by first | exact elt_set (by first | assumption | (simp only [List.length_set]; assumption)) | assumption) ?_; conv => whnf) | (refine z_ld0 rfl ?_; conv => whnf)) | (refine z_st1 ?_; first | (refine z_st rfl rfl rfl (by first | (simp only [List.length_set]; assumption) | assumption | omega) (by first | exact elt_set (by first | assumption | (simp only [List.length_set]; assumption)) | assumption) rfl rfl ?_; conv => whnf) | (refine z_st0 ?_; conv => whnf)) | (refine z_ix1 ?_; first | (refine z_ix rfl rfl rfl rfl rfl ⟨by first | omega | (simp only [decide_eq_true_eq, Bool.not_eq_true', Bool.or_eq_false_iff, decide_eq_false_iff_not, Bool.and_eq_true, Bool.not_eq_false'] at *; omega), by first | omega | (simp only [decide_eq_true_eq, Bool.not_eq_true', Bool.or_eq_false_iff, decide_eq_false_iff_not, Bool.and_eq_true, Bool.not_eq_false'] at *; omega)⟩ ?_; conv => whnf) | (refine z_ix0 rfl rfl ?_; conv => whnf)) | (refine z_op ?_ ?_; (focus exact rfl); conv => whnf) | (refine zs_ops ?_ ?_; (focus exact rfl)) | (refine z_nil fun vals => ?_; conv => whnf) | (refine g_op ?_; conv => whnf) | (refine And.intro ?_ ?_; (focus (first | exact rfl | exact Nat.le_of_ble_eq_true rfl | decide | omega | fail)); conv => whnf) | (refine g_seq ?_) | (refine XS.go ?_) | (refine g_ops ?_) | (refine g_nil ?_; conv => whnf) | (refine g_exit ?_; conv => whnf) | fail)
        refine ⟨i + 1, hlt, by omega, ?_, ?_⟩
        · repeat' (first | exact True.intro | refine And.intro (congrArg (D.int .i64) hw) ?_ | refine And.intro rfl ?_)
        · exact ⟨arr5 (by rw [E0, wrap_ok (by omega) (by omega)]; rfl) rfl (by rw [E2]; omega) rfl rfl, True.intro⟩
      · have hg : (sv b i).fGone = false := hb
        rw [hg] at E0
        rw [if_neg (by rw [hg]; exact Bool.false_ne_true)] at E2
        clear hb
        have hM := absMax (x := n.fLive) (y := (sv b i).fWant) (by omega) (by omega)
        have hA : 0 ≤ absI (n.fLive - (sv b i).fWant) ∧ absI (n.fLive - (sv b i).fWant) ≤ 1000 := by
          unfold absI
          split <;> omega
        have hW : IntKind.wrap .i64 (a2 + max (IntKind.wrap .i64 (n.fLive - (sv b i).fWant)) (IntKind.wrap .i64 ((sv b i).fWant - n.fLive))) = a2 + absI (n.fLive - (sv b i).fWant) := by rw [hM, wrap_ok (by omega) (by omega)]
        conv => whnf
        repeat' (first | ((refine And.intro True.intro ?_; conv => whnf)) | (refine z_st1 ?_; first | (refine z_st rfl rfl rfl (by first | (simp only [List.length_set]; assumption) | assumption | omega) (by first | exact elt_set (by first | assumption | (simp only [List.length_set]; assumption)) | assumption) rfl rfl ?_; conv => whnf) | (refine z_st0 ?_; conv => whnf)) | (refine z_op ?_ ?_; (focus exact rfl); conv => whnf) | (refine zs_ops ?_ ?_; (focus exact rfl)) | (refine z_nil fun vals => ?_; conv => whnf) | (refine z_call ?_ ?_; (focus exact rfl)) | (refine z_eff ?_; conv => whnf) | (refine RC.of (hc) ?_ ?_; (focus exact rfl); conv => whnf) | (refine g_op ?_; conv => whnf) | (refine And.intro ?_ ?_; (focus (first | exact rfl | exact Nat.le_of_ble_eq_true rfl | decide | omega | fail)); conv => whnf) | (refine g_seq ?_) | (refine XS.go ?_) | (refine g_ops ?_) | (refine g_nil ?_; conv => whnf) | (refine g_skip ?_; conv => whnf) | (refine g_drawn ?_) | (refine d_p ?_; conv => whnf) | (refine d_e ?_; conv => whnf) | (refine d_nil ?_; conv => whnf) | (refine fun _ => ?_; conv => whnf) | fail)
        refine ⟨i + 1, hlt, by omega, ?_, ?_⟩
        · repeat' (first | exact True.intro | refine And.intro (congrArg (D.int .i64) hw) ?_ | refine And.intro rfl ?_)
        · exact ⟨arr5 (by rw [E0]; exact (Int.add_zero _).symm) rfl (hW.trans E2.symm) rfl rfl, True.intro⟩
    have hi : i = b.fServices.length := by
      have : ¬ i < b.fServices.length := by simpa using hb
      omega
    subst hi
    clear hb
    conv => whnf
    repeat' (first | (refine z_ld1 ?_; first | (refine z_ld rfl rfl rfl rfl (by first | (simp only [List.length_set]; assumption) | assumption | omega) (by first | exact elt_set (by first | assumption | (simp only [List.length_set]; assumption)) | assumption) ?_; conv => whnf) | (refine z_ld0 rfl ?_; conv => whnf)) | (refine z_op ?_ ?_; (focus exact rfl); conv => whnf) | (refine zs_ops ?_ ?_; (focus exact rfl)) | (refine z_nil fun vals => ?_; conv => whnf) | (refine And.intro ?_ ?_; (focus (first | exact rfl | exact Nat.le_of_ble_eq_true rfl | decide | omega | fail)); conv => whnf) | (refine g_seq ?_) | (refine XS.go ?_) | (refine g_loop ?_) | (refine g_exit ?_; conv => whnf) | (refine g_block ?_) | fail)
    refine XLc.mkA (α := Nat) (fun j => j ≤ b.fCopies.length) (fun j => b.fCopies.length - j) (fun j gs => [.any, .cref b.D, .nil, .lsl 10 (gs 10) 5 5, .any, .any, .any, .any, .any, .any, .any, .any, .any, .any, .any, .any, .any, .any, .any, .any, .any, .any, .any, .any, .any, .any, .any, .any, .any, .any, .any, .any, .any, .any, .any, .any, .any, .any, .any, .any, .any, .any, .any, .any, .any, .any, .any, .any, .any, .any, .any, .any, .any, .any, .any, .any, .any, .any, .ro 7 (b.fCopies.map StewCopy.D), .int .i64 ((b.fCopies.map StewCopy.D).length : Int), .int .i64 (j : Int)]) (fun j gs => [(10, .arr 1 [.int .i64 (sumN (g0 b) b.fServices.length), .int .i64 (sumN (e1 b) j), .int .i64 (sumN (g2 b) b.fServices.length), .int .i64 (sumN (e3 b) j), .int .i64 (sumN (e4 b) j)] 5)]) 0 (Nat.zero_le _) ?_ ?_
    · refine ⟨?_, ?_⟩
      · repeat' (first | exact True.intro | refine And.intro rfl ?_)
      · refine And.intro rfl True.intro
    intro j gs hj
    repeat' (first | (refine g_op ?_; conv => whnf) | (refine And.intro ?_ ?_; (focus (first | exact rfl | exact Nat.le_of_ble_eq_true rfl | decide | omega | fail)); conv => whnf) | (refine g_seq ?_) | (refine XS.go ?_) | (refine g_ops ?_) | (refine g_nil ?_; conv => whnf) | (refine g_cond ?_; conv => whnf) | fail)
    refine Br.mk (fun hb => ?_) (fun hb => ?_)
    · have hlt : j < b.fCopies.length := by simpa using hb
      have hw : IntKind.wrap .i64 ((j : Int) + 1) = ((j + 1 : Nat) : Int) := by rw [wrap_ok (by omega) (by omega)]; rfl
      clear hb hV
      have hs0 : ¬ svcI b (cp b j).fService < 0 := valid_copy b hv hlt
      have hs := impl_service b (cp b j).fService h1
      rw [ptr_some hs0] at hs
      have sb := e_bd v2 hj
      have E1 : sumN (e1 b) (j + 1) = sumN (e1 b) j + e1 b j := rfl
      have E3 : sumN (e3 b) (j + 1) = sumN (e3 b) j + e3 b j := rfl
      have E4 : sumN (e4 b) (j + 1) = sumN (e4 b) j + e4 b j := rfl
      rw [e1] at E1
      rw [e3] at E3
      rw [e4] at E4
      have hd := impl_drained b (cp b j) h2
      have t3 := b01_bd (bad3 b (so b j) (cp b j))
      have t4 := b01_bd ((cp b j).fState != 3)
      generalize sumN (e1 b) j = a1 at *
      generalize sumN (e3 b) j = a3 at *
      generalize sumN (e4 b) j = a4 at *
      conv => whnf
      repeat' (first | (refine z_ld1 ?_; first | (refine z_ld rfl rfl rfl rfl (by first | (simp only [List.length_set]; assumption) | assumption | omega) (by first | exact elt_set (by first | assumption | (simp only [List.length_set]; assumption)) | assumption) ?_; conv => whnf) | (refine z_ld0 rfl ?_; conv => whnf)) | (refine z_ld1g ?_; first | (refine z_ldg rfl rfl rfl rfl rfl rfl rfl (by (repeat intro _); exact ⟨(by first | (simp only [List.length_set]; assumption) | assumption | omega), (by first | exact elt_set (by first | assumption | (simp only [List.length_set]; assumption)) | assumption)⟩) rfl rfl rfl rfl ?_; conv => whnf) | (refine z_ld0g ?_; (conv => whnf); refine And.intro ?_ ?_; (focus exact rfl); conv => whnf)) | (refine z_st1 ?_; first | (refine z_st rfl rfl rfl (by first | (simp only [List.length_set]; assumption) | assumption | omega) (by first | exact elt_set (by first | assumption | (simp only [List.length_set]; assumption)) | assumption) rfl rfl ?_; conv => whnf) | (refine z_st0 ?_; conv => whnf)) | (refine z_ix1 ?_; first | (refine z_ix rfl rfl rfl rfl rfl ⟨by first | omega | (simp only [decide_eq_true_eq, Bool.not_eq_true', Bool.or_eq_false_iff, decide_eq_false_iff_not, Bool.and_eq_true, Bool.not_eq_false'] at *; omega), by first | omega | (simp only [decide_eq_true_eq, Bool.not_eq_true', Bool.or_eq_false_iff, decide_eq_false_iff_not, Bool.and_eq_true, Bool.not_eq_false'] at *; omega)⟩ ?_; conv => whnf) | (refine z_ix0 rfl rfl ?_; conv => whnf)) | (refine z_op ?_ ?_; (focus exact rfl); conv => whnf) | (refine z_opg0 ?_; (conv => whnf); refine And.intro ?_ ?_; (focus exact rfl); conv => whnf) | (refine z_pick ?_ ?_; (focus exact rfl); conv => whnf) | (refine zs_ops ?_ ?_; (focus exact rfl)) | (refine z_nil fun vals => ?_; conv => whnf) | (refine z_call ?_ ?_; (focus exact rfl)) | (refine z_eff ?_; conv => whnf) | (refine RC.of (hs) ?_ ?_; (focus exact rfl); conv => whnf) | (refine And.intro ?_ ?_; (focus (first | exact rfl | exact Nat.le_of_ble_eq_true rfl | decide | omega | fail)); conv => whnf) | (refine g_seq ?_) | (refine XS.go ?_) | (refine g_cond ?_; conv => whnf) | (refine g_skip ?_; conv => whnf) | (refine g_block ?_) | (refine fun _ => ?_; conv => whnf) | fail)
      refine Br.mk (fun hb => ?_) (fun hb => ?_)
      · have ho : off b j = true := hb
        rw [ho] at E1
        rw [if_pos ho] at E3 E4
        clear hb
        conv => whnf
        repeat' (first | (refine z_ld1 ?_; first | (refine z_ld rfl rfl rfl rfl (by first | (simp only [List.length_set]; assumption) | assumption | omega) (by first | exact elt_set (by first | assumption | (simp only [List.length_set]; assumption)) | assumption) ?_; conv => whnf) | (refine z_ld0 rfl ?_; conv => whnf)) | (refine z_st1 ?_; first | (refine z_st rfl rfl rfl (by first | (simp only [List.length_set]; assumption) | assumption | omega) (by first | exact elt_set (by first | assumption | (simp only [List.length_set]; assumption)) | assumption) rfl rfl ?_; conv => whnf) | (refine z_st0 ?_; conv => whnf)) | (refine z_ix1 ?_; first | (refine z_ix rfl rfl rfl rfl rfl ⟨by first | omega | (simp only [decide_eq_true_eq, Bool.not_eq_true', Bool.or_eq_false_iff, decide_eq_false_iff_not, Bool.and_eq_true, Bool.not_eq_false'] at *; omega), by first | omega | (simp only [decide_eq_true_eq, Bool.not_eq_true', Bool.or_eq_false_iff, decide_eq_false_iff_not, Bool.and_eq_true, Bool.not_eq_false'] at *; omega)⟩ ?_; conv => whnf) | (refine z_ix0 rfl rfl ?_; conv => whnf)) | (refine z_op ?_ ?_; (focus exact rfl); conv => whnf) | (refine zs_ops ?_ ?_; (focus exact rfl)) | (refine z_nil fun vals => ?_; conv => whnf) | (refine g_op ?_; conv => whnf) | (refine And.intro ?_ ?_; (focus (first | exact rfl | exact Nat.le_of_ble_eq_true rfl | decide | omega | fail)); conv => whnf) | (refine g_seq ?_) | (refine XS.go ?_) | (refine g_ops ?_) | (refine g_nil ?_; conv => whnf) | (refine g_exit ?_; conv => whnf) | fail)
        refine ⟨j + 1, hlt, by omega, ?_, ?_⟩
        · repeat' (first | exact True.intro | refine And.intro (congrArg (D.int .i64) hw) ?_ | refine And.intro rfl ?_)
        · exact ⟨arr5 rfl (by rw [E1, wrap_ok (by omega) (by omega)]; rfl) rfl (by rw [E3]; omega) (by rw [E4]; omega), True.intro⟩
      · have ho : off b j = false := hb
        rw [ho] at E1
        rw [if_neg (by rw [ho]; exact Bool.false_ne_true)] at E3 E4
        clear hb
        have W3 : IntKind.wrap .i64 (a3 + b01 (bad3 b (so b j) (cp b j))) = a3 + b01 (bad3 b (so b j) (cp b j)) := wrap_ok (by omega) (by omega)
        have W4 : IntKind.wrap .i64 (a4 + b01 ((cp b j).fState != 3)) = a4 + b01 ((cp b j).fState != 3) := wrap_ok (by omega) (by omega)
        conv => whnf
        repeat' (first | (refine And.intro ?_ ?_; (focus (first | exact rfl | exact Nat.le_of_ble_eq_true rfl | decide | omega | fail)); conv => whnf) | (refine g_seq ?_) | (refine XS.go ?_) | (refine g_skip ?_; conv => whnf) | (refine g_drawn ?_) | (refine d_p ?_; conv => whnf) | (refine d_pg ?_; conv => whnf) | fail)
        refine Br.mk (fun hq => ?_) (fun hq => ?_)
        · have q : bad3 b (so b j) (cp b j) = true := by
            have hq : ((cp b j).fImage != (so b j).fImage) = true := hq
            rw [bad3, hq]
            rfl
          rw [q] at W3 E3
          conv => whnf
          repeat' (first | ((refine And.intro True.intro ?_; conv => whnf)) | ((refine And.intro ⟨⟨rfl, rfl⟩, True.intro⟩ ?_; conv => whnf)) | (refine g_op ?_; conv => whnf) | (refine And.intro ?_ ?_; (focus (first | exact rfl | exact Nat.le_of_ble_eq_true rfl | decide | omega | fail)); conv => whnf) | (refine XS.go ?_) | (refine g_ops ?_) | (refine g_nil ?_; conv => whnf) | (refine Br.t ?_ ?_; (focus (first | assumption | exact rfl)); conv => whnf) | (refine g_drawn ?_) | (refine d_p ?_; conv => whnf) | (refine d_e ?_; conv => whnf) | (refine d_eg ?_; conv => whnf) | (refine d_nil ?_; conv => whnf) | (refine XCL.of_rdr (impl_one _) ?_; conv => whnf) | fail)
          refine ⟨j + 1, hlt, by omega, ?_, ?_⟩
          · repeat' (first | exact True.intro | refine And.intro (congrArg (D.int .i64) hw) ?_ | refine And.intro rfl ?_)
          · exact ⟨arr5 rfl (by rw [E1]; exact (Int.add_zero _).symm) rfl (W3.trans E3.symm) (W4.trans E4.symm), True.intro⟩
        · have q : bad3 b (so b j) (cp b j) = drP b (cp b j) := by
            have hq : ((cp b j).fImage != (so b j).fImage) = false := hq
            rw [bad3, hq]
            rfl
          rw [q] at W3 E3
          conv => whnf
          repeat' (first | ((refine And.intro True.intro ?_; conv => whnf)) | ((refine And.intro ⟨⟨rfl, rfl⟩, True.intro⟩ ?_; conv => whnf)) | (refine g_op ?_; conv => whnf) | (refine And.intro ?_ ?_; (focus (first | exact rfl | exact Nat.le_of_ble_eq_true rfl | decide | omega | fail)); conv => whnf) | (refine XS.go ?_) | (refine g_ops ?_) | (refine g_nil ?_; conv => whnf) | (refine Br.f ?_ ?_; (focus (first | assumption | exact rfl)); conv => whnf) | (refine g_drawn ?_) | (refine d_p ?_; conv => whnf) | (refine d_e ?_; conv => whnf) | (refine d_eg ?_; conv => whnf) | (refine d_nil ?_; conv => whnf) | (refine XCL.of_rdr (hd) ?_; conv => whnf) | (refine XCL.of_rdr (impl_one _) ?_; conv => whnf) | fail)
          refine ⟨j + 1, hlt, by omega, ?_, ?_⟩
          · repeat' (first | exact True.intro | refine And.intro (congrArg (D.int .i64) hw) ?_ | refine And.intro rfl ?_)
          · exact ⟨arr5 rfl (by rw [E1]; exact (Int.add_zero _).symm) rfl (W3.trans E3.symm) (W4.trans E4.symm), True.intro⟩
    have hj : j = b.fCopies.length := by
      have : ¬ j < b.fCopies.length := by simpa using hb
      omega
    subst hj
    clear hb
    have e := rank_eq hv
    rw [← e]
    conv => whnf
    repeat' (first | (refine g_op ?_; conv => whnf) | (refine And.intro ?_ ?_; (focus (first | exact rfl | exact Nat.le_of_ble_eq_true rfl | decide | omega | fail)); conv => whnf) | (refine g_seq ?_) | (refine XS.go ?_) | (refine g_ops ?_) | (refine g_nil ?_; conv => whnf) | (refine g_ret ?_; conv => whnf) | (refine g_exit ?_; conv => whnf) | (refine r_t ?_; conv => whnf) | (refine r_nil ?_; conv => whnf) | fail)
    exact ⟨_, rfl, rfl⟩
theorem impl_Rank (b : StewBook) (h1 : b.fServices.length ≤ 1048576) (h2 : b.fBerths.length ≤ 1048576) (h3 : b.fCopies.length ≤ 1048576) : Rdr Try.prog 38 [b.D] (.ro 1 ((rankL b).map (D.int .i64))) :=
  Rdr.of_XCF ((impl_RankX b h1 h2 h3).mono fun d ls ⟨q, e1, e2⟩ => by
    subst e1 e2
    refine ⟨⟨rfl, Nat.le_of_eq (by simp)⟩, ?_⟩
    show D.ro 1 ((D.frozs ((rankL b).map (D.int .i64))).take (rankL b).length) = _
    rw [D.frozs_map (fun _ => rfl), List.take_of_length_le (by simp)])
theorem frz_book (x : StewBook) (b1 b2 b3 c1 c2 c3 e1 e2 e3 : Nat) : frzVs (x.L 31 32 33 b1 b2 b3 e1 e2 e3) [x.O 31 32 33 b1 b2 b3 c1 c2 c3] = [x.D] := by
  have t1 : (D.frozs (x.fServices.map StewService.D)).take x.fServices.length = x.fServices.map StewService.D := by rw [D.frozs_map (fun _ => rfl), List.take_of_length_le (by simp)]
  have t2 : (D.frozs (x.fCopies.map StewCopy.D)).take x.fCopies.length = x.fCopies.map StewCopy.D := by rw [D.frozs_map (fun _ => rfl), List.take_of_length_le (by simp)]
  have t3 : (D.frozs (x.fBerths.map StewBerth.D)).take x.fBerths.length = x.fBerths.map StewBerth.D := by rw [D.frozs_map (fun _ => rfl), List.take_of_length_le (by simp)]
  show [D.agg [.int .i64 x.fNow, .ro 13 ((D.frozs (x.fServices.map StewService.D)).take x.fServices.length), .ro 7 ((D.frozs (x.fCopies.map StewCopy.D)).take x.fCopies.length), .ro 2 ((D.frozs (x.fBerths.map StewBerth.D)).take x.fBerths.length)]] = [x.D]
  rw [t1, t2, t3]
  rfl
theorem ok_book (x : StewBook) (b1 b2 b3 c1 c2 c3 e1 e2 e3 : Nat) : okVs (x.L 31 32 33 b1 b2 b3 e1 e2 e3) [x.O 31 32 33 b1 b2 b3 c1 c2 c3] :=
  ⟨⟨True.intro, ⟨rfl, Nat.le_of_eq (by simp)⟩, ⟨rfl, Nat.le_of_eq (by simp)⟩, ⟨rfl, Nat.le_of_eq (by simp)⟩, True.intro⟩, True.intro⟩
theorem impl_RankB (x : StewBook) (hs : x.small) (b1 b2 b3 c1 c2 c3 : Nat) : XC Try.prog 38 [x.O 31 32 33 b1 b2 b3 c1 c2 c3] (x.L 31 32 33 b1 b2 b3 c1 c2 c3) (fun d ls => ∃ q, d = .lsl 41 q (rankL x).length 5 ∧ ls = x.L 31 32 33 b1 b2 b3 c1 c2 c3 ++ [(41, q, .arr 1 ((rankL x).map (D.int .i64)) 5)]) := by
  have h := impl_RankX x hs.fServices.1 hs.fBerths.1 hs.fCopies.1
  rw [← frz_book x b1 b2 b3 c1 c2 c3 c1 c2 c3] at h
  refine (XC.bor h (ok_book x b1 b2 b3 c1 c2 c3 c1 c2 c3) (fun d l ⟨q, h1, h2⟩ => by subst h1 h2; exact ⟨rfl, by show ((D.arr 1 ((rankL x).map (D.int .i64)) 5).cl && true) = true; rw [Bool.and_true]; exact D.cls_map (fun _ => rfl) _⟩)).ren (fun _ _ _ h => h) rfl (fun d ls ⟨l, h1, q, h2, h3⟩ => ?_)
  subst h1 h2 h3
  exact ⟨_, _, ⟨q, rfl, rfl⟩, fun _ _ _ h => HolL.ren rfl h, fun _ _ _ h => h⟩
set_option maxHeartbeats 4000000 in
theorem law_StewRank (x : StewBook) (hw : x.wf) : Rdr Try.prog 9 [x.D] (.bool true) := by
  refine Rdr.intro' hm c9 (Nat.le_of_ble_eq_true rfl) ?_
  conv => whnf
  repeat' (first | (refine g_op ?_; conv => whnf) | (refine And.intro ?_ ?_; (focus (first | exact rfl | exact Nat.le_of_ble_eq_true rfl | decide | omega | fail)); conv => whnf) | (refine g_seq ?_) | (refine XS.go ?_) | (refine g_ops ?_) | (refine g_nil ?_; conv => whnf) | (refine fun _ => ?_; conv => whnf) | fail)
  refine XCL.ask (sz_StewBook x _ hw (by decide) (by decide)) (fun d h => ?_)
  obtain ⟨n, rfl, hn⟩ := h
  conv => whnf
  repeat' (first | (refine g_op ?_; conv => whnf) | (refine And.intro ?_ ?_; (focus (first | exact rfl | exact Nat.le_of_ble_eq_true rfl | decide | omega | fail)); conv => whnf) | (refine g_seq ?_) | (refine XS.go ?_) | (refine g_ops ?_) | (refine g_nil ?_; conv => whnf) | (refine g_cond ?_; conv => whnf) | fail)
  refine Br.mk (fun hb => ?_) (fun hb => ?_)
  · conv => whnf
    repeat' (first | (refine g_op ?_; conv => whnf) | (refine And.intro ?_ ?_; (focus (first | exact rfl | exact Nat.le_of_ble_eq_true rfl | decide | omega | fail)); conv => whnf) | (refine g_seq ?_) | (refine XS.go ?_) | (refine g_ops ?_) | (refine g_nil ?_; conv => whnf) | (refine g_ret ?_; conv => whnf) | (refine r_t ?_; conv => whnf) | (refine r_nil ?_; conv => whnf) | fail)
    rfl
  have hs : x.small := (hn (Int.not_lt.1 (of_decide_eq_false hb))).2
  have hsp := spec_Rank x hs.fServices.1 hs.fBerths.1 hs.fCopies.1
  have him0 := impl_Rank x hs.fServices.1 hs.fBerths.1 hs.fCopies.1
  have him := fun b1 b2 b3 c1 c2 c3 => impl_RankB x hs b1 b2 b3 c1 c2 c3
  have hlen := rankL_len x
  generalize rankL x = R at *
  have heq := eq_IntS R ⟨by omega, fun _ _ => True.intro⟩
  conv => whnf
  repeat' (first | (refine g_skip ?_; conv => whnf) | fail)
  refine XS.go ?_
  repeat' (first | (refine g_op ?_; conv => whnf) | (refine And.intro ?_ ?_; (focus (first | exact rfl | exact Nat.le_of_ble_eq_true rfl | decide | omega | fail)); conv => whnf) | (refine g_seq ?_) | (refine g_ops ?_) | (refine g_nil ?_; conv => whnf) | (refine XCL.of_rdr (to_StewBook x hs) ?_; conv => whnf) | (refine XCL.of_rdr (hsp) ?_; conv => whnf) | fail)
  refine XS.go ?_
  repeat' (first | (refine g_op ?_; conv => whnf) | (refine And.intro ?_ ?_; (focus (first | exact rfl | exact Nat.le_of_ble_eq_true rfl | decide | omega | fail)); conv => whnf) | (refine g_seq ?_) | (refine g_ops ?_) | fail)
  refine XCL.of_XC (ls := []) True.intro ((tox_Book 31 32 33 x hs).mono fun d ls h => ?_)
  obtain ⟨b1, b2, b3, rfl, rfl⟩ := h
  conv => whnf
  repeat' (first | (refine g_op ?_; conv => whnf) | (refine And.intro ?_ ?_; (focus (first | exact rfl | exact Nat.le_of_ble_eq_true rfl | decide | omega | fail)); conv => whnf) | (refine g_seq ?_) | (refine XS.go ?_) | (refine g_ops ?_) | (refine g_nil ?_; conv => whnf) | (refine fun _ => ?_; conv => whnf) | fail)
  refine XCL.of_XC (ls := x.L 31 32 33 b1 b2 b3 _ _ _) ⟨rfl, rfl, rfl, rfl, rfl, rfl, rfl, rfl, rfl, True.intro⟩ ((him b1 b2 b3 _ _ _).mono fun d ls h => ?_)
  obtain ⟨q, rfl, rfl⟩ := h
  conv => whnf
  repeat' (first | (refine g_op ?_; conv => whnf) | (refine And.intro ?_ ?_; (focus (first | exact rfl | exact Nat.le_of_ble_eq_true rfl | decide | omega | fail)); conv => whnf) | (refine g_seq ?_) | (refine XS.go ?_) | (refine g_ops ?_) | (refine g_nil ?_; conv => whnf) | fail)
  refine XCL.of_rdrB heq (.cons (Bor.rowM rfl rfl rfl (fun _ => rfl)) (.cons (Bor.refl _ _) .nil)) rfl ?_
  conv => whnf
  repeat' (first | (refine g_op ?_; conv => whnf) | (refine And.intro ?_ ?_; (focus (first | exact rfl | exact Nat.le_of_ble_eq_true rfl | decide | omega | fail)); conv => whnf) | (refine g_seq ?_) | (refine XS.go ?_) | (refine g_nil ?_; conv => whnf) | (refine Br.f ?_ ?_; (focus (first | assumption | exact rfl)); conv => whnf) | (refine g_cond ?_; conv => whnf) | (refine g_skip ?_; conv => whnf) | (refine g_quiet ?_) | (refine q_op ?_; conv => whnf) | (refine QC.of_rdr (to_StewBook x hs) ?_; conv => whnf) | fail)
  refine QC.of_rdrB (eq_StewBook x hs) (.cons (Bor.bookO rfl rfl rfl rfl rfl rfl) (.cons (Bor.refl _ _) .nil)) rfl ?_
  conv => whnf
  repeat' (first | (refine g_op ?_; conv => whnf) | (refine And.intro ?_ ?_; (focus (first | exact rfl | exact Nat.le_of_ble_eq_true rfl | decide | omega | fail)); conv => whnf) | (refine g_seq ?_) | (refine XS.go ?_) | (refine g_ops ?_) | (refine g_nil ?_; conv => whnf) | (refine Br.f ?_ ?_; (focus (first | assumption | exact rfl)); conv => whnf) | (refine g_cond ?_; conv => whnf) | (refine g_skip ?_; conv => whnf) | (refine q_op ?_; conv => whnf) | (refine q_nil ?_; conv => whnf) | fail)
  obtain ⟨h0, hB⟩ := mkBK_bd x hs
  have hM0 : decide (mkBK x 1 < 0) = false := decide_eq_false (by omega)
  have hmk := fun b1 b2 b3 c1 c2 c3 => mark_Book 31 32 33 x b1 b2 b3 c1 c2 c3 1 (by decide) hs hB
  have hmk2 := fun b c => markx_IntS 41 R b c 1 (by decide) (by omega) (by omega)
  have hhd := held_IntS R 1 (by decide) (by omega) (by omega)
  generalize mkBK x 1 = M at *
  refine XCL.of_XC (ls := x.L 31 32 33 b1 b2 b3 _ _ _) ⟨rfl, rfl, rfl, rfl, rfl, rfl, rfl, rfl, rfl, True.intro⟩ ((hmk b1 b2 b3 _ _ _).mono fun d ls h => ?_)
  obtain ⟨rfl, rfl⟩ := h
  conv => whnf
  repeat' (first | (refine g_op ?_; conv => whnf) | (refine And.intro ?_ ?_; (focus (first | exact rfl | exact Nat.le_of_ble_eq_true rfl | decide | omega | fail)); conv => whnf) | (refine g_seq ?_) | (refine XS.go ?_) | (refine g_ops ?_) | (refine g_nil ?_; conv => whnf) | (refine g_opg ?_; conv => whnf) | (refine Br.f ?_ ?_; (focus (first | assumption | exact rfl)); conv => whnf) | fail)
  refine XCL.of_rdrB heq (.cons (Bor.rowM rfl rfl rfl (fun _ => rfl)) (.cons (Bor.refl _ _) .nil)) rfl ?_
  conv => whnf
  repeat' (first | (refine g_op ?_; conv => whnf) | (refine And.intro ?_ ?_; (focus (first | exact rfl | exact Nat.le_of_ble_eq_true rfl | decide | omega | fail)); conv => whnf) | (refine g_seq ?_) | (refine XS.go ?_) | (refine g_ops ?_) | (refine g_nil ?_; conv => whnf) | (refine g_opg ?_; conv => whnf) | (refine Br.f ?_ ?_; (focus (first | assumption | exact rfl)); conv => whnf) | (refine g_cond ?_; conv => whnf) | (refine g_skip ?_; conv => whnf) | fail)
  refine XCL.of_XC (ls := [(41, q, .arr 1 (R.map (D.int .i64)) 5)]) ⟨rfl, rfl, rfl, True.intro⟩ ((hmk2 q 5).mono fun d ls h => ?_)
  obtain ⟨rfl, rfl⟩ := h
  conv => whnf
  repeat' (first | (refine g_op ?_; conv => whnf) | (refine And.intro ?_ ?_; (focus (first | exact rfl | exact Nat.le_of_ble_eq_true rfl | decide | omega | fail)); conv => whnf) | (refine g_seq ?_) | (refine XS.go ?_) | (refine g_ops ?_) | (refine g_nil ?_; conv => whnf) | fail)
  refine XCL.of_rdrB hhd (.cons (Bor.rowM rfl rfl mkS_len.symm (fun _ => rfl)) (.cons (Bor.refl _ _) .nil)) rfl ?_
  conv => whnf
  repeat' (first | (refine g_op ?_; conv => whnf) | (refine And.intro ?_ ?_; (focus (first | exact rfl | exact Nat.le_of_ble_eq_true rfl | decide | omega | fail)); conv => whnf) | (refine g_seq ?_) | (refine XS.go ?_) | (refine g_ops ?_) | (refine g_nil ?_; conv => whnf) | (refine Br.f ?_ ?_; (focus (first | assumption | exact rfl)); conv => whnf) | (refine g_cond ?_; conv => whnf) | (refine g_skip ?_; conv => whnf) | fail)
  refine Br.f (by simp) ?_
  conv => whnf
  repeat' (first | (refine g_op ?_; conv => whnf) | (refine And.intro ?_ ?_; (focus (first | exact rfl | exact Nat.le_of_ble_eq_true rfl | decide | omega | fail)); conv => whnf) | (refine g_seq ?_) | (refine XS.go ?_) | (refine g_ops ?_) | (refine g_nil ?_; conv => whnf) | (refine Br.f ?_ ?_; (focus (first | assumption | exact rfl)); conv => whnf) | (refine g_cond ?_; conv => whnf) | (refine g_skip ?_; conv => whnf) | (refine XCL.of_rdr (to_StewBook x hs) ?_; conv => whnf) | (refine XCL.of_rdr (him0) ?_; conv => whnf) | (refine XCL.of_rdr (heq) ?_; conv => whnf) | fail)
  refine XCL.of_rdrB hhd (.cons (Bor.rowM rfl rfl mkS_len.symm (fun _ => rfl)) (.cons (Bor.refl _ _) .nil)) rfl ?_
  conv => whnf
  repeat' (first | (refine g_op ?_; conv => whnf) | (refine And.intro ?_ ?_; (focus (first | exact rfl | exact Nat.le_of_ble_eq_true rfl | decide | omega | fail)); conv => whnf) | (refine g_seq ?_) | (refine XS.go ?_) | (refine g_ops ?_) | (refine g_nil ?_; conv => whnf) | (refine Br.f ?_ ?_; (focus (first | assumption | exact rfl)); conv => whnf) | (refine g_cond ?_; conv => whnf) | (refine g_skip ?_; conv => whnf) | fail)
  refine Br.f (by simp) ?_
  conv => whnf
  repeat' (first | (refine g_op ?_; conv => whnf) | (refine And.intro ?_ ?_; (focus (first | exact rfl | exact Nat.le_of_ble_eq_true rfl | decide | omega | fail)); conv => whnf) | (refine g_seq ?_) | (refine XS.go ?_) | (refine g_ops ?_) | (refine g_nil ?_; conv => whnf) | (refine g_skip ?_; conv => whnf) | (refine g_ret ?_; conv => whnf) | (refine r_t ?_; conv => whnf) | (refine r_nil ?_; conv => whnf) | fail)
  rfl
end Go.Ab
