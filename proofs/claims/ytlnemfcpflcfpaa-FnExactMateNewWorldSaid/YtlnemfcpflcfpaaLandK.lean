/- Steps towards the law: contracts of functions and facts of lists. -/
import Derived.Test.YtlnemfcpflcfpaaLandH
import Derived.Test.YtlnemfcpflcfpaaLandI
import Derived.Test.YtlnemfcpflcfpaaAb11
import Derived.Test.YtlnemfcpflcfpaaRows
set_option linter.unusedSimpArgs false
set_option linter.unusedVariables false
namespace Go.Ab
open Go Go.RowKit Go.Proofs
attribute [local irreducible] XC Rdr IntKind.wrap xw xos xqs xr xd
set_option maxRecDepth 100000

/-- laws.szMateS -/
def cf100 : CF := ⟨27, [.t 4],
  (.seq (.ops [⟨some 4, .mv (.k (.int .i64 0)), none⟩])
  (.seq (.ops [⟨some 6, .mv (.t 1), none⟩,
    ⟨some 7, .mv (.t 0), none⟩,
    ⟨some 8, .lenl (.t 7), none⟩,
    ⟨some 9, .bin .sub (.t 6) (.t 8), none⟩,
    ⟨some 1, .mv (.t 9), none⟩])
  (.seq (.seq (.ops [⟨some 10, .mv (.t 1), none⟩,
    ⟨some 11, .bin .lss (.t 10) (.k (.int .i64 0)), none⟩])
  (.cond (.t 11)
  (.seq (.ops [⟨some 4, .mv (.k (.int .i64 (-1))), none⟩])
  .ret)
  .skip))
  (.seq (.seq (.ops [⟨some 5, .mv (.k (.int .i64 0)), none⟩])
  (.block 0 (.loop (.seq (.seq (.ops [⟨some 12, .mv (.t 5), none⟩,
    ⟨some 13, .mv (.t 0), none⟩,
    ⟨some 14, .lenl (.t 13), none⟩,
    ⟨some 15, .bin .lss (.t 12) (.t 14), none⟩])
  (.cond (.t 15)
  .skip
  (.exit 0)))
  (.seq (.block 1 (.seq (.ops [⟨some 18, .mv (.t 0), none⟩,
    ⟨some 19, .mv (.t 5), none⟩,
    ⟨some 20, .ix 9 (.t 18) (.t 19), none⟩,
    ⟨some 21, .ld 9 true (.t 20), none⟩,
    ⟨some 22, .mv (.t 1), none⟩,
    ⟨some 23, .call 139 [(.t 21), (.t 22)], none⟩,
    ⟨some 1, .mv (.t 23), none⟩])
  (.seq (.ops [⟨some 24, .mv (.t 1), none⟩,
    ⟨some 25, .bin .lss (.t 24) (.k (.int .i64 0)), none⟩])
  (.cond (.t 25)
  (.seq (.ops [⟨some 4, .mv (.k (.int .i64 (-1))), none⟩])
  .ret)
  .skip))))
  (.ops [⟨some 16, .mv (.t 5), none⟩,
    ⟨some 17, .bin .add (.t 16) (.k (.int .i64 1)), none⟩,
    ⟨some 5, .mv (.t 17), none⟩]))))))
  (.seq (.ops [⟨some 26, .mv (.t 1), none⟩,
    ⟨some 4, .mv (.t 26), none⟩])
  .ret)))))⟩
theorem c100 : compileF Try.prog [] 100 = some cf100 := by kernel_rfl
/-- laws.toMateS -/
def cf102 : CF := ⟨23, [.t 2],
  (.seq (.ops [⟨some 2, .mv (.k (.nil)), none⟩])
  (.seq (.ops [⟨some 5, .mv (.t 0), none⟩,
    ⟨some 6, .lenl (.t 5), none⟩,
    ⟨some 7, .mk (.agg [.str ⟨#[]⟩, .bool false, .int .i64 0, .bool false, .int .i64 0, .nil, .nil, .nil, .nil]) 144 (.t 6) (.t 6), none⟩,
    ⟨some 3, .mv (.t 7), none⟩])
  (.seq (.seq (.ops [⟨some 4, .mv (.k (.int .i64 0)), none⟩])
  (.block 0 (.loop (.seq (.seq (.ops [⟨some 8, .mv (.t 4), none⟩,
    ⟨some 9, .mv (.t 0), none⟩,
    ⟨some 10, .lenl (.t 9), none⟩,
    ⟨some 11, .bin .lss (.t 8) (.t 10), none⟩])
  (.cond (.t 11)
  .skip
  (.exit 0)))
  (.seq (.block 1 (.ops [⟨some 14, .mv (.t 3), none⟩,
    ⟨some 15, .mv (.t 4), none⟩,
    ⟨some 16, .mv (.t 0), none⟩,
    ⟨some 17, .mv (.t 4), none⟩,
    ⟨some 18, .ix 9 (.t 16) (.t 17), none⟩,
    ⟨some 19, .ld 9 true (.t 18), none⟩,
    ⟨some 20, .call 143 [(.t 19)], none⟩,
    ⟨some 21, .ix 9 (.t 14) (.t 15), none⟩,
    ⟨none, .st 9 (.t 21) (.t 20), none⟩]))
  (.ops [⟨some 12, .mv (.t 4), none⟩,
    ⟨some 13, .bin .add (.t 12) (.k (.int .i64 1)), none⟩,
    ⟨some 4, .mv (.t 13), none⟩]))))))
  (.seq (.ops [⟨some 22, .mv (.t 3), none⟩,
    ⟨some 2, .mv (.t 22), none⟩])
  .ret))))⟩
theorem c102 : compileF Try.prog [] 102 = some cf102 := by kernel_rfl
/-- laws.eqMateS -/
def cf96 : CF := ⟨27, [.t 4],
  (.seq (.ops [⟨some 4, .mv (.k (.bool false)), none⟩])
  (.seq (.seq (.ops [⟨some 6, .mv (.t 0), none⟩,
    ⟨some 7, .lenl (.t 6), none⟩,
    ⟨some 8, .mv (.t 1), none⟩,
    ⟨some 9, .lenl (.t 8), none⟩,
    ⟨some 10, .bin .neq (.t 7) (.t 9), none⟩])
  (.cond (.t 10)
  (.seq (.ops [⟨some 4, .mv (.k (.bool false)), none⟩])
  .ret)
  .skip))
  (.seq (.seq (.ops [⟨some 5, .mv (.k (.int .i64 0)), none⟩])
  (.block 0 (.loop (.seq (.seq (.ops [⟨some 11, .mv (.t 5), none⟩,
    ⟨some 12, .mv (.t 0), none⟩,
    ⟨some 13, .lenl (.t 12), none⟩,
    ⟨some 14, .bin .lss (.t 11) (.t 13), none⟩])
  (.cond (.t 14)
  .skip
  (.exit 0)))
  (.seq (.block 1 (.seq (.quiet [⟨some 17, .mv (.t 0), none⟩,
    ⟨some 18, .mv (.t 5), none⟩,
    ⟨some 19, .ix 9 (.t 17) (.t 18), none⟩,
    ⟨some 20, .ld 9 true (.t 19), none⟩,
    ⟨some 21, .mv (.t 1), none⟩,
    ⟨some 22, .mv (.t 5), none⟩,
    ⟨some 23, .ix 9 (.t 21) (.t 22), none⟩,
    ⟨some 24, .ld 9 true (.t 23), none⟩,
    ⟨some 25, .call 134 [(.t 20), (.t 24)], none⟩,
    ⟨some 26, .not (.t 25), none⟩])
  (.cond (.t 26)
  (.seq (.ops [⟨some 4, .mv (.k (.bool false)), none⟩])
  .ret)
  .skip)))
  (.ops [⟨some 15, .mv (.t 5), none⟩,
    ⟨some 16, .bin .add (.t 15) (.k (.int .i64 1)), none⟩,
    ⟨some 5, .mv (.t 16), none⟩]))))))
  (.seq (.ops [⟨some 4, .mv (.k (.bool true)), none⟩])
  .ret))))⟩
theorem c96 : compileF Try.prog [] 96 = some cf96 := by kernel_rfl
/-- laws.szStringS -/
def cf36 : CF := ⟨28, [.t 4],
  (.seq (.ops [⟨some 4, .mv (.k (.int .i64 0)), none⟩])
  (.seq (.ops [⟨some 6, .mv (.t 1), none⟩,
    ⟨some 7, .mv (.t 0), none⟩,
    ⟨some 8, .lenl (.t 7), none⟩,
    ⟨some 9, .bin .sub (.t 6) (.t 8), none⟩,
    ⟨some 1, .mv (.t 9), none⟩])
  (.seq (.seq (.ops [⟨some 10, .mv (.t 1), none⟩,
    ⟨some 11, .bin .lss (.t 10) (.k (.int .i64 0)), none⟩])
  (.cond (.t 11)
  (.seq (.ops [⟨some 4, .mv (.k (.int .i64 (-1))), none⟩])
  .ret)
  .skip))
  (.seq (.seq (.ops [⟨some 5, .mv (.k (.int .i64 0)), none⟩])
  (.block 0 (.loop (.seq (.seq (.ops [⟨some 12, .mv (.t 5), none⟩,
    ⟨some 13, .mv (.t 0), none⟩,
    ⟨some 14, .lenl (.t 13), none⟩,
    ⟨some 15, .bin .lss (.t 12) (.t 14), none⟩])
  (.cond (.t 15)
  .skip
  (.exit 0)))
  (.seq (.block 1 (.seq (.ops [⟨some 18, .mv (.t 1), none⟩,
    ⟨some 19, .mv (.t 0), none⟩,
    ⟨some 20, .mv (.t 5), none⟩,
    ⟨some 21, .ix 1 (.t 19) (.t 20), none⟩,
    ⟨some 22, .ld 1 false (.t 21), none⟩,
    ⟨some 23, .lens (.t 22), none⟩,
    ⟨some 24, .bin .sub (.t 18) (.t 23), none⟩,
    ⟨some 1, .mv (.t 24), none⟩])
  (.seq (.ops [⟨some 25, .mv (.t 1), none⟩,
    ⟨some 26, .bin .lss (.t 25) (.k (.int .i64 0)), none⟩])
  (.cond (.t 26)
  (.seq (.ops [⟨some 4, .mv (.k (.int .i64 (-1))), none⟩])
  .ret)
  .skip))))
  (.ops [⟨some 16, .mv (.t 5), none⟩,
    ⟨some 17, .bin .add (.t 16) (.k (.int .i64 1)), none⟩,
    ⟨some 5, .mv (.t 17), none⟩]))))))
  (.seq (.ops [⟨some 27, .mv (.t 1), none⟩,
    ⟨some 4, .mv (.t 27), none⟩])
  .ret)))))⟩
theorem c36 : compileF Try.prog [] 36 = some cf36 := by kernel_rfl
/-- laws.toStringS -/
def cf38 : CF := ⟨22, [.t 2],
  (.seq (.ops [⟨some 2, .mv (.k (.nil)), none⟩])
  (.seq (.ops [⟨some 5, .mv (.t 0), none⟩,
    ⟨some 6, .lenl (.t 5), none⟩,
    ⟨some 7, .mk (.str ⟨#[]⟩) 16 (.t 6) (.t 6), none⟩,
    ⟨some 3, .mv (.t 7), none⟩])
  (.seq (.seq (.ops [⟨some 4, .mv (.k (.int .i64 0)), none⟩])
  (.block 0 (.loop (.seq (.seq (.ops [⟨some 8, .mv (.t 4), none⟩,
    ⟨some 9, .mv (.t 0), none⟩,
    ⟨some 10, .lenl (.t 9), none⟩,
    ⟨some 11, .bin .lss (.t 8) (.t 10), none⟩])
  (.cond (.t 11)
  .skip
  (.exit 0)))
  (.seq (.block 1 (.ops [⟨some 14, .mv (.t 3), none⟩,
    ⟨some 15, .mv (.t 4), none⟩,
    ⟨some 16, .mv (.t 0), none⟩,
    ⟨some 17, .mv (.t 4), none⟩,
    ⟨some 18, .ix 1 (.t 16) (.t 17), none⟩,
    ⟨some 19, .ld 1 false (.t 18), none⟩,
    ⟨some 20, .ix 1 (.t 14) (.t 15), none⟩,
    ⟨none, .st 1 (.t 20) (.t 19), none⟩]))
  (.ops [⟨some 12, .mv (.t 4), none⟩,
    ⟨some 13, .bin .add (.t 12) (.k (.int .i64 1)), none⟩,
    ⟨some 4, .mv (.t 13), none⟩]))))))
  (.seq (.ops [⟨some 21, .mv (.t 3), none⟩,
    ⟨some 2, .mv (.t 21), none⟩])
  .ret))))⟩
theorem c38 : compileF Try.prog [] 38 = some cf38 := by kernel_rfl
/-- laws.eqStringS -/
def cf41 : CF := ⟨26, [.t 4],
  (.seq (.ops [⟨some 4, .mv (.k (.bool false)), none⟩])
  (.seq (.seq (.ops [⟨some 6, .mv (.t 0), none⟩,
    ⟨some 7, .lenl (.t 6), none⟩,
    ⟨some 8, .mv (.t 1), none⟩,
    ⟨some 9, .lenl (.t 8), none⟩,
    ⟨some 10, .bin .neq (.t 7) (.t 9), none⟩])
  (.cond (.t 10)
  (.seq (.ops [⟨some 4, .mv (.k (.bool false)), none⟩])
  .ret)
  .skip))
  (.seq (.seq (.ops [⟨some 5, .mv (.k (.int .i64 0)), none⟩])
  (.block 0 (.loop (.seq (.seq (.ops [⟨some 11, .mv (.t 5), none⟩,
    ⟨some 12, .mv (.t 0), none⟩,
    ⟨some 13, .lenl (.t 12), none⟩,
    ⟨some 14, .bin .lss (.t 11) (.t 13), none⟩])
  (.cond (.t 14)
  .skip
  (.exit 0)))
  (.seq (.block 1 (.seq (.quiet [⟨some 17, .mv (.t 0), none⟩,
    ⟨some 18, .mv (.t 5), none⟩,
    ⟨some 19, .ix 1 (.t 17) (.t 18), none⟩,
    ⟨some 20, .ld 1 false (.t 19), none⟩,
    ⟨some 21, .mv (.t 1), none⟩,
    ⟨some 22, .mv (.t 5), none⟩,
    ⟨some 23, .ix 1 (.t 21) (.t 22), none⟩,
    ⟨some 24, .ld 1 false (.t 23), none⟩,
    ⟨some 25, .bin .neq (.t 20) (.t 24), none⟩])
  (.cond (.t 25)
  (.seq (.ops [⟨some 4, .mv (.k (.bool false)), none⟩])
  .ret)
  .skip)))
  (.ops [⟨some 15, .mv (.t 5), none⟩,
    ⟨some 16, .bin .add (.t 15) (.k (.int .i64 1)), none⟩,
    ⟨some 5, .mv (.t 16), none⟩]))))))
  (.seq (.ops [⟨some 4, .mv (.k (.bool true)), none⟩])
  .ret))))⟩
theorem c41 : compileF Try.prog [] 41 = some cf41 := by kernel_rfl
/-- laws.szMateWorld -/
def cf45 : CF := ⟨24, [.t 4],
  (.seq (.ops [⟨some 2, .bx (.t 0), none⟩,
    ⟨some 4, .mv (.k (.int .i64 0)), none⟩])
  (.seq (.ops [⟨some 5, .fa 0 3 0 (.t 2), none⟩,
    ⟨some 6, .ld 3 true (.t 5), none⟩,
    ⟨some 7, .mv (.t 1), none⟩,
    ⟨some 8, .call 12 [(.t 6), (.t 7)], none⟩,
    ⟨some 1, .mv (.t 8), none⟩])
  (.seq (.seq (.ops [⟨some 9, .mv (.t 1), none⟩,
    ⟨some 10, .bin .lss (.t 9) (.k (.int .i64 0)), none⟩])
  (.cond (.t 10)
  (.seq (.ops [⟨some 4, .mv (.k (.int .i64 (-1))), none⟩])
  .ret)
  .skip))
  (.seq (.ops [⟨some 11, .fa 3 1 1 (.t 2), none⟩,
    ⟨some 12, .ld 1 false (.t 11), none⟩,
    ⟨some 13, .mv (.t 1), none⟩,
    ⟨some 14, .call 100 [(.t 12), (.t 13)], none⟩,
    ⟨some 1, .mv (.t 14), none⟩])
  (.seq (.seq (.ops [⟨some 15, .mv (.t 1), none⟩,
    ⟨some 16, .bin .lss (.t 15) (.k (.int .i64 0)), none⟩])
  (.cond (.t 16)
  (.seq (.ops [⟨some 4, .mv (.k (.int .i64 (-1))), none⟩])
  .ret)
  .skip))
  (.seq (.ops [⟨some 17, .fa 4 1 2 (.t 2), none⟩,
    ⟨some 18, .ld 1 false (.t 17), none⟩,
    ⟨some 19, .mv (.t 1), none⟩,
    ⟨some 20, .call 36 [(.t 18), (.t 19)], none⟩,
    ⟨some 1, .mv (.t 20), none⟩])
  (.seq (.seq (.ops [⟨some 21, .mv (.t 1), none⟩,
    ⟨some 22, .bin .lss (.t 21) (.k (.int .i64 0)), none⟩])
  (.cond (.t 22)
  (.seq (.ops [⟨some 4, .mv (.k (.int .i64 (-1))), none⟩])
  .ret)
  .skip))
  (.seq (.ops [⟨some 23, .mv (.t 1), none⟩,
    ⟨some 4, .mv (.t 23), none⟩])
  .ret))))))))⟩
theorem c45 : compileF Try.prog [] 45 = some cf45 := by kernel_rfl
/-- laws.toMateWorld -/
def cf47 : CF := ⟨17, [.c 2 5 true],
  (.seq (.ops [⟨some 1, .bx (.t 0), none⟩,
    ⟨some 2, .al (.agg [.agg [.int .i64 0, .nil, .nil], .nil, .nil]), none⟩])
  (.seq (.ops [⟨some 3, .al (.agg [.agg [.int .i64 0, .nil, .nil], .nil, .nil]), none⟩])
  (.seq (.ops [⟨some 4, .fa 0 3 0 (.t 1), none⟩,
    ⟨some 5, .ld 3 true (.t 4), none⟩,
    ⟨some 6, .call 14 [(.t 5)], none⟩,
    ⟨some 7, .fa 0 3 0 (.t 3), none⟩,
    ⟨none, .st 3 (.t 7) (.t 6), none⟩])
  (.seq (.ops [⟨some 8, .fa 3 1 1 (.t 1), none⟩,
    ⟨some 9, .ld 1 false (.t 8), none⟩,
    ⟨some 10, .call 102 [(.t 9)], none⟩,
    ⟨some 11, .fa 3 1 1 (.t 3), none⟩,
    ⟨none, .st 1 (.t 11) (.t 10), none⟩])
  (.seq (.ops [⟨some 12, .fa 4 1 2 (.t 1), none⟩,
    ⟨some 13, .ld 1 false (.t 12), none⟩,
    ⟨some 14, .call 38 [(.t 13)], none⟩,
    ⟨some 15, .fa 4 1 2 (.t 3), none⟩,
    ⟨none, .st 1 (.t 15) (.t 14), none⟩])
  (.seq (.ops [⟨some 16, .ld 5 true (.t 3), none⟩,
    ⟨none, .st 5 (.t 2) (.t 16), none⟩])
  .ret))))))⟩
theorem c47 : compileF Try.prog [] 47 = some cf47 := by kernel_rfl
/-- laws.eqMateWorld -/
def cf40 : CF := ⟨23, [.t 4],
  (.seq (.ops [⟨some 2, .bx (.t 0), none⟩,
    ⟨some 3, .bx (.t 1), none⟩,
    ⟨some 4, .mv (.k (.bool false)), none⟩])
  (.seq (.seq (.ops [⟨some 5, .fa 0 3 0 (.t 2), none⟩,
    ⟨some 6, .ld 3 true (.t 5), none⟩,
    ⟨some 7, .fa 0 3 0 (.t 3), none⟩,
    ⟨some 8, .ld 3 true (.t 7), none⟩,
    ⟨some 9, .call 16 [(.t 6), (.t 8)], none⟩,
    ⟨some 10, .not (.t 9), none⟩])
  (.cond (.t 10)
  (.seq (.ops [⟨some 4, .mv (.k (.bool false)), none⟩])
  .ret)
  .skip))
  (.seq (.seq (.ops [⟨some 11, .fa 3 1 1 (.t 2), none⟩,
    ⟨some 12, .ld 1 false (.t 11), none⟩,
    ⟨some 13, .fa 3 1 1 (.t 3), none⟩,
    ⟨some 14, .ld 1 false (.t 13), none⟩,
    ⟨some 15, .call 96 [(.t 12), (.t 14)], none⟩,
    ⟨some 16, .not (.t 15), none⟩])
  (.cond (.t 16)
  (.seq (.ops [⟨some 4, .mv (.k (.bool false)), none⟩])
  .ret)
  .skip))
  (.seq (.seq (.ops [⟨some 17, .fa 4 1 2 (.t 2), none⟩,
    ⟨some 18, .ld 1 false (.t 17), none⟩,
    ⟨some 19, .fa 4 1 2 (.t 3), none⟩,
    ⟨some 20, .ld 1 false (.t 19), none⟩,
    ⟨some 21, .call 41 [(.t 18), (.t 20)], none⟩,
    ⟨some 22, .not (.t 21), none⟩])
  (.cond (.t 22)
  (.seq (.ops [⟨some 4, .mv (.k (.bool false)), none⟩])
  .ret)
  .skip))
  (.seq (.ops [⟨some 4, .mv (.k (.bool true)), none⟩])
  .ret)))))⟩
theorem c40 : compileF Try.prog [] 40 = some cf40 := by kernel_rfl
theorem args_MateS {d : D} (h : Has (.sl 9 (.st [.str, .bool, .int .i64, .bool, .int .i64, .sl 7 (.st [.str, .int .i64, .str, .int .i64, .int .i64, .int .i64, .int .i64]), .sl 11 (.st [.st [.str, .int .i64, .str, .int .i64, .int .i64, .int .i64, .int .i64], .int .i64, .int .i64, .int .i64, .int .i64]), .sl 4 (.st [.str, .str, .int .i64, .int .i64]), .sl 4 (.st [.str, .str, .int .i64, .int .i64])])) d) : ∃ l : (List Mate), d = .ro 9 (l.map Mate.D) ∧ l.length ≤ 9223372036854775807 ∧ ∀ y ∈ l, y.wf := by
  rw [Has] at h
  obtain ⟨ds, rfl, hm, hd⟩ := h
  have : ∃ l : (List Mate), ds = l.map Mate.D ∧ ∀ y ∈ l, y.wf := by
    clear hm
    induction ds with
    | nil => exact ⟨[], rfl, by simp⟩
    | cons d ds ih =>
      obtain ⟨l, rfl, hl⟩ := ih (fun x hx => hd x (List.mem_cons_of_mem _ hx))
      obtain ⟨v, rfl, wv⟩ : ∃ v : Mate, d = Mate.D v ∧ v.wf := args_Mate (hd _ (List.mem_cons_self ..))
      exact ⟨v :: l, rfl, fun y hy => by rcases List.mem_cons.1 hy with rfl | hy <;> first | exact wv | exact hl y hy⟩
  obtain ⟨l, rfl, hl⟩ := this
  exact ⟨l, rfl, by rw [List.length_map] at hm; exact hm, hl⟩
theorem to_MateS (l : (List Mate)) (hs : l.length ≤ 1048576 ∧ ∀ y ∈ l, y.small) : Rdr Try.prog 102 [.ro 9 (l.map Mate.D)] (.ro 9 (l.map Mate.D)) :=
  toS_rdr hm c102 (zs := [.str ⟨#[]⟩, .bool false, .int .i64 0, .bool false, .int .i64 0, .nil, .nil, .nil, .nil]) rfl (by decide) (by decide) (by simpa using hs.1) (fun d hd => by obtain ⟨x, hx, rfl⟩ := List.mem_map.1 hd; exact ⟨_, rfl, rfl, to_Mate x (hs.2 x hx)⟩) (D.frozs_map (fun _ => rfl) _)
theorem eq_MateS (l : (List Mate)) (hs : l.length ≤ 1048576 ∧ ∀ y ∈ l, y.small) : Rdr Try.prog 96 [.ro 9 (l.map Mate.D), .ro 9 (l.map Mate.D)] (.bool true) :=
  eqS_rdr hm c96 (by decide) (by rw [List.length_map]; exact Nat.le_trans hs.1 (by decide)) (fun d hd => by obtain ⟨x, hx, rfl⟩ := List.mem_map.1 hd; exact ⟨_, rfl, rfl, eq_Mate x (hs.2 x hx)⟩)
theorem sz_MateS (l : (List Mate)) (k : Int) (hw : l.length ≤ 9223372036854775807 ∧ ∀ y ∈ l, y.wf) (h0 : 0 ≤ k) (h1 : k ≤ 1048576) : XC Try.prog 100 [.ro 9 (l.map Mate.D), .int .i64 k] [] (fun d ls => ls = [] ∧ ∃ n, d = .int .i64 n ∧ (0 ≤ n → n ≤ k ∧ l.length ≤ 1048576 ∧ ∀ y ∈ l, y.small)) :=
  szS_xc hm c100 (fun x : Mate => [.str x.fName, .bool x.fUp, .int .i64 x.fClock, .bool x.fKnown, .int .i64 x.fSeen, .ro 7 (x.fWants.map MateWant.D), .ro 11 (x.fRuns.map MateRun.D), .ro 4 (x.fAsks.map MateAsk.D), .ro 4 (x.fGives.map MateAsk.D)]) (fun x => x.small) l k (by decide) (fun x => rfl) hw.1 h0 h1 (fun x hx k' h0' h1' => sz_Mate x k' (hw.2 x hx) h0' h1')
theorem args_StringS {d : D} (h : Has (.sl 1 (.str)) d) : ∃ l : (List ByteArray), d = .ro 1 (l.map D.str) ∧ l.length ≤ 9223372036854775807 ∧ ∀ y ∈ l, y.size ≤ 9223372036854775807 := by
  rw [Has] at h
  obtain ⟨ds, rfl, hm, hd⟩ := h
  have : ∃ l : (List ByteArray), ds = l.map D.str ∧ ∀ y ∈ l, y.size ≤ 9223372036854775807 := by
    clear hm
    induction ds with
    | nil => exact ⟨[], rfl, by simp⟩
    | cons d ds ih =>
      obtain ⟨l, rfl, hl⟩ := ih (fun x hx => hd x (List.mem_cons_of_mem _ hx))
      obtain ⟨v, rfl, wv⟩ : ∃ v : ByteArray, d = D.str v ∧ v.size ≤ 9223372036854775807 := by
        have h := hd _ (List.mem_cons_self ..)
        rw [Has] at h
        obtain ⟨v, rfl, w⟩ := h
        exact ⟨v, rfl, w⟩
      exact ⟨v :: l, rfl, fun y hy => by rcases List.mem_cons.1 hy with rfl | hy <;> first | exact wv | exact hl y hy⟩
  obtain ⟨l, rfl, hl⟩ := this
  exact ⟨l, rfl, by rw [List.length_map] at hm; exact hm, hl⟩
theorem to_StringS (l : (List ByteArray)) (hs : l.length ≤ 1048576 ∧ ∀ y ∈ l, True) : Rdr Try.prog 38 [.ro 1 (l.map D.str)] (.ro 1 (l.map D.str)) := toStr_rdr hm c38 (by decide) hs.1
theorem eq_StringS (l : (List ByteArray)) (hs : l.length ≤ 1048576 ∧ ∀ y ∈ l, True) : Rdr Try.prog 41 [.ro 1 (l.map D.str), .ro 1 (l.map D.str)] (.bool true) := eqStr_rdr hm c41 hs.1
theorem sz_StringS (l : (List ByteArray)) (k : Int) (hw : l.length ≤ 9223372036854775807 ∧ ∀ y ∈ l, y.size ≤ 9223372036854775807) (h0 : 0 ≤ k) (h1 : k ≤ 1048576) : XC Try.prog 36 [.ro 1 (l.map D.str), .int .i64 k] [] (fun d ls => ls = [] ∧ ∃ n, d = .int .i64 n ∧ (0 ≤ n → n ≤ k ∧ l.length ≤ 1048576 ∧ ∀ y ∈ l, True)) := szT_xc hm c36 l k hw h0 h1
structure MateWorld where
  fLand : MateLand
  fMates : (List Mate)
  fFlight : (List ByteArray)
def MateWorld.D (x : MateWorld) : D := .agg [x.fLand.D, .ro 9 (x.fMates.map Mate.D), .ro 1 (x.fFlight.map D.str)]
instance : Inhabited MateWorld := ⟨⟨⟨0, [], []⟩, [], []⟩⟩
structure MateWorld.wf (x : MateWorld) : Prop where
  fLand : x.fLand.wf
  fMates : x.fMates.length ≤ 9223372036854775807 ∧ ∀ y ∈ x.fMates, y.wf
  fFlight : x.fFlight.length ≤ 9223372036854775807 ∧ ∀ y ∈ x.fFlight, y.size ≤ 9223372036854775807
structure MateWorld.small (x : MateWorld) : Prop where
  fLand : x.fLand.small
  fMates : x.fMates.length ≤ 1048576 ∧ ∀ y ∈ x.fMates, y.small
  fFlight : x.fFlight.length ≤ 1048576 ∧ ∀ y ∈ x.fFlight, True
theorem MateWorld.len (x : MateWorld) : x.D.len = 5 := by rfl
theorem args_MateWorld {d : D} (h : Has (.st [.st [.int .i64, .sl 5 (.st [.str, .str, .str, .int .i64, .int .i64]), .sl 3 (.st [.str, .int .i64, .sl 7 (.st [.str, .int .i64, .str, .int .i64, .int .i64, .int .i64, .int .i64])])], .sl 9 (.st [.str, .bool, .int .i64, .bool, .int .i64, .sl 7 (.st [.str, .int .i64, .str, .int .i64, .int .i64, .int .i64, .int .i64]), .sl 11 (.st [.st [.str, .int .i64, .str, .int .i64, .int .i64, .int .i64, .int .i64], .int .i64, .int .i64, .int .i64, .int .i64]), .sl 4 (.st [.str, .str, .int .i64, .int .i64]), .sl 4 (.st [.str, .str, .int .i64, .int .i64])]), .sl 1 (.str)]) d) : ∃ x : MateWorld, d = x.D ∧ x.wf := by
  rw [Has] at h
  obtain ⟨_, rfl, h⟩ := h
  simp only [HasF] at h
  obtain ⟨_, _, rfl, hLand, _, _, rfl, hMates, _, _, rfl, hFlight, rfl⟩ := h
  obtain ⟨vLand, rfl, wLand⟩ := args_MateLand hLand
  obtain ⟨vMates, rfl, wMates⟩ := args_MateS hMates
  obtain ⟨vFlight, rfl, wFlight⟩ := args_StringS hFlight
  exact ⟨⟨vLand, vMates, vFlight⟩, rfl, ⟨wLand, wMates, wFlight⟩⟩
theorem sz_MateWorld (x : MateWorld) (k : Int) (hw : x.wf) (h0 : 0 ≤ k) (h1 : k ≤ 1048576) : XC Try.prog 45 [x.D, .int .i64 k] [] (fun d ls => ls = [] ∧ ∃ n, d = .int .i64 n ∧ (0 ≤ n → n ≤ k ∧ x.small)) := by
  refine XC.intro' hm [] rfl c45 (Nat.le_of_ble_eq_true rfl) ?_
  conv => whnf
  repeat' (first | (refine g_op ?_; conv => whnf) | (refine And.intro ?_ ?_; (focus (first | exact rfl | exact Nat.le_of_ble_eq_true rfl | decide | omega | fail)); conv => whnf) | (refine g_seq ?_) | (refine XS.go ?_) | (refine g_ops ?_) | (refine g_nil ?_; conv => whnf) | (refine fun _ => ?_; conv => whnf) | fail)
  refine XCL.ask (sz_MateLand x.fLand _ hw.fLand (by omega) (by omega)) (fun d h => ?_)
  obtain ⟨n1, rfl, m1⟩ := h
  conv => whnf
  repeat' (first | (refine g_op ?_; conv => whnf) | (refine And.intro ?_ ?_; (focus (first | exact rfl | exact Nat.le_of_ble_eq_true rfl | decide | omega | fail)); conv => whnf) | (refine g_seq ?_) | (refine XS.go ?_) | (refine g_ops ?_) | (refine g_nil ?_; conv => whnf) | (refine g_cond ?_; conv => whnf) | fail)
  refine Br.mk (fun hb => ?_) (fun hb => ?_)
  · conv => whnf
    repeat' (first | (refine g_op ?_; conv => whnf) | (refine And.intro ?_ ?_; (focus (first | exact rfl | exact Nat.le_of_ble_eq_true rfl | decide | omega | fail)); conv => whnf) | (refine g_seq ?_) | (refine XS.go ?_) | (refine g_ops ?_) | (refine g_nil ?_; conv => whnf) | (refine g_ret ?_; conv => whnf) | (refine r_t ?_; conv => whnf) | (refine r_nil ?_; conv => whnf) | fail)
    exact ⟨_, rfl, fun h => absurd h (by decide)⟩
  have p1 : 0 ≤ n1 := Int.not_lt.1 (of_decide_eq_false hb)
  obtain ⟨l1, s1⟩ := m1 p1
  conv => whnf
  repeat' (first | (refine g_op ?_; conv => whnf) | (refine And.intro ?_ ?_; (focus (first | exact rfl | exact Nat.le_of_ble_eq_true rfl | decide | omega | fail)); conv => whnf) | (refine g_seq ?_) | (refine XS.go ?_) | (refine g_ops ?_) | (refine g_skip ?_; conv => whnf) | fail)
  refine XCL.ask (sz_MateS x.fMates _ hw.fMates (by omega) (by omega)) (fun d h => ?_)
  obtain ⟨n2, rfl, m2⟩ := h
  conv => whnf
  repeat' (first | (refine g_op ?_; conv => whnf) | (refine And.intro ?_ ?_; (focus (first | exact rfl | exact Nat.le_of_ble_eq_true rfl | decide | omega | fail)); conv => whnf) | (refine g_seq ?_) | (refine XS.go ?_) | (refine g_ops ?_) | (refine g_nil ?_; conv => whnf) | (refine g_cond ?_; conv => whnf) | fail)
  refine Br.mk (fun hb => ?_) (fun hb => ?_)
  · conv => whnf
    repeat' (first | (refine g_op ?_; conv => whnf) | (refine And.intro ?_ ?_; (focus (first | exact rfl | exact Nat.le_of_ble_eq_true rfl | decide | omega | fail)); conv => whnf) | (refine g_seq ?_) | (refine XS.go ?_) | (refine g_ops ?_) | (refine g_nil ?_; conv => whnf) | (refine g_ret ?_; conv => whnf) | (refine r_t ?_; conv => whnf) | (refine r_nil ?_; conv => whnf) | fail)
    exact ⟨_, rfl, fun h => absurd h (by decide)⟩
  have p2 : 0 ≤ n2 := Int.not_lt.1 (of_decide_eq_false hb)
  obtain ⟨l2, s2⟩ := m2 p2
  conv => whnf
  repeat' (first | (refine g_op ?_; conv => whnf) | (refine And.intro ?_ ?_; (focus (first | exact rfl | exact Nat.le_of_ble_eq_true rfl | decide | omega | fail)); conv => whnf) | (refine g_seq ?_) | (refine XS.go ?_) | (refine g_ops ?_) | (refine g_skip ?_; conv => whnf) | fail)
  refine XCL.ask (sz_StringS x.fFlight _ hw.fFlight (by omega) (by omega)) (fun d h => ?_)
  obtain ⟨n3, rfl, m3⟩ := h
  conv => whnf
  repeat' (first | (refine g_op ?_; conv => whnf) | (refine And.intro ?_ ?_; (focus (first | exact rfl | exact Nat.le_of_ble_eq_true rfl | decide | omega | fail)); conv => whnf) | (refine g_seq ?_) | (refine XS.go ?_) | (refine g_ops ?_) | (refine g_nil ?_; conv => whnf) | (refine g_cond ?_; conv => whnf) | fail)
  refine Br.mk (fun hb => ?_) (fun hb => ?_)
  · conv => whnf
    repeat' (first | (refine g_op ?_; conv => whnf) | (refine And.intro ?_ ?_; (focus (first | exact rfl | exact Nat.le_of_ble_eq_true rfl | decide | omega | fail)); conv => whnf) | (refine g_seq ?_) | (refine XS.go ?_) | (refine g_ops ?_) | (refine g_nil ?_; conv => whnf) | (refine g_ret ?_; conv => whnf) | (refine r_t ?_; conv => whnf) | (refine r_nil ?_; conv => whnf) | fail)
    exact ⟨_, rfl, fun h => absurd h (by decide)⟩
  have p3 : 0 ≤ n3 := Int.not_lt.1 (of_decide_eq_false hb)
  obtain ⟨l3, s3⟩ := m3 p3
  conv => whnf
  repeat' (first | (refine g_op ?_; conv => whnf) | (refine And.intro ?_ ?_; (focus (first | exact rfl | exact Nat.le_of_ble_eq_true rfl | decide | omega | fail)); conv => whnf) | (refine g_seq ?_) | (refine XS.go ?_) | (refine g_ops ?_) | (refine g_nil ?_; conv => whnf) | (refine g_skip ?_; conv => whnf) | (refine g_ret ?_; conv => whnf) | (refine r_t ?_; conv => whnf) | (refine r_nil ?_; conv => whnf) | fail)
  exact ⟨_, rfl, fun _ => ⟨by omega, ⟨s1, s2, s3⟩⟩⟩
theorem to_MateWorld (x : MateWorld) (hs : x.small) : Rdr Try.prog 47 [x.D] x.D := by
  refine Rdr.intro' hm c47 (Nat.le_of_ble_eq_true rfl) ?_
  conv => whnf
  repeat' (first | (refine g_op ?_; conv => whnf) | (refine And.intro ?_ ?_; (focus (first | exact rfl | exact Nat.le_of_ble_eq_true rfl | decide | omega | fail)); conv => whnf) | (refine g_seq ?_) | (refine XS.go ?_) | (refine g_ops ?_) | (refine g_nil ?_; conv => whnf) | (refine g_ret ?_; conv => whnf) | (refine r_c ?_; conv => whnf) | (refine r_nil ?_; conv => whnf) | (refine fun _ => ?_; conv => whnf) | (refine XCL.of_rdr (to_MateLand x.fLand hs.fLand) ?_; conv => whnf) | (refine XCL.of_rdr (to_MateS x.fMates hs.fMates) ?_; conv => whnf) | (refine XCL.of_rdr (to_StringS x.fFlight hs.fFlight) ?_; conv => whnf) | fail)
  all_goals rfl
theorem eq_MateWorld (x : MateWorld) (hs : x.small) : Rdr Try.prog 40 [x.D, x.D] (.bool true) := by
  refine Rdr.intro' hm c40 (Nat.le_of_ble_eq_true rfl) ?_
  conv => whnf
  repeat' (first | (refine g_op ?_; conv => whnf) | (refine And.intro ?_ ?_; (focus (first | exact rfl | exact Nat.le_of_ble_eq_true rfl | decide | omega | fail)); conv => whnf) | (refine g_seq ?_) | (refine XS.go ?_) | (refine g_ops ?_) | (refine g_nil ?_; conv => whnf) | (refine Br.f ?_ ?_; (focus (first | assumption | exact rfl)); conv => whnf) | (refine g_cond ?_; conv => whnf) | (refine g_skip ?_; conv => whnf) | (refine g_ret ?_; conv => whnf) | (refine r_t ?_; conv => whnf) | (refine r_nil ?_; conv => whnf) | (refine fun _ => ?_; conv => whnf) | (refine XCL.of_rdr (eq_MateLand x.fLand hs.fLand) ?_; conv => whnf) | (refine XCL.of_rdr (eq_MateS x.fMates hs.fMates) ?_; conv => whnf) | (refine XCL.of_rdr (eq_StringS x.fFlight hs.fFlight) ?_; conv => whnf) | fail)
  all_goals rfl
/-- spec.MateWorldOk -/
def cf46 : CF := ⟨55, [.t 2],
  (.seq (.ops [⟨some 1, .bx (.t 0), none⟩,
    ⟨some 2, .mv (.k (.bool false)), none⟩])
  (.seq (.seq (.ops [⟨some 4, .fa 0 3 0 (.t 1), none⟩,
    ⟨some 5, .ld 3 true (.t 4), none⟩,
    ⟨some 6, .call 13 [(.t 5)], none⟩,
    ⟨some 7, .not (.t 6), none⟩,
    ⟨some 8, .mv (.t 7), none⟩,
    ⟨some 9, .fa 3 1 1 (.t 1), some (8, false)⟩,
    ⟨some 10, .ld 1 false (.t 9), some (8, false)⟩,
    ⟨some 11, .lenl (.t 10), some (8, false)⟩,
    ⟨some 12, .call 59 [(.t 11), (.k (.int .i64 1)), (.k (.int .i64 4))], some (8, false)⟩,
    ⟨some 13, .not (.t 12), some (8, false)⟩,
    ⟨some 14, .pick (.t 8) (.k (.bool true)) (.t 13), none⟩,
    ⟨some 15, .mv (.t 14), none⟩,
    ⟨some 16, .fa 4 1 2 (.t 1), some (15, false)⟩,
    ⟨some 17, .ld 1 false (.t 16), some (15, false)⟩,
    ⟨some 18, .lenl (.t 17), some (15, false)⟩,
    ⟨some 19, .bin .gtr (.t 18) (.k (.int .i64 300)), some (15, false)⟩,
    ⟨some 20, .pick (.t 15) (.k (.bool true)) (.t 19), none⟩])
  (.cond (.t 20)
  (.seq (.ops [⟨some 2, .mv (.k (.bool false)), none⟩])
  .ret)
  .skip))
  (.seq (.seq (.ops [⟨some 3, .mv (.k (.int .i64 0)), none⟩])
  (.block 0 (.loop (.seq (.seq (.ops [⟨some 21, .mv (.t 3), none⟩,
    ⟨some 22, .fa 3 1 1 (.t 1), none⟩,
    ⟨some 23, .ld 1 false (.t 22), none⟩,
    ⟨some 24, .lenl (.t 23), none⟩,
    ⟨some 25, .bin .lss (.t 21) (.t 24), none⟩])
  (.cond (.t 25)
  .skip
  (.exit 0)))
  (.seq (.block 1 (.seq (.quiet [⟨some 28, .fa 3 1 1 (.t 1), none⟩,
    ⟨some 29, .ld 1 false (.t 28), none⟩,
    ⟨some 30, .mv (.t 3), none⟩,
    ⟨some 31, .ix 9 (.t 29) (.t 30), none⟩,
    ⟨some 32, .ld 9 true (.t 31), none⟩,
    ⟨some 33, .call 101 [(.t 32)], none⟩,
    ⟨some 34, .not (.t 33), none⟩,
    ⟨some 35, .mv (.t 34), none⟩,
    ⟨some 36, .mv (.t 3), some (35, false)⟩,
    ⟨some 37, .bin .gtr (.t 36) (.k (.int .i64 0)), some (35, false)⟩,
    ⟨some 38, .mv (.t 37), some (35, false)⟩,
    ⟨some 39, .fa 3 1 1 (.t 1), some (38, true)⟩,
    ⟨some 40, .ld 1 false (.t 39), some (38, true)⟩,
    ⟨some 41, .mv (.t 3), some (38, true)⟩,
    ⟨some 42, .bin .sub (.t 41) (.k (.int .i64 1)), some (38, true)⟩,
    ⟨some 43, .ix 9 (.t 40) (.t 42), some (38, true)⟩,
    ⟨some 44, .fa 0 1 0 (.t 43), some (38, true)⟩,
    ⟨some 45, .ld 1 false (.t 44), some (38, true)⟩,
    ⟨some 46, .fa 3 1 1 (.t 1), some (38, true)⟩,
    ⟨some 47, .ld 1 false (.t 46), some (38, true)⟩,
    ⟨some 48, .mv (.t 3), some (38, true)⟩,
    ⟨some 49, .ix 9 (.t 47) (.t 48), some (38, true)⟩,
    ⟨some 50, .fa 0 1 0 (.t 49), some (38, true)⟩,
    ⟨some 51, .ld 1 false (.t 50), some (38, true)⟩,
    ⟨some 52, .bin .geq (.t 45) (.t 51), some (38, true)⟩,
    ⟨some 53, .pick (.t 38) (.t 52) (.k (.bool false)), some (35, false)⟩,
    ⟨some 54, .pick (.t 35) (.k (.bool true)) (.t 53), none⟩])
  (.cond (.t 54)
  (.seq (.ops [⟨some 2, .mv (.k (.bool false)), none⟩])
  .ret)
  .skip)))
  (.ops [⟨some 26, .mv (.t 3), none⟩,
    ⟨some 27, .bin .add (.t 26) (.k (.int .i64 1)), none⟩,
    ⟨some 3, .mv (.t 27), none⟩]))))))
  (.seq (.ops [⟨some 2, .mv (.k (.bool true)), none⟩])
  .ret))))⟩
theorem c46 : compileF Try.prog [] 46 = some cf46 := by kernel_rfl
/-- impl.MateWorldOk -/
def cf48 : CF := ⟨55, [.t 2],
  (.seq (.ops [⟨some 1, .bx (.t 0), none⟩,
    ⟨some 2, .mv (.k (.bool false)), none⟩])
  (.seq (.seq (.ops [⟨some 5, .fa 0 3 0 (.t 1), none⟩,
    ⟨some 6, .ld 3 true (.t 5), none⟩,
    ⟨some 7, .call 15 [(.t 6)], none⟩,
    ⟨some 8, .not (.t 7), none⟩,
    ⟨some 9, .mv (.t 8), none⟩,
    ⟨some 10, .fa 3 1 1 (.t 1), some (9, false)⟩,
    ⟨some 11, .ld 1 false (.t 10), some (9, false)⟩,
    ⟨some 12, .lenl (.t 11), some (9, false)⟩,
    ⟨some 13, .bin .lss (.t 12) (.k (.int .i64 1)), some (9, false)⟩,
    ⟨some 14, .pick (.t 9) (.k (.bool true)) (.t 13), none⟩,
    ⟨some 15, .mv (.t 14), none⟩,
    ⟨some 16, .fa 3 1 1 (.t 1), some (15, false)⟩,
    ⟨some 17, .ld 1 false (.t 16), some (15, false)⟩,
    ⟨some 18, .lenl (.t 17), some (15, false)⟩,
    ⟨some 19, .bin .gtr (.t 18) (.k (.int .i64 4)), some (15, false)⟩,
    ⟨some 20, .pick (.t 15) (.k (.bool true)) (.t 19), none⟩,
    ⟨some 21, .mv (.t 20), none⟩,
    ⟨some 22, .fa 4 1 2 (.t 1), some (21, false)⟩,
    ⟨some 23, .ld 1 false (.t 22), some (21, false)⟩,
    ⟨some 24, .lenl (.t 23), some (21, false)⟩,
    ⟨some 25, .bin .gtr (.t 24) (.k (.int .i64 300)), some (21, false)⟩,
    ⟨some 26, .pick (.t 21) (.k (.bool true)) (.t 25), none⟩])
  (.cond (.t 26)
  (.seq (.ops [⟨some 2, .mv (.k (.bool false)), none⟩])
  .ret)
  .skip))
  (.seq (.seq (.ops [⟨some 27, .fa 3 1 1 (.t 1), none⟩,
    ⟨some 28, .ld 1 false (.t 27), none⟩,
    ⟨some 29, .lenl (.t 28), none⟩,
    ⟨some 30, .mv (.k (.int .i64 0)), none⟩])
  (.block 0 (.loop (.seq (.ops [⟨some 31, .bin .lss (.t 30) (.t 29), none⟩])
  (.seq (.cond (.t 31)
  .skip
  (.exit 0))
  (.seq (.block 1 (.seq (.ops [⟨some 32, .mv (.t 30), none⟩,
    ⟨some 33, .ix 9 (.t 28) (.t 30), none⟩,
    ⟨some 34, .ld 9 true (.t 33), none⟩,
    ⟨some 4, .al (.agg [.str ⟨#[]⟩, .bool false, .int .i64 0, .bool false, .int .i64 0, .nil, .nil, .nil, .nil]), none⟩,
    ⟨some 3, .mv (.t 32), none⟩,
    ⟨none, .st 9 (.t 4) (.t 34), none⟩])
  (.seq (.quiet [⟨some 35, .ld 9 true (.t 4), none⟩,
    ⟨some 36, .call 103 [(.t 35)], none⟩,
    ⟨some 37, .not (.t 36), none⟩,
    ⟨some 38, .mv (.t 37), none⟩,
    ⟨some 39, .mv (.t 3), some (38, false)⟩,
    ⟨some 40, .bin .gtr (.t 39) (.k (.int .i64 0)), some (38, false)⟩,
    ⟨some 41, .mv (.t 40), some (38, false)⟩,
    ⟨some 42, .fa 0 1 0 (.t 4), some (41, true)⟩,
    ⟨some 43, .ld 1 false (.t 42), some (41, true)⟩,
    ⟨some 44, .fa 3 1 1 (.t 1), some (41, true)⟩,
    ⟨some 45, .ld 1 false (.t 44), some (41, true)⟩,
    ⟨some 46, .mv (.t 3), some (41, true)⟩,
    ⟨some 47, .bin .sub (.t 46) (.k (.int .i64 1)), some (41, true)⟩,
    ⟨some 48, .ix 9 (.t 45) (.t 47), some (41, true)⟩,
    ⟨some 49, .fa 0 1 0 (.t 48), some (41, true)⟩,
    ⟨some 50, .ld 1 false (.t 49), some (41, true)⟩,
    ⟨some 51, .bin .leq (.t 43) (.t 50), some (41, true)⟩,
    ⟨some 52, .pick (.t 41) (.t 51) (.k (.bool false)), some (38, false)⟩,
    ⟨some 53, .pick (.t 38) (.k (.bool true)) (.t 52), none⟩])
  (.cond (.t 53)
  (.seq (.ops [⟨some 2, .mv (.k (.bool false)), none⟩])
  .ret)
  .skip))))
  (.ops [⟨some 54, .bin .add (.t 30) (.k (.int .i64 1)), none⟩,
    ⟨some 30, .mv (.t 54), none⟩])))))))
  (.seq (.ops [⟨some 2, .mv (.k (.bool true)), none⟩])
  .ret))))⟩
theorem c48 : compileF Try.prog [] 48 = some cf48 := by kernel_rfl
def oS (w : MateWorld) (i : Nat) : Bool := validM (w.fMates.getD i default) && !(decide ((i : Int) > 0) && !Op.bytesLess (w.fMates.getD (pr i) default).fName.toList (w.fMates.getD i default).fName.toList)
def wH (w : MateWorld) : Bool := !landOk w.fLand || decide ((w.fMates.length : Int) < 1) || decide ((w.fMates.length : Int) > 4) || decide ((w.fFlight.length : Int) > 300)
def worldOk (w : MateWorld) : Bool := !wH w && (allN (oS w) w.fMates.length 0 && true)
theorem wH_mates {w : MateWorld} (h : wH w = false) : w.fMates.length ≤ 4 := by
  simp only [wH, Bool.or_eq_false_iff, decide_eq_false_iff_not] at h
  omega
set_option maxHeartbeats 8000000 in
theorem spec_WorldOk (w : MateWorld) (hz : ∀ i, (w.fLand.fPlaces.getD i default).fWants.length ≤ 1048576) : Rdr Try.prog 46 [w.D] (.bool (worldOk w)) := by
  refine Rdr.intro' hm c46 (Nat.le_of_ble_eq_true rfl) ?_
  conv => whnf
  repeat' (first | (refine g_op ?_; conv => whnf) | (refine And.intro ?_ ?_; (focus (first | exact rfl | exact Nat.le_of_ble_eq_true rfl | decide | omega | fail)); conv => whnf) | (refine g_seq ?_) | (refine g_ops ?_) | (refine g_nil ?_; conv => whnf) | (refine fun _ => ?_; conv => whnf) | fail)
  refine XS.freezeB 1 rfl ?_
  repeat' (first | (refine z_ld1 ?_; first | (refine z_ld rfl rfl rfl rfl (by first | (simp only [List.length_set]; assumption) | assumption | omega) (by first | exact elt_set (by first | assumption | (simp only [List.length_set]; assumption)) | assumption) ?_; conv => whnf) | (refine z_ld0 rfl ?_; conv => whnf)) | (refine z_ld1g ?_; first | (refine z_ldg rfl rfl rfl rfl rfl rfl rfl (by (repeat intro _); exact ⟨(by first | (simp only [List.length_set]; assumption) | assumption | omega), (by first | exact elt_set (by first | assumption | (simp only [List.length_set]; assumption)) | assumption)⟩) rfl rfl rfl rfl ?_; conv => whnf) | (refine z_ld0g ?_; (conv => whnf); refine And.intro ?_ ?_; (focus exact rfl); conv => whnf)) | (refine z_op ?_ ?_; (focus exact rfl); conv => whnf) | (refine z_opg0 ?_; (conv => whnf); refine And.intro ?_ ?_; (focus exact rfl); conv => whnf) | (refine z_pick ?_ ?_; (focus exact rfl); conv => whnf) | (refine zs_ops ?_ ?_; (focus exact rfl)) | (refine z_nil fun vals => ?_; conv => whnf) | (refine z_call ?_ ?_; (focus exact rfl)) | (refine z_callg0 ?_; (conv => whnf); refine And.intro ?_ ?_; (focus exact rfl)) | (refine RC.of (spec_LandOk w.fLand hz) ?_ ?_; (focus exact rfl); conv => whnf) | (refine RC.of (spec_In _ _ _) ?_ ?_; (focus exact rfl); conv => whnf) | (refine And.intro ?_ ?_; (focus (first | exact rfl | exact Nat.le_of_ble_eq_true rfl | decide | omega | fail)); conv => whnf) | (refine g_seq ?_) | (refine XS.go ?_) | (refine g_cond ?_; conv => whnf) | fail)
  simp only [mlen']
  refine Br.mk (fun hb => ?_) (fun hb => ?_)
  · have hc : wH w = true := by
      rw [← hb]
      unfold wH inR
      cases landOk w.fLand <;> simp <;> first | done | (by_cases h1 : (w.fMates.length : Int) < 1 <;> by_cases h2 : (w.fMates.length : Int) > 4 <;> simp [h1, h2] <;> omega)
    conv => whnf
    repeat' (first | (refine g_op ?_; conv => whnf) | (refine And.intro ?_ ?_; (focus (first | exact rfl | exact Nat.le_of_ble_eq_true rfl | decide | omega | fail)); conv => whnf) | (refine g_seq ?_) | (refine XS.go ?_) | (refine g_ops ?_) | (refine g_nil ?_; conv => whnf) | (refine g_ret ?_; conv => whnf) | (refine r_t ?_; conv => whnf) | (refine r_nil ?_; conv => whnf) | fail)
    (conv => lhs; whnf)
    rw [worldOk, hc]
    rfl
  have hc : wH w = false := by
    rw [← hb]
    unfold wH inR
    cases landOk w.fLand <;> simp <;> first | done | (by_cases h1 : (w.fMates.length : Int) < 1 <;> by_cases h2 : (w.fMates.length : Int) > 4 <;> simp [h1, h2] <;> omega)
  have hv : worldOk w = (allN (oS w) w.fMates.length 0 && true) := by rw [worldOk, hc]; rfl
  have hl := wH_mates hc
  clear hb hc
  conv => whnf
  repeat' (first | (refine g_op ?_; conv => whnf) | (refine And.intro ?_ ?_; (focus (first | exact rfl | exact Nat.le_of_ble_eq_true rfl | decide | omega | fail)); conv => whnf) | (refine g_seq ?_) | (refine XS.go ?_) | (refine g_ops ?_) | (refine g_loop ?_) | (refine g_nil ?_; conv => whnf) | (refine g_skip ?_; conv => whnf) | (refine g_block ?_) | fail)
  refine XLc.mkL (α := Nat) (fun i => i ≤ w.fMates.length ∧ worldOk w = (allN (oS w) (w.fMates.length - i) i && true)) (fun i => w.fMates.length - i) (fun i gs => [.any, .cref w.D, .any, .int .i64 (i : Int)]) (fun i gs => []) 0 ⟨Nat.zero_le _, hv⟩ ?_ ?_
  · refine ⟨?_, ?_⟩
    · repeat' (first | exact True.intro | refine And.intro rfl ?_)
    · repeat' (first | exact True.intro | refine And.intro rfl ?_)
  intro i gs hI
  obtain ⟨hi, hN⟩ := hI
  repeat' (first | (refine z_ld1 ?_; first | (refine z_ld rfl rfl rfl rfl (by first | (simp only [List.length_set]; assumption) | assumption | omega) (by first | exact elt_set (by first | assumption | (simp only [List.length_set]; assumption)) | assumption) ?_; conv => whnf) | (refine z_ld0 rfl ?_; conv => whnf)) | (refine z_op ?_ ?_; (focus exact rfl); conv => whnf) | (refine zs_ops ?_ ?_; (focus exact rfl)) | (refine z_nil fun vals => ?_; conv => whnf) | (refine And.intro ?_ ?_; (focus (first | exact rfl | exact Nat.le_of_ble_eq_true rfl | decide | omega | fail)); conv => whnf) | (refine g_seq ?_) | (refine XS.go ?_) | (refine g_cond ?_; conv => whnf) | fail)
  refine Br.mk (fun hb => ?_) (fun hb => ?_)
  · have hlt : i < w.fMates.length := by simpa using hb
    have hw : IntKind.wrap .i64 ((i : Int) + 1) = ((i + 1 : Nat) : Int) := by rw [wrap_ok (by omega) (by omega)]; rfl
    have hw1 : IntKind.wrap .i64 ((i : Int) - 1) = (i : Int) - 1 := wrap_ok (by omega) (by omega)
    have hbad := fun h => allN_bad (f := oS w) hlt hN h
    have hgood := fun h => allN_good (f := oS w) hlt hN h
    clear hN hb
    all_goals conv => whnf
    repeat' (first | (refine z_ld1 ?_; first | (refine z_ld rfl rfl rfl rfl (by first | (simp only [List.length_set]; assumption) | assumption | omega) (by first | exact elt_set (by first | assumption | (simp only [List.length_set]; assumption)) | assumption) ?_; conv => whnf) | (refine z_ld0 rfl ?_; conv => whnf)) | (refine z_ld1g ?_; first | (refine z_ldg rfl rfl rfl rfl rfl rfl rfl (by (repeat intro _); exact ⟨(by first | (simp only [List.length_set]; assumption) | assumption | omega), (by first | exact elt_set (by first | assumption | (simp only [List.length_set]; assumption)) | assumption)⟩) rfl rfl rfl rfl ?_; conv => whnf) | (refine z_ld0g ?_; (conv => whnf); refine And.intro ?_ ?_; (focus exact rfl); conv => whnf)) | (refine z_ix1 ?_; first | (refine z_ix rfl rfl rfl rfl rfl ⟨by first | omega | (simp only [decide_eq_true_eq, Bool.not_eq_true', Bool.or_eq_false_iff, decide_eq_false_iff_not, Bool.and_eq_true, Bool.not_eq_false'] at *; omega), by first | omega | (simp only [decide_eq_true_eq, Bool.not_eq_true', Bool.or_eq_false_iff, decide_eq_false_iff_not, Bool.and_eq_true, Bool.not_eq_false'] at *; omega)⟩ ?_; conv => whnf) | (refine z_ix0 rfl rfl ?_; conv => whnf)) | (refine z_ix1g ?_; refine z_ixg rfl rfl rfl rfl rfl rfl rfl (by (repeat intro _); refine ⟨?_, ?_⟩ <;> first | omega | (simp only [decide_eq_true_eq, Bool.not_eq_true', Bool.or_eq_false_iff, decide_eq_false_iff_not, Bool.and_eq_true, Bool.not_eq_false'] at *; omega)) ?_) | (refine z_op ?_ ?_; (focus exact rfl); conv => whnf) | (refine z_opg0 ?_; (conv => whnf); refine And.intro ?_ ?_; (focus exact rfl); conv => whnf) | (refine z_pick ?_ ?_; (focus exact rfl); conv => whnf) | (refine z_pickg ?_; (conv => whnf); refine And.intro ?_ ?_; (focus exact rfl); conv => whnf) | (refine zs_quiet ?_ ?_; (focus exact rfl)) | (refine z_nil fun vals => ?_; conv => whnf) | (refine z_call ?_ ?_; (focus exact rfl)) | (refine RC.of (spec_MateValid _) ?_ ?_; (focus exact rfl); conv => whnf) | (refine g_op ?_; conv => whnf) | (refine And.intro ?_ ?_; (focus (first | exact rfl | exact Nat.le_of_ble_eq_true rfl | decide | omega | fail)); conv => whnf) | (refine g_seq ?_) | (refine XS.go ?_) | (refine g_ops ?_) | (refine g_nil ?_; conv => whnf) | (refine g_cond ?_; conv => whnf) | (refine g_skip ?_; conv => whnf) | (refine g_ret ?_; conv => whnf) | (refine g_block ?_) | (refine r_t ?_; conv => whnf) | (refine r_nil ?_; conv => whnf) | (refine Br.mk (fun hb => ?_) (fun hb => ?_) <;> conv => whnf) | fail)
    all_goals
      first
      | (refine ⟨(), hbad ?_, ⟨?_, True.intro⟩⟩
         · clear hbad hgood hw 
           first | (first | (refine (Bool.eq_false_iff.mpr fun h => ?_).symm; simp_all [oS, pr]; done) | (refine Bool.eq_false_iff.mpr fun h => ?_; simp_all [oS, pr]; done) | (simp_all [oS, pr]; done) | (simp_all [oS, pr]; omega) | (refine (Bool.eq_false_iff.mpr fun h => ?_).symm; simp_all [oS, pr]; omega) | (refine Bool.eq_false_iff.mpr fun h => ?_; simp_all [oS, pr]; omega) | (rw [Bool.eq_iff_iff]; constructor <;> intro h <;> simp_all [oS, pr] <;> omega) | fail) | (rcases Nat.eq_zero_or_pos i with h0 | h0 <;> simp_all [oS, pr] <;> omega) | (fail) | fail
         · repeat' (first | exact True.intro | refine And.intro rfl ?_))
      | (conv => lhs; whnf
         refine congrArg D.bool (hbad ?_)
         clear hbad hgood hw 
         first | (first | (refine (Bool.eq_false_iff.mpr fun h => ?_).symm; simp_all [oS, pr]; done) | (refine Bool.eq_false_iff.mpr fun h => ?_; simp_all [oS, pr]; done) | (simp_all [oS, pr]; done) | (simp_all [oS, pr]; omega) | (refine (Bool.eq_false_iff.mpr fun h => ?_).symm; simp_all [oS, pr]; omega) | (refine Bool.eq_false_iff.mpr fun h => ?_; simp_all [oS, pr]; omega) | (rw [Bool.eq_iff_iff]; constructor <;> intro h <;> simp_all [oS, pr] <;> omega) | fail) | (rcases Nat.eq_zero_or_pos i with h0 | h0 <;> simp_all [oS, pr] <;> omega) | (fail) | fail)
      | (refine ⟨i + 1, ⟨by omega, ?_⟩, by omega, ?_, ?_⟩
         · refine hgood ?_
           clear hbad hgood hw 
           first | (first | (refine (Bool.eq_false_iff.mpr fun h => ?_).symm; simp_all [oS, pr]; done) | (refine Bool.eq_false_iff.mpr fun h => ?_; simp_all [oS, pr]; done) | (simp_all [oS, pr]; done) | (simp_all [oS, pr]; omega) | (refine (Bool.eq_false_iff.mpr fun h => ?_).symm; simp_all [oS, pr]; omega) | (refine Bool.eq_false_iff.mpr fun h => ?_; simp_all [oS, pr]; omega) | (rw [Bool.eq_iff_iff]; constructor <;> intro h <;> simp_all [oS, pr] <;> omega) | fail) | (rcases Nat.eq_zero_or_pos i with h0 | h0 <;> simp_all [oS, pr] <;> omega) | (fail) | fail
         · repeat' (first | exact True.intro | refine And.intro (congrArg (D.int .i64) hw) ?_ | refine And.intro rfl ?_)
         · repeat' (first | exact True.intro | refine And.intro rfl ?_))
  have hge : ¬ i < w.fMates.length := by simpa using hb
  have hend : worldOk w = true := by rw [hN, allN_end hge, Bool.true_and]
  clear hN
  conv => whnf
  repeat' (first | (refine g_op ?_; conv => whnf) | (refine And.intro ?_ ?_; (focus (first | exact rfl | exact Nat.le_of_ble_eq_true rfl | decide | omega | fail)); conv => whnf) | (refine g_seq ?_) | (refine XS.go ?_) | (refine g_ops ?_) | (refine g_nil ?_; conv => whnf) | (refine g_ret ?_; conv => whnf) | (refine g_exit ?_; conv => whnf) | (refine r_t ?_; conv => whnf) | (refine r_nil ?_; conv => whnf) | fail)
  (conv => lhs; whnf)
  rw [hend]
set_option maxHeartbeats 8000000 in
theorem impl_WorldOk (w : MateWorld) (hz : ∀ i, (w.fLand.fPlaces.getD i default).fWants.length ≤ 1048576) : Rdr Try.prog 48 [w.D] (.bool (worldOk w)) := by
  refine Rdr.intro' hm c48 (Nat.le_of_ble_eq_true rfl) ?_
  conv => whnf
  repeat' (first | (refine g_op ?_; conv => whnf) | (refine And.intro ?_ ?_; (focus (first | exact rfl | exact Nat.le_of_ble_eq_true rfl | decide | omega | fail)); conv => whnf) | (refine g_seq ?_) | (refine g_ops ?_) | (refine g_nil ?_; conv => whnf) | (refine fun _ => ?_; conv => whnf) | fail)
  refine XS.freezeB 1 rfl ?_
  repeat' (first | (refine z_ld1 ?_; first | (refine z_ld rfl rfl rfl rfl (by first | (simp only [List.length_set]; assumption) | assumption | omega) (by first | exact elt_set (by first | assumption | (simp only [List.length_set]; assumption)) | assumption) ?_; conv => whnf) | (refine z_ld0 rfl ?_; conv => whnf)) | (refine z_ld1g ?_; first | (refine z_ldg rfl rfl rfl rfl rfl rfl rfl (by (repeat intro _); exact ⟨(by first | (simp only [List.length_set]; assumption) | assumption | omega), (by first | exact elt_set (by first | assumption | (simp only [List.length_set]; assumption)) | assumption)⟩) rfl rfl rfl rfl ?_; conv => whnf) | (refine z_ld0g ?_; (conv => whnf); refine And.intro ?_ ?_; (focus exact rfl); conv => whnf)) | (refine z_op ?_ ?_; (focus exact rfl); conv => whnf) | (refine z_opg0 ?_; (conv => whnf); refine And.intro ?_ ?_; (focus exact rfl); conv => whnf) | (refine z_pick ?_ ?_; (focus exact rfl); conv => whnf) | (refine zs_ops ?_ ?_; (focus exact rfl)) | (refine z_nil fun vals => ?_; conv => whnf) | (refine z_call ?_ ?_; (focus exact rfl)) | (refine RC.of (impl_LandOk w.fLand hz) ?_ ?_; (focus exact rfl); conv => whnf) | (refine And.intro ?_ ?_; (focus (first | exact rfl | exact Nat.le_of_ble_eq_true rfl | decide | omega | fail)); conv => whnf) | (refine g_seq ?_) | (refine XS.go ?_) | (refine g_cond ?_; conv => whnf) | fail)
  simp only [mlen']
  refine Br.mk (fun hb => ?_) (fun hb => ?_)
  · have hc : wH w = true := by rw [← hb]; rfl
    conv => whnf
    repeat' (first | (refine g_op ?_; conv => whnf) | (refine And.intro ?_ ?_; (focus (first | exact rfl | exact Nat.le_of_ble_eq_true rfl | decide | omega | fail)); conv => whnf) | (refine g_seq ?_) | (refine XS.go ?_) | (refine g_ops ?_) | (refine g_nil ?_; conv => whnf) | (refine g_ret ?_; conv => whnf) | (refine r_t ?_; conv => whnf) | (refine r_nil ?_; conv => whnf) | fail)
    (conv => lhs; whnf)
    rw [worldOk, hc]
    rfl
  have hc : wH w = false := by rw [← hb]; rfl
  have hv : worldOk w = (allN (oS w) w.fMates.length 0 && true) := by rw [worldOk, hc]; rfl
  have hl := wH_mates hc
  clear hb hc
  conv => whnf
  repeat' (first | (refine z_ld1 ?_; first | (refine z_ld rfl rfl rfl rfl (by first | (simp only [List.length_set]; assumption) | assumption | omega) (by first | exact elt_set (by first | assumption | (simp only [List.length_set]; assumption)) | assumption) ?_; conv => whnf) | (refine z_ld0 rfl ?_; conv => whnf)) | (refine z_op ?_ ?_; (focus exact rfl); conv => whnf) | (refine zs_ops ?_ ?_; (focus exact rfl)) | (refine z_nil fun vals => ?_; conv => whnf) | (refine And.intro ?_ ?_; (focus (first | exact rfl | exact Nat.le_of_ble_eq_true rfl | decide | omega | fail)); conv => whnf) | (refine g_seq ?_) | (refine XS.go ?_) | (refine g_loop ?_) | (refine g_skip ?_; conv => whnf) | (refine g_block ?_) | fail)
  refine XLc.mkL (α := Nat) (fun i => i ≤ w.fMates.length ∧ worldOk w = (allN (oS w) (w.fMates.length - i) i && true)) (fun i => w.fMates.length - i) (fun i gs => [.any, .cref w.D, .any, .any, .any, .any, .any, .any, .any, .any, .any, .any, .any, .any, .any, .any, .any, .any, .any, .any, .any, .any, .any, .any, .any, .any, .any, .any, .ro 9 (w.fMates.map Mate.D), .int .i64 ((w.fMates.map Mate.D).length : Int), .int .i64 (i : Int)]) (fun i gs => []) 0 ⟨Nat.zero_le _, hv⟩ ?_ ?_
  · refine ⟨?_, ?_⟩
    · repeat' (first | exact True.intro | refine And.intro rfl ?_)
    · repeat' (first | exact True.intro | refine And.intro rfl ?_)
  intro i gs hI
  obtain ⟨hi, hN⟩ := hI
  repeat' (first | (refine g_op ?_; conv => whnf) | (refine And.intro ?_ ?_; (focus (first | exact rfl | exact Nat.le_of_ble_eq_true rfl | decide | omega | fail)); conv => whnf) | (refine g_seq ?_) | (refine XS.go ?_) | (refine g_ops ?_) | (refine g_nil ?_; conv => whnf) | (refine g_cond ?_; conv => whnf) | fail)
  refine Br.mk (fun hb => ?_) (fun hb => ?_)
  · have hlt : i < w.fMates.length := by simpa using hb
    have hw : IntKind.wrap .i64 ((i : Int) + 1) = ((i + 1 : Nat) : Int) := by rw [wrap_ok (by omega) (by omega)]; rfl
    have hw1 : IntKind.wrap .i64 ((i : Int) - 1) = (i : Int) - 1 := wrap_ok (by omega) (by omega)
    have hbad := fun h => allN_bad (f := oS w) hlt hN h
    have hgood := fun h => allN_good (f := oS w) hlt hN h
    clear hN hb
    all_goals conv => whnf
    repeat' (first | (refine z_ld1 ?_; first | (refine z_ld rfl rfl rfl rfl (by first | (simp only [List.length_set]; assumption) | assumption | omega) (by first | exact elt_set (by first | assumption | (simp only [List.length_set]; assumption)) | assumption) ?_; conv => whnf) | (refine z_ld0 rfl ?_; conv => whnf)) | (refine z_ld1g ?_; first | (refine z_ldg rfl rfl rfl rfl rfl rfl rfl (by (repeat intro _); exact ⟨(by first | (simp only [List.length_set]; assumption) | assumption | omega), (by first | exact elt_set (by first | assumption | (simp only [List.length_set]; assumption)) | assumption)⟩) rfl rfl rfl rfl ?_; conv => whnf) | (refine z_ld0g ?_; (conv => whnf); refine And.intro ?_ ?_; (focus exact rfl); conv => whnf)) | (refine z_st1 ?_; first | (refine z_st rfl rfl rfl (by first | (simp only [List.length_set]; assumption) | assumption | omega) (by first | exact elt_set (by first | assumption | (simp only [List.length_set]; assumption)) | assumption) rfl rfl ?_; conv => whnf) | (refine z_st0 ?_; conv => whnf)) | (refine z_ix1 ?_; first | (refine z_ix rfl rfl rfl rfl rfl ⟨by first | omega | (simp only [decide_eq_true_eq, Bool.not_eq_true', Bool.or_eq_false_iff, decide_eq_false_iff_not, Bool.and_eq_true, Bool.not_eq_false'] at *; omega), by first | omega | (simp only [decide_eq_true_eq, Bool.not_eq_true', Bool.or_eq_false_iff, decide_eq_false_iff_not, Bool.and_eq_true, Bool.not_eq_false'] at *; omega)⟩ ?_; conv => whnf) | (refine z_ix0 rfl rfl ?_; conv => whnf)) | (refine z_ix1g ?_; refine z_ixg rfl rfl rfl rfl rfl rfl rfl (by (repeat intro _); refine ⟨?_, ?_⟩ <;> first | omega | (simp only [decide_eq_true_eq, Bool.not_eq_true', Bool.or_eq_false_iff, decide_eq_false_iff_not, Bool.and_eq_true, Bool.not_eq_false'] at *; omega)) ?_) | (refine z_op ?_ ?_; (focus exact rfl); conv => whnf) | (refine z_opg0 ?_; (conv => whnf); refine And.intro ?_ ?_; (focus exact rfl); conv => whnf) | (refine z_pick ?_ ?_; (focus exact rfl); conv => whnf) | (refine z_pickg ?_; (conv => whnf); refine And.intro ?_ ?_; (focus exact rfl); conv => whnf) | (refine zs_ops ?_ ?_; (focus exact rfl)) | (refine zs_quiet ?_ ?_; (focus exact rfl)) | (refine z_nil fun vals => ?_; conv => whnf) | (refine z_call ?_ ?_; (focus exact rfl)) | (refine z_eff ?_; conv => whnf) | (refine RC.of (impl_MateValid _) ?_ ?_; (focus exact rfl); conv => whnf) | (refine g_op ?_; conv => whnf) | (refine And.intro ?_ ?_; (focus (first | exact rfl | exact Nat.le_of_ble_eq_true rfl | decide | omega | fail)); conv => whnf) | (refine g_seq ?_) | (refine XS.go ?_) | (refine g_ops ?_) | (refine g_nil ?_; conv => whnf) | (refine g_cond ?_; conv => whnf) | (refine g_skip ?_; conv => whnf) | (refine g_ret ?_; conv => whnf) | (refine g_block ?_) | (refine r_t ?_; conv => whnf) | (refine r_nil ?_; conv => whnf) | (refine fun _ => ?_; conv => whnf) | (refine Br.mk (fun hb => ?_) (fun hb => ?_) <;> conv => whnf) | fail)
    all_goals
      first
      | (refine ⟨(), hbad ?_, ⟨?_, True.intro⟩⟩
         · clear hbad hgood hw 
           first | (first | (refine (Bool.eq_false_iff.mpr fun h => ?_).symm; simp_all [oS, pr, le_eq]; done) | (refine Bool.eq_false_iff.mpr fun h => ?_; simp_all [oS, pr, le_eq]; done) | (simp_all [oS, pr, le_eq]; done) | (simp_all [oS, pr, le_eq]; omega) | (refine (Bool.eq_false_iff.mpr fun h => ?_).symm; simp_all [oS, pr, le_eq]; omega) | (refine Bool.eq_false_iff.mpr fun h => ?_; simp_all [oS, pr, le_eq]; omega) | (rw [Bool.eq_iff_iff]; constructor <;> intro h <;> simp_all [oS, pr, le_eq] <;> omega) | fail) | (rcases Nat.eq_zero_or_pos i with h0 | h0 <;> simp_all [oS, pr, le_eq] <;> omega) | (fail) | fail
         · repeat' (first | exact True.intro | refine And.intro rfl ?_))
      | (conv => lhs; whnf
         refine congrArg D.bool (hbad ?_)
         clear hbad hgood hw 
         first | (first | (refine (Bool.eq_false_iff.mpr fun h => ?_).symm; simp_all [oS, pr, le_eq]; done) | (refine Bool.eq_false_iff.mpr fun h => ?_; simp_all [oS, pr, le_eq]; done) | (simp_all [oS, pr, le_eq]; done) | (simp_all [oS, pr, le_eq]; omega) | (refine (Bool.eq_false_iff.mpr fun h => ?_).symm; simp_all [oS, pr, le_eq]; omega) | (refine Bool.eq_false_iff.mpr fun h => ?_; simp_all [oS, pr, le_eq]; omega) | (rw [Bool.eq_iff_iff]; constructor <;> intro h <;> simp_all [oS, pr, le_eq] <;> omega) | fail) | (rcases Nat.eq_zero_or_pos i with h0 | h0 <;> simp_all [oS, pr, le_eq] <;> omega) | (fail) | fail)
      | (refine ⟨i + 1, ⟨by omega, ?_⟩, by omega, ?_, ?_⟩
         · refine hgood ?_
           clear hbad hgood hw 
           first | (first | (refine (Bool.eq_false_iff.mpr fun h => ?_).symm; simp_all [oS, pr, le_eq]; done) | (refine Bool.eq_false_iff.mpr fun h => ?_; simp_all [oS, pr, le_eq]; done) | (simp_all [oS, pr, le_eq]; done) | (simp_all [oS, pr, le_eq]; omega) | (refine (Bool.eq_false_iff.mpr fun h => ?_).symm; simp_all [oS, pr, le_eq]; omega) | (refine Bool.eq_false_iff.mpr fun h => ?_; simp_all [oS, pr, le_eq]; omega) | (rw [Bool.eq_iff_iff]; constructor <;> intro h <;> simp_all [oS, pr, le_eq] <;> omega) | fail) | (rcases Nat.eq_zero_or_pos i with h0 | h0 <;> simp_all [oS, pr, le_eq] <;> omega) | (fail) | fail
         · repeat' (first | exact True.intro | refine And.intro (congrArg (D.int .i64) hw) ?_ | refine And.intro rfl ?_)
         · repeat' (first | exact True.intro | refine And.intro rfl ?_))
  have hge : ¬ i < w.fMates.length := by simpa using hb
  have hend : worldOk w = true := by rw [hN, allN_end hge, Bool.true_and]
  clear hN
  conv => whnf
  repeat' (first | (refine g_op ?_; conv => whnf) | (refine And.intro ?_ ?_; (focus (first | exact rfl | exact Nat.le_of_ble_eq_true rfl | decide | omega | fail)); conv => whnf) | (refine g_seq ?_) | (refine XS.go ?_) | (refine g_ops ?_) | (refine g_nil ?_; conv => whnf) | (refine g_ret ?_; conv => whnf) | (refine g_exit ?_; conv => whnf) | (refine r_t ?_; conv => whnf) | (refine r_nil ?_; conv => whnf) | fail)
  (conv => lhs; whnf)
  rw [hend]
end Go.Ab
