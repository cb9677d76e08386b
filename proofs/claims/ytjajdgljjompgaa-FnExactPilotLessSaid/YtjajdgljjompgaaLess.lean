/- The law FnExactPilotLess returns true at every input; nothing is asked of the input beyond what the row itself asks. -/
import Derived.Test.YtjajdgljjompgaaAb8
import Derived.Test.YtjajdgljjompgaaRows
set_option linter.unusedSimpArgs false
set_option linter.unusedVariables false
namespace Go.Ab
open Go Go.RowKit Go.Proofs
attribute [local irreducible] XC IntKind.wrap xw xos xqs xr
set_option maxRecDepth 100000
theorem hm : Try.prog.follows .mixedOrders = true := by kernel_rfl

/-- laws.toIntS -/
def cf12 : CF := ⟨22, [.t 2],
  (.seq (.ops [⟨some 2, .mv (.k (.nil)), none⟩])
  (.seq (.ops [⟨some 5, .mv (.t 0), none⟩,
    ⟨some 6, .lenl (.t 5), none⟩,
    ⟨some 7, .mk (.int .i64 0) 8 (.t 6) (.t 6), none⟩,
    ⟨some 3, .mv (.t 7), none⟩])
  (.seq (.seq (.ops [⟨some 4, .mv (.k (.int .i64 0)), none⟩])
  (.block 0 (.loop (.seq (.seq (.ops [⟨some 8, .mv (.t 4), none⟩,
    ⟨some 9, .mv (.t 0), none⟩,
    ⟨some 10, .lenl (.t 9), none⟩,
    ⟨some 11, .bin .lss (.t 8) (.t 10), none⟩])
  (.cond (.t 11)
  .skip
  (.exit 0)))
  (.seq (.block 1 (.ops [⟨some 14, .mv (.t 3), none⟩,
    ⟨some 15, .mv (.t 4), none⟩,
    ⟨some 16, .mv (.t 0), none⟩,
    ⟨some 17, .mv (.t 4), none⟩,
    ⟨some 18, .ix 1 (.t 16) (.t 17), none⟩,
    ⟨some 19, .ld 1 false (.t 18), none⟩,
    ⟨some 20, .ix 1 (.t 14) (.t 15), none⟩,
    ⟨none, .st 1 (.t 20) (.t 19), none⟩]))
  (.ops [⟨some 12, .mv (.t 4), none⟩,
    ⟨some 13, .bin .add (.t 12) (.k (.int .i64 1)), none⟩,
    ⟨some 4, .mv (.t 13), none⟩]))))))
  (.seq (.ops [⟨some 21, .mv (.t 3), none⟩,
    ⟨some 2, .mv (.t 21), none⟩])
  .ret))))⟩
theorem c12 : compileF Try.prog [] 12 = some cf12 := by kernel_rfl
/-- laws.eqIntS -/
def cf14 : CF := ⟨26, [.t 4],
  (.seq (.ops [⟨some 4, .mv (.k (.bool false)), none⟩])
  (.seq (.seq (.ops [⟨some 6, .mv (.t 0), none⟩,
    ⟨some 7, .lenl (.t 6), none⟩,
    ⟨some 8, .mv (.t 1), none⟩,
    ⟨some 9, .lenl (.t 8), none⟩,
    ⟨some 10, .bin .neq (.t 7) (.t 9), none⟩])
  (.cond (.t 10)
  (.seq (.ops [⟨some 4, .mv (.k (.bool false)), none⟩])
  .ret)
  .skip))
  (.seq (.seq (.ops [⟨some 5, .mv (.k (.int .i64 0)), none⟩])
  (.block 0 (.loop (.seq (.seq (.ops [⟨some 11, .mv (.t 5), none⟩,
    ⟨some 12, .mv (.t 0), none⟩,
    ⟨some 13, .lenl (.t 12), none⟩,
    ⟨some 14, .bin .lss (.t 11) (.t 13), none⟩])
  (.cond (.t 14)
  .skip
  (.exit 0)))
  (.seq (.block 1 (.seq (.quiet [⟨some 17, .mv (.t 0), none⟩,
    ⟨some 18, .mv (.t 5), none⟩,
    ⟨some 19, .ix 1 (.t 17) (.t 18), none⟩,
    ⟨some 20, .ld 1 false (.t 19), none⟩,
    ⟨some 21, .mv (.t 1), none⟩,
    ⟨some 22, .mv (.t 5), none⟩,
    ⟨some 23, .ix 1 (.t 21) (.t 22), none⟩,
    ⟨some 24, .ld 1 false (.t 23), none⟩,
    ⟨some 25, .bin .neq (.t 20) (.t 24), none⟩])
  (.cond (.t 25)
  (.seq (.ops [⟨some 4, .mv (.k (.bool false)), none⟩])
  .ret)
  .skip)))
  (.ops [⟨some 15, .mv (.t 5), none⟩,
    ⟨some 16, .bin .add (.t 15) (.k (.int .i64 1)), none⟩,
    ⟨some 5, .mv (.t 16), none⟩]))))))
  (.seq (.ops [⟨some 4, .mv (.k (.bool true)), none⟩])
  .ret))))⟩
theorem c14 : compileF Try.prog [] 14 = some cf14 := by kernel_rfl
/-- spec.PilotLess -/
def cf11 : CF := ⟨41, [.t 4],
  (.seq (.ops [⟨some 4, .mv (.k (.bool false)), none⟩])
  (.seq (.seq (.ops [⟨some 5, .mv (.k (.int .i64 0)), none⟩])
  (.block 0 (.loop (.seq (.seq (.ops [⟨some 6, .mv (.t 5), none⟩,
    ⟨some 7, .mv (.t 0), none⟩,
    ⟨some 8, .lenl (.t 7), none⟩,
    ⟨some 9, .bin .lss (.t 6) (.t 8), none⟩,
    ⟨some 10, .mv (.t 9), none⟩,
    ⟨some 11, .mv (.t 5), some (10, true)⟩,
    ⟨some 12, .mv (.t 1), some (10, true)⟩,
    ⟨some 13, .lenl (.t 12), some (10, true)⟩,
    ⟨some 14, .bin .lss (.t 11) (.t 13), some (10, true)⟩,
    ⟨some 15, .pick (.t 10) (.t 14) (.k (.bool false)), none⟩])
  (.cond (.t 15)
  .skip
  (.exit 0)))
  (.seq (.block 1 (.seq (.quiet [⟨some 18, .mv (.t 0), none⟩,
    ⟨some 19, .mv (.t 5), none⟩,
    ⟨some 20, .ix 1 (.t 18) (.t 19), none⟩,
    ⟨some 21, .ld 1 false (.t 20), none⟩,
    ⟨some 22, .mv (.t 1), none⟩,
    ⟨some 23, .mv (.t 5), none⟩,
    ⟨some 24, .ix 1 (.t 22) (.t 23), none⟩,
    ⟨some 25, .ld 1 false (.t 24), none⟩,
    ⟨some 26, .bin .neq (.t 21) (.t 25), none⟩])
  (.cond (.t 26)
  (.seq (.quiet [⟨some 27, .mv (.t 0), none⟩,
    ⟨some 28, .mv (.t 5), none⟩,
    ⟨some 29, .ix 1 (.t 27) (.t 28), none⟩,
    ⟨some 30, .ld 1 false (.t 29), none⟩,
    ⟨some 31, .mv (.t 1), none⟩,
    ⟨some 32, .mv (.t 5), none⟩,
    ⟨some 33, .ix 1 (.t 31) (.t 32), none⟩,
    ⟨some 34, .ld 1 false (.t 33), none⟩,
    ⟨some 35, .bin .lss (.t 30) (.t 34), none⟩,
    ⟨some 4, .mv (.t 35), none⟩])
  .ret)
  .skip)))
  (.ops [⟨some 16, .mv (.t 5), none⟩,
    ⟨some 17, .bin .add (.t 16) (.k (.int .i64 1)), none⟩,
    ⟨some 5, .mv (.t 17), none⟩]))))))
  (.seq (.ops [⟨some 36, .mv (.t 0), none⟩,
    ⟨some 37, .lenl (.t 36), none⟩,
    ⟨some 38, .mv (.t 1), none⟩,
    ⟨some 39, .lenl (.t 38), none⟩,
    ⟨some 40, .bin .lss (.t 37) (.t 39), none⟩,
    ⟨some 4, .mv (.t 40), none⟩])
  .ret)))⟩
theorem c11 : compileF Try.prog [] 11 = some cf11 := by kernel_rfl
/-- slices.Compare[[]int,int] -/
def cf29 : CF := ⟨36, [.t 4],
  (.seq (.ops [⟨some 4, .mv (.k (.int .i64 0)), none⟩])
  (.seq (.seq (.ops [⟨some 9, .mv (.t 0), none⟩,
    ⟨some 10, .lenl (.t 9), none⟩,
    ⟨some 11, .mv (.k (.int .i64 0)), none⟩])
  (.block 0 (.loop (.seq (.ops [⟨some 12, .bin .lss (.t 11) (.t 10), none⟩])
  (.seq (.cond (.t 12)
  .skip
  (.exit 0))
  (.seq (.block 1 (.seq (.ops [⟨some 13, .mv (.t 11), none⟩,
    ⟨some 14, .ix 1 (.t 9) (.t 11), none⟩,
    ⟨some 15, .ld 1 false (.t 14), none⟩,
    ⟨some 5, .mv (.t 13), none⟩,
    ⟨some 6, .mv (.t 15), none⟩])
  (.seq (.seq (.ops [⟨some 16, .mv (.t 5), none⟩,
    ⟨some 17, .mv (.t 1), none⟩,
    ⟨some 18, .lenl (.t 17), none⟩,
    ⟨some 19, .bin .geq (.t 16) (.t 18), none⟩])
  (.cond (.t 19)
  (.seq (.ops [⟨some 4, .mv (.k (.int .i64 1)), none⟩])
  .ret)
  .skip))
  (.seq (.ops [⟨some 20, .mv (.t 1), none⟩,
    ⟨some 21, .mv (.t 5), none⟩,
    ⟨some 22, .ix 1 (.t 20) (.t 21), none⟩,
    ⟨some 23, .ld 1 false (.t 22), none⟩,
    ⟨some 7, .mv (.t 23), none⟩])
  (.seq (.ops [⟨some 24, .mv (.t 6), none⟩,
    ⟨some 25, .mv (.t 7), none⟩,
    ⟨some 26, .call 59 [(.t 24), (.t 25)], none⟩,
    ⟨some 8, .mv (.t 26), none⟩])
  (.seq (.ops [⟨some 27, .mv (.t 8), none⟩,
    ⟨some 28, .bin .neq (.t 27) (.k (.int .i64 0)), none⟩])
  (.cond (.t 28)
  (.seq (.ops [⟨some 29, .mv (.t 8), none⟩,
    ⟨some 4, .mv (.t 29), none⟩])
  .ret)
  .skip)))))))
  (.ops [⟨some 30, .bin .add (.t 11) (.k (.int .i64 1)), none⟩,
    ⟨some 11, .mv (.t 30), none⟩])))))))
  (.seq (.seq (.ops [⟨some 31, .mv (.t 0), none⟩,
    ⟨some 32, .lenl (.t 31), none⟩,
    ⟨some 33, .mv (.t 1), none⟩,
    ⟨some 34, .lenl (.t 33), none⟩,
    ⟨some 35, .bin .lss (.t 32) (.t 34), none⟩])
  (.cond (.t 35)
  (.seq (.ops [⟨some 4, .mv (.k (.int .i64 (-1))), none⟩])
  .ret)
  .skip))
  (.seq (.ops [⟨some 4, .mv (.k (.int .i64 0)), none⟩])
  .ret))))⟩
theorem c29 : compileF Try.prog [] 29 = some cf29 := by kernel_rfl
/-- cmp.Compare[int] -/
def cf59 : CF := ⟨20, [.t 4],
  (.seq (.ops [⟨some 4, .mv (.k (.int .i64 0)), none⟩])
  (.seq (.ops [⟨some 7, .mv (.t 0), none⟩,
    ⟨some 8, .call 96 [(.t 7)], none⟩,
    ⟨some 5, .mv (.t 8), none⟩])
  (.seq (.ops [⟨some 9, .mv (.t 1), none⟩,
    ⟨some 10, .call 96 [(.t 9)], none⟩,
    ⟨some 6, .mv (.t 10), none⟩])
  (.seq (.seq (.ops [⟨some 11, .mv (.t 5), none⟩])
  (.cond (.t 11)
  (.seq (.seq (.ops [⟨some 12, .mv (.t 6), none⟩])
  (.cond (.t 12)
  (.seq (.ops [⟨some 4, .mv (.k (.int .i64 0)), none⟩])
  .ret)
  .skip))
  (.seq (.ops [⟨some 4, .mv (.k (.int .i64 (-1))), none⟩])
  .ret))
  .skip))
  (.seq (.seq (.ops [⟨some 13, .mv (.t 6), none⟩])
  (.cond (.t 13)
  (.seq (.ops [⟨some 4, .mv (.k (.int .i64 1)), none⟩])
  .ret)
  .skip))
  (.seq (.seq (.ops [⟨some 14, .mv (.t 0), none⟩,
    ⟨some 15, .mv (.t 1), none⟩,
    ⟨some 16, .bin .lss (.t 14) (.t 15), none⟩])
  (.cond (.t 16)
  (.seq (.ops [⟨some 4, .mv (.k (.int .i64 (-1))), none⟩])
  .ret)
  .skip))
  (.seq (.seq (.ops [⟨some 17, .mv (.t 0), none⟩,
    ⟨some 18, .mv (.t 1), none⟩,
    ⟨some 19, .bin .gtr (.t 17) (.t 18), none⟩])
  (.cond (.t 19)
  (.seq (.ops [⟨some 4, .mv (.k (.int .i64 1)), none⟩])
  .ret)
  .skip))
  (.seq (.ops [⟨some 4, .mv (.k (.int .i64 0)), none⟩])
  .ret))))))))⟩
theorem c59 : compileF Try.prog [] 59 = some cf59 := by kernel_rfl
/-- cmp.isNaN[int] -/
def cf96 : CF := ⟨6, [.t 2],
  (.seq (.ops [⟨some 2, .mv (.k (.bool false)), none⟩])
  (.seq (.ops [⟨some 3, .mv (.t 0), none⟩,
    ⟨some 4, .mv (.t 0), none⟩,
    ⟨some 5, .bin .neq (.t 3) (.t 4), none⟩,
    ⟨some 2, .mv (.t 5), none⟩])
  .ret))⟩
theorem c96 : compileF Try.prog [] 96 = some cf96 := by kernel_rfl
/-- impl.PilotLess -/
def cf13 : CF := ⟨9, [.t 4],
  (.seq (.ops [⟨some 4, .mv (.k (.bool false)), none⟩])
  (.seq (.ops [⟨some 5, .mv (.t 0), none⟩,
    ⟨some 6, .mv (.t 1), none⟩,
    ⟨some 7, .call 29 [(.t 5), (.t 6)], none⟩,
    ⟨some 8, .bin .lss (.t 7) (.k (.int .i64 0)), none⟩,
    ⟨some 4, .mv (.t 8), none⟩])
  .ret))⟩
theorem c13 : compileF Try.prog [] 13 = some cf13 := by kernel_rfl
/-- laws.FnExactPilotLess -/
def cf5 : CF := ⟨40, [.t 4],
  (.seq (.ops [⟨some 4, .mv (.k (.bool false)), none⟩])
  (.seq (.seq (.ops [⟨some 9, .mv (.t 0), none⟩,
    ⟨some 10, .lenl (.t 9), none⟩,
    ⟨some 11, .bin .gtr (.t 10) (.k (.int .i64 1048576)), none⟩])
  (.cond (.t 11)
  (.seq (.ops [⟨some 4, .mv (.k (.bool true)), none⟩])
  .ret)
  .skip))
  (.seq (.seq (.ops [⟨some 12, .mv (.t 1), none⟩,
    ⟨some 13, .lenl (.t 12), none⟩,
    ⟨some 14, .bin .gtr (.t 13) (.k (.int .i64 1048576)), none⟩])
  (.cond (.t 14)
  (.seq (.ops [⟨some 4, .mv (.k (.bool true)), none⟩])
  .ret)
  .skip))
  (.seq (.ops [⟨some 15, .mv (.t 0), none⟩,
    ⟨some 16, .call 12 [(.t 15)], none⟩,
    ⟨some 17, .mv (.t 1), none⟩,
    ⟨some 18, .call 12 [(.t 17)], none⟩,
    ⟨some 19, .call 11 [(.t 16), (.t 18)], none⟩,
    ⟨some 5, .mv (.t 19), none⟩])
  (.seq (.ops [⟨some 20, .mv (.t 0), none⟩,
    ⟨some 21, .call 12 [(.t 20)], none⟩,
    ⟨some 6, .mv (.t 21), none⟩])
  (.seq (.ops [⟨some 22, .mv (.t 1), none⟩,
    ⟨some 23, .call 12 [(.t 22)], none⟩,
    ⟨some 7, .mv (.t 23), none⟩])
  (.seq (.ops [⟨some 24, .mv (.t 6), none⟩,
    ⟨some 25, .mv (.t 7), none⟩,
    ⟨some 26, .call 13 [(.t 24), (.t 25)], none⟩,
    ⟨some 8, .mv (.t 26), none⟩])
  (.seq (.seq (.ops [⟨some 27, .mv (.t 8), none⟩,
    ⟨some 28, .mv (.t 5), none⟩,
    ⟨some 29, .binb true (.t 27) (.t 28), none⟩])
  (.cond (.t 29)
  (.seq (.ops [⟨some 4, .mv (.k (.bool false)), none⟩])
  .ret)
  .skip))
  (.seq (.seq (.ops [⟨some 30, .mv (.t 6), none⟩,
    ⟨some 31, .mv (.t 0), none⟩,
    ⟨some 32, .call 12 [(.t 31)], none⟩,
    ⟨some 33, .call 14 [(.t 30), (.t 32)], none⟩,
    ⟨some 34, .not (.t 33), none⟩])
  (.cond (.t 34)
  (.seq (.ops [⟨some 4, .mv (.k (.bool false)), none⟩])
  .ret)
  .skip))
  (.seq (.seq (.ops [⟨some 35, .mv (.t 7), none⟩,
    ⟨some 36, .mv (.t 1), none⟩,
    ⟨some 37, .call 12 [(.t 36)], none⟩,
    ⟨some 38, .call 14 [(.t 35), (.t 37)], none⟩,
    ⟨some 39, .not (.t 38), none⟩])
  (.cond (.t 39)
  (.seq (.ops [⟨some 4, .mv (.k (.bool false)), none⟩])
  .ret)
  .skip))
  (.seq (.ops [⟨some 4, .mv (.k (.bool true)), none⟩])
  .ret)))))))))))⟩
theorem c5 : compileF Try.prog [] 5 = some cf5 := by kernel_rfl
def ints (l : List Int) : D := .ro 1 (l.map (D.int .i64))
theorem ints_get {l : List Int} {i : Nat} (h : i < l.length) : (l.map (D.int .i64)).getD (i : Int).toNat .any = .int .i64 l[i] := by simp [h]
theorem ints_len {l : List Int} : ((l.map (D.int .i64)).length : Int) = (l.length : Int) := by simp
def less : List Int → List Int → Bool
  | x :: xs, y :: ys => if x != y then decide (x < y) else less xs ys
  | [], _ :: _ => true
  | _, [] => false
def cmp3 : List Int → List Int → Int
  | x :: xs, y :: ys => if x < y then -1 else if x > y then 1 else cmp3 xs ys
  | [], [] => 0
  | [], _ :: _ => -1
  | _ :: _, [] => 1
theorem less_cmp3 : ∀ xs ys : List Int, decide (cmp3 xs ys < 0) = less xs ys
  | [], [] => rfl
  | [], _ :: _ => rfl
  | _ :: _, [] => rfl
  | x :: xs, y :: ys => by
    simp only [less, cmp3]
    by_cases h1 : x < y
    · have : x ≠ y := by omega
      simp [h1, this]
    · by_cases h2 : x > y
      · have : x ≠ y := by omega
        simp [h1, h2, this]
      · have : x = y := by omega
        simp [h1, h2, this, less_cmp3 xs ys]
theorem less_step {xs ys : List Int} {i : Nat} (h1 : i < xs.length) (h2 : i < ys.length) : less (xs.drop i) (ys.drop i) = if xs[i] != ys[i] then decide (xs[i] < ys[i]) else less (xs.drop (i + 1)) (ys.drop (i + 1)) := by
  rw [List.drop_eq_getElem_cons h1, List.drop_eq_getElem_cons h2]
  rfl
theorem cmp3_step {xs ys : List Int} {i : Nat} (h1 : i < xs.length) (h2 : i < ys.length) : cmp3 (xs.drop i) (ys.drop i) = if xs[i] < ys[i] then -1 else if xs[i] > ys[i] then 1 else cmp3 (xs.drop (i + 1)) (ys.drop (i + 1)) := by
  rw [List.drop_eq_getElem_cons h1, List.drop_eq_getElem_cons h2]
  rfl
theorem less_end {xs ys : List Int} {i : Nat} (h1 : i ≤ xs.length) (h2 : i ≤ ys.length) (h : ¬ (i < xs.length ∧ i < ys.length)) : less (xs.drop i) (ys.drop i) = decide ((xs.length : Int) < ys.length) := by
  by_cases e1 : i < xs.length
  · have e2 : ys.drop i = [] := List.drop_eq_nil_of_le (by omega)
    rw [e2, List.drop_eq_getElem_cons e1]
    have : ¬ ((xs.length : Int) < ys.length) := by omega
    simp [less, this]
  · have e2 : xs.drop i = [] := List.drop_eq_nil_of_le (by omega)
    rw [e2]
    by_cases e3 : i < ys.length
    · rw [List.drop_eq_getElem_cons e3]
      have : ((xs.length : Int) < ys.length) := by omega
      simp [less, this]
    · rw [List.drop_eq_nil_of_le (by omega)]
      have : ¬ ((xs.length : Int) < ys.length) := by omega
      simp [less, this]

theorem to_IntS (ds : List D) (hd : ∀ d ∈ ds, ∃ v, d = .int .i64 v) (hl : ds.length ≤ 1048576) : Rdr Try.prog 12 [.ro 1 ds] (.ro 1 ds) := by
  have hlen : ∀ d ∈ ds, d.len = 1 := fun d h => by obtain ⟨v, rfl⟩ := hd d h; rfl
  refine Rdr.introR hm c12 (Nat.le_of_ble_eq_true rfl) ?_
  conv => whnf
  repeat' (first
    | (refine g_op ?_; conv => whnf)
    | (refine And.intro rfl ?_; conv => whnf)
    | (refine And.intro (Nat.le_of_ble_eq_true rfl) ?_; conv => whnf)
    | (refine g_seq ?_)
    | (refine g_ops ?_)
    | (refine g_loop ?_)
    | (refine g_nil ?_; conv => whnf)
    | (refine g_opg ?_; conv => whnf)
    | (refine Br.t (by first | assumption | rfl) ?_; conv => whnf)
    | (refine Br.f (by first | assumption | rfl) ?_; conv => whnf)
    | (refine g_cond ?_; conv => whnf)
    | (refine g_skip ?_; conv => whnf)
    | (refine g_ret ?_; conv => whnf)
    | (refine g_exit ?_; conv => whnf)
    | (refine g_block ?_)
    | (refine g_quiet ?_)
    | (refine q_op ?_; conv => whnf)
    | (refine q_nil ?_; conv => whnf)
    | (refine q_opg ?_; conv => whnf)
    | (refine r_t ?_; conv => whnf)
    | (refine r_c ?_; conv => whnf)
    | (refine r_nil ?_; conv => whnf)
    | (refine And.intro (by decide) ?_; conv => whnf)
    | (refine And.intro (by omega) ?_; conv => whnf)
    | fail)
  refine XLc.mkL (α := Nat) (fun i => i ≤ ds.length) (fun i => ds.length - i) (fun i gs => [.ro 1 ds, .any, .nil, .lsl 7 (gs 7) (ds.length : Int).toNat (ds.length : Int).toNat, .int .i64 (i : Int)]) (fun i gs => [none, none, none, none, none, none, none, some (.agg (fill (.int .i64 0) ds i))]) (fun _ => none) 0 (Nat.zero_le _) ?_ ?_
  · refine ⟨?_, ?_, rfl⟩
    · repeat' (first | exact True.intro | refine And.intro rfl ?_)
    · refine And.intro ?_ True.intro
      rw [fill_zero]
      rfl
  intro i gs hi
  repeat' (first
    | (refine g_op ?_; conv => whnf)
    | (refine And.intro rfl ?_; conv => whnf)
    | (refine And.intro (Nat.le_of_ble_eq_true rfl) ?_; conv => whnf)
    | (refine g_seq ?_)
    | (refine g_ops ?_)
    | (refine g_loop ?_)
    | (refine g_nil ?_; conv => whnf)
    | (refine g_opg ?_; conv => whnf)
    | (refine Br.t (by first | assumption | rfl) ?_; conv => whnf)
    | (refine Br.f (by first | assumption | rfl) ?_; conv => whnf)
    | (refine g_cond ?_; conv => whnf)
    | (refine g_skip ?_; conv => whnf)
    | (refine g_ret ?_; conv => whnf)
    | (refine g_exit ?_; conv => whnf)
    | (refine g_block ?_)
    | (refine g_quiet ?_)
    | (refine q_op ?_; conv => whnf)
    | (refine q_nil ?_; conv => whnf)
    | (refine q_opg ?_; conv => whnf)
    | (refine r_t ?_; conv => whnf)
    | (refine r_c ?_; conv => whnf)
    | (refine r_nil ?_; conv => whnf)
    | (refine And.intro (by decide) ?_; conv => whnf)
    | (refine And.intro (by omega) ?_; conv => whnf)
    | fail)
  refine Br.mk (fun hb => ?_) (fun hb => ?_)
  · have hlt : i < ds.length := by simpa using hb
    obtain ⟨v, hv⟩ : ∃ v, ds.getD (i : Int).toNat .any = .int .i64 v := by
      have e : ds.getD (i : Int).toNat .any = ds[i] := by simp [hlt]
      rw [e]
      exact hd _ (List.getElem_mem _)
    conv => whnf
    repeat' (first
      | (refine g_op ?_; conv => whnf)
      | (refine And.intro rfl ?_; conv => whnf)
      | (refine And.intro (Nat.le_of_ble_eq_true rfl) ?_; conv => whnf)
      | (refine g_seq ?_)
      | (refine g_ops ?_)
      | (refine g_loop ?_)
      | (refine g_nil ?_; conv => whnf)
      | (refine g_opg ?_; conv => whnf)
      | (refine Br.t (by first | assumption | rfl) ?_; conv => whnf)
      | (refine Br.f (by first | assumption | rfl) ?_; conv => whnf)
      | (refine g_cond ?_; conv => whnf)
      | (refine g_skip ?_; conv => whnf)
      | (refine g_ret ?_; conv => whnf)
      | (refine g_exit ?_; conv => whnf)
      | (refine g_block ?_)
      | (refine g_quiet ?_)
      | (refine q_op ?_; conv => whnf)
      | (refine q_nil ?_; conv => whnf)
      | (refine q_opg ?_; conv => whnf)
      | (refine r_t ?_; conv => whnf)
      | (refine r_c ?_; conv => whnf)
      | (refine r_nil ?_; conv => whnf)
      | (refine And.intro (by decide) ?_; conv => whnf)
      | (refine And.intro (by omega) ?_; conv => whnf)
      | fail)
    rw [hv]
    repeat' (first
      | (refine g_op ?_; conv => whnf)
      | (refine And.intro rfl ?_; conv => whnf)
      | (refine And.intro (Nat.le_of_ble_eq_true rfl) ?_; conv => whnf)
      | (refine g_seq ?_)
      | (refine g_ops ?_)
      | (refine g_loop ?_)
      | (refine g_nil ?_; conv => whnf)
      | (refine g_opg ?_; conv => whnf)
      | (refine Br.t (by first | assumption | rfl) ?_; conv => whnf)
      | (refine Br.f (by first | assumption | rfl) ?_; conv => whnf)
      | (refine g_cond ?_; conv => whnf)
      | (refine g_skip ?_; conv => whnf)
      | (refine g_ret ?_; conv => whnf)
      | (refine g_exit ?_; conv => whnf)
      | (refine g_block ?_)
      | (refine g_quiet ?_)
      | (refine q_op ?_; conv => whnf)
      | (refine q_nil ?_; conv => whnf)
      | (refine q_opg ?_; conv => whnf)
      | (refine r_t ?_; conv => whnf)
      | (refine r_c ?_; conv => whnf)
      | (refine r_nil ?_; conv => whnf)
      | (refine And.intro (by decide) ?_; conv => whnf)
      | (refine And.intro (by omega) ?_; conv => whnf)
      | fail)
    refine And.intro ?_ ?_
    · have hat : (D.agg (fill (.int .i64 0) ds i)).at [(i : Int).toNat] = some (.int .i64 0, (i : Int).toNat * 1) := at_arr (es := 1) (fill_get hlt) (fill_lens rfl hlen)
      rw [hat]
      rfl
    have hset : (D.agg (fill (.int .i64 0) ds i)).set [(i : Int).toNat] (.int .i64 v) = some (.agg ((fill (.int .i64 0) ds i).set i (.int .i64 v))) := set_arr (fill_get hlt) rfl rfl
    rw [hset]
    refine (deepK_eq _ _).mpr ?_
    conv => whnf
    repeat' (first
      | (refine g_op ?_; conv => whnf)
      | (refine And.intro rfl ?_; conv => whnf)
      | (refine And.intro (Nat.le_of_ble_eq_true rfl) ?_; conv => whnf)
      | (refine g_seq ?_)
      | (refine g_ops ?_)
      | (refine g_loop ?_)
      | (refine g_nil ?_; conv => whnf)
      | (refine g_opg ?_; conv => whnf)
      | (refine Br.t (by first | assumption | rfl) ?_; conv => whnf)
      | (refine Br.f (by first | assumption | rfl) ?_; conv => whnf)
      | (refine g_cond ?_; conv => whnf)
      | (refine g_skip ?_; conv => whnf)
      | (refine g_ret ?_; conv => whnf)
      | (refine g_exit ?_; conv => whnf)
      | (refine g_block ?_)
      | (refine g_quiet ?_)
      | (refine q_op ?_; conv => whnf)
      | (refine q_nil ?_; conv => whnf)
      | (refine q_opg ?_; conv => whnf)
      | (refine r_t ?_; conv => whnf)
      | (refine r_c ?_; conv => whnf)
      | (refine r_nil ?_; conv => whnf)
      | (refine And.intro (by decide) ?_; conv => whnf)
      | (refine And.intro (by omega) ?_; conv => whnf)
      | fail)
    have hw : IntKind.wrap .i64 ((i : Int) + 1) = ((i + 1 : Nat) : Int) := by rw [wrap_ok (by omega) (by omega)]; rfl
    refine ⟨i + 1, by omega, by omega, ?_, ?_, rfl⟩
    · refine And.intro rfl ?_
      refine And.intro rfl ?_
      refine And.intro rfl ?_
      exact And.intro (congrArg (D.int .i64) hw) True.intro
    · refine And.intro ?_ True.intro
      have e : (fill (.int .i64 0) ds i).set i (.int .i64 v) = fill (.int .i64 0) ds (i + 1) := by rw [← hv]; exact fill_set hlt
      exact congrArg (fun l => some (D.agg l)) e
  · have he : i = ds.length := by have : ¬ ((i : Int) < ds.length) := by simpa using hb
                                  omega
    conv => whnf
    repeat' (first
      | (refine g_op ?_; conv => whnf)
      | (refine And.intro rfl ?_; conv => whnf)
      | (refine And.intro (Nat.le_of_ble_eq_true rfl) ?_; conv => whnf)
      | (refine g_seq ?_)
      | (refine g_ops ?_)
      | (refine g_loop ?_)
      | (refine g_nil ?_; conv => whnf)
      | (refine g_opg ?_; conv => whnf)
      | (refine Br.t (by first | assumption | rfl) ?_; conv => whnf)
      | (refine Br.f (by first | assumption | rfl) ?_; conv => whnf)
      | (refine g_cond ?_; conv => whnf)
      | (refine g_skip ?_; conv => whnf)
      | (refine g_ret ?_; conv => whnf)
      | (refine g_exit ?_; conv => whnf)
      | (refine g_block ?_)
      | (refine g_quiet ?_)
      | (refine q_op ?_; conv => whnf)
      | (refine q_nil ?_; conv => whnf)
      | (refine q_opg ?_; conv => whnf)
      | (refine r_t ?_; conv => whnf)
      | (refine r_c ?_; conv => whnf)
      | (refine r_nil ?_; conv => whnf)
      | (refine And.intro (by decide) ?_; conv => whnf)
      | (refine And.intro (by omega) ?_; conv => whnf)
      | fail)
    refine Or.inr ⟨2, 7, _, _, _, 1, rfl, rfl, rfl, ?_, ?_, ?_⟩
    · rw [fill_length hi]; exact Nat.le_refl _
    · exact fill_lens rfl hlen
    · rw [he, fill_all]
      show D.ro 1 (ds.take ds.length) = _
      rw [List.take_length]

theorem to_IntS_nil : Rdr Try.prog 12 [.nil] (.ro 1 []) := by
  refine Rdr.introR hm c12 (Nat.le_of_ble_eq_true rfl) ?_
  conv => whnf
  repeat' (first
    | (refine g_op ?_; conv => whnf)
    | (refine And.intro rfl ?_; conv => whnf)
    | (refine And.intro (Nat.le_of_ble_eq_true rfl) ?_; conv => whnf)
    | (refine g_seq ?_)
    | (refine g_ops ?_)
    | (refine g_loop ?_)
    | (refine g_nil ?_; conv => whnf)
    | (refine g_opg ?_; conv => whnf)
    | (refine Br.t (by first | assumption | rfl) ?_; conv => whnf)
    | (refine Br.f (by first | assumption | rfl) ?_; conv => whnf)
    | (refine g_cond ?_; conv => whnf)
    | (refine g_skip ?_; conv => whnf)
    | (refine g_ret ?_; conv => whnf)
    | (refine g_exit ?_; conv => whnf)
    | (refine g_block ?_)
    | (refine g_quiet ?_)
    | (refine q_op ?_; conv => whnf)
    | (refine q_nil ?_; conv => whnf)
    | (refine q_opg ?_; conv => whnf)
    | (refine r_t ?_; conv => whnf)
    | (refine r_c ?_; conv => whnf)
    | (refine r_nil ?_; conv => whnf)
    | (refine And.intro (by decide) ?_; conv => whnf)
    | (refine And.intro (by omega) ?_; conv => whnf)
    | fail)
  refine XLc.mkL (α := Unit) (fun _ => True) (fun _ => 0) (fun _ gs => [.nil, .any, .nil, .lsl 7 (gs 7) 0 0, .int .i64 0]) (fun _ gs => [none, none, none, none, none, none, none, some (.agg [])]) (fun _ => none) () trivial ?_ ?_
  · refine ⟨?_, ?_, rfl⟩
    · repeat' (first | exact True.intro | refine And.intro rfl ?_)
    · exact And.intro rfl True.intro
  intro i gs hi
  repeat' (first
    | (refine g_op ?_; conv => whnf)
    | (refine And.intro rfl ?_; conv => whnf)
    | (refine And.intro (Nat.le_of_ble_eq_true rfl) ?_; conv => whnf)
    | (refine g_seq ?_)
    | (refine g_ops ?_)
    | (refine g_loop ?_)
    | (refine g_nil ?_; conv => whnf)
    | (refine g_opg ?_; conv => whnf)
    | (refine Br.t (by first | assumption | rfl) ?_; conv => whnf)
    | (refine Br.f (by first | assumption | rfl) ?_; conv => whnf)
    | (refine g_cond ?_; conv => whnf)
    | (refine g_skip ?_; conv => whnf)
    | (refine g_ret ?_; conv => whnf)
    | (refine g_exit ?_; conv => whnf)
    | (refine g_block ?_)
    | (refine g_quiet ?_)
    | (refine q_op ?_; conv => whnf)
    | (refine q_nil ?_; conv => whnf)
    | (refine q_opg ?_; conv => whnf)
    | (refine r_t ?_; conv => whnf)
    | (refine r_c ?_; conv => whnf)
    | (refine r_nil ?_; conv => whnf)
    | (refine And.intro (by decide) ?_; conv => whnf)
    | (refine And.intro (by omega) ?_; conv => whnf)
    | fail)
  exact Or.inr ⟨2, 7, _, _, _, 1, rfl, rfl, rfl, Nat.le_refl _, (fun d h => by cases h), rfl⟩
theorem eq_IntS (l : List Int) (hl : l.length ≤ 1048576) : Rdr Try.prog 14 [ints l, ints l] (.bool true) := by
  refine Rdr.intro' hm c14 (Nat.le_of_ble_eq_true rfl) ?_
  conv => whnf
  repeat' (first
    | (refine g_op ?_; conv => whnf)
    | (refine And.intro rfl ?_; conv => whnf)
    | (refine And.intro (Nat.le_of_ble_eq_true rfl) ?_; conv => whnf)
    | (refine g_seq ?_)
    | (refine g_ops ?_)
    | (refine g_loop ?_)
    | (refine g_nil ?_; conv => whnf)
    | (refine g_opg ?_; conv => whnf)
    | (refine Br.t (by first | assumption | rfl) ?_; conv => whnf)
    | (refine Br.f (by first | assumption | rfl) ?_; conv => whnf)
    | (refine g_cond ?_; conv => whnf)
    | (refine g_skip ?_; conv => whnf)
    | (refine g_ret ?_; conv => whnf)
    | (refine g_exit ?_; conv => whnf)
    | (refine g_block ?_)
    | (refine g_quiet ?_)
    | (refine q_op ?_; conv => whnf)
    | (refine q_nil ?_; conv => whnf)
    | (refine q_opg ?_; conv => whnf)
    | (refine r_t ?_; conv => whnf)
    | (refine r_c ?_; conv => whnf)
    | (refine r_nil ?_; conv => whnf)
    | (refine And.intro (by decide) ?_; conv => whnf)
    | (refine And.intro (by omega) ?_; conv => whnf)
    | fail)
  refine Br.mk (fun hb => ?_) (fun hb => ?_)
  · simp at hb
  conv => whnf
  repeat' (first
    | (refine g_op ?_; conv => whnf)
    | (refine And.intro rfl ?_; conv => whnf)
    | (refine And.intro (Nat.le_of_ble_eq_true rfl) ?_; conv => whnf)
    | (refine g_seq ?_)
    | (refine g_ops ?_)
    | (refine g_loop ?_)
    | (refine g_nil ?_; conv => whnf)
    | (refine g_opg ?_; conv => whnf)
    | (refine Br.t (by first | assumption | rfl) ?_; conv => whnf)
    | (refine Br.f (by first | assumption | rfl) ?_; conv => whnf)
    | (refine g_cond ?_; conv => whnf)
    | (refine g_skip ?_; conv => whnf)
    | (refine g_ret ?_; conv => whnf)
    | (refine g_exit ?_; conv => whnf)
    | (refine g_block ?_)
    | (refine g_quiet ?_)
    | (refine q_op ?_; conv => whnf)
    | (refine q_nil ?_; conv => whnf)
    | (refine q_opg ?_; conv => whnf)
    | (refine r_t ?_; conv => whnf)
    | (refine r_c ?_; conv => whnf)
    | (refine r_nil ?_; conv => whnf)
    | (refine And.intro (by decide) ?_; conv => whnf)
    | (refine And.intro (by omega) ?_; conv => whnf)
    | fail)
  refine XLc.mkL (α := Nat) (fun i => i ≤ l.length) (fun i => l.length - i) (fun i gs => [ints l, ints l, .any, .any, .bool false, .int .i64 (i : Int)]) (fun i gs => []) (fun _ => none) 0 (Nat.zero_le _) ?_ ?_
  · refine ⟨?_, True.intro, rfl⟩
    repeat' (first | exact True.intro | refine And.intro rfl ?_)
  intro i gs hi
  repeat' (first
    | (refine g_op ?_; conv => whnf)
    | (refine And.intro rfl ?_; conv => whnf)
    | (refine And.intro (Nat.le_of_ble_eq_true rfl) ?_; conv => whnf)
    | (refine g_seq ?_)
    | (refine g_ops ?_)
    | (refine g_loop ?_)
    | (refine g_nil ?_; conv => whnf)
    | (refine g_opg ?_; conv => whnf)
    | (refine Br.t (by first | assumption | rfl) ?_; conv => whnf)
    | (refine Br.f (by first | assumption | rfl) ?_; conv => whnf)
    | (refine g_cond ?_; conv => whnf)
    | (refine g_skip ?_; conv => whnf)
    | (refine g_ret ?_; conv => whnf)
    | (refine g_exit ?_; conv => whnf)
    | (refine g_block ?_)
    | (refine g_quiet ?_)
    | (refine q_op ?_; conv => whnf)
    | (refine q_nil ?_; conv => whnf)
    | (refine q_opg ?_; conv => whnf)
    | (refine r_t ?_; conv => whnf)
    | (refine r_c ?_; conv => whnf)
    | (refine r_nil ?_; conv => whnf)
    | (refine And.intro (by decide) ?_; conv => whnf)
    | (refine And.intro (by omega) ?_; conv => whnf)
    | fail)
  refine Br.mk (fun hb => ?_) (fun hb => ?_)
  · have hlt : i < l.length := by simpa using hb
    have hlt' : (i : Int) < ((l.map (D.int .i64)).length : Int) := by simpa using hlt
    conv => whnf
    repeat' (first
      | (refine g_op ?_; conv => whnf)
      | (refine And.intro rfl ?_; conv => whnf)
      | (refine And.intro (Nat.le_of_ble_eq_true rfl) ?_; conv => whnf)
      | (refine g_seq ?_)
      | (refine g_ops ?_)
      | (refine g_loop ?_)
      | (refine g_nil ?_; conv => whnf)
      | (refine g_opg ?_; conv => whnf)
      | (refine Br.t (by first | assumption | rfl) ?_; conv => whnf)
      | (refine Br.f (by first | assumption | rfl) ?_; conv => whnf)
      | (refine g_cond ?_; conv => whnf)
      | (refine g_skip ?_; conv => whnf)
      | (refine g_ret ?_; conv => whnf)
      | (refine g_exit ?_; conv => whnf)
      | (refine g_block ?_)
      | (refine g_quiet ?_)
      | (refine q_op ?_; conv => whnf)
      | (refine q_nil ?_; conv => whnf)
      | (refine q_opg ?_; conv => whnf)
      | (refine r_t ?_; conv => whnf)
      | (refine r_c ?_; conv => whnf)
      | (refine r_nil ?_; conv => whnf)
      | (refine And.intro (by decide) ?_; conv => whnf)
      | (refine And.intro (by omega) ?_; conv => whnf)
      | fail)
    rw [ints_get hlt]
    repeat' (first
      | (refine g_op ?_; conv => whnf)
      | (refine And.intro rfl ?_; conv => whnf)
      | (refine And.intro (Nat.le_of_ble_eq_true rfl) ?_; conv => whnf)
      | (refine g_seq ?_)
      | (refine g_ops ?_)
      | (refine g_loop ?_)
      | (refine g_nil ?_; conv => whnf)
      | (refine g_opg ?_; conv => whnf)
      | (refine Br.t (by first | assumption | rfl) ?_; conv => whnf)
      | (refine Br.f (by first | assumption | rfl) ?_; conv => whnf)
      | (refine g_cond ?_; conv => whnf)
      | (refine g_skip ?_; conv => whnf)
      | (refine g_ret ?_; conv => whnf)
      | (refine g_exit ?_; conv => whnf)
      | (refine g_block ?_)
      | (refine g_quiet ?_)
      | (refine q_op ?_; conv => whnf)
      | (refine q_nil ?_; conv => whnf)
      | (refine q_opg ?_; conv => whnf)
      | (refine r_t ?_; conv => whnf)
      | (refine r_c ?_; conv => whnf)
      | (refine r_nil ?_; conv => whnf)
      | (refine And.intro (by decide) ?_; conv => whnf)
      | (refine And.intro (by omega) ?_; conv => whnf)
      | fail)
    rw [ints_get hlt]
    repeat' (first
      | (refine g_op ?_; conv => whnf)
      | (refine And.intro rfl ?_; conv => whnf)
      | (refine And.intro (Nat.le_of_ble_eq_true rfl) ?_; conv => whnf)
      | (refine g_seq ?_)
      | (refine g_ops ?_)
      | (refine g_loop ?_)
      | (refine g_nil ?_; conv => whnf)
      | (refine g_opg ?_; conv => whnf)
      | (refine Br.t (by first | assumption | rfl) ?_; conv => whnf)
      | (refine Br.f (by first | assumption | rfl) ?_; conv => whnf)
      | (refine g_cond ?_; conv => whnf)
      | (refine g_skip ?_; conv => whnf)
      | (refine g_ret ?_; conv => whnf)
      | (refine g_exit ?_; conv => whnf)
      | (refine g_block ?_)
      | (refine g_quiet ?_)
      | (refine q_op ?_; conv => whnf)
      | (refine q_nil ?_; conv => whnf)
      | (refine q_opg ?_; conv => whnf)
      | (refine r_t ?_; conv => whnf)
      | (refine r_c ?_; conv => whnf)
      | (refine r_nil ?_; conv => whnf)
      | (refine And.intro (by decide) ?_; conv => whnf)
      | (refine And.intro (by omega) ?_; conv => whnf)
      | fail)
    refine Br.mk (fun hb => ?_) (fun hb => ?_)
    · simp at hb
    conv => whnf
    repeat' (first
      | (refine g_op ?_; conv => whnf)
      | (refine And.intro rfl ?_; conv => whnf)
      | (refine And.intro (Nat.le_of_ble_eq_true rfl) ?_; conv => whnf)
      | (refine g_seq ?_)
      | (refine g_ops ?_)
      | (refine g_loop ?_)
      | (refine g_nil ?_; conv => whnf)
      | (refine g_opg ?_; conv => whnf)
      | (refine Br.t (by first | assumption | rfl) ?_; conv => whnf)
      | (refine Br.f (by first | assumption | rfl) ?_; conv => whnf)
      | (refine g_cond ?_; conv => whnf)
      | (refine g_skip ?_; conv => whnf)
      | (refine g_ret ?_; conv => whnf)
      | (refine g_exit ?_; conv => whnf)
      | (refine g_block ?_)
      | (refine g_quiet ?_)
      | (refine q_op ?_; conv => whnf)
      | (refine q_nil ?_; conv => whnf)
      | (refine q_opg ?_; conv => whnf)
      | (refine r_t ?_; conv => whnf)
      | (refine r_c ?_; conv => whnf)
      | (refine r_nil ?_; conv => whnf)
      | (refine And.intro (by decide) ?_; conv => whnf)
      | (refine And.intro (by omega) ?_; conv => whnf)
      | fail)
    have hw : IntKind.wrap .i64 ((i : Int) + 1) = ((i + 1 : Nat) : Int) := by rw [wrap_ok (by omega) (by omega)]; rfl
    refine ⟨i + 1, by omega, by omega, ?_, True.intro, rfl⟩
    refine And.intro rfl ?_
    refine And.intro rfl ?_
    refine And.intro rfl ?_
    exact And.intro (congrArg (D.int .i64) hw) True.intro
  · conv => whnf
    repeat' (first
      | (refine g_op ?_; conv => whnf)
      | (refine And.intro rfl ?_; conv => whnf)
      | (refine And.intro (Nat.le_of_ble_eq_true rfl) ?_; conv => whnf)
      | (refine g_seq ?_)
      | (refine g_ops ?_)
      | (refine g_loop ?_)
      | (refine g_nil ?_; conv => whnf)
      | (refine g_opg ?_; conv => whnf)
      | (refine Br.t (by first | assumption | rfl) ?_; conv => whnf)
      | (refine Br.f (by first | assumption | rfl) ?_; conv => whnf)
      | (refine g_cond ?_; conv => whnf)
      | (refine g_skip ?_; conv => whnf)
      | (refine g_ret ?_; conv => whnf)
      | (refine g_exit ?_; conv => whnf)
      | (refine g_block ?_)
      | (refine g_quiet ?_)
      | (refine q_op ?_; conv => whnf)
      | (refine q_nil ?_; conv => whnf)
      | (refine q_opg ?_; conv => whnf)
      | (refine r_t ?_; conv => whnf)
      | (refine r_c ?_; conv => whnf)
      | (refine r_nil ?_; conv => whnf)
      | (refine And.intro (by decide) ?_; conv => whnf)
      | (refine And.intro (by omega) ?_; conv => whnf)
      | fail)
    rfl
theorem spec_PilotLess (xs ys : List Int) (h1 : xs.length ≤ 1048576) (h2 : ys.length ≤ 1048576) : Rdr Try.prog 11 [ints xs, ints ys] (.bool (less xs ys)) := by
  refine Rdr.intro' hm c11 (Nat.le_of_ble_eq_true rfl) ?_
  conv => whnf
  repeat' (first
    | (refine g_op ?_; conv => whnf)
    | (refine And.intro rfl ?_; conv => whnf)
    | (refine And.intro (Nat.le_of_ble_eq_true rfl) ?_; conv => whnf)
    | (refine g_seq ?_)
    | (refine g_ops ?_)
    | (refine g_loop ?_)
    | (refine g_nil ?_; conv => whnf)
    | (refine g_opg ?_; conv => whnf)
    | (refine Br.t (by first | assumption | rfl) ?_; conv => whnf)
    | (refine Br.f (by first | assumption | rfl) ?_; conv => whnf)
    | (refine g_cond ?_; conv => whnf)
    | (refine g_skip ?_; conv => whnf)
    | (refine g_ret ?_; conv => whnf)
    | (refine g_exit ?_; conv => whnf)
    | (refine g_block ?_)
    | (refine g_quiet ?_)
    | (refine q_op ?_; conv => whnf)
    | (refine q_nil ?_; conv => whnf)
    | (refine q_opg ?_; conv => whnf)
    | (refine r_t ?_; conv => whnf)
    | (refine r_c ?_; conv => whnf)
    | (refine r_nil ?_; conv => whnf)
    | (refine And.intro (by decide) ?_; conv => whnf)
    | (refine And.intro (by omega) ?_; conv => whnf)
    | fail)
  refine XLc.mkL (α := Nat) (fun i => i ≤ xs.length ∧ i ≤ ys.length ∧ less xs ys = less (xs.drop i) (ys.drop i)) (fun i => xs.length - i) (fun i gs => [ints xs, ints ys, .any, .any, .bool false, .int .i64 (i : Int)]) (fun i gs => []) (fun _ => none) 0 ⟨Nat.zero_le _, Nat.zero_le _, rfl⟩ ?_ ?_
  · refine ⟨?_, True.intro, rfl⟩
    repeat' (first | exact True.intro | refine And.intro rfl ?_)
  intro i gs hI
  obtain ⟨hi, hj, hless⟩ := hI
  have hend : ¬ (i < xs.length ∧ i < ys.length) → D.bool (decide (((xs.map (D.int .i64)).length : Int) < (ys.map (D.int .i64)).length)) = D.bool (less xs ys) := fun h => by
    rw [hless, less_end hi hj h, ints_len, ints_len]
  repeat' (first
    | (refine g_op ?_; conv => whnf)
    | (refine And.intro rfl ?_; conv => whnf)
    | (refine And.intro (Nat.le_of_ble_eq_true rfl) ?_; conv => whnf)
    | (refine g_seq ?_)
    | (refine g_ops ?_)
    | (refine g_loop ?_)
    | (refine g_nil ?_; conv => whnf)
    | (refine g_opg ?_; conv => whnf)
    | (refine Br.t (by first | assumption | rfl) ?_; conv => whnf)
    | (refine Br.f (by first | assumption | rfl) ?_; conv => whnf)
    | (refine g_cond ?_; conv => whnf)
    | (refine g_skip ?_; conv => whnf)
    | (refine g_ret ?_; conv => whnf)
    | (refine g_exit ?_; conv => whnf)
    | (refine g_block ?_)
    | (refine g_quiet ?_)
    | (refine q_op ?_; conv => whnf)
    | (refine q_nil ?_; conv => whnf)
    | (refine q_opg ?_; conv => whnf)
    | (refine r_t ?_; conv => whnf)
    | (refine r_c ?_; conv => whnf)
    | (refine r_nil ?_; conv => whnf)
    | (refine And.intro (by decide) ?_; conv => whnf)
    | (refine And.intro (by omega) ?_; conv => whnf)
    | fail)
  refine Br.mk (fun hb => ?_) (fun hb => ?_)
  · have hlt : i < xs.length := by simpa using hb
    conv => whnf
    repeat' (first
      | (refine g_op ?_; conv => whnf)
      | (refine And.intro rfl ?_; conv => whnf)
      | (refine And.intro (Nat.le_of_ble_eq_true rfl) ?_; conv => whnf)
      | (refine g_seq ?_)
      | (refine g_ops ?_)
      | (refine g_loop ?_)
      | (refine g_nil ?_; conv => whnf)
      | (refine g_opg ?_; conv => whnf)
      | (refine Br.t (by first | assumption | rfl) ?_; conv => whnf)
      | (refine Br.f (by first | assumption | rfl) ?_; conv => whnf)
      | (refine g_cond ?_; conv => whnf)
      | (refine g_skip ?_; conv => whnf)
      | (refine g_ret ?_; conv => whnf)
      | (refine g_exit ?_; conv => whnf)
      | (refine g_block ?_)
      | (refine g_quiet ?_)
      | (refine q_op ?_; conv => whnf)
      | (refine q_nil ?_; conv => whnf)
      | (refine q_opg ?_; conv => whnf)
      | (refine r_t ?_; conv => whnf)
      | (refine r_c ?_; conv => whnf)
      | (refine r_nil ?_; conv => whnf)
      | (refine And.intro (by decide) ?_; conv => whnf)
      | (refine And.intro (by omega) ?_; conv => whnf)
      | fail)
    refine Br.mk (fun hc => ?_) (fun hc => ?_)
    · have hlt2 : i < ys.length := by simpa using hc
      have e1 : (i : Int) < ((xs.map (D.int .i64)).length : Int) := by simpa using hlt
      have e2 : (i : Int) < ((ys.map (D.int .i64)).length : Int) := by simpa using hlt2
      conv => whnf
      repeat' (first
        | (refine g_op ?_; conv => whnf)
        | (refine And.intro rfl ?_; conv => whnf)
        | (refine And.intro (Nat.le_of_ble_eq_true rfl) ?_; conv => whnf)
        | (refine g_seq ?_)
        | (refine g_ops ?_)
        | (refine g_loop ?_)
        | (refine g_nil ?_; conv => whnf)
        | (refine g_opg ?_; conv => whnf)
        | (refine Br.t (by first | assumption | rfl) ?_; conv => whnf)
        | (refine Br.f (by first | assumption | rfl) ?_; conv => whnf)
        | (refine g_cond ?_; conv => whnf)
        | (refine g_skip ?_; conv => whnf)
        | (refine g_ret ?_; conv => whnf)
        | (refine g_exit ?_; conv => whnf)
        | (refine g_block ?_)
        | (refine g_quiet ?_)
        | (refine q_op ?_; conv => whnf)
        | (refine q_nil ?_; conv => whnf)
        | (refine q_opg ?_; conv => whnf)
        | (refine r_t ?_; conv => whnf)
        | (refine r_c ?_; conv => whnf)
        | (refine r_nil ?_; conv => whnf)
        | (refine And.intro (by decide) ?_; conv => whnf)
        | (refine And.intro (by omega) ?_; conv => whnf)
        | fail)
      rw [ints_get hlt]
      repeat' (first
        | (refine g_op ?_; conv => whnf)
        | (refine And.intro rfl ?_; conv => whnf)
        | (refine And.intro (Nat.le_of_ble_eq_true rfl) ?_; conv => whnf)
        | (refine g_seq ?_)
        | (refine g_ops ?_)
        | (refine g_loop ?_)
        | (refine g_nil ?_; conv => whnf)
        | (refine g_opg ?_; conv => whnf)
        | (refine Br.t (by first | assumption | rfl) ?_; conv => whnf)
        | (refine Br.f (by first | assumption | rfl) ?_; conv => whnf)
        | (refine g_cond ?_; conv => whnf)
        | (refine g_skip ?_; conv => whnf)
        | (refine g_ret ?_; conv => whnf)
        | (refine g_exit ?_; conv => whnf)
        | (refine g_block ?_)
        | (refine g_quiet ?_)
        | (refine q_op ?_; conv => whnf)
        | (refine q_nil ?_; conv => whnf)
        | (refine q_opg ?_; conv => whnf)
        | (refine r_t ?_; conv => whnf)
        | (refine r_c ?_; conv => whnf)
        | (refine r_nil ?_; conv => whnf)
        | (refine And.intro (by decide) ?_; conv => whnf)
        | (refine And.intro (by omega) ?_; conv => whnf)
        | fail)
      rw [ints_get hlt2]
      repeat' (first
        | (refine g_op ?_; conv => whnf)
        | (refine And.intro rfl ?_; conv => whnf)
        | (refine And.intro (Nat.le_of_ble_eq_true rfl) ?_; conv => whnf)
        | (refine g_seq ?_)
        | (refine g_ops ?_)
        | (refine g_loop ?_)
        | (refine g_nil ?_; conv => whnf)
        | (refine g_opg ?_; conv => whnf)
        | (refine Br.t (by first | assumption | rfl) ?_; conv => whnf)
        | (refine Br.f (by first | assumption | rfl) ?_; conv => whnf)
        | (refine g_cond ?_; conv => whnf)
        | (refine g_skip ?_; conv => whnf)
        | (refine g_ret ?_; conv => whnf)
        | (refine g_exit ?_; conv => whnf)
        | (refine g_block ?_)
        | (refine g_quiet ?_)
        | (refine q_op ?_; conv => whnf)
        | (refine q_nil ?_; conv => whnf)
        | (refine q_opg ?_; conv => whnf)
        | (refine r_t ?_; conv => whnf)
        | (refine r_c ?_; conv => whnf)
        | (refine r_nil ?_; conv => whnf)
        | (refine And.intro (by decide) ?_; conv => whnf)
        | (refine And.intro (by omega) ?_; conv => whnf)
        | fail)
      refine Br.mk (fun hd => ?_) (fun hd => ?_)
      · conv => whnf
        repeat' (first
          | (refine g_op ?_; conv => whnf)
          | (refine And.intro rfl ?_; conv => whnf)
          | (refine And.intro (Nat.le_of_ble_eq_true rfl) ?_; conv => whnf)
          | (refine g_seq ?_)
          | (refine g_ops ?_)
          | (refine g_loop ?_)
          | (refine g_nil ?_; conv => whnf)
          | (refine g_opg ?_; conv => whnf)
          | (refine Br.t (by first | assumption | rfl) ?_; conv => whnf)
          | (refine Br.f (by first | assumption | rfl) ?_; conv => whnf)
          | (refine g_cond ?_; conv => whnf)
          | (refine g_skip ?_; conv => whnf)
          | (refine g_ret ?_; conv => whnf)
          | (refine g_exit ?_; conv => whnf)
          | (refine g_block ?_)
          | (refine g_quiet ?_)
          | (refine q_op ?_; conv => whnf)
          | (refine q_nil ?_; conv => whnf)
          | (refine q_opg ?_; conv => whnf)
          | (refine r_t ?_; conv => whnf)
          | (refine r_c ?_; conv => whnf)
          | (refine r_nil ?_; conv => whnf)
          | (refine And.intro (by decide) ?_; conv => whnf)
          | (refine And.intro (by omega) ?_; conv => whnf)
          | fail)
        rw [ints_get hlt]
        repeat' (first
          | (refine g_op ?_; conv => whnf)
          | (refine And.intro rfl ?_; conv => whnf)
          | (refine And.intro (Nat.le_of_ble_eq_true rfl) ?_; conv => whnf)
          | (refine g_seq ?_)
          | (refine g_ops ?_)
          | (refine g_loop ?_)
          | (refine g_nil ?_; conv => whnf)
          | (refine g_opg ?_; conv => whnf)
          | (refine Br.t (by first | assumption | rfl) ?_; conv => whnf)
          | (refine Br.f (by first | assumption | rfl) ?_; conv => whnf)
          | (refine g_cond ?_; conv => whnf)
          | (refine g_skip ?_; conv => whnf)
          | (refine g_ret ?_; conv => whnf)
          | (refine g_exit ?_; conv => whnf)
          | (refine g_block ?_)
          | (refine g_quiet ?_)
          | (refine q_op ?_; conv => whnf)
          | (refine q_nil ?_; conv => whnf)
          | (refine q_opg ?_; conv => whnf)
          | (refine r_t ?_; conv => whnf)
          | (refine r_c ?_; conv => whnf)
          | (refine r_nil ?_; conv => whnf)
          | (refine And.intro (by decide) ?_; conv => whnf)
          | (refine And.intro (by omega) ?_; conv => whnf)
          | fail)
        rw [ints_get hlt2]
        repeat' (first
          | (refine g_op ?_; conv => whnf)
          | (refine And.intro rfl ?_; conv => whnf)
          | (refine And.intro (Nat.le_of_ble_eq_true rfl) ?_; conv => whnf)
          | (refine g_seq ?_)
          | (refine g_ops ?_)
          | (refine g_loop ?_)
          | (refine g_nil ?_; conv => whnf)
          | (refine g_opg ?_; conv => whnf)
          | (refine Br.t (by first | assumption | rfl) ?_; conv => whnf)
          | (refine Br.f (by first | assumption | rfl) ?_; conv => whnf)
          | (refine g_cond ?_; conv => whnf)
          | (refine g_skip ?_; conv => whnf)
          | (refine g_ret ?_; conv => whnf)
          | (refine g_exit ?_; conv => whnf)
          | (refine g_block ?_)
          | (refine g_quiet ?_)
          | (refine q_op ?_; conv => whnf)
          | (refine q_nil ?_; conv => whnf)
          | (refine q_opg ?_; conv => whnf)
          | (refine r_t ?_; conv => whnf)
          | (refine r_c ?_; conv => whnf)
          | (refine r_nil ?_; conv => whnf)
          | (refine And.intro (by decide) ?_; conv => whnf)
          | (refine And.intro (by omega) ?_; conv => whnf)
          | fail)
        conv => lhs; whnf
        rw [hless, less_step hlt hlt2, hd, if_pos rfl]
      conv => whnf
      repeat' (first
        | (refine g_op ?_; conv => whnf)
        | (refine And.intro rfl ?_; conv => whnf)
        | (refine And.intro (Nat.le_of_ble_eq_true rfl) ?_; conv => whnf)
        | (refine g_seq ?_)
        | (refine g_ops ?_)
        | (refine g_loop ?_)
        | (refine g_nil ?_; conv => whnf)
        | (refine g_opg ?_; conv => whnf)
        | (refine Br.t (by first | assumption | rfl) ?_; conv => whnf)
        | (refine Br.f (by first | assumption | rfl) ?_; conv => whnf)
        | (refine g_cond ?_; conv => whnf)
        | (refine g_skip ?_; conv => whnf)
        | (refine g_ret ?_; conv => whnf)
        | (refine g_exit ?_; conv => whnf)
        | (refine g_block ?_)
        | (refine g_quiet ?_)
        | (refine q_op ?_; conv => whnf)
        | (refine q_nil ?_; conv => whnf)
        | (refine q_opg ?_; conv => whnf)
        | (refine r_t ?_; conv => whnf)
        | (refine r_c ?_; conv => whnf)
        | (refine r_nil ?_; conv => whnf)
        | (refine And.intro (by decide) ?_; conv => whnf)
        | (refine And.intro (by omega) ?_; conv => whnf)
        | fail)
      have hw : IntKind.wrap .i64 ((i : Int) + 1) = ((i + 1 : Nat) : Int) := by rw [wrap_ok (by omega) (by omega)]; rfl
      refine ⟨i + 1, ⟨by omega, by omega, ?_⟩, by omega, ?_, True.intro, rfl⟩
      · rw [hless, less_step hlt hlt2, hd]
        rfl
      refine And.intro rfl ?_
      refine And.intro rfl ?_
      refine And.intro rfl ?_
      exact And.intro (congrArg (D.int .i64) hw) True.intro
    · have hlt2 : ¬ i < ys.length := by simpa using hc
      conv => whnf
      repeat' (first
        | (refine g_op ?_; conv => whnf)
        | (refine And.intro rfl ?_; conv => whnf)
        | (refine And.intro (Nat.le_of_ble_eq_true rfl) ?_; conv => whnf)
        | (refine g_seq ?_)
        | (refine g_ops ?_)
        | (refine g_loop ?_)
        | (refine g_nil ?_; conv => whnf)
        | (refine g_opg ?_; conv => whnf)
        | (refine Br.t (by first | assumption | rfl) ?_; conv => whnf)
        | (refine Br.f (by first | assumption | rfl) ?_; conv => whnf)
        | (refine g_cond ?_; conv => whnf)
        | (refine g_skip ?_; conv => whnf)
        | (refine g_ret ?_; conv => whnf)
        | (refine g_exit ?_; conv => whnf)
        | (refine g_block ?_)
        | (refine g_quiet ?_)
        | (refine q_op ?_; conv => whnf)
        | (refine q_nil ?_; conv => whnf)
        | (refine q_opg ?_; conv => whnf)
        | (refine r_t ?_; conv => whnf)
        | (refine r_c ?_; conv => whnf)
        | (refine r_nil ?_; conv => whnf)
        | (refine And.intro (by decide) ?_; conv => whnf)
        | (refine And.intro (by omega) ?_; conv => whnf)
        | fail)
      conv => lhs; whnf
      exact hend (by omega)
  · have hlt : ¬ i < xs.length := by simpa using hb
    conv => whnf
    repeat' (first
      | (refine g_op ?_; conv => whnf)
      | (refine And.intro rfl ?_; conv => whnf)
      | (refine And.intro (Nat.le_of_ble_eq_true rfl) ?_; conv => whnf)
      | (refine g_seq ?_)
      | (refine g_ops ?_)
      | (refine g_loop ?_)
      | (refine g_nil ?_; conv => whnf)
      | (refine g_opg ?_; conv => whnf)
      | (refine Br.t (by first | assumption | rfl) ?_; conv => whnf)
      | (refine Br.f (by first | assumption | rfl) ?_; conv => whnf)
      | (refine g_cond ?_; conv => whnf)
      | (refine g_skip ?_; conv => whnf)
      | (refine g_ret ?_; conv => whnf)
      | (refine g_exit ?_; conv => whnf)
      | (refine g_block ?_)
      | (refine g_quiet ?_)
      | (refine q_op ?_; conv => whnf)
      | (refine q_nil ?_; conv => whnf)
      | (refine q_opg ?_; conv => whnf)
      | (refine r_t ?_; conv => whnf)
      | (refine r_c ?_; conv => whnf)
      | (refine r_nil ?_; conv => whnf)
      | (refine And.intro (by decide) ?_; conv => whnf)
      | (refine And.intro (by omega) ?_; conv => whnf)
      | fail)
    conv => lhs; whnf
    exact hend (by omega)
theorem isNaN_int (x : Int) (hp : Nat → Option Row) (K : D → (Nat → Option Row) → Prop) (h : K (.bool false) hp) : XC Try.prog 96 [.int .i64 x] hp K := by
  refine XC.intro' hm c96 (Nat.le_of_ble_eq_true rfl) ?_
  conv => whnf
  repeat' (first
    | (refine g_op ?_; conv => whnf)
    | (refine And.intro rfl ?_; conv => whnf)
    | (refine And.intro (Nat.le_of_ble_eq_true rfl) ?_; conv => whnf)
    | (refine g_seq ?_)
    | (refine g_ops ?_)
    | (refine g_loop ?_)
    | (refine g_nil ?_; conv => whnf)
    | (refine g_opg ?_; conv => whnf)
    | (refine Br.t (by first | assumption | rfl) ?_; conv => whnf)
    | (refine Br.f (by first | assumption | rfl) ?_; conv => whnf)
    | (refine g_cond ?_; conv => whnf)
    | (refine g_skip ?_; conv => whnf)
    | (refine g_ret ?_; conv => whnf)
    | (refine g_exit ?_; conv => whnf)
    | (refine g_block ?_)
    | (refine g_quiet ?_)
    | (refine q_op ?_; conv => whnf)
    | (refine q_nil ?_; conv => whnf)
    | (refine q_opg ?_; conv => whnf)
    | (refine r_t ?_; conv => whnf)
    | (refine r_c ?_; conv => whnf)
    | (refine r_nil ?_; conv => whnf)
    | (refine And.intro (by decide) ?_; conv => whnf)
    | (refine And.intro (by omega) ?_; conv => whnf)
    | fail)
  have e : (x != x) = false := by simp
  have h2 := e ▸ h
  first | exact h | exact h2 | (show K (D.bool (x != x)) hp; rw [e]; exact h)
theorem cmp_int (x y : Int) (hp : Nat → Option Row) (K : D → (Nat → Option Row) → Prop) (h : K (.int .i64 (if x < y then -1 else if x > y then 1 else 0)) hp) : XC Try.prog 59 [.int .i64 x, .int .i64 y] hp K := by
  refine XC.intro' hm c59 (Nat.le_of_ble_eq_true rfl) ?_
  conv => whnf
  repeat' (first
    | (refine g_op ?_; conv => whnf)
    | (refine And.intro rfl ?_; conv => whnf)
    | (refine And.intro (Nat.le_of_ble_eq_true rfl) ?_; conv => whnf)
    | (refine g_seq ?_)
    | (refine g_ops ?_)
    | (refine g_loop ?_)
    | (refine g_nil ?_; conv => whnf)
    | (refine g_opg ?_; conv => whnf)
    | (refine Br.t (by first | assumption | rfl) ?_; conv => whnf)
    | (refine Br.f (by first | assumption | rfl) ?_; conv => whnf)
    | (refine g_cond ?_; conv => whnf)
    | (refine g_skip ?_; conv => whnf)
    | (refine g_ret ?_; conv => whnf)
    | (refine g_exit ?_; conv => whnf)
    | (refine g_block ?_)
    | (refine g_quiet ?_)
    | (refine q_op ?_; conv => whnf)
    | (refine q_nil ?_; conv => whnf)
    | (refine q_opg ?_; conv => whnf)
    | (refine r_t ?_; conv => whnf)
    | (refine r_c ?_; conv => whnf)
    | (refine r_nil ?_; conv => whnf)
    | (refine And.intro (by decide) ?_; conv => whnf)
    | (refine And.intro (by omega) ?_; conv => whnf)
    | fail)
  refine isNaN_int _ _ _ ?_
  conv => whnf
  repeat' (first
    | (refine g_op ?_; conv => whnf)
    | (refine And.intro rfl ?_; conv => whnf)
    | (refine And.intro (Nat.le_of_ble_eq_true rfl) ?_; conv => whnf)
    | (refine g_seq ?_)
    | (refine g_ops ?_)
    | (refine g_loop ?_)
    | (refine g_nil ?_; conv => whnf)
    | (refine g_opg ?_; conv => whnf)
    | (refine Br.t (by first | assumption | rfl) ?_; conv => whnf)
    | (refine Br.f (by first | assumption | rfl) ?_; conv => whnf)
    | (refine g_cond ?_; conv => whnf)
    | (refine g_skip ?_; conv => whnf)
    | (refine g_ret ?_; conv => whnf)
    | (refine g_exit ?_; conv => whnf)
    | (refine g_block ?_)
    | (refine g_quiet ?_)
    | (refine q_op ?_; conv => whnf)
    | (refine q_nil ?_; conv => whnf)
    | (refine q_opg ?_; conv => whnf)
    | (refine r_t ?_; conv => whnf)
    | (refine r_c ?_; conv => whnf)
    | (refine r_nil ?_; conv => whnf)
    | (refine And.intro (by decide) ?_; conv => whnf)
    | (refine And.intro (by omega) ?_; conv => whnf)
    | fail)
  refine isNaN_int _ _ _ ?_
  conv => whnf
  repeat' (first
    | (refine g_op ?_; conv => whnf)
    | (refine And.intro rfl ?_; conv => whnf)
    | (refine And.intro (Nat.le_of_ble_eq_true rfl) ?_; conv => whnf)
    | (refine g_seq ?_)
    | (refine g_ops ?_)
    | (refine g_loop ?_)
    | (refine g_nil ?_; conv => whnf)
    | (refine g_opg ?_; conv => whnf)
    | (refine Br.t (by first | assumption | rfl) ?_; conv => whnf)
    | (refine Br.f (by first | assumption | rfl) ?_; conv => whnf)
    | (refine g_cond ?_; conv => whnf)
    | (refine g_skip ?_; conv => whnf)
    | (refine g_ret ?_; conv => whnf)
    | (refine g_exit ?_; conv => whnf)
    | (refine g_block ?_)
    | (refine g_quiet ?_)
    | (refine q_op ?_; conv => whnf)
    | (refine q_nil ?_; conv => whnf)
    | (refine q_opg ?_; conv => whnf)
    | (refine r_t ?_; conv => whnf)
    | (refine r_c ?_; conv => whnf)
    | (refine r_nil ?_; conv => whnf)
    | (refine And.intro (by decide) ?_; conv => whnf)
    | (refine And.intro (by omega) ?_; conv => whnf)
    | fail)
  refine Br.mk (fun hb => ?_) (fun hb => ?_)
  · have e : x < y := by simpa using hb
    rw [if_pos e] at h
    conv => whnf
    repeat' (first
      | (refine g_op ?_; conv => whnf)
      | (refine And.intro rfl ?_; conv => whnf)
      | (refine And.intro (Nat.le_of_ble_eq_true rfl) ?_; conv => whnf)
      | (refine g_seq ?_)
      | (refine g_ops ?_)
      | (refine g_loop ?_)
      | (refine g_nil ?_; conv => whnf)
      | (refine g_opg ?_; conv => whnf)
      | (refine Br.t (by first | assumption | rfl) ?_; conv => whnf)
      | (refine Br.f (by first | assumption | rfl) ?_; conv => whnf)
      | (refine g_cond ?_; conv => whnf)
      | (refine g_skip ?_; conv => whnf)
      | (refine g_ret ?_; conv => whnf)
      | (refine g_exit ?_; conv => whnf)
      | (refine g_block ?_)
      | (refine g_quiet ?_)
      | (refine q_op ?_; conv => whnf)
      | (refine q_nil ?_; conv => whnf)
      | (refine q_opg ?_; conv => whnf)
      | (refine r_t ?_; conv => whnf)
      | (refine r_c ?_; conv => whnf)
      | (refine r_nil ?_; conv => whnf)
      | (refine And.intro (by decide) ?_; conv => whnf)
      | (refine And.intro (by omega) ?_; conv => whnf)
      | fail)
    exact h
  have e : ¬ x < y := by simpa using hb
  rw [if_neg e] at h
  conv => whnf
  repeat' (first
    | (refine g_op ?_; conv => whnf)
    | (refine And.intro rfl ?_; conv => whnf)
    | (refine And.intro (Nat.le_of_ble_eq_true rfl) ?_; conv => whnf)
    | (refine g_seq ?_)
    | (refine g_ops ?_)
    | (refine g_loop ?_)
    | (refine g_nil ?_; conv => whnf)
    | (refine g_opg ?_; conv => whnf)
    | (refine Br.t (by first | assumption | rfl) ?_; conv => whnf)
    | (refine Br.f (by first | assumption | rfl) ?_; conv => whnf)
    | (refine g_cond ?_; conv => whnf)
    | (refine g_skip ?_; conv => whnf)
    | (refine g_ret ?_; conv => whnf)
    | (refine g_exit ?_; conv => whnf)
    | (refine g_block ?_)
    | (refine g_quiet ?_)
    | (refine q_op ?_; conv => whnf)
    | (refine q_nil ?_; conv => whnf)
    | (refine q_opg ?_; conv => whnf)
    | (refine r_t ?_; conv => whnf)
    | (refine r_c ?_; conv => whnf)
    | (refine r_nil ?_; conv => whnf)
    | (refine And.intro (by decide) ?_; conv => whnf)
    | (refine And.intro (by omega) ?_; conv => whnf)
    | fail)
  refine Br.mk (fun hb => ?_) (fun hb => ?_)
  · have e : x > y := by simpa using hb
    rw [if_pos e] at h
    conv => whnf
    repeat' (first
      | (refine g_op ?_; conv => whnf)
      | (refine And.intro rfl ?_; conv => whnf)
      | (refine And.intro (Nat.le_of_ble_eq_true rfl) ?_; conv => whnf)
      | (refine g_seq ?_)
      | (refine g_ops ?_)
      | (refine g_loop ?_)
      | (refine g_nil ?_; conv => whnf)
      | (refine g_opg ?_; conv => whnf)
      | (refine Br.t (by first | assumption | rfl) ?_; conv => whnf)
      | (refine Br.f (by first | assumption | rfl) ?_; conv => whnf)
      | (refine g_cond ?_; conv => whnf)
      | (refine g_skip ?_; conv => whnf)
      | (refine g_ret ?_; conv => whnf)
      | (refine g_exit ?_; conv => whnf)
      | (refine g_block ?_)
      | (refine g_quiet ?_)
      | (refine q_op ?_; conv => whnf)
      | (refine q_nil ?_; conv => whnf)
      | (refine q_opg ?_; conv => whnf)
      | (refine r_t ?_; conv => whnf)
      | (refine r_c ?_; conv => whnf)
      | (refine r_nil ?_; conv => whnf)
      | (refine And.intro (by decide) ?_; conv => whnf)
      | (refine And.intro (by omega) ?_; conv => whnf)
      | fail)
    exact h
  have e : ¬ x > y := by simpa using hb
  rw [if_neg e] at h
  conv => whnf
  repeat' (first
    | (refine g_op ?_; conv => whnf)
    | (refine And.intro rfl ?_; conv => whnf)
    | (refine And.intro (Nat.le_of_ble_eq_true rfl) ?_; conv => whnf)
    | (refine g_seq ?_)
    | (refine g_ops ?_)
    | (refine g_loop ?_)
    | (refine g_nil ?_; conv => whnf)
    | (refine g_opg ?_; conv => whnf)
    | (refine Br.t (by first | assumption | rfl) ?_; conv => whnf)
    | (refine Br.f (by first | assumption | rfl) ?_; conv => whnf)
    | (refine g_cond ?_; conv => whnf)
    | (refine g_skip ?_; conv => whnf)
    | (refine g_ret ?_; conv => whnf)
    | (refine g_exit ?_; conv => whnf)
    | (refine g_block ?_)
    | (refine g_quiet ?_)
    | (refine q_op ?_; conv => whnf)
    | (refine q_nil ?_; conv => whnf)
    | (refine q_opg ?_; conv => whnf)
    | (refine r_t ?_; conv => whnf)
    | (refine r_c ?_; conv => whnf)
    | (refine r_nil ?_; conv => whnf)
    | (refine And.intro (by decide) ?_; conv => whnf)
    | (refine And.intro (by omega) ?_; conv => whnf)
    | fail)
  exact h
theorem cmp3_end {xs ys : List Int} {i : Nat} (h1 : xs.length ≤ i) (h2 : i ≤ xs.length) (h3 : i ≤ ys.length) : cmp3 (xs.drop i) (ys.drop i) = if (xs.length : Int) < ys.length then -1 else 0 := by
  have e2 : xs.drop i = [] := List.drop_eq_nil_of_le h1
  rw [e2]
  by_cases e3 : i < ys.length
  · rw [List.drop_eq_getElem_cons e3]
    have : ((xs.length : Int) < ys.length) := by omega
    simp [cmp3, this]
  · rw [List.drop_eq_nil_of_le (by omega)]
    have : ¬ ((xs.length : Int) < ys.length) := by omega
    simp [cmp3, this]
theorem slices_Compare (xs ys : List Int) (h1 : xs.length ≤ 1048576) (h2 : ys.length ≤ 1048576) : Rdr Try.prog 29 [ints xs, ints ys] (.int .i64 (cmp3 xs ys)) := by
  refine Rdr.intro' hm c29 (Nat.le_of_ble_eq_true rfl) ?_
  conv => whnf
  repeat' (first
    | (refine g_op ?_; conv => whnf)
    | (refine And.intro rfl ?_; conv => whnf)
    | (refine And.intro (Nat.le_of_ble_eq_true rfl) ?_; conv => whnf)
    | (refine g_seq ?_)
    | (refine g_ops ?_)
    | (refine g_loop ?_)
    | (refine g_nil ?_; conv => whnf)
    | (refine g_opg ?_; conv => whnf)
    | (refine Br.t (by first | assumption | rfl) ?_; conv => whnf)
    | (refine Br.f (by first | assumption | rfl) ?_; conv => whnf)
    | (refine g_cond ?_; conv => whnf)
    | (refine g_skip ?_; conv => whnf)
    | (refine g_ret ?_; conv => whnf)
    | (refine g_exit ?_; conv => whnf)
    | (refine g_block ?_)
    | (refine g_quiet ?_)
    | (refine q_op ?_; conv => whnf)
    | (refine q_nil ?_; conv => whnf)
    | (refine q_opg ?_; conv => whnf)
    | (refine r_t ?_; conv => whnf)
    | (refine r_c ?_; conv => whnf)
    | (refine r_nil ?_; conv => whnf)
    | (refine And.intro (by decide) ?_; conv => whnf)
    | (refine And.intro (by omega) ?_; conv => whnf)
    | fail)
  refine XLc.mkL (α := Nat) (fun i => i ≤ xs.length ∧ i ≤ ys.length ∧ cmp3 xs ys = cmp3 (xs.drop i) (ys.drop i)) (fun i => xs.length - i) (fun i gs => [ints xs, ints ys, .any, .any, .int .i64 0, .any, .any, .any, .any, ints xs, .int .i64 ((xs.map (D.int .i64)).length : Int), .int .i64 (i : Int)]) (fun i gs => []) (fun _ => none) 0 ⟨Nat.zero_le _, Nat.zero_le _, rfl⟩ ?_ ?_
  · refine ⟨?_, True.intro, rfl⟩
    repeat' (first | exact True.intro | refine And.intro rfl ?_)
  intro i gs hI
  obtain ⟨hi, hj, hcmp⟩ := hI
  repeat' (first
    | (refine g_op ?_; conv => whnf)
    | (refine And.intro rfl ?_; conv => whnf)
    | (refine And.intro (Nat.le_of_ble_eq_true rfl) ?_; conv => whnf)
    | (refine g_seq ?_)
    | (refine g_ops ?_)
    | (refine g_loop ?_)
    | (refine g_nil ?_; conv => whnf)
    | (refine g_opg ?_; conv => whnf)
    | (refine Br.t (by first | assumption | rfl) ?_; conv => whnf)
    | (refine Br.f (by first | assumption | rfl) ?_; conv => whnf)
    | (refine g_cond ?_; conv => whnf)
    | (refine g_skip ?_; conv => whnf)
    | (refine g_ret ?_; conv => whnf)
    | (refine g_exit ?_; conv => whnf)
    | (refine g_block ?_)
    | (refine g_quiet ?_)
    | (refine q_op ?_; conv => whnf)
    | (refine q_nil ?_; conv => whnf)
    | (refine q_opg ?_; conv => whnf)
    | (refine r_t ?_; conv => whnf)
    | (refine r_c ?_; conv => whnf)
    | (refine r_nil ?_; conv => whnf)
    | (refine And.intro (by decide) ?_; conv => whnf)
    | (refine And.intro (by omega) ?_; conv => whnf)
    | fail)
  refine Br.mk (fun hb => ?_) (fun hb => ?_)
  · have hlt : i < xs.length := by simpa using hb
    have e1 : (i : Int) < ((xs.map (D.int .i64)).length : Int) := by simpa using hlt
    conv => whnf
    repeat' (first
      | (refine g_op ?_; conv => whnf)
      | (refine And.intro rfl ?_; conv => whnf)
      | (refine And.intro (Nat.le_of_ble_eq_true rfl) ?_; conv => whnf)
      | (refine g_seq ?_)
      | (refine g_ops ?_)
      | (refine g_loop ?_)
      | (refine g_nil ?_; conv => whnf)
      | (refine g_opg ?_; conv => whnf)
      | (refine Br.t (by first | assumption | rfl) ?_; conv => whnf)
      | (refine Br.f (by first | assumption | rfl) ?_; conv => whnf)
      | (refine g_cond ?_; conv => whnf)
      | (refine g_skip ?_; conv => whnf)
      | (refine g_ret ?_; conv => whnf)
      | (refine g_exit ?_; conv => whnf)
      | (refine g_block ?_)
      | (refine g_quiet ?_)
      | (refine q_op ?_; conv => whnf)
      | (refine q_nil ?_; conv => whnf)
      | (refine q_opg ?_; conv => whnf)
      | (refine r_t ?_; conv => whnf)
      | (refine r_c ?_; conv => whnf)
      | (refine r_nil ?_; conv => whnf)
      | (refine And.intro (by decide) ?_; conv => whnf)
      | (refine And.intro (by omega) ?_; conv => whnf)
      | fail)
    rw [ints_get hlt]
    repeat' (first
      | (refine g_op ?_; conv => whnf)
      | (refine And.intro rfl ?_; conv => whnf)
      | (refine And.intro (Nat.le_of_ble_eq_true rfl) ?_; conv => whnf)
      | (refine g_seq ?_)
      | (refine g_ops ?_)
      | (refine g_loop ?_)
      | (refine g_nil ?_; conv => whnf)
      | (refine g_opg ?_; conv => whnf)
      | (refine Br.t (by first | assumption | rfl) ?_; conv => whnf)
      | (refine Br.f (by first | assumption | rfl) ?_; conv => whnf)
      | (refine g_cond ?_; conv => whnf)
      | (refine g_skip ?_; conv => whnf)
      | (refine g_ret ?_; conv => whnf)
      | (refine g_exit ?_; conv => whnf)
      | (refine g_block ?_)
      | (refine g_quiet ?_)
      | (refine q_op ?_; conv => whnf)
      | (refine q_nil ?_; conv => whnf)
      | (refine q_opg ?_; conv => whnf)
      | (refine r_t ?_; conv => whnf)
      | (refine r_c ?_; conv => whnf)
      | (refine r_nil ?_; conv => whnf)
      | (refine And.intro (by decide) ?_; conv => whnf)
      | (refine And.intro (by omega) ?_; conv => whnf)
      | fail)
    refine Br.mk (fun hc => ?_) (fun hc => ?_)
    · have hge : ys.length ≤ i := by simpa using hc
      conv => whnf
      repeat' (first
        | (refine g_op ?_; conv => whnf)
        | (refine And.intro rfl ?_; conv => whnf)
        | (refine And.intro (Nat.le_of_ble_eq_true rfl) ?_; conv => whnf)
        | (refine g_seq ?_)
        | (refine g_ops ?_)
        | (refine g_loop ?_)
        | (refine g_nil ?_; conv => whnf)
        | (refine g_opg ?_; conv => whnf)
        | (refine Br.t (by first | assumption | rfl) ?_; conv => whnf)
        | (refine Br.f (by first | assumption | rfl) ?_; conv => whnf)
        | (refine g_cond ?_; conv => whnf)
        | (refine g_skip ?_; conv => whnf)
        | (refine g_ret ?_; conv => whnf)
        | (refine g_exit ?_; conv => whnf)
        | (refine g_block ?_)
        | (refine g_quiet ?_)
        | (refine q_op ?_; conv => whnf)
        | (refine q_nil ?_; conv => whnf)
        | (refine q_opg ?_; conv => whnf)
        | (refine r_t ?_; conv => whnf)
        | (refine r_c ?_; conv => whnf)
        | (refine r_nil ?_; conv => whnf)
        | (refine And.intro (by decide) ?_; conv => whnf)
        | (refine And.intro (by omega) ?_; conv => whnf)
        | fail)
      conv => lhs; whnf
      have : cmp3 xs ys = 1 := by
        rw [hcmp, List.drop_eq_getElem_cons hlt, List.drop_eq_nil_of_le hge]
        rfl
      rw [this]
    have hlt2 : i < ys.length := by simpa using hc
    have e2 : (i : Int) < ((ys.map (D.int .i64)).length : Int) := by simpa using hlt2
    conv => whnf
    repeat' (first
      | (refine g_op ?_; conv => whnf)
      | (refine And.intro rfl ?_; conv => whnf)
      | (refine And.intro (Nat.le_of_ble_eq_true rfl) ?_; conv => whnf)
      | (refine g_seq ?_)
      | (refine g_ops ?_)
      | (refine g_loop ?_)
      | (refine g_nil ?_; conv => whnf)
      | (refine g_opg ?_; conv => whnf)
      | (refine Br.t (by first | assumption | rfl) ?_; conv => whnf)
      | (refine Br.f (by first | assumption | rfl) ?_; conv => whnf)
      | (refine g_cond ?_; conv => whnf)
      | (refine g_skip ?_; conv => whnf)
      | (refine g_ret ?_; conv => whnf)
      | (refine g_exit ?_; conv => whnf)
      | (refine g_block ?_)
      | (refine g_quiet ?_)
      | (refine q_op ?_; conv => whnf)
      | (refine q_nil ?_; conv => whnf)
      | (refine q_opg ?_; conv => whnf)
      | (refine r_t ?_; conv => whnf)
      | (refine r_c ?_; conv => whnf)
      | (refine r_nil ?_; conv => whnf)
      | (refine And.intro (by decide) ?_; conv => whnf)
      | (refine And.intro (by omega) ?_; conv => whnf)
      | fail)
    rw [ints_get hlt2]
    repeat' (first
      | (refine g_op ?_; conv => whnf)
      | (refine And.intro rfl ?_; conv => whnf)
      | (refine And.intro (Nat.le_of_ble_eq_true rfl) ?_; conv => whnf)
      | (refine g_seq ?_)
      | (refine g_ops ?_)
      | (refine g_loop ?_)
      | (refine g_nil ?_; conv => whnf)
      | (refine g_opg ?_; conv => whnf)
      | (refine Br.t (by first | assumption | rfl) ?_; conv => whnf)
      | (refine Br.f (by first | assumption | rfl) ?_; conv => whnf)
      | (refine g_cond ?_; conv => whnf)
      | (refine g_skip ?_; conv => whnf)
      | (refine g_ret ?_; conv => whnf)
      | (refine g_exit ?_; conv => whnf)
      | (refine g_block ?_)
      | (refine g_quiet ?_)
      | (refine q_op ?_; conv => whnf)
      | (refine q_nil ?_; conv => whnf)
      | (refine q_opg ?_; conv => whnf)
      | (refine r_t ?_; conv => whnf)
      | (refine r_c ?_; conv => whnf)
      | (refine r_nil ?_; conv => whnf)
      | (refine And.intro (by decide) ?_; conv => whnf)
      | (refine And.intro (by omega) ?_; conv => whnf)
      | fail)
    refine cmp_int _ _ _ _ ?_
    conv => whnf
    repeat' (first
      | (refine g_op ?_; conv => whnf)
      | (refine And.intro rfl ?_; conv => whnf)
      | (refine And.intro (Nat.le_of_ble_eq_true rfl) ?_; conv => whnf)
      | (refine g_seq ?_)
      | (refine g_ops ?_)
      | (refine g_loop ?_)
      | (refine g_nil ?_; conv => whnf)
      | (refine g_opg ?_; conv => whnf)
      | (refine Br.t (by first | assumption | rfl) ?_; conv => whnf)
      | (refine Br.f (by first | assumption | rfl) ?_; conv => whnf)
      | (refine g_cond ?_; conv => whnf)
      | (refine g_skip ?_; conv => whnf)
      | (refine g_ret ?_; conv => whnf)
      | (refine g_exit ?_; conv => whnf)
      | (refine g_block ?_)
      | (refine g_quiet ?_)
      | (refine q_op ?_; conv => whnf)
      | (refine q_nil ?_; conv => whnf)
      | (refine q_opg ?_; conv => whnf)
      | (refine r_t ?_; conv => whnf)
      | (refine r_c ?_; conv => whnf)
      | (refine r_nil ?_; conv => whnf)
      | (refine And.intro (by decide) ?_; conv => whnf)
      | (refine And.intro (by omega) ?_; conv => whnf)
      | fail)
    refine Br.mk (fun hd => ?_) (fun hd => ?_)
    · conv => whnf
      repeat' (first
        | (refine g_op ?_; conv => whnf)
        | (refine And.intro rfl ?_; conv => whnf)
        | (refine And.intro (Nat.le_of_ble_eq_true rfl) ?_; conv => whnf)
        | (refine g_seq ?_)
        | (refine g_ops ?_)
        | (refine g_loop ?_)
        | (refine g_nil ?_; conv => whnf)
        | (refine g_opg ?_; conv => whnf)
        | (refine Br.t (by first | assumption | rfl) ?_; conv => whnf)
        | (refine Br.f (by first | assumption | rfl) ?_; conv => whnf)
        | (refine g_cond ?_; conv => whnf)
        | (refine g_skip ?_; conv => whnf)
        | (refine g_ret ?_; conv => whnf)
        | (refine g_exit ?_; conv => whnf)
        | (refine g_block ?_)
        | (refine g_quiet ?_)
        | (refine q_op ?_; conv => whnf)
        | (refine q_nil ?_; conv => whnf)
        | (refine q_opg ?_; conv => whnf)
        | (refine r_t ?_; conv => whnf)
        | (refine r_c ?_; conv => whnf)
        | (refine r_nil ?_; conv => whnf)
        | (refine And.intro (by decide) ?_; conv => whnf)
        | (refine And.intro (by omega) ?_; conv => whnf)
        | fail)
      conv => lhs; whnf
      rw [hcmp, cmp3_step hlt hlt2]
      by_cases q1 : xs[i] < ys[i]
      · simp [q1]
      · by_cases q2 : xs[i] > ys[i]
        · simp [q1, q2]
        · simp [q1, q2] at hd
    have q1 : ¬ xs[i] < ys[i] := fun q => by simp [q] at hd
    have q2 : ¬ xs[i] > ys[i] := fun q => by simp [q1, q] at hd
    conv => whnf
    repeat' (first
      | (refine g_op ?_; conv => whnf)
      | (refine And.intro rfl ?_; conv => whnf)
      | (refine And.intro (Nat.le_of_ble_eq_true rfl) ?_; conv => whnf)
      | (refine g_seq ?_)
      | (refine g_ops ?_)
      | (refine g_loop ?_)
      | (refine g_nil ?_; conv => whnf)
      | (refine g_opg ?_; conv => whnf)
      | (refine Br.t (by first | assumption | rfl) ?_; conv => whnf)
      | (refine Br.f (by first | assumption | rfl) ?_; conv => whnf)
      | (refine g_cond ?_; conv => whnf)
      | (refine g_skip ?_; conv => whnf)
      | (refine g_ret ?_; conv => whnf)
      | (refine g_exit ?_; conv => whnf)
      | (refine g_block ?_)
      | (refine g_quiet ?_)
      | (refine q_op ?_; conv => whnf)
      | (refine q_nil ?_; conv => whnf)
      | (refine q_opg ?_; conv => whnf)
      | (refine r_t ?_; conv => whnf)
      | (refine r_c ?_; conv => whnf)
      | (refine r_nil ?_; conv => whnf)
      | (refine And.intro (by decide) ?_; conv => whnf)
      | (refine And.intro (by omega) ?_; conv => whnf)
      | fail)
    have hw : IntKind.wrap .i64 ((i : Int) + 1) = ((i + 1 : Nat) : Int) := by rw [wrap_ok (by omega) (by omega)]; rfl
    refine ⟨i + 1, ⟨by omega, by omega, ?_⟩, by omega, ?_, True.intro, rfl⟩
    · rw [hcmp, cmp3_step hlt hlt2, if_neg q1, if_neg q2]
    refine And.intro rfl ?_
    refine And.intro rfl ?_
    refine And.intro rfl ?_
    refine And.intro rfl ?_
    refine And.intro rfl ?_
    exact And.intro (congrArg (D.int .i64) hw) True.intro
  have hge : xs.length ≤ i := by simpa using hb
  have hend : cmp3 xs ys = if (xs.length : Int) < ys.length then -1 else 0 := by rw [hcmp, cmp3_end hge hi hj]
  conv => whnf
  repeat' (first
    | (refine g_op ?_; conv => whnf)
    | (refine And.intro rfl ?_; conv => whnf)
    | (refine And.intro (Nat.le_of_ble_eq_true rfl) ?_; conv => whnf)
    | (refine g_seq ?_)
    | (refine g_ops ?_)
    | (refine g_loop ?_)
    | (refine g_nil ?_; conv => whnf)
    | (refine g_opg ?_; conv => whnf)
    | (refine Br.t (by first | assumption | rfl) ?_; conv => whnf)
    | (refine Br.f (by first | assumption | rfl) ?_; conv => whnf)
    | (refine g_cond ?_; conv => whnf)
    | (refine g_skip ?_; conv => whnf)
    | (refine g_ret ?_; conv => whnf)
    | (refine g_exit ?_; conv => whnf)
    | (refine g_block ?_)
    | (refine g_quiet ?_)
    | (refine q_op ?_; conv => whnf)
    | (refine q_nil ?_; conv => whnf)
    | (refine q_opg ?_; conv => whnf)
    | (refine r_t ?_; conv => whnf)
    | (refine r_c ?_; conv => whnf)
    | (refine r_nil ?_; conv => whnf)
    | (refine And.intro (by decide) ?_; conv => whnf)
    | (refine And.intro (by omega) ?_; conv => whnf)
    | fail)
  refine Br.mk (fun hd => ?_) (fun hd => ?_)
  · have q : (xs.length : Int) < ys.length := by simpa using hd
    rw [if_pos q] at hend
    conv => whnf
    repeat' (first
      | (refine g_op ?_; conv => whnf)
      | (refine And.intro rfl ?_; conv => whnf)
      | (refine And.intro (Nat.le_of_ble_eq_true rfl) ?_; conv => whnf)
      | (refine g_seq ?_)
      | (refine g_ops ?_)
      | (refine g_loop ?_)
      | (refine g_nil ?_; conv => whnf)
      | (refine g_opg ?_; conv => whnf)
      | (refine Br.t (by first | assumption | rfl) ?_; conv => whnf)
      | (refine Br.f (by first | assumption | rfl) ?_; conv => whnf)
      | (refine g_cond ?_; conv => whnf)
      | (refine g_skip ?_; conv => whnf)
      | (refine g_ret ?_; conv => whnf)
      | (refine g_exit ?_; conv => whnf)
      | (refine g_block ?_)
      | (refine g_quiet ?_)
      | (refine q_op ?_; conv => whnf)
      | (refine q_nil ?_; conv => whnf)
      | (refine q_opg ?_; conv => whnf)
      | (refine r_t ?_; conv => whnf)
      | (refine r_c ?_; conv => whnf)
      | (refine r_nil ?_; conv => whnf)
      | (refine And.intro (by decide) ?_; conv => whnf)
      | (refine And.intro (by omega) ?_; conv => whnf)
      | fail)
    conv => lhs; whnf
    rw [hend]
  have q : ¬ (xs.length : Int) < ys.length := by simpa using hd
  rw [if_neg q] at hend
  conv => whnf
  repeat' (first
    | (refine g_op ?_; conv => whnf)
    | (refine And.intro rfl ?_; conv => whnf)
    | (refine And.intro (Nat.le_of_ble_eq_true rfl) ?_; conv => whnf)
    | (refine g_seq ?_)
    | (refine g_ops ?_)
    | (refine g_loop ?_)
    | (refine g_nil ?_; conv => whnf)
    | (refine g_opg ?_; conv => whnf)
    | (refine Br.t (by first | assumption | rfl) ?_; conv => whnf)
    | (refine Br.f (by first | assumption | rfl) ?_; conv => whnf)
    | (refine g_cond ?_; conv => whnf)
    | (refine g_skip ?_; conv => whnf)
    | (refine g_ret ?_; conv => whnf)
    | (refine g_exit ?_; conv => whnf)
    | (refine g_block ?_)
    | (refine g_quiet ?_)
    | (refine q_op ?_; conv => whnf)
    | (refine q_nil ?_; conv => whnf)
    | (refine q_opg ?_; conv => whnf)
    | (refine r_t ?_; conv => whnf)
    | (refine r_c ?_; conv => whnf)
    | (refine r_nil ?_; conv => whnf)
    | (refine And.intro (by decide) ?_; conv => whnf)
    | (refine And.intro (by omega) ?_; conv => whnf)
    | fail)
  conv => lhs; whnf
  rw [hend]
theorem impl_PilotLess (xs ys : List Int) (h1 : xs.length ≤ 1048576) (h2 : ys.length ≤ 1048576) : Rdr Try.prog 13 [ints xs, ints ys] (.bool (less xs ys)) := by
  refine Rdr.intro' hm c13 (Nat.le_of_ble_eq_true rfl) ?_
  conv => whnf
  repeat' (first
    | (refine g_op ?_; conv => whnf)
    | (refine And.intro rfl ?_; conv => whnf)
    | (refine And.intro (Nat.le_of_ble_eq_true rfl) ?_; conv => whnf)
    | (refine g_seq ?_)
    | (refine g_ops ?_)
    | (refine g_loop ?_)
    | (refine g_nil ?_; conv => whnf)
    | (refine g_opg ?_; conv => whnf)
    | (refine Br.t (by first | assumption | rfl) ?_; conv => whnf)
    | (refine Br.f (by first | assumption | rfl) ?_; conv => whnf)
    | (refine g_cond ?_; conv => whnf)
    | (refine g_skip ?_; conv => whnf)
    | (refine g_ret ?_; conv => whnf)
    | (refine g_exit ?_; conv => whnf)
    | (refine g_block ?_)
    | (refine g_quiet ?_)
    | (refine q_op ?_; conv => whnf)
    | (refine q_nil ?_; conv => whnf)
    | (refine q_opg ?_; conv => whnf)
    | (refine r_t ?_; conv => whnf)
    | (refine r_c ?_; conv => whnf)
    | (refine r_nil ?_; conv => whnf)
    | (refine And.intro (by decide) ?_; conv => whnf)
    | (refine And.intro (by omega) ?_; conv => whnf)
    | fail)
  refine XC.of_rdr (slices_Compare xs ys h1 h2) ?_
  conv => whnf
  repeat' (first
    | (refine g_op ?_; conv => whnf)
    | (refine And.intro rfl ?_; conv => whnf)
    | (refine And.intro (Nat.le_of_ble_eq_true rfl) ?_; conv => whnf)
    | (refine g_seq ?_)
    | (refine g_ops ?_)
    | (refine g_loop ?_)
    | (refine g_nil ?_; conv => whnf)
    | (refine g_opg ?_; conv => whnf)
    | (refine Br.t (by first | assumption | rfl) ?_; conv => whnf)
    | (refine Br.f (by first | assumption | rfl) ?_; conv => whnf)
    | (refine g_cond ?_; conv => whnf)
    | (refine g_skip ?_; conv => whnf)
    | (refine g_ret ?_; conv => whnf)
    | (refine g_exit ?_; conv => whnf)
    | (refine g_block ?_)
    | (refine g_quiet ?_)
    | (refine q_op ?_; conv => whnf)
    | (refine q_nil ?_; conv => whnf)
    | (refine q_opg ?_; conv => whnf)
    | (refine r_t ?_; conv => whnf)
    | (refine r_c ?_; conv => whnf)
    | (refine r_nil ?_; conv => whnf)
    | (refine And.intro (by decide) ?_; conv => whnf)
    | (refine And.intro (by omega) ?_; conv => whnf)
    | fail)
  conv => lhs; whnf
  exact congrArg D.bool (less_cmp3 xs ys)
/-- A slice of whole numbers, as it comes in. -/
def IsInts (l : List Int) (d : D) : Prop := (d = .nil ∧ l = []) ∨ d = ints l
theorem to_ints {l : List Int} {d : D} (h : IsInts l d) (hl : l.length ≤ 1048576) : Rdr Try.prog 12 [d] (ints l) := by
  rcases h with ⟨rfl, rfl⟩ | rfl
  · exact to_IntS_nil
  · exact to_IntS _ (fun d hd => by obtain ⟨v, _, rfl⟩ := List.mem_map.1 hd; exact ⟨v, rfl⟩) (by simpa using hl)
theorem law_PilotLess (xs ys : List Int) (dx dy : D) (hx : IsInts xs dx) (hy : IsInts ys dy) : Rdr Try.prog 5 [dx, dy] (.bool true) := by
  refine Rdr.intro' hm c5 (Nat.le_of_ble_eq_true rfl) ?_
  by_cases h1 : xs.length ≤ 1048576
  · by_cases h2 : ys.length ≤ 1048576
    · have tx := to_ints hx h1
      have ty := to_ints hy h2
      rcases hx with ⟨rfl, rfl⟩ | rfl <;> rcases hy with ⟨rfl, rfl⟩ | rfl
      all_goals
        conv => whnf
        repeat' (first
          | (refine g_op ?_; conv => whnf)
          | (refine And.intro rfl ?_; conv => whnf)
          | (refine And.intro (Nat.le_of_ble_eq_true rfl) ?_; conv => whnf)
          | (refine g_seq ?_)
          | (refine g_ops ?_)
          | (refine g_loop ?_)
          | (refine g_nil ?_; conv => whnf)
          | (refine g_opg ?_; conv => whnf)
          | (refine Br.t (by first | assumption | rfl) ?_; conv => whnf)
          | (refine Br.f (by first | assumption | rfl) ?_; conv => whnf)
          | (refine g_cond ?_; conv => whnf)
          | (refine g_skip ?_; conv => whnf)
          | (refine g_ret ?_; conv => whnf)
          | (refine g_exit ?_; conv => whnf)
          | (refine g_block ?_)
          | (refine g_quiet ?_)
          | (refine q_op ?_; conv => whnf)
          | (refine q_nil ?_; conv => whnf)
          | (refine q_opg ?_; conv => whnf)
          | (refine r_t ?_; conv => whnf)
          | (refine r_c ?_; conv => whnf)
          | (refine r_nil ?_; conv => whnf)
          | (refine And.intro (by decide) ?_; conv => whnf)
          | (refine And.intro (by omega) ?_; conv => whnf)
          | fail)
        try
          refine Br.f (by first | simp; omega | simp | omega) ?_
          conv => whnf
          repeat' (first
            | (refine g_op ?_; conv => whnf)
            | (refine And.intro rfl ?_; conv => whnf)
            | (refine And.intro (Nat.le_of_ble_eq_true rfl) ?_; conv => whnf)
            | (refine g_seq ?_)
            | (refine g_ops ?_)
            | (refine g_loop ?_)
            | (refine g_nil ?_; conv => whnf)
            | (refine g_opg ?_; conv => whnf)
            | (refine Br.t (by first | assumption | rfl) ?_; conv => whnf)
            | (refine Br.f (by first | assumption | rfl) ?_; conv => whnf)
            | (refine g_cond ?_; conv => whnf)
            | (refine g_skip ?_; conv => whnf)
            | (refine g_ret ?_; conv => whnf)
            | (refine g_exit ?_; conv => whnf)
            | (refine g_block ?_)
            | (refine g_quiet ?_)
            | (refine q_op ?_; conv => whnf)
            | (refine q_nil ?_; conv => whnf)
            | (refine q_opg ?_; conv => whnf)
            | (refine r_t ?_; conv => whnf)
            | (refine r_c ?_; conv => whnf)
            | (refine r_nil ?_; conv => whnf)
            | (refine And.intro (by decide) ?_; conv => whnf)
            | (refine And.intro (by omega) ?_; conv => whnf)
            | fail)
        try
          refine Br.f (by first | simp; omega | simp | omega) ?_
          conv => whnf
          repeat' (first
            | (refine g_op ?_; conv => whnf)
            | (refine And.intro rfl ?_; conv => whnf)
            | (refine And.intro (Nat.le_of_ble_eq_true rfl) ?_; conv => whnf)
            | (refine g_seq ?_)
            | (refine g_ops ?_)
            | (refine g_loop ?_)
            | (refine g_nil ?_; conv => whnf)
            | (refine g_opg ?_; conv => whnf)
            | (refine Br.t (by first | assumption | rfl) ?_; conv => whnf)
            | (refine Br.f (by first | assumption | rfl) ?_; conv => whnf)
            | (refine g_cond ?_; conv => whnf)
            | (refine g_skip ?_; conv => whnf)
            | (refine g_ret ?_; conv => whnf)
            | (refine g_exit ?_; conv => whnf)
            | (refine g_block ?_)
            | (refine g_quiet ?_)
            | (refine q_op ?_; conv => whnf)
            | (refine q_nil ?_; conv => whnf)
            | (refine q_opg ?_; conv => whnf)
            | (refine r_t ?_; conv => whnf)
            | (refine r_c ?_; conv => whnf)
            | (refine r_nil ?_; conv => whnf)
            | (refine And.intro (by decide) ?_; conv => whnf)
            | (refine And.intro (by omega) ?_; conv => whnf)
            | fail)
        refine XC.of_rdr tx ?_
        conv => whnf
        repeat' (first
          | (refine g_op ?_; conv => whnf)
          | (refine And.intro rfl ?_; conv => whnf)
          | (refine And.intro (Nat.le_of_ble_eq_true rfl) ?_; conv => whnf)
          | (refine g_seq ?_)
          | (refine g_ops ?_)
          | (refine g_loop ?_)
          | (refine g_nil ?_; conv => whnf)
          | (refine g_opg ?_; conv => whnf)
          | (refine Br.t (by first | assumption | rfl) ?_; conv => whnf)
          | (refine Br.f (by first | assumption | rfl) ?_; conv => whnf)
          | (refine g_cond ?_; conv => whnf)
          | (refine g_skip ?_; conv => whnf)
          | (refine g_ret ?_; conv => whnf)
          | (refine g_exit ?_; conv => whnf)
          | (refine g_block ?_)
          | (refine g_quiet ?_)
          | (refine q_op ?_; conv => whnf)
          | (refine q_nil ?_; conv => whnf)
          | (refine q_opg ?_; conv => whnf)
          | (refine r_t ?_; conv => whnf)
          | (refine r_c ?_; conv => whnf)
          | (refine r_nil ?_; conv => whnf)
          | (refine And.intro (by decide) ?_; conv => whnf)
          | (refine And.intro (by omega) ?_; conv => whnf)
          | fail)
        refine XC.of_rdr ty ?_
        conv => whnf
        repeat' (first
          | (refine g_op ?_; conv => whnf)
          | (refine And.intro rfl ?_; conv => whnf)
          | (refine And.intro (Nat.le_of_ble_eq_true rfl) ?_; conv => whnf)
          | (refine g_seq ?_)
          | (refine g_ops ?_)
          | (refine g_loop ?_)
          | (refine g_nil ?_; conv => whnf)
          | (refine g_opg ?_; conv => whnf)
          | (refine Br.t (by first | assumption | rfl) ?_; conv => whnf)
          | (refine Br.f (by first | assumption | rfl) ?_; conv => whnf)
          | (refine g_cond ?_; conv => whnf)
          | (refine g_skip ?_; conv => whnf)
          | (refine g_ret ?_; conv => whnf)
          | (refine g_exit ?_; conv => whnf)
          | (refine g_block ?_)
          | (refine g_quiet ?_)
          | (refine q_op ?_; conv => whnf)
          | (refine q_nil ?_; conv => whnf)
          | (refine q_opg ?_; conv => whnf)
          | (refine r_t ?_; conv => whnf)
          | (refine r_c ?_; conv => whnf)
          | (refine r_nil ?_; conv => whnf)
          | (refine And.intro (by decide) ?_; conv => whnf)
          | (refine And.intro (by omega) ?_; conv => whnf)
          | fail)
        refine XC.of_rdr (spec_PilotLess _ _ h1 h2) ?_
        conv => whnf
        repeat' (first
          | (refine g_op ?_; conv => whnf)
          | (refine And.intro rfl ?_; conv => whnf)
          | (refine And.intro (Nat.le_of_ble_eq_true rfl) ?_; conv => whnf)
          | (refine g_seq ?_)
          | (refine g_ops ?_)
          | (refine g_loop ?_)
          | (refine g_nil ?_; conv => whnf)
          | (refine g_opg ?_; conv => whnf)
          | (refine Br.t (by first | assumption | rfl) ?_; conv => whnf)
          | (refine Br.f (by first | assumption | rfl) ?_; conv => whnf)
          | (refine g_cond ?_; conv => whnf)
          | (refine g_skip ?_; conv => whnf)
          | (refine g_ret ?_; conv => whnf)
          | (refine g_exit ?_; conv => whnf)
          | (refine g_block ?_)
          | (refine g_quiet ?_)
          | (refine q_op ?_; conv => whnf)
          | (refine q_nil ?_; conv => whnf)
          | (refine q_opg ?_; conv => whnf)
          | (refine r_t ?_; conv => whnf)
          | (refine r_c ?_; conv => whnf)
          | (refine r_nil ?_; conv => whnf)
          | (refine And.intro (by decide) ?_; conv => whnf)
          | (refine And.intro (by omega) ?_; conv => whnf)
          | fail)
        refine XC.of_rdr tx ?_
        conv => whnf
        repeat' (first
          | (refine g_op ?_; conv => whnf)
          | (refine And.intro rfl ?_; conv => whnf)
          | (refine And.intro (Nat.le_of_ble_eq_true rfl) ?_; conv => whnf)
          | (refine g_seq ?_)
          | (refine g_ops ?_)
          | (refine g_loop ?_)
          | (refine g_nil ?_; conv => whnf)
          | (refine g_opg ?_; conv => whnf)
          | (refine Br.t (by first | assumption | rfl) ?_; conv => whnf)
          | (refine Br.f (by first | assumption | rfl) ?_; conv => whnf)
          | (refine g_cond ?_; conv => whnf)
          | (refine g_skip ?_; conv => whnf)
          | (refine g_ret ?_; conv => whnf)
          | (refine g_exit ?_; conv => whnf)
          | (refine g_block ?_)
          | (refine g_quiet ?_)
          | (refine q_op ?_; conv => whnf)
          | (refine q_nil ?_; conv => whnf)
          | (refine q_opg ?_; conv => whnf)
          | (refine r_t ?_; conv => whnf)
          | (refine r_c ?_; conv => whnf)
          | (refine r_nil ?_; conv => whnf)
          | (refine And.intro (by decide) ?_; conv => whnf)
          | (refine And.intro (by omega) ?_; conv => whnf)
          | fail)
        refine XC.of_rdr ty ?_
        conv => whnf
        repeat' (first
          | (refine g_op ?_; conv => whnf)
          | (refine And.intro rfl ?_; conv => whnf)
          | (refine And.intro (Nat.le_of_ble_eq_true rfl) ?_; conv => whnf)
          | (refine g_seq ?_)
          | (refine g_ops ?_)
          | (refine g_loop ?_)
          | (refine g_nil ?_; conv => whnf)
          | (refine g_opg ?_; conv => whnf)
          | (refine Br.t (by first | assumption | rfl) ?_; conv => whnf)
          | (refine Br.f (by first | assumption | rfl) ?_; conv => whnf)
          | (refine g_cond ?_; conv => whnf)
          | (refine g_skip ?_; conv => whnf)
          | (refine g_ret ?_; conv => whnf)
          | (refine g_exit ?_; conv => whnf)
          | (refine g_block ?_)
          | (refine g_quiet ?_)
          | (refine q_op ?_; conv => whnf)
          | (refine q_nil ?_; conv => whnf)
          | (refine q_opg ?_; conv => whnf)
          | (refine r_t ?_; conv => whnf)
          | (refine r_c ?_; conv => whnf)
          | (refine r_nil ?_; conv => whnf)
          | (refine And.intro (by decide) ?_; conv => whnf)
          | (refine And.intro (by omega) ?_; conv => whnf)
          | fail)
        refine XC.of_rdr (impl_PilotLess _ _ h1 h2) ?_
        conv => whnf
        repeat' (first
          | (refine g_op ?_; conv => whnf)
          | (refine And.intro rfl ?_; conv => whnf)
          | (refine And.intro (Nat.le_of_ble_eq_true rfl) ?_; conv => whnf)
          | (refine g_seq ?_)
          | (refine g_ops ?_)
          | (refine g_loop ?_)
          | (refine g_nil ?_; conv => whnf)
          | (refine g_opg ?_; conv => whnf)
          | (refine Br.t (by first | assumption | rfl) ?_; conv => whnf)
          | (refine Br.f (by first | assumption | rfl) ?_; conv => whnf)
          | (refine g_cond ?_; conv => whnf)
          | (refine g_skip ?_; conv => whnf)
          | (refine g_ret ?_; conv => whnf)
          | (refine g_exit ?_; conv => whnf)
          | (refine g_block ?_)
          | (refine g_quiet ?_)
          | (refine q_op ?_; conv => whnf)
          | (refine q_nil ?_; conv => whnf)
          | (refine q_opg ?_; conv => whnf)
          | (refine r_t ?_; conv => whnf)
          | (refine r_c ?_; conv => whnf)
          | (refine r_nil ?_; conv => whnf)
          | (refine And.intro (by decide) ?_; conv => whnf)
          | (refine And.intro (by omega) ?_; conv => whnf)
          | fail)
        try
          refine Br.f (by simp) ?_
          conv => whnf
          repeat' (first
            | (refine g_op ?_; conv => whnf)
            | (refine And.intro rfl ?_; conv => whnf)
            | (refine And.intro (Nat.le_of_ble_eq_true rfl) ?_; conv => whnf)
            | (refine g_seq ?_)
            | (refine g_ops ?_)
            | (refine g_loop ?_)
            | (refine g_nil ?_; conv => whnf)
            | (refine g_opg ?_; conv => whnf)
            | (refine Br.t (by first | assumption | rfl) ?_; conv => whnf)
            | (refine Br.f (by first | assumption | rfl) ?_; conv => whnf)
            | (refine g_cond ?_; conv => whnf)
            | (refine g_skip ?_; conv => whnf)
            | (refine g_ret ?_; conv => whnf)
            | (refine g_exit ?_; conv => whnf)
            | (refine g_block ?_)
            | (refine g_quiet ?_)
            | (refine q_op ?_; conv => whnf)
            | (refine q_nil ?_; conv => whnf)
            | (refine q_opg ?_; conv => whnf)
            | (refine r_t ?_; conv => whnf)
            | (refine r_c ?_; conv => whnf)
            | (refine r_nil ?_; conv => whnf)
            | (refine And.intro (by decide) ?_; conv => whnf)
            | (refine And.intro (by omega) ?_; conv => whnf)
            | fail)
        refine XC.of_rdr tx ?_
        conv => whnf
        repeat' (first
          | (refine g_op ?_; conv => whnf)
          | (refine And.intro rfl ?_; conv => whnf)
          | (refine And.intro (Nat.le_of_ble_eq_true rfl) ?_; conv => whnf)
          | (refine g_seq ?_)
          | (refine g_ops ?_)
          | (refine g_loop ?_)
          | (refine g_nil ?_; conv => whnf)
          | (refine g_opg ?_; conv => whnf)
          | (refine Br.t (by first | assumption | rfl) ?_; conv => whnf)
          | (refine Br.f (by first | assumption | rfl) ?_; conv => whnf)
          | (refine g_cond ?_; conv => whnf)
          | (refine g_skip ?_; conv => whnf)
          | (refine g_ret ?_; conv => whnf)
          | (refine g_exit ?_; conv => whnf)
          | (refine g_block ?_)
          | (refine g_quiet ?_)
          | (refine q_op ?_; conv => whnf)
          | (refine q_nil ?_; conv => whnf)
          | (refine q_opg ?_; conv => whnf)
          | (refine r_t ?_; conv => whnf)
          | (refine r_c ?_; conv => whnf)
          | (refine r_nil ?_; conv => whnf)
          | (refine And.intro (by decide) ?_; conv => whnf)
          | (refine And.intro (by omega) ?_; conv => whnf)
          | fail)
        refine XC.of_rdr (eq_IntS _ h1) ?_
        conv => whnf
        repeat' (first
          | (refine g_op ?_; conv => whnf)
          | (refine And.intro rfl ?_; conv => whnf)
          | (refine And.intro (Nat.le_of_ble_eq_true rfl) ?_; conv => whnf)
          | (refine g_seq ?_)
          | (refine g_ops ?_)
          | (refine g_loop ?_)
          | (refine g_nil ?_; conv => whnf)
          | (refine g_opg ?_; conv => whnf)
          | (refine Br.t (by first | assumption | rfl) ?_; conv => whnf)
          | (refine Br.f (by first | assumption | rfl) ?_; conv => whnf)
          | (refine g_cond ?_; conv => whnf)
          | (refine g_skip ?_; conv => whnf)
          | (refine g_ret ?_; conv => whnf)
          | (refine g_exit ?_; conv => whnf)
          | (refine g_block ?_)
          | (refine g_quiet ?_)
          | (refine q_op ?_; conv => whnf)
          | (refine q_nil ?_; conv => whnf)
          | (refine q_opg ?_; conv => whnf)
          | (refine r_t ?_; conv => whnf)
          | (refine r_c ?_; conv => whnf)
          | (refine r_nil ?_; conv => whnf)
          | (refine And.intro (by decide) ?_; conv => whnf)
          | (refine And.intro (by omega) ?_; conv => whnf)
          | fail)
        refine XC.of_rdr ty ?_
        conv => whnf
        repeat' (first
          | (refine g_op ?_; conv => whnf)
          | (refine And.intro rfl ?_; conv => whnf)
          | (refine And.intro (Nat.le_of_ble_eq_true rfl) ?_; conv => whnf)
          | (refine g_seq ?_)
          | (refine g_ops ?_)
          | (refine g_loop ?_)
          | (refine g_nil ?_; conv => whnf)
          | (refine g_opg ?_; conv => whnf)
          | (refine Br.t (by first | assumption | rfl) ?_; conv => whnf)
          | (refine Br.f (by first | assumption | rfl) ?_; conv => whnf)
          | (refine g_cond ?_; conv => whnf)
          | (refine g_skip ?_; conv => whnf)
          | (refine g_ret ?_; conv => whnf)
          | (refine g_exit ?_; conv => whnf)
          | (refine g_block ?_)
          | (refine g_quiet ?_)
          | (refine q_op ?_; conv => whnf)
          | (refine q_nil ?_; conv => whnf)
          | (refine q_opg ?_; conv => whnf)
          | (refine r_t ?_; conv => whnf)
          | (refine r_c ?_; conv => whnf)
          | (refine r_nil ?_; conv => whnf)
          | (refine And.intro (by decide) ?_; conv => whnf)
          | (refine And.intro (by omega) ?_; conv => whnf)
          | fail)
        refine XC.of_rdr (eq_IntS _ h2) ?_
        conv => whnf
        repeat' (first
          | (refine g_op ?_; conv => whnf)
          | (refine And.intro rfl ?_; conv => whnf)
          | (refine And.intro (Nat.le_of_ble_eq_true rfl) ?_; conv => whnf)
          | (refine g_seq ?_)
          | (refine g_ops ?_)
          | (refine g_loop ?_)
          | (refine g_nil ?_; conv => whnf)
          | (refine g_opg ?_; conv => whnf)
          | (refine Br.t (by first | assumption | rfl) ?_; conv => whnf)
          | (refine Br.f (by first | assumption | rfl) ?_; conv => whnf)
          | (refine g_cond ?_; conv => whnf)
          | (refine g_skip ?_; conv => whnf)
          | (refine g_ret ?_; conv => whnf)
          | (refine g_exit ?_; conv => whnf)
          | (refine g_block ?_)
          | (refine g_quiet ?_)
          | (refine q_op ?_; conv => whnf)
          | (refine q_nil ?_; conv => whnf)
          | (refine q_opg ?_; conv => whnf)
          | (refine r_t ?_; conv => whnf)
          | (refine r_c ?_; conv => whnf)
          | (refine r_nil ?_; conv => whnf)
          | (refine And.intro (by decide) ?_; conv => whnf)
          | (refine And.intro (by omega) ?_; conv => whnf)
          | fail)
        rfl
    · rcases hy with ⟨rfl, rfl⟩ | rfl
      · exact absurd (Nat.zero_le _) h2
      rcases hx with ⟨rfl, rfl⟩ | rfl
      · conv => whnf
        repeat' (first
          | (refine g_op ?_; conv => whnf)
          | (refine And.intro rfl ?_; conv => whnf)
          | (refine And.intro (Nat.le_of_ble_eq_true rfl) ?_; conv => whnf)
          | (refine g_seq ?_)
          | (refine g_ops ?_)
          | (refine g_loop ?_)
          | (refine g_nil ?_; conv => whnf)
          | (refine g_opg ?_; conv => whnf)
          | (refine Br.t (by first | assumption | rfl) ?_; conv => whnf)
          | (refine Br.f (by first | assumption | rfl) ?_; conv => whnf)
          | (refine g_cond ?_; conv => whnf)
          | (refine g_skip ?_; conv => whnf)
          | (refine g_ret ?_; conv => whnf)
          | (refine g_exit ?_; conv => whnf)
          | (refine g_block ?_)
          | (refine g_quiet ?_)
          | (refine q_op ?_; conv => whnf)
          | (refine q_nil ?_; conv => whnf)
          | (refine q_opg ?_; conv => whnf)
          | (refine r_t ?_; conv => whnf)
          | (refine r_c ?_; conv => whnf)
          | (refine r_nil ?_; conv => whnf)
          | (refine And.intro (by decide) ?_; conv => whnf)
          | (refine And.intro (by omega) ?_; conv => whnf)
          | fail)
        refine Br.t (by simp; omega) ?_
        conv => whnf
        repeat' (first
          | (refine g_op ?_; conv => whnf)
          | (refine And.intro rfl ?_; conv => whnf)
          | (refine And.intro (Nat.le_of_ble_eq_true rfl) ?_; conv => whnf)
          | (refine g_seq ?_)
          | (refine g_ops ?_)
          | (refine g_loop ?_)
          | (refine g_nil ?_; conv => whnf)
          | (refine g_opg ?_; conv => whnf)
          | (refine Br.t (by first | assumption | rfl) ?_; conv => whnf)
          | (refine Br.f (by first | assumption | rfl) ?_; conv => whnf)
          | (refine g_cond ?_; conv => whnf)
          | (refine g_skip ?_; conv => whnf)
          | (refine g_ret ?_; conv => whnf)
          | (refine g_exit ?_; conv => whnf)
          | (refine g_block ?_)
          | (refine g_quiet ?_)
          | (refine q_op ?_; conv => whnf)
          | (refine q_nil ?_; conv => whnf)
          | (refine q_opg ?_; conv => whnf)
          | (refine r_t ?_; conv => whnf)
          | (refine r_c ?_; conv => whnf)
          | (refine r_nil ?_; conv => whnf)
          | (refine And.intro (by decide) ?_; conv => whnf)
          | (refine And.intro (by omega) ?_; conv => whnf)
          | fail)
        rfl
      · conv => whnf
        repeat' (first
          | (refine g_op ?_; conv => whnf)
          | (refine And.intro rfl ?_; conv => whnf)
          | (refine And.intro (Nat.le_of_ble_eq_true rfl) ?_; conv => whnf)
          | (refine g_seq ?_)
          | (refine g_ops ?_)
          | (refine g_loop ?_)
          | (refine g_nil ?_; conv => whnf)
          | (refine g_opg ?_; conv => whnf)
          | (refine Br.t (by first | assumption | rfl) ?_; conv => whnf)
          | (refine Br.f (by first | assumption | rfl) ?_; conv => whnf)
          | (refine g_cond ?_; conv => whnf)
          | (refine g_skip ?_; conv => whnf)
          | (refine g_ret ?_; conv => whnf)
          | (refine g_exit ?_; conv => whnf)
          | (refine g_block ?_)
          | (refine g_quiet ?_)
          | (refine q_op ?_; conv => whnf)
          | (refine q_nil ?_; conv => whnf)
          | (refine q_opg ?_; conv => whnf)
          | (refine r_t ?_; conv => whnf)
          | (refine r_c ?_; conv => whnf)
          | (refine r_nil ?_; conv => whnf)
          | (refine And.intro (by decide) ?_; conv => whnf)
          | (refine And.intro (by omega) ?_; conv => whnf)
          | fail)
        refine Br.f (by simp; omega) ?_
        conv => whnf
        repeat' (first
          | (refine g_op ?_; conv => whnf)
          | (refine And.intro rfl ?_; conv => whnf)
          | (refine And.intro (Nat.le_of_ble_eq_true rfl) ?_; conv => whnf)
          | (refine g_seq ?_)
          | (refine g_ops ?_)
          | (refine g_loop ?_)
          | (refine g_nil ?_; conv => whnf)
          | (refine g_opg ?_; conv => whnf)
          | (refine Br.t (by first | assumption | rfl) ?_; conv => whnf)
          | (refine Br.f (by first | assumption | rfl) ?_; conv => whnf)
          | (refine g_cond ?_; conv => whnf)
          | (refine g_skip ?_; conv => whnf)
          | (refine g_ret ?_; conv => whnf)
          | (refine g_exit ?_; conv => whnf)
          | (refine g_block ?_)
          | (refine g_quiet ?_)
          | (refine q_op ?_; conv => whnf)
          | (refine q_nil ?_; conv => whnf)
          | (refine q_opg ?_; conv => whnf)
          | (refine r_t ?_; conv => whnf)
          | (refine r_c ?_; conv => whnf)
          | (refine r_nil ?_; conv => whnf)
          | (refine And.intro (by decide) ?_; conv => whnf)
          | (refine And.intro (by omega) ?_; conv => whnf)
          | fail)
        refine Br.t (by simp; omega) ?_
        conv => whnf
        repeat' (first
          | (refine g_op ?_; conv => whnf)
          | (refine And.intro rfl ?_; conv => whnf)
          | (refine And.intro (Nat.le_of_ble_eq_true rfl) ?_; conv => whnf)
          | (refine g_seq ?_)
          | (refine g_ops ?_)
          | (refine g_loop ?_)
          | (refine g_nil ?_; conv => whnf)
          | (refine g_opg ?_; conv => whnf)
          | (refine Br.t (by first | assumption | rfl) ?_; conv => whnf)
          | (refine Br.f (by first | assumption | rfl) ?_; conv => whnf)
          | (refine g_cond ?_; conv => whnf)
          | (refine g_skip ?_; conv => whnf)
          | (refine g_ret ?_; conv => whnf)
          | (refine g_exit ?_; conv => whnf)
          | (refine g_block ?_)
          | (refine g_quiet ?_)
          | (refine q_op ?_; conv => whnf)
          | (refine q_nil ?_; conv => whnf)
          | (refine q_opg ?_; conv => whnf)
          | (refine r_t ?_; conv => whnf)
          | (refine r_c ?_; conv => whnf)
          | (refine r_nil ?_; conv => whnf)
          | (refine And.intro (by decide) ?_; conv => whnf)
          | (refine And.intro (by omega) ?_; conv => whnf)
          | fail)
        rfl
  · rcases hx with ⟨rfl, rfl⟩ | rfl
    · exact absurd (Nat.zero_le _) h1
    conv => whnf
    repeat' (first
      | (refine g_op ?_; conv => whnf)
      | (refine And.intro rfl ?_; conv => whnf)
      | (refine And.intro (Nat.le_of_ble_eq_true rfl) ?_; conv => whnf)
      | (refine g_seq ?_)
      | (refine g_ops ?_)
      | (refine g_loop ?_)
      | (refine g_nil ?_; conv => whnf)
      | (refine g_opg ?_; conv => whnf)
      | (refine Br.t (by first | assumption | rfl) ?_; conv => whnf)
      | (refine Br.f (by first | assumption | rfl) ?_; conv => whnf)
      | (refine g_cond ?_; conv => whnf)
      | (refine g_skip ?_; conv => whnf)
      | (refine g_ret ?_; conv => whnf)
      | (refine g_exit ?_; conv => whnf)
      | (refine g_block ?_)
      | (refine g_quiet ?_)
      | (refine q_op ?_; conv => whnf)
      | (refine q_nil ?_; conv => whnf)
      | (refine q_opg ?_; conv => whnf)
      | (refine r_t ?_; conv => whnf)
      | (refine r_c ?_; conv => whnf)
      | (refine r_nil ?_; conv => whnf)
      | (refine And.intro (by decide) ?_; conv => whnf)
      | (refine And.intro (by omega) ?_; conv => whnf)
      | fail)
    refine Br.t (by simp; omega) ?_
    conv => whnf
    repeat' (first
      | (refine g_op ?_; conv => whnf)
      | (refine And.intro rfl ?_; conv => whnf)
      | (refine And.intro (Nat.le_of_ble_eq_true rfl) ?_; conv => whnf)
      | (refine g_seq ?_)
      | (refine g_ops ?_)
      | (refine g_loop ?_)
      | (refine g_nil ?_; conv => whnf)
      | (refine g_opg ?_; conv => whnf)
      | (refine Br.t (by first | assumption | rfl) ?_; conv => whnf)
      | (refine Br.f (by first | assumption | rfl) ?_; conv => whnf)
      | (refine g_cond ?_; conv => whnf)
      | (refine g_skip ?_; conv => whnf)
      | (refine g_ret ?_; conv => whnf)
      | (refine g_exit ?_; conv => whnf)
      | (refine g_block ?_)
      | (refine g_quiet ?_)
      | (refine q_op ?_; conv => whnf)
      | (refine q_nil ?_; conv => whnf)
      | (refine q_opg ?_; conv => whnf)
      | (refine r_t ?_; conv => whnf)
      | (refine r_c ?_; conv => whnf)
      | (refine r_nil ?_; conv => whnf)
      | (refine And.intro (by decide) ?_; conv => whnf)
      | (refine And.intro (by omega) ?_; conv => whnf)
      | fail)
    rfl
theorem args_ints {d : D} (h : Has (.sl 1 (.int .i64)) d) : ∃ l, IsInts l d := by
  rw [Has] at h
  rcases h with rfl | ⟨ds, rfl, _, hd⟩
  · exact ⟨[], .inl ⟨rfl, rfl⟩⟩
  · have : ∀ ds : List D, (∀ x ∈ ds, Has (.int .i64) x) → ∃ l : List Int, ds = l.map (D.int .i64) := by
      intro ds
      induction ds with
      | nil => intro _; exact ⟨[], rfl⟩
      | cons d ds ih =>
        intro hd
        obtain ⟨l, rfl⟩ := ih (fun x hx => hd x (by simp [hx]))
        have h0 := hd d (by simp)
        rw [Has] at h0
        obtain ⟨v, rfl, _⟩ := h0
        exact ⟨v :: l, rfl⟩
    obtain ⟨l, rfl⟩ := this ds hd
    exact ⟨l, .inr rfl⟩
end Go.Ab
namespace Go.Proofs.Ytjajdgljjompgaa
open Go Go.RowKit Go.ChangeShapes Go.WideShapes Go.ChangeAt Go.Ab
theorem ownfnExactPilotLess : ownKnob Try.prog.godebug = none := by kernel_rfl
theorem laidfnExactPilotLess : laidOutB Try.prog = true := by kernel_rfl
set_option maxRecDepth 100000 in
theorem fnExactPilotLess_lifted (os : Os) (started : os.Started) (H : Type) (enc : TypeId × Value → H) :
    ReturnsInHanded {} Try.checked os 5 .any (Rows.fnExactPilotLessSpec.pre6 enc Try.prog Try.f5 Rows.fnExactPilotLessRow.domain Rows.fnExactPilotLessRow.apart) (Rows.fnExactPilotLessSpec.post enc Try.prog Try.f5 Rows.fnExactPilotLessRow.apart Rows.fnExactPilotLessRow.fresh Rows.fnExactPilotLessRow.handsOn Rows.fnExactPilotLessRow.again) :=
  law_reads (C := Try.checked) (bt := 4) ownfnExactPilotLess started (by kernel_rfl) Try.func5
    (ChangeSpec.witness6 (enc := enc) (C := Try.checked) false ⟨#[], #[.slice none 0 0, .slice none 0 0], []⟩ 8 (by kernel_rfl) (by kernel_rfl) (by kernel_rfl) (by kernel_rfl))
    laidfnExactPilotLess [.sl 1 (.int .i64), .sl 1 (.int .i64)] (by kernel_rfl) rfl rfl Try.underlying4
    (fun ds hd => match ds, hd with | [d1, d2], _ => rfl)
    (fun ds h => by
      obtain ⟨_, _, rfl, h1, _, _, rfl, h2, rfl⟩ := h
      obtain ⟨xs, hx⟩ := args_ints h1
      obtain ⟨ys, hy⟩ := args_ints h2
      exact law_PilotLess xs ys _ _ hx hy
)
theorem fnExactPilotLess_holds : Rows.FnExactPilotLessSaid :=
  OpenClaim.holds_of_wide 5 Try.f5 rfl rfl rfl rfl rfl rfl rfl ⟨rfl, rfl, rfl, rfl, rfl⟩ rfl rfl rfl rfl rfl (by kernel_rfl) Try.func5 (by kernel_rfl)
    (of_decide_eq_true (by kernel_rfl)) (by unfold Func.isWrapper; first | (rw [if_pos (by decide +kernel)]; kernel_rfl) | (rw [if_neg (by decide +kernel)]; exact ⟨rfl, rfl⟩))
    (fun os started H enc _ => fnExactPilotLess_lifted os started H enc)
#print axioms fnExactPilotLess_holds
end Go.Proofs.Ytjajdgljjompgaa

