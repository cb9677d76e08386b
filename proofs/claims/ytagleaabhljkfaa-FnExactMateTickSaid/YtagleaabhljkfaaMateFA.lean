/- Steps towards the law: the machine, contracts of functions and facts of lists. -/
import Derived.Test.YtagleaabhljkfaaMateM
import Derived.Test.YtagleaabhljkfaaRows
set_option linter.unusedSimpArgs false
set_option linter.unusedVariables false
namespace Go.Ab
open Go Go.RowKit Go.Proofs
attribute [local irreducible] XC Rdr IntKind.wrap xw xos xqs xr xd
set_option maxRecDepth 100000
def cf98 : CF := ⟨53,[],(.seq (.ops [Om 7 0,Om 8 0,Om 9 0,Om 10 0,Om 11 0,Om 12 0,On 13 7,Of 14 1 13,⟨none,.st 1 (.t 14) (.k (.bool false)),none⟩,On 15 8,Of 16 3 15,⟨none,.st 1 (.t 16) (.k (.bool false)),none⟩,On 17 9,Of 18 4 17,⟨none,.st 1 (.t 18) (.k (.int .i64 0)),none⟩,On 19 10,Of 20 5 19,⟨none,.st 1 (.t 20) (.k (.nil)),none⟩,On 21 11,Of 22 7 21,⟨none,.st 1 (.t 22) (.k (.nil)),none⟩,On 23 12,Of 24 8 23,⟨none,.st 1 (.t 24) (.k (.nil)),none⟩]) (.seq (.ops [Ok 4 (.nil)]) (.seq (.seq (.ops [Om 25 0,On 26 25,Of 27 6 26,Ol 28 27,Og 29 28,Ok 30 (.int .i64 0)]) (.block 0 (.loop (.seq (.ops [Ob 31 .lss 30 29]) (.seq (.cond (.t 31) .skip (.exit 0)) (.seq (.block 1 (.seq (.ops [Ox 32 11 28 30,Od 33 11 32,Oo 6 (.al (.agg [.agg [.str ⟨#[]⟩,.int .i64 0,.str ⟨#[]⟩,.int .i64 0,.int .i64 0,.int .i64 0,.int .i64 0],.int .i64 0,.int .i64 0,.int .i64 0,.int .i64 0])),Os 11 6 33]) (.seq (.seq (.ops [Od 34 11 6,Oc 35 17 [.t 34],Oo 36 (.not (.t 35))]) (.cond (.t 36) (.exit 1) .skip)) (.seq (.seq (.ops [Om 37 1]) (.cond (.t 37) (.seq (.seq (.ops [Oo 38 (.fa 0 7 0 (.t 6)),Of 39 2 38,Ol 40 39,Oo 41 (.bin .eql (.t 40) (.k (.str ⟨#[]⟩)))]) (.cond (.t 41) (.exit 1) .skip)) (.ops [Oo 42 (.fa 7 1 1 (.t 6)),⟨none,.st 1 (.t 42) (.k (.int .i64 2)),none⟩,Oo 43 (.fa 8 1 2 (.t 6)),⟨none,.st 1 (.t 43) (.k (.int .i64 0)),none⟩])) .skip)) (.ops [Om 44 4,Od 45 11 6,Oo 46 (.bsl (.agg [.agg [.str ⟨#[]⟩,.int .i64 0,.str ⟨#[]⟩,.int .i64 0,.int .i64 0,.int .i64 0,.int .i64 0],.int .i64 0,.int .i64 0,.int .i64 0,.int .i64 0]) 1 [(0,(.t 45))]),Oo 47 (.app 11 104 (.t 44) (.t 46)),Om 4 47]))))) (.ops [Oi 48 30,Om 30 48]))))))) (.ops [Om 49 0,Om 50 4,On 51 49,Of 52 6 51,Os 1 52 50]))))⟩
theorem c98 : compileF Try.prog [] 98 = some cf98 := by kernel_rfl
def cf51 : CF := ⟨54,[.c 4 9 true],(.seq (.ops [Oo 2 (.bx (.t 0)),Oo 4 (.al (.agg [.str ⟨#[]⟩,.bool false,.int .i64 0,.bool false,.int .i64 0,.nil,.nil,.nil,.nil]))]) (.seq (.seq (.ops [Od 9 9 2,Oc 10 45 [.t 9],Oo 11 (.not (.t 10))]) (.cond (.t 11) (.seq (.ops [Oo 12 (.bld (.agg [.str ⟨#[]⟩,.bool false,.int .i64 0,.bool false,.int .i64 0,.nil,.nil,.nil,.nil]) []),Os 9 4 12]) .ret) .skip)) (.seq (.ops [Of 13 0 2,Ol 14 13,Of 15 2 2,Ol 16 15,Oo 17 (.bld (.agg [.str ⟨#[]⟩,.bool false,.int .i64 0,.bool false,.int .i64 0,.nil,.nil,.nil,.nil]) [(0,0,1,(.t 14)),(2,2,1,(.t 16))]),Oo 5 (.al (.agg [.str ⟨#[]⟩,.bool false,.int .i64 0,.bool false,.int .i64 0,.nil,.nil,.nil,.nil])),Os 9 5 17]) (.seq (.seq (.ops [Ok 6 (.int .i64 0)]) (.block 0 (.loop (.seq (.seq (.ops [Om 18 6,Of 19 6 2,Ol 20 19,Og 21 20,Ob 22 .lss 18 21]) (.cond (.t 22) .skip (.exit 0))) (.seq (.block 1 (.seq (.ops [Of 25 6 2,Ol 26 25,Om 27 6,Ox 28 11 26 27,Od 29 11 28,Oo 7 (.al (.agg [.agg [.str ⟨#[]⟩,.int .i64 0,.str ⟨#[]⟩,.int .i64 0,.int .i64 0,.int .i64 0,.int .i64 0],.int .i64 0,.int .i64 0,.int .i64 0,.int .i64 0])),Os 11 7 29]) (.seq (.ops [Od 30 11 7,Oc 31 15 [.t 30],Om 8 31]) (.seq (.seq (.ops [Om 32 1]) (.cond (.t 32) (.seq (.ops [Oo 33 (.fa 7 1 1 (.t 7)),⟨none,.st 1 (.t 33) (.k (.int .i64 2)),none⟩]) (.ops [Oo 34 (.fa 8 1 2 (.t 7)),⟨none,.st 1 (.t 34) (.k (.int .i64 0)),none⟩])) .skip)) (.seq (.ops [Om 35 8,Om 36 35,⟨some 37,.mv (.t 1),some (36,true)⟩,⟨some 38,.not (.t 37),some (36,true)⟩,⟨some 39,.mv (.t 38),some (36,true)⟩,⟨some 40,.fa 0 7 0 (.t 7),some (39,false)⟩,⟨some 41,.fa 2 1 2 (.t 40),some (39,false)⟩,⟨some 42,.ld 1 false (.t 41),some (39,false)⟩,⟨some 43,.bin .neq (.t 42) (.k (.str ⟨#[]⟩)),some (39,false)⟩,⟨some 44,.pick (.t 39) (.k (.bool true)) (.t 43),some (36,true)⟩,Oo 45 (.pick (.t 36) (.t 44) (.k (.bool false)))]) (.cond (.t 45) (.ops [Of 46 6 5,Ol 47 46,Od 48 11 7,Oo 49 (.bsl (.agg [.agg [.str ⟨#[]⟩,.int .i64 0,.str ⟨#[]⟩,.int .i64 0,.int .i64 0,.int .i64 0,.int .i64 0],.int .i64 0,.int .i64 0,.int .i64 0,.int .i64 0]) 1 [(0,(.t 48))]),Oo 50 (.app 11 104 (.t 47) (.t 49)),Of 51 6 5,Os 1 51 50]) .skip)))))) (.ops [Om 23 6,Oi 24 23,Om 6 24])))))) (.seq (.ops [Od 52 9 5,Oc 53 79 [.t 52],Os 9 4 53]) .ret)))))⟩
theorem c51 : compileF Try.prog [] 51 = some cf51 := by kernel_rfl
def fallE (m : Bool) (r : MateRun) : Option MateRun := if alive r && (!m || !(r.fWant.fHold.toList == (ByteArray.mk #[]).toList)) then some (if m then { r with fState := 2, fLeft := 0 } else r) else none
def fallL (m : Bool) (xs : List MateRun) (i : Nat) : List MateRun := (xs.take i).filterMap (fallE m)
theorem fallL_snoc {m : Bool} {xs : List MateRun} {i : Nat} (h : i < xs.length) : fallL m xs (i + 1) = fallL m xs i ++ (fallE m (xs.getD i default)).toList := by
 have e : xs.getD i default = xs[i] := by simp [h]
 rw [e]
 unfold fallL
 rw [List.take_succ_eq_append_getElem h, List.filterMap_append]
 congr 1
theorem fallL_some {m : Bool} {xs : List MateRun} {i : Nat} {y : MateRun} (h : i < xs.length) (hy : fallE m (xs.getD i default) = some y) : fallL m xs (i + 1) = fallL m xs i ++ [y] := by rw [fallL_snoc h, hy]; rfl
theorem fallL_none {m : Bool} {xs : List MateRun} {i : Nat} (h : i < xs.length) (hy : fallE m (xs.getD i default) = none) : fallL m xs (i + 1) = fallL m xs i := by rw [fallL_snoc h, hy]; simp
theorem fallL_len {m : Bool} {xs : List MateRun} {i : Nat} : (fallL m xs i).length ≤ xs.length := by
 unfold fallL
 exact Nat.le_trans (List.length_filterMap_le _ _) (by simp; omega)
def fallF (x : Mate) (bb n cc : Nat) (s : Nat) : D := .agg [.str x.fName, .bool false, .int .i64 x.fClock, .bool false, .int .i64 0, .nil, .lsl s bb n cc, .nil, .nil]
theorem fallE_some {m : Bool} {r : MateRun} (ha : alive r = true) (h : m = true → (r.fWant.fHold.toList == (ByteArray.mk #[]).toList) = false) : fallE m r = some (if m then { r with fState := 2, fLeft := 0 } else r) := by
 unfold fallE
 rw [if_pos]
 rw [ha]
 cases m with
 | false => rfl
 | true => rw [h rfl]; rfl
theorem fallE_dead {m : Bool} {r : MateRun} (ha : alive r = false) : fallE m r = none := by
 unfold fallE
 rw [ha]
 rfl
theorem fallE_free {r : MateRun} (h : (r.fWant.fHold.toList == (ByteArray.mk #[]).toList) = true) : fallE true r = none := by
 unfold fallE
 rw [h]
 simp
def fallR (x : Mate) (m : Bool) : Mate := if validM x then { fName := x.fName, fUp := false, fClock := x.fClock, fKnown := false, fSeen := 0, fWants := [], fRuns := fallL m x.fRuns x.fRuns.length, fAsks := [], fGives := [] } else default
end Go.Ab
