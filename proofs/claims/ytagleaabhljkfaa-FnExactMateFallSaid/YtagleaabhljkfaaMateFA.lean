/- Steps towards the law: contracts of functions and facts of lists. -/
import Derived.Test.YtagleaabhljkfaaMateM
import Derived.Test.YtagleaabhljkfaaRows
set_option linter.unusedSimpArgs false
set_option linter.unusedVariables false
namespace Go.Ab
open Go Go.RowKit Go.Proofs
attribute [local irreducible] XC Rdr IntKind.wrap xw xos xqs xr xd
set_option maxRecDepth 100000

/-- impl.MateFall -/
def cf48 : CF := ⟨15, [.c 4 9 true],
  (.seq (.ops [⟨some 2, .bx (.t 0), none⟩,
    ⟨some 4, .al (.agg [.str ⟨#[]⟩, .bool false, .int .i64 0, .bool false, .int .i64 0, .nil, .nil, .nil, .nil]), none⟩])
  (.seq (.seq (.ops [⟨some 6, .ld 9 true (.t 2), none⟩,
    ⟨some 7, .call 46 [(.t 6)], none⟩,
    ⟨some 8, .not (.t 7), none⟩])
  (.cond (.t 8)
  (.seq (.ops [⟨some 9, .bld (.agg [.str ⟨#[]⟩, .bool false, .int .i64 0, .bool false, .int .i64 0, .nil, .nil, .nil, .nil]) [], none⟩,
    ⟨none, .st 9 (.t 4) (.t 9), none⟩])
  .ret)
  .skip))
  (.seq (.ops [⟨some 10, .ld 9 true (.t 2), none⟩,
    ⟨some 11, .call 84 [(.t 10)], none⟩,
    ⟨some 5, .al (.agg [.str ⟨#[]⟩, .bool false, .int .i64 0, .bool false, .int .i64 0, .nil, .nil, .nil, .nil]), none⟩,
    ⟨none, .st 9 (.t 5) (.t 11), none⟩])
  (.seq (.ops [⟨some 12, .mv (.t 1), none⟩,
    ⟨some 13, .call 98 [(.t 5), (.t 12)], none⟩])
  (.seq (.ops [⟨some 14, .ld 9 true (.t 5), none⟩,
    ⟨none, .st 9 (.t 4) (.t 14), none⟩])
  .ret)))))⟩
theorem c48 : compileF Try.prog [] 48 = some cf48 := by kernel_rfl
/-- (*impl.Mate).fall -/
def cf98 : CF := ⟨53, [],
  (.seq (.ops [⟨some 7, .mv (.t 0), none⟩,
    ⟨some 8, .mv (.t 0), none⟩,
    ⟨some 9, .mv (.t 0), none⟩,
    ⟨some 10, .mv (.t 0), none⟩,
    ⟨some 11, .mv (.t 0), none⟩,
    ⟨some 12, .mv (.t 0), none⟩,
    ⟨some 13, .nilc (.t 7), none⟩,
    ⟨some 14, .fa 1 1 1 (.t 13), none⟩,
    ⟨none, .st 1 (.t 14) (.k (.bool false)), none⟩,
    ⟨some 15, .nilc (.t 8), none⟩,
    ⟨some 16, .fa 3 1 3 (.t 15), none⟩,
    ⟨none, .st 1 (.t 16) (.k (.bool false)), none⟩,
    ⟨some 17, .nilc (.t 9), none⟩,
    ⟨some 18, .fa 4 1 4 (.t 17), none⟩,
    ⟨none, .st 1 (.t 18) (.k (.int .i64 0)), none⟩,
    ⟨some 19, .nilc (.t 10), none⟩,
    ⟨some 20, .fa 5 1 5 (.t 19), none⟩,
    ⟨none, .st 1 (.t 20) (.k (.nil)), none⟩,
    ⟨some 21, .nilc (.t 11), none⟩,
    ⟨some 22, .fa 7 1 7 (.t 21), none⟩,
    ⟨none, .st 1 (.t 22) (.k (.nil)), none⟩,
    ⟨some 23, .nilc (.t 12), none⟩,
    ⟨some 24, .fa 8 1 8 (.t 23), none⟩,
    ⟨none, .st 1 (.t 24) (.k (.nil)), none⟩])
  (.seq (.ops [⟨some 4, .mv (.k (.nil)), none⟩])
  (.seq (.seq (.ops [⟨some 25, .mv (.t 0), none⟩,
    ⟨some 26, .nilc (.t 25), none⟩,
    ⟨some 27, .fa 6 1 6 (.t 26), none⟩,
    ⟨some 28, .ld 1 false (.t 27), none⟩,
    ⟨some 29, .lenl (.t 28), none⟩,
    ⟨some 30, .mv (.k (.int .i64 0)), none⟩])
  (.block 0 (.loop (.seq (.ops [⟨some 31, .bin .lss (.t 30) (.t 29), none⟩])
  (.seq (.cond (.t 31)
  .skip
  (.exit 0))
  (.seq (.block 1 (.seq (.ops [⟨some 32, .ix 11 (.t 28) (.t 30), none⟩,
    ⟨some 33, .ld 11 true (.t 32), none⟩,
    ⟨some 6, .al (.agg [.agg [.str ⟨#[]⟩, .int .i64 0, .str ⟨#[]⟩, .int .i64 0, .int .i64 0, .int .i64 0, .int .i64 0], .int .i64 0, .int .i64 0, .int .i64 0, .int .i64 0]), none⟩,
    ⟨none, .st 11 (.t 6) (.t 33), none⟩])
  (.seq (.seq (.ops [⟨some 34, .ld 11 true (.t 6), none⟩,
    ⟨some 35, .call 17 [(.t 34)], none⟩,
    ⟨some 36, .not (.t 35), none⟩])
  (.cond (.t 36)
  (.exit 1)
  .skip))
  (.seq (.seq (.ops [⟨some 37, .mv (.t 1), none⟩])
  (.cond (.t 37)
  (.seq (.seq (.ops [⟨some 38, .fa 0 7 0 (.t 6), none⟩,
    ⟨some 39, .fa 2 1 2 (.t 38), none⟩,
    ⟨some 40, .ld 1 false (.t 39), none⟩,
    ⟨some 41, .bin .eql (.t 40) (.k (.str ⟨#[]⟩)), none⟩])
  (.cond (.t 41)
  (.exit 1)
  .skip))
  (.ops [⟨some 42, .fa 7 1 1 (.t 6), none⟩,
    ⟨none, .st 1 (.t 42) (.k (.int .i64 2)), none⟩,
    ⟨some 43, .fa 8 1 2 (.t 6), none⟩,
    ⟨none, .st 1 (.t 43) (.k (.int .i64 0)), none⟩]))
  .skip))
  (.ops [⟨some 44, .mv (.t 4), none⟩,
    ⟨some 45, .ld 11 true (.t 6), none⟩,
    ⟨some 46, .bsl (.agg [.agg [.str ⟨#[]⟩, .int .i64 0, .str ⟨#[]⟩, .int .i64 0, .int .i64 0, .int .i64 0, .int .i64 0], .int .i64 0, .int .i64 0, .int .i64 0, .int .i64 0]) 1 [(0, (.t 45))], none⟩,
    ⟨some 47, .app 11 104 (.t 44) (.t 46), none⟩,
    ⟨some 4, .mv (.t 47), none⟩])))))
  (.ops [⟨some 48, .bin .add (.t 30) (.k (.int .i64 1)), none⟩,
    ⟨some 30, .mv (.t 48), none⟩])))))))
  (.ops [⟨some 49, .mv (.t 0), none⟩,
    ⟨some 50, .mv (.t 4), none⟩,
    ⟨some 51, .nilc (.t 49), none⟩,
    ⟨some 52, .fa 6 1 6 (.t 51), none⟩,
    ⟨none, .st 1 (.t 52) (.t 50), none⟩]))))⟩
theorem c98 : compileF Try.prog [] 98 = some cf98 := by kernel_rfl
/-- spec.MateFall -/
def cf51 : CF := ⟨54, [.c 4 9 true],
  (.seq (.ops [⟨some 2, .bx (.t 0), none⟩,
    ⟨some 4, .al (.agg [.str ⟨#[]⟩, .bool false, .int .i64 0, .bool false, .int .i64 0, .nil, .nil, .nil, .nil]), none⟩])
  (.seq (.seq (.ops [⟨some 9, .ld 9 true (.t 2), none⟩,
    ⟨some 10, .call 45 [(.t 9)], none⟩,
    ⟨some 11, .not (.t 10), none⟩])
  (.cond (.t 11)
  (.seq (.ops [⟨some 12, .bld (.agg [.str ⟨#[]⟩, .bool false, .int .i64 0, .bool false, .int .i64 0, .nil, .nil, .nil, .nil]) [], none⟩,
    ⟨none, .st 9 (.t 4) (.t 12), none⟩])
  .ret)
  .skip))
  (.seq (.ops [⟨some 13, .fa 0 1 0 (.t 2), none⟩,
    ⟨some 14, .ld 1 false (.t 13), none⟩,
    ⟨some 15, .fa 2 1 2 (.t 2), none⟩,
    ⟨some 16, .ld 1 false (.t 15), none⟩,
    ⟨some 17, .bld (.agg [.str ⟨#[]⟩, .bool false, .int .i64 0, .bool false, .int .i64 0, .nil, .nil, .nil, .nil]) [(0, 0, 1, (.t 14)), (2, 2, 1, (.t 16))], none⟩,
    ⟨some 5, .al (.agg [.str ⟨#[]⟩, .bool false, .int .i64 0, .bool false, .int .i64 0, .nil, .nil, .nil, .nil]), none⟩,
    ⟨none, .st 9 (.t 5) (.t 17), none⟩])
  (.seq (.seq (.ops [⟨some 6, .mv (.k (.int .i64 0)), none⟩])
  (.block 0 (.loop (.seq (.seq (.ops [⟨some 18, .mv (.t 6), none⟩,
    ⟨some 19, .fa 6 1 6 (.t 2), none⟩,
    ⟨some 20, .ld 1 false (.t 19), none⟩,
    ⟨some 21, .lenl (.t 20), none⟩,
    ⟨some 22, .bin .lss (.t 18) (.t 21), none⟩])
  (.cond (.t 22)
  .skip
  (.exit 0)))
  (.seq (.block 1 (.seq (.ops [⟨some 25, .fa 6 1 6 (.t 2), none⟩,
    ⟨some 26, .ld 1 false (.t 25), none⟩,
    ⟨some 27, .mv (.t 6), none⟩,
    ⟨some 28, .ix 11 (.t 26) (.t 27), none⟩,
    ⟨some 29, .ld 11 true (.t 28), none⟩,
    ⟨some 7, .al (.agg [.agg [.str ⟨#[]⟩, .int .i64 0, .str ⟨#[]⟩, .int .i64 0, .int .i64 0, .int .i64 0, .int .i64 0], .int .i64 0, .int .i64 0, .int .i64 0, .int .i64 0]), none⟩,
    ⟨none, .st 11 (.t 7) (.t 29), none⟩])
  (.seq (.ops [⟨some 30, .ld 11 true (.t 7), none⟩,
    ⟨some 31, .call 15 [(.t 30)], none⟩,
    ⟨some 8, .mv (.t 31), none⟩])
  (.seq (.seq (.ops [⟨some 32, .mv (.t 1), none⟩])
  (.cond (.t 32)
  (.seq (.ops [⟨some 33, .fa 7 1 1 (.t 7), none⟩,
    ⟨none, .st 1 (.t 33) (.k (.int .i64 2)), none⟩])
  (.ops [⟨some 34, .fa 8 1 2 (.t 7), none⟩,
    ⟨none, .st 1 (.t 34) (.k (.int .i64 0)), none⟩]))
  .skip))
  (.seq (.ops [⟨some 35, .mv (.t 8), none⟩,
    ⟨some 36, .mv (.t 35), none⟩,
    ⟨some 37, .mv (.t 1), some (36, true)⟩,
    ⟨some 38, .not (.t 37), some (36, true)⟩,
    ⟨some 39, .mv (.t 38), some (36, true)⟩,
    ⟨some 40, .fa 0 7 0 (.t 7), some (39, false)⟩,
    ⟨some 41, .fa 2 1 2 (.t 40), some (39, false)⟩,
    ⟨some 42, .ld 1 false (.t 41), some (39, false)⟩,
    ⟨some 43, .bin .neq (.t 42) (.k (.str ⟨#[]⟩)), some (39, false)⟩,
    ⟨some 44, .pick (.t 39) (.k (.bool true)) (.t 43), some (36, true)⟩,
    ⟨some 45, .pick (.t 36) (.t 44) (.k (.bool false)), none⟩])
  (.cond (.t 45)
  (.ops [⟨some 46, .fa 6 1 6 (.t 5), none⟩,
    ⟨some 47, .ld 1 false (.t 46), none⟩,
    ⟨some 48, .ld 11 true (.t 7), none⟩,
    ⟨some 49, .bsl (.agg [.agg [.str ⟨#[]⟩, .int .i64 0, .str ⟨#[]⟩, .int .i64 0, .int .i64 0, .int .i64 0, .int .i64 0], .int .i64 0, .int .i64 0, .int .i64 0, .int .i64 0]) 1 [(0, (.t 48))], none⟩,
    ⟨some 50, .app 11 104 (.t 47) (.t 49), none⟩,
    ⟨some 51, .fa 6 1 6 (.t 5), none⟩,
    ⟨none, .st 1 (.t 51) (.t 50), none⟩])
  .skip))))))
  (.ops [⟨some 23, .mv (.t 6), none⟩,
    ⟨some 24, .bin .add (.t 23) (.k (.int .i64 1)), none⟩,
    ⟨some 6, .mv (.t 24), none⟩]))))))
  (.seq (.ops [⟨some 52, .ld 9 true (.t 5), none⟩,
    ⟨some 53, .call 79 [(.t 52)], none⟩,
    ⟨none, .st 9 (.t 4) (.t 53), none⟩])
  .ret)))))⟩
theorem c51 : compileF Try.prog [] 51 = some cf51 := by kernel_rfl
def fallE (m : Bool) (r : MateRun) : Option MateRun := if alive r && (!m || !(r.fWant.fHold.toList == (ByteArray.mk #[]).toList)) then some (if m then { r with fState := 2, fLeft := 0 } else r) else none
def fallL (m : Bool) (xs : List MateRun) (i : Nat) : List MateRun := (xs.take i).filterMap (fallE m)
theorem fallL_snoc {m : Bool} {xs : List MateRun} {i : Nat} (h : i < xs.length) : fallL m xs (i + 1) = fallL m xs i ++ (fallE m (xs.getD i default)).toList := by
  have e : xs.getD i default = xs[i] := by simp [h]
  rw [e]
  unfold fallL
  rw [List.take_succ_eq_append_getElem h, List.filterMap_append]
  congr 1
theorem fallL_some {m : Bool} {xs : List MateRun} {i : Nat} {y : MateRun} (h : i < xs.length) (hy : fallE m (xs.getD i default) = some y) : fallL m xs (i + 1) = fallL m xs i ++ [y] := by rw [fallL_snoc h, hy]; rfl
theorem fallL_none {m : Bool} {xs : List MateRun} {i : Nat} (h : i < xs.length) (hy : fallE m (xs.getD i default) = none) : fallL m xs (i + 1) = fallL m xs i := by rw [fallL_snoc h, hy]; simp
theorem fallL_len {m : Bool} {xs : List MateRun} {i : Nat} : (fallL m xs i).length ≤ xs.length := by
  unfold fallL
  exact Nat.le_trans (List.length_filterMap_le _ _) (by simp; omega)
def fallF (x : Mate) (bb n cc : Nat) (s : Nat) : D := .agg [.str x.fName, .bool false, .int .i64 x.fClock, .bool false, .int .i64 0, .nil, .lsl s bb n cc, .nil, .nil]
theorem fallE_some {m : Bool} {r : MateRun} (ha : alive r = true) (h : m = true → (r.fWant.fHold.toList == (ByteArray.mk #[]).toList) = false) : fallE m r = some (if m then { r with fState := 2, fLeft := 0 } else r) := by
  unfold fallE
  rw [if_pos]
  rw [ha]
  cases m with
  | false => rfl
  | true => rw [h rfl]; rfl
theorem fallE_dead {m : Bool} {r : MateRun} (ha : alive r = false) : fallE m r = none := by
  unfold fallE
  rw [ha]
  rfl
theorem fallE_free {r : MateRun} (h : (r.fWant.fHold.toList == (ByteArray.mk #[]).toList) = true) : fallE true r = none := by
  unfold fallE
  rw [h]
  simp
set_option maxHeartbeats 8000000 in
theorem impl_fall (x : Mate) (m : Bool) (b d1 d2 d3 d4 e1 e2 e3 e4 : Nat) (hl : x.fRuns.length ≤ 1048576) : XC Try.prog 98 [.lref 5 b [] 0, .bool m] [(5, b, x.O 35 36 37 38 d1 d2 d3 d4 e1 e2 e3 e4), (36, d2, .arr 11 (x.fRuns.map MateRun.D) e2)] (fun d ls => d = .tup [] ∧ ∃ bb cc, ls = [(5, b, fallF x bb (fallL m x.fRuns x.fRuns.length).length cc 47), (36, d2, .arr 11 (x.fRuns.map MateRun.D) e2), (47, bb, .arr 11 ((fallL m x.fRuns x.fRuns.length).map MateRun.D) cc)]) := by
  refine XC.intro' hm [5, 36, 47] rfl c98 (Nat.le_of_ble_eq_true rfl) ?_
  simp only [Mate.O]
  conv => whnf
  repeat' (first | (refine z_st1 ?_; first | (refine z_st rfl rfl rfl (by first | (simp only [List.length_set]; assumption) | assumption | omega) (by first | exact elt_set (by first | assumption | (simp only [List.length_set]; assumption)) | assumption) rfl rfl ?_; conv => whnf) | (refine z_st0 ?_; conv => whnf)) | (refine z_op ?_ ?_; (focus exact rfl); conv => whnf) | (refine zs_ops ?_ ?_; (focus exact rfl)) | (refine z_nil fun vals => ?_; conv => whnf) | (refine And.intro ?_ ?_; (focus (first | exact rfl | exact Nat.le_of_ble_eq_true rfl | decide | omega | fail)); conv => whnf) | (refine g_seq ?_) | fail)
  refine XS.go ?_
  repeat' (first | (refine g_op ?_; conv => whnf) | (refine And.intro ?_ ?_; (focus (first | exact rfl | exact Nat.le_of_ble_eq_true rfl | decide | omega | fail)); conv => whnf) | (refine g_seq ?_) | (refine g_ops ?_) | (refine g_nil ?_; conv => whnf) | fail)
  refine XS.own 4 47 11 rfl fun b0 => ?_
  refine XS.go ?_
  repeat' (first | (refine z_ld1 ?_; first | (refine z_ld rfl rfl rfl rfl (by first | (simp only [List.length_set]; assumption) | assumption | omega) (by first | exact elt_set (by first | assumption | (simp only [List.length_set]; assumption)) | assumption) ?_; conv => whnf) | (refine z_ld0 rfl ?_; conv => whnf)) | (refine z_op ?_ ?_; (focus exact rfl); conv => whnf) | (refine zs_ops ?_ ?_; (focus exact rfl)) | (refine z_nil fun vals => ?_; conv => whnf) | (refine And.intro ?_ ?_; (focus (first | exact rfl | exact Nat.le_of_ble_eq_true rfl | decide | omega | fail)); conv => whnf) | (refine g_seq ?_) | (refine XS.go ?_) | (refine g_loop ?_) | (refine g_block ?_) | fail)
  refine XLc.mkG (α := Nat × Nat) (fun i gs => i.1 ≤ x.fRuns.length ∧ (fallL m x.fRuns i.1).length ≤ i.2 ∧ gs 5 = b ∧ gs 36 = d2) (fun i => x.fRuns.length - i.1) (fun i gs => [.lref 5 (gs 5) [] 0, .bool m, .any, .any, .lsl 47 (gs 47) (fallL m x.fRuns i.1).length i.2, .any, .any, .any, .any, .any, .any, .any, .any, .any, .any, .any, .any, .any, .any, .any, .any, .any, .any, .any, .any, .any, .any, .any, .lsl 36 (gs 36) x.fRuns.length e2, .int .i64 (x.fRuns.length : Int), .int .i64 (i.1 : Int)]) (fun i gs => [(5, .agg [.str x.fName, .bool false, .int .i64 x.fClock, .bool false, .int .i64 0, .nil, .lsl 36 (gs 36) x.fRuns.length e2, .nil, .nil]), (36, .arr 11 (x.fRuns.map MateRun.D) e2), (47, .arr 11 ((fallL m x.fRuns i.1).map MateRun.D) i.2)]) (0, 0) ⟨Nat.zero_le _, Nat.le_refl _, rfl, rfl⟩ ?_ ?_
  · refine ⟨?_, ?_⟩
    · repeat' (first | exact True.intro | refine And.intro rfl ?_)
    · exact ⟨rfl, rfl, rfl, True.intro⟩
  intro i gs hI
  obtain ⟨i, cp⟩ := i
  obtain ⟨hi0, hi1, hg1, hg2⟩ := hI
  simp only at hi0 hi1
  dsimp only
  subst hg1 hg2
  repeat' (first | (refine g_op ?_; conv => whnf) | (refine And.intro ?_ ?_; (focus (first | exact rfl | exact Nat.le_of_ble_eq_true rfl | decide | omega | fail)); conv => whnf) | (refine g_seq ?_) | (refine XS.go ?_) | (refine g_ops ?_) | (refine g_nil ?_; conv => whnf) | (refine g_cond ?_; conv => whnf) | fail)
  refine Br.mk (fun hb => ?_) (fun hb => ?_)
  · have hlt : i < x.fRuns.length := by simpa using hb
    have hj0 : i < (x.fRuns.map MateRun.D).length := by rw [List.length_map]; exact hlt
    have he0 : (x.fRuns.map MateRun.D).getD i .any = (x.fRuns.getD i default).D := elt_map hlt
    have hF : (∀ y, fallE m (x.fRuns.getD i default) = some y → fallL m x.fRuns (i + 1) = fallL m x.fRuns i ++ [y]) ∧ (fallE m (x.fRuns.getD i default) = none → fallL m x.fRuns (i + 1) = fallL m x.fRuns i) ∧ (fallL m x.fRuns i).length ≤ x.fRuns.length := ⟨fun y => fallL_some hlt, fallL_none hlt, fallL_len⟩
    generalize fallL m x.fRuns = A at hi1 hF ⊢
    conv => whnf
    repeat' (first | (refine z_ld1 ?_; first | (refine z_ld rfl rfl rfl rfl (by first | (simp only [List.length_set]; assumption) | assumption | omega) (by first | exact elt_set (by first | assumption | (simp only [List.length_set]; assumption)) | assumption) ?_; conv => whnf) | (refine z_ld0 rfl ?_; conv => whnf)) | (refine z_st1 ?_; first | (refine z_st rfl rfl rfl (by first | (simp only [List.length_set]; assumption) | assumption | omega) (by first | exact elt_set (by first | assumption | (simp only [List.length_set]; assumption)) | assumption) rfl rfl ?_; conv => whnf) | (refine z_st0 ?_; conv => whnf)) | (refine z_ix1 ?_; first | (refine z_ix rfl rfl rfl rfl rfl ⟨by first | omega | (simp only [decide_eq_true_eq, Bool.not_eq_true', Bool.or_eq_false_iff, decide_eq_false_iff_not, Bool.and_eq_true, Bool.not_eq_false'] at *; omega), by first | omega | (simp only [decide_eq_true_eq, Bool.not_eq_true', Bool.or_eq_false_iff, decide_eq_false_iff_not, Bool.and_eq_true, Bool.not_eq_false'] at *; omega)⟩ ?_; conv => whnf) | (refine z_ix0 rfl rfl ?_; conv => whnf)) | (refine z_op ?_ ?_; (focus exact rfl); conv => whnf) | (refine zs_ops ?_ ?_; (focus exact rfl)) | (refine z_nil fun vals => ?_; conv => whnf) | (refine z_call ?_ ?_; (focus exact rfl)) | (refine z_eff ?_; conv => whnf) | (refine RC.of (impl_Alive (x.fRuns.getD i default)) ?_ ?_; (focus exact rfl); conv => whnf) | (refine g_op ?_; conv => whnf) | (refine And.intro ?_ ?_; (focus (first | exact rfl | exact Nat.le_of_ble_eq_true rfl | decide | omega | fail)); conv => whnf) | (refine g_seq ?_) | (refine XS.go ?_) | (refine g_ops ?_) | (refine g_nil ?_; conv => whnf) | (refine g_cond ?_; conv => whnf) | (refine g_skip ?_; conv => whnf) | (refine g_exit ?_; conv => whnf) | (refine g_block ?_) | (refine fun _ => ?_; conv => whnf) | (refine Br.mk (fun hb => ?_) (fun hb => ?_) <;> conv => whnf) | fail)
    · have he := hF.2.1 (fallE_dead (by simpa using hb))
      refine ⟨(i + 1, cp), ⟨by simp only; omega, by simp only; rw [he]; exact hi1, rfl, rfl⟩, by simp only; omega, ?_, ?_⟩
      · have hw : IntKind.wrap .i64 ((i : Int) + 1) = ((i + 1 : Nat) : Int) := by rw [wrap_ok (by omega) (by omega)]; rfl
        repeat' (first | exact True.intro | refine And.intro (congrArg (D.int .i64) hw) ?_ | refine And.intro rfl ?_ | refine And.intro (congrArg (fun l : List MateRun => D.lsl 47 (gs 47) l.length cp) he.symm) ?_)
      · exact ⟨rfl, rfl, congrArg (fun l : List MateRun => some (D.arr 11 (l.map MateRun.D) cp)) he.symm, True.intro⟩
    · have hm : m = true := by assumption
      have he := hF.2.1 (by rw [hm]; exact fallE_free hb)
      refine ⟨(i + 1, cp), ⟨by simp only; omega, by simp only; rw [he]; exact hi1, rfl, rfl⟩, by simp only; omega, ?_, ?_⟩
      · have hw : IntKind.wrap .i64 ((i : Int) + 1) = ((i + 1 : Nat) : Int) := by rw [wrap_ok (by omega) (by omega)]; rfl
        repeat' (first | exact True.intro | refine And.intro (congrArg (D.int .i64) hw) ?_ | refine And.intro rfl ?_ | refine And.intro (congrArg (fun l : List MateRun => D.lsl 47 (gs 47) l.length cp) he.symm) ?_)
      · exact ⟨rfl, rfl, congrArg (fun l : List MateRun => some (D.arr 11 (l.map MateRun.D) cp)) he.symm, True.intro⟩
    · have hm : m = true := by assumption
      have ha : (!alive (x.fRuns.getD i default)) = false := by assumption
      have he := hF.1 { x.fRuns.getD i default with fState := 2, fLeft := 0 } (by rw [fallE_some (by simpa using ha) (fun _ => hb), hm]; rfl)
      have hAl := hF.2.2
      have hln : (A i).length + 1 = (A (i + 1)).length := by rw [he]; simp
      have hmp : ∀ d, d = ({ x.fRuns.getD i default with fState := 2, fLeft := 0 } : MateRun).D → (A i).map MateRun.D ++ [d] = (A (i + 1)).map MateRun.D := fun d h => by rw [h, he, List.map_append]; rfl
      refine ⟨by simp, rfl, ?_⟩
      conv => whnf
      refine ⟨rfl, ?_⟩
      conv => whnf
      refine ⟨rfl, rfl, rfl, ?_⟩
      conv => whnf
      refine ⟨?_, Nat.le_of_ble_eq_true rfl, (by decide), fun n' b' c' hn hc => ?_⟩
      · show _ + 1 ≤ 1073741824
        rw [List.length_map]; omega
      have hn : n' = (A i).length + 1 := by rw [hn, List.length_map]; rfl
      subst hn
      conv => whnf
      repeat' (first | (refine z_op ?_ ?_; (focus exact rfl); conv => whnf) | (refine z_nil fun vals => ?_; conv => whnf) | (refine g_op ?_; conv => whnf) | (refine And.intro ?_ ?_; (focus (first | exact rfl | exact Nat.le_of_ble_eq_true rfl | decide | omega | fail)); conv => whnf) | (refine XS.go ?_) | (refine g_ops ?_) | (refine g_nil ?_; conv => whnf) | fail)
      refine ⟨(i + 1, c'), ⟨by simp only; omega, by simp only; omega, rfl, rfl⟩, by simp only; omega, ?_, ?_⟩
      · have hw : IntKind.wrap .i64 ((i : Int) + 1) = ((i + 1 : Nat) : Int) := by rw [wrap_ok (by omega) (by omega)]; rfl
        repeat' (first | exact True.intro | refine And.intro (congrArg (D.int .i64) hw) ?_ | refine And.intro rfl ?_ | refine And.intro (congrArg (fun n => D.lsl 47 b' n c') hln) ?_)
      · exact ⟨rfl, rfl, congrArg (fun l => some (D.arr 11 l c')) (hmp _ rfl), True.intro⟩
    · have hm : m = false := by simpa using hb
      have ha : (!alive (x.fRuns.getD i default)) = false := by assumption
      have he := hF.1 (x.fRuns.getD i default) (by rw [fallE_some (by simpa using ha) (fun h => by rw [hm] at h; cases h), hm]; rfl)
      have hAl := hF.2.2
      have hln : (A i).length + 1 = (A (i + 1)).length := by rw [he]; simp
      have hmp : ∀ d, d = (x.fRuns.getD i default).D → (A i).map MateRun.D ++ [d] = (A (i + 1)).map MateRun.D := fun d h => by rw [h, he, List.map_append]; rfl
      refine ⟨by simp, rfl, ?_⟩
      conv => whnf
      refine ⟨rfl, ?_⟩
      conv => whnf
      refine ⟨rfl, rfl, rfl, ?_⟩
      conv => whnf
      refine ⟨?_, Nat.le_of_ble_eq_true rfl, (by decide), fun n' b' c' hn hc => ?_⟩
      · show _ + 1 ≤ 1073741824
        rw [List.length_map]; omega
      have hn : n' = (A i).length + 1 := by rw [hn, List.length_map]; rfl
      subst hn
      conv => whnf
      repeat' (first | (refine z_op ?_ ?_; (focus exact rfl); conv => whnf) | (refine z_nil fun vals => ?_; conv => whnf) | (refine g_op ?_; conv => whnf) | (refine And.intro ?_ ?_; (focus (first | exact rfl | exact Nat.le_of_ble_eq_true rfl | decide | omega | fail)); conv => whnf) | (refine XS.go ?_) | (refine g_ops ?_) | (refine g_nil ?_; conv => whnf) | fail)
      refine ⟨(i + 1, c'), ⟨by simp only; omega, by simp only; omega, rfl, rfl⟩, by simp only; omega, ?_, ?_⟩
      · have hw : IntKind.wrap .i64 ((i : Int) + 1) = ((i + 1 : Nat) : Int) := by rw [wrap_ok (by omega) (by omega)]; rfl
        repeat' (first | exact True.intro | refine And.intro (congrArg (D.int .i64) hw) ?_ | refine And.intro rfl ?_ | refine And.intro (congrArg (fun n => D.lsl 47 b' n c') hln) ?_)
      · exact ⟨rfl, rfl, congrArg (fun l => some (D.arr 11 l c')) (hmp _ rfl), True.intro⟩
  have hi : i = x.fRuns.length := by
    have : ¬ i < x.fRuns.length := by simpa using hb
    omega
  subst hi
  conv => whnf
  repeat' (first | (refine z_st1 ?_; first | (refine z_st rfl rfl rfl (by first | (simp only [List.length_set]; assumption) | assumption | omega) (by first | exact elt_set (by first | assumption | (simp only [List.length_set]; assumption)) | assumption) rfl rfl ?_; conv => whnf) | (refine z_st0 ?_; conv => whnf)) | (refine z_op ?_ ?_; (focus exact rfl); conv => whnf) | (refine zs_ops ?_ ?_; (focus exact rfl)) | (refine z_nil fun vals => ?_; conv => whnf) | (refine And.intro ?_ ?_; (focus (first | exact rfl | exact Nat.le_of_ble_eq_true rfl | decide | omega | fail)); conv => whnf) | (refine XS.go ?_) | (refine g_exit ?_; conv => whnf) | (refine r_nil ?_; conv => whnf) | fail)
  exact ⟨gs 47, cp, rfl⟩
def fallR (x : Mate) (m : Bool) : Mate := if validM x then { fName := x.fName, fUp := false, fClock := x.fClock, fKnown := false, fSeen := 0, fWants := [], fRuns := fallL m x.fRuns x.fRuns.length, fAsks := [], fGives := [] } else default
theorem HolL.appK {U : Nat → Prop} {w : World} {l2 l3 : List Loan} (h : ∀ F, HolL U w l2 F → HolL U w l3 F) : ∀ {ls : List Loan} {F : List Nat}, HolL U w (ls ++ l2) F → HolL U w (ls ++ l3) F
  | [], F, h2 => h F h2
  | l :: ls, F, ⟨F1, F2, e, q, hs⟩ => ⟨F1, F2, e, q, HolL.appK h hs⟩
theorem impl_CloneG (s1 s2 s3 s4 t1 t2 t3 t4 : Nat) (x : Mate) (b1 b2 b3 b4 c1 c2 c3 c4 : Nat) (hs : x.small) : XC Try.prog 84 [x.O s1 s2 s3 s4 b1 b2 b3 b4 c1 c2 c3 c4] (x.L s1 s2 s3 s4 b1 b2 b3 b4 c1 c2 c3 c4) (fun d ls => ∃ d1 d2 d3 d4 e1 e2 e3 e4, d = x.O t1 t2 t3 t4 d1 d2 d3 d4 e1 e2 e3 e4 ∧ ls = x.L s1 s2 s3 s4 b1 b2 b3 b4 c1 c2 c3 c4 ++ x.L t1 t2 t3 t4 d1 d2 d3 d4 e1 e2 e3 e4) := by
  refine (impl_Clone x b1 b2 b3 b4 c1 c2 c3 c4 hs).ren (fun _ _ _ h => h) rfl (fun d ls ⟨d1, d2, d3, d4, e1, e2, e3, e4, h1, h2⟩ => ?_)
  subst h1 h2
  exact ⟨_, _, ⟨d1, d2, d3, d4, e1, e2, e3, e4, rfl, rfl⟩, fun _ _ _ h => HolL.ren rfl h, fun _ _ _ h => h⟩
set_option maxHeartbeats 4000000 in
theorem impl_Fall (x : Mate) (m : Bool) (b1 b2 b3 b4 c1 c2 c3 c4 : Nat) (hs : x.small) : XC Try.prog 48 [x.O 31 32 33 34 b1 b2 b3 b4 c1 c2 c3 c4, .bool m] (x.L 31 32 33 34 b1 b2 b3 b4 c1 c2 c3 c4) (fun d ls => ∃ d1 d2 d3 d4 e1 e2 e3 e4, d = (fallR x m).O 45 47 46 48 d1 d2 d3 d4 e1 e2 e3 e4 ∧ ls = x.L 31 32 33 34 b1 b2 b3 b4 c1 c2 c3 c4 ++ (fallR x m).L 45 47 46 48 d1 d2 d3 d4 e1 e2 e3 e4) := by
  have hq := impl_MateValid x
  cases hv : validM x with
  | false =>
    have e : fallR x m = default := by simp [fallR, hv]
    rw [e]
    rw [hv] at hq
    have h : XC Try.prog 48 [x.O 31 32 33 34 b1 b2 b3 b4 c1 c2 c3 c4, .bool m] (x.L 31 32 33 34 b1 b2 b3 b4 c1 c2 c3 c4) (fun d ls => d = mateZ ∧ ls = x.L 31 32 33 34 b1 b2 b3 b4 c1 c2 c3 c4) := by
      refine XC.intro' hm [31, 32, 33, 34] rfl c48 (Nat.le_of_ble_eq_true rfl) ?_
      conv => whnf
      repeat' (first | (refine g_op ?_; conv => whnf) | (refine And.intro ?_ ?_; (focus (first | exact rfl | exact Nat.le_of_ble_eq_true rfl | decide | omega | fail)); conv => whnf) | (refine g_seq ?_) | (refine XS.go ?_) | (refine g_ops ?_) | (refine g_nil ?_; conv => whnf) | (refine fun _ => ?_; conv => whnf) | fail)
      refine XCL.of_rdrB hq (.cons (Bor.mateO rfl rfl rfl rfl rfl rfl rfl rfl) .nil) rfl ?_
      conv => whnf
      repeat' (first | (refine g_op ?_; conv => whnf) | (refine And.intro ?_ ?_; (focus (first | exact rfl | exact Nat.le_of_ble_eq_true rfl | decide | omega | fail)); conv => whnf) | (refine g_seq ?_) | (refine XS.go ?_) | (refine g_ops ?_) | (refine g_nil ?_; conv => whnf) | (refine Br.t ?_ ?_; (focus (first | assumption | exact rfl)); conv => whnf) | (refine g_cond ?_; conv => whnf) | (refine g_ret ?_; conv => whnf) | (refine r_c ?_; conv => whnf) | (refine r_nil ?_; conv => whnf) | fail)
      first | exact ⟨rfl, rfl⟩ | exact rfl
    refine h.ren (fun _ _ _ h => h) rfl (fun d l ⟨h1, h2⟩ => ?_)
    subst h1 h2
    exact ⟨_, _, ⟨0, 0, 0, 0, 0, 0, 0, 0, rfl, rfl⟩, fun U w F h => HolL.app (mateZ_hol _ _ _ _ U w) h, mateZ_own _ _ _ _⟩
  | true =>
    have e : fallR x m = { fName := x.fName, fUp := false, fClock := x.fClock, fKnown := false, fSeen := 0, fWants := [], fRuns := fallL m x.fRuns x.fRuns.length, fAsks := [], fGives := [] } := by simp [fallR, hv]
    rw [e]
    rw [hv] at hq
    have hl := hs.fRuns.1
    have h : XC Try.prog 48 [x.O 31 32 33 34 b1 b2 b3 b4 c1 c2 c3 c4, .bool m] (x.L 31 32 33 34 b1 b2 b3 b4 c1 c2 c3 c4) (fun d ls => ∃ bb cc, d = fallF x bb (fallL m x.fRuns x.fRuns.length).length cc 47 ∧ ls = x.L 31 32 33 34 b1 b2 b3 b4 c1 c2 c3 c4 ++ [(47, bb, .arr 11 ((fallL m x.fRuns x.fRuns.length).map MateRun.D) cc)]) := by
      refine XC.intro' hm [31, 32, 33, 34, 47] rfl c48 (Nat.le_of_ble_eq_true rfl) ?_
      conv => whnf
      repeat' (first | (refine g_op ?_; conv => whnf) | (refine And.intro ?_ ?_; (focus (first | exact rfl | exact Nat.le_of_ble_eq_true rfl | decide | omega | fail)); conv => whnf) | (refine g_seq ?_) | (refine XS.go ?_) | (refine g_ops ?_) | (refine g_nil ?_; conv => whnf) | (refine fun _ => ?_; conv => whnf) | fail)
      refine XCL.of_rdrB hq (.cons (Bor.mateO rfl rfl rfl rfl rfl rfl rfl rfl) .nil) rfl ?_
      conv => whnf
      repeat' (first | (refine g_op ?_; conv => whnf) | (refine And.intro ?_ ?_; (focus (first | exact rfl | exact Nat.le_of_ble_eq_true rfl | decide | omega | fail)); conv => whnf) | (refine g_seq ?_) | (refine XS.go ?_) | (refine g_ops ?_) | (refine g_nil ?_; conv => whnf) | (refine Br.f ?_ ?_; (focus (first | assumption | exact rfl)); conv => whnf) | (refine g_cond ?_; conv => whnf) | (refine g_skip ?_; conv => whnf) | fail)
      refine XCL.of_XC (ls := x.L 31 32 33 34 b1 b2 b3 b4 c1 c2 c3 c4) ⟨rfl, rfl, rfl, rfl, rfl, rfl, rfl, rfl, rfl, rfl, rfl, rfl, True.intro⟩ ((impl_CloneG 31 32 33 34 35 36 37 38 x b1 b2 b3 b4 c1 c2 c3 c4 hs).mono fun d ls h => ?_)
      obtain ⟨d1, d2, d3, d4, e1, e2, e3, e4, rfl, rfl⟩ := h
      conv => whnf
      repeat' (first | (refine g_op ?_; conv => whnf) | (refine And.intro ?_ ?_; (focus (first | exact rfl | exact Nat.le_of_ble_eq_true rfl | decide | omega | fail)); conv => whnf) | (refine g_seq ?_) | (refine XS.go ?_) | (refine g_ops ?_) | (refine g_nil ?_; conv => whnf) | (refine fun _ => ?_; conv => whnf) | fail)
      refine XCL.of_XC (ls := [(5, _, x.O 35 36 37 38 d1 d2 d3 d4 e1 e2 e3 e4), (36, d2, .arr 11 (x.fRuns.map MateRun.D) e2)]) ⟨rfl, rfl, rfl, rfl, rfl, rfl, True.intro⟩ ((impl_fall x m _ d1 d2 d3 d4 e1 e2 e3 e4 hl).mono fun d ls h => ?_)
      obtain ⟨rfl, bb, cc, rfl⟩ := h
      conv => whnf
      repeat' (first | (refine g_op ?_; conv => whnf) | (refine And.intro ?_ ?_; (focus (first | exact rfl | exact Nat.le_of_ble_eq_true rfl | decide | omega | fail)); conv => whnf) | (refine g_seq ?_) | (refine XS.go ?_) | (refine g_ops ?_) | (refine g_nil ?_; conv => whnf) | (refine g_ret ?_; conv => whnf) | (refine r_c ?_; conv => whnf) | (refine r_nil ?_; conv => whnf) | fail)
      exact ⟨bb, cc, rfl, rfl⟩
    refine h.ren (fun _ _ _ h => h) rfl (fun d l ⟨bb, cc, h1, h2⟩ => ?_)
    subst h1 h2
    refine ⟨_, _, ⟨0, bb, 0, 0, 0, cc, 0, 0, rfl, rfl⟩, fun U w F h => HolL.appK (fun F h => ?_) h, fun U w v h => RelV.aggImp (RelF.imp (fun _ h => h) (RelF.imp (fun _ h => h) (RelF.imp (fun _ h => h) (RelF.imp (fun _ h => h) (RelF.imp (fun _ h => h) (RelF.imp (fun _ h => nil_lsl h) (RelF.imp (fun _ h => h) (RelF.imp (fun _ h => nil_lsl h) (RelF.imp (fun _ h => nil_lsl h) (fun _ h => h)))))))))) v h⟩
    obtain ⟨F1, F2, h1, h2, h3⟩ := h
    exact .snil _ _ _ ⟨F1, F2, h1, h2, .snil _ _ _ (.snil _ _ _ h3)⟩
end Go.Ab
