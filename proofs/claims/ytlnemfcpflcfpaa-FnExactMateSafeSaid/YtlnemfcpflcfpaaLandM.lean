/- Steps towards the law: contracts of functions and facts of lists. -/
import Derived.Test.YtlnemfcpflcfpaaLandK
import Derived.Test.YtlnemfcpflcfpaaRows
set_option linter.unusedSimpArgs false
set_option linter.unusedVariables false
namespace Go.Ab
open Go Go.RowKit Go.Proofs
attribute [local irreducible] XC Rdr IntKind.wrap xw xos xqs xr xd
set_option maxRecDepth 100000

/-- spec.MateSafe -/
def cf49 : CF := ⟨68, [.t 2],
  (.seq (.ops [⟨some 1, .bx (.t 0), none⟩,
    ⟨some 2, .mv (.k (.bool false)), none⟩])
  (.seq (.seq (.ops [⟨some 8, .ld 5 true (.t 1), none⟩,
    ⟨some 9, .call 46 [(.t 8)], none⟩,
    ⟨some 10, .not (.t 9), none⟩])
  (.cond (.t 10)
  (.seq (.ops [⟨some 2, .mv (.k (.bool false)), none⟩])
  .ret)
  .skip))
  (.seq (.ops [⟨some 11, .bsl (.str ⟨#[]⟩) 0 [], none⟩,
    ⟨some 3, .mv (.t 11), none⟩])
  (.seq (.seq (.ops [⟨some 4, .mv (.k (.int .i64 0)), none⟩])
  (.block 0 (.loop (.seq (.seq (.ops [⟨some 12, .mv (.t 4), none⟩,
    ⟨some 13, .fa 3 1 1 (.t 1), none⟩,
    ⟨some 14, .ld 1 false (.t 13), none⟩,
    ⟨some 15, .lenl (.t 14), none⟩,
    ⟨some 16, .bin .lss (.t 12) (.t 15), none⟩])
  (.cond (.t 16)
  .skip
  (.exit 0)))
  (.seq (.block 1 (.seq (.ops [⟨some 5, .mv (.k (.int .i64 0)), none⟩])
  (.block 2 (.loop (.seq (.seq (.ops [⟨some 19, .mv (.t 5), none⟩,
    ⟨some 20, .fa 3 1 1 (.t 1), none⟩,
    ⟨some 21, .ld 1 false (.t 20), none⟩,
    ⟨some 22, .mv (.t 4), none⟩,
    ⟨some 23, .ix 9 (.t 21) (.t 22), none⟩,
    ⟨some 24, .fa 6 1 6 (.t 23), none⟩,
    ⟨some 25, .ld 1 false (.t 24), none⟩,
    ⟨some 26, .lenl (.t 25), none⟩,
    ⟨some 27, .bin .lss (.t 19) (.t 26), none⟩])
  (.cond (.t 27)
  .skip
  (.exit 2)))
  (.seq (.block 3 (.seq (.ops [⟨some 30, .fa 3 1 1 (.t 1), none⟩,
    ⟨some 31, .ld 1 false (.t 30), none⟩,
    ⟨some 32, .mv (.t 4), none⟩,
    ⟨some 33, .ix 9 (.t 31) (.t 32), none⟩,
    ⟨some 34, .fa 6 1 6 (.t 33), none⟩,
    ⟨some 35, .ld 1 false (.t 34), none⟩,
    ⟨some 36, .mv (.t 5), none⟩,
    ⟨some 37, .ix 11 (.t 35) (.t 36), none⟩,
    ⟨some 38, .ld 11 true (.t 37), none⟩,
    ⟨some 6, .al (.agg [.agg [.str ⟨#[]⟩, .int .i64 0, .str ⟨#[]⟩, .int .i64 0, .int .i64 0, .int .i64 0, .int .i64 0], .int .i64 0, .int .i64 0, .int .i64 0, .int .i64 0]), none⟩,
    ⟨none, .st 11 (.t 6) (.t 38), none⟩])
  (.seq (.seq (.ops [⟨some 39, .ld 11 true (.t 6), none⟩,
    ⟨some 40, .call 104 [(.t 39)], none⟩,
    ⟨some 41, .not (.t 40), none⟩,
    ⟨some 42, .mv (.t 41), none⟩,
    ⟨some 43, .fa 0 7 0 (.t 6), some (42, false)⟩,
    ⟨some 44, .fa 2 1 2 (.t 43), some (42, false)⟩,
    ⟨some 45, .ld 1 false (.t 44), some (42, false)⟩,
    ⟨some 46, .bin .eql (.t 45) (.k (.str ⟨#[]⟩)), some (42, false)⟩,
    ⟨some 47, .pick (.t 42) (.k (.bool true)) (.t 46), none⟩])
  (.cond (.t 47)
  (.exit 3)
  .skip))
  (.seq (.seq (.ops [⟨some 7, .mv (.k (.int .i64 0)), none⟩])
  (.block 4 (.loop (.seq (.seq (.ops [⟨some 48, .mv (.t 7), none⟩,
    ⟨some 49, .mv (.t 3), none⟩,
    ⟨some 50, .lenl (.t 49), none⟩,
    ⟨some 51, .bin .lss (.t 48) (.t 50), none⟩])
  (.cond (.t 51)
  .skip
  (.exit 4)))
  (.seq (.block 5 (.seq (.quiet [⟨some 54, .mv (.t 3), none⟩,
    ⟨some 55, .mv (.t 7), none⟩,
    ⟨some 56, .ix 1 (.t 54) (.t 55), none⟩,
    ⟨some 57, .ld 1 false (.t 56), none⟩,
    ⟨some 58, .fa 0 7 0 (.t 6), none⟩,
    ⟨some 59, .fa 2 1 2 (.t 58), none⟩,
    ⟨some 60, .ld 1 false (.t 59), none⟩,
    ⟨some 61, .bin .eql (.t 57) (.t 60), none⟩])
  (.cond (.t 61)
  (.seq (.ops [⟨some 2, .mv (.k (.bool false)), none⟩])
  .ret)
  .skip)))
  (.ops [⟨some 52, .mv (.t 7), none⟩,
    ⟨some 53, .bin .add (.t 52) (.k (.int .i64 1)), none⟩,
    ⟨some 7, .mv (.t 53), none⟩]))))))
  (.ops [⟨some 62, .mv (.t 3), none⟩,
    ⟨some 63, .fa 0 7 0 (.t 6), none⟩,
    ⟨some 64, .fa 2 1 2 (.t 63), none⟩,
    ⟨some 65, .ld 1 false (.t 64), none⟩,
    ⟨some 66, .bsl (.str ⟨#[]⟩) 1 [(0, (.t 65))], none⟩,
    ⟨some 67, .app 1 16 (.t 62) (.t 66), none⟩,
    ⟨some 3, .mv (.t 67), none⟩])))))
  (.ops [⟨some 28, .mv (.t 5), none⟩,
    ⟨some 29, .bin .add (.t 28) (.k (.int .i64 1)), none⟩,
    ⟨some 5, .mv (.t 29), none⟩])))))))
  (.ops [⟨some 17, .mv (.t 4), none⟩,
    ⟨some 18, .bin .add (.t 17) (.k (.int .i64 1)), none⟩,
    ⟨some 4, .mv (.t 18), none⟩]))))))
  (.seq (.ops [⟨some 2, .mv (.k (.bool true)), none⟩])
  .ret)))))⟩
theorem c49 : compileF Try.prog [] 49 = some cf49 := by kernel_rfl
/-- impl.MateSafe -/
def cf50 : CF := ⟨46, [.t 2],
  (.seq (.ops [⟨some 1, .bx (.t 0), none⟩,
    ⟨some 2, .mv (.k (.bool false)), none⟩])
  (.seq (.seq (.ops [⟨some 8, .ld 5 true (.t 1), none⟩,
    ⟨some 9, .call 48 [(.t 8)], none⟩,
    ⟨some 10, .not (.t 9), none⟩])
  (.cond (.t 10)
  (.seq (.ops [⟨some 2, .mv (.k (.bool false)), none⟩])
  .ret)
  .skip))
  (.seq (.ops [⟨some 11, .mm, none⟩,
    ⟨some 3, .mv (.t 11), none⟩])
  (.seq (.seq (.ops [⟨some 12, .fa 3 1 1 (.t 1), none⟩,
    ⟨some 13, .ld 1 false (.t 12), none⟩,
    ⟨some 14, .lenl (.t 13), none⟩,
    ⟨some 15, .mv (.k (.int .i64 0)), none⟩])
  (.block 0 (.loop (.seq (.ops [⟨some 16, .bin .lss (.t 15) (.t 14), none⟩])
  (.seq (.cond (.t 16)
  .skip
  (.exit 0))
  (.seq (.block 1 (.seq (.ops [⟨some 17, .ix 9 (.t 13) (.t 15), none⟩,
    ⟨some 18, .ld 9 true (.t 17), none⟩,
    ⟨some 5, .al (.agg [.str ⟨#[]⟩, .bool false, .int .i64 0, .bool false, .int .i64 0, .nil, .nil, .nil, .nil]), none⟩,
    ⟨none, .st 9 (.t 5) (.t 18), none⟩])
  (.seq (.ops [⟨some 19, .fa 6 1 6 (.t 5), none⟩,
    ⟨some 20, .ld 1 false (.t 19), none⟩,
    ⟨some 21, .lenl (.t 20), none⟩,
    ⟨some 22, .mv (.k (.int .i64 0)), none⟩])
  (.block 2 (.loop (.seq (.ops [⟨some 23, .bin .lss (.t 22) (.t 21), none⟩])
  (.seq (.cond (.t 23)
  .skip
  (.exit 2))
  (.seq (.block 3 (.seq (.ops [⟨some 24, .ix 11 (.t 20) (.t 22), none⟩,
    ⟨some 25, .ld 11 true (.t 24), none⟩,
    ⟨some 7, .al (.agg [.agg [.str ⟨#[]⟩, .int .i64 0, .str ⟨#[]⟩, .int .i64 0, .int .i64 0, .int .i64 0, .int .i64 0], .int .i64 0, .int .i64 0, .int .i64 0, .int .i64 0]), none⟩,
    ⟨none, .st 11 (.t 7) (.t 25), none⟩])
  (.seq (.seq (.ops [⟨some 26, .ld 11 true (.t 7), none⟩,
    ⟨some 27, .call 105 [(.t 26)], none⟩,
    ⟨some 28, .not (.t 27), none⟩,
    ⟨some 29, .mv (.t 28), none⟩,
    ⟨some 30, .fa 0 7 0 (.t 7), some (29, false)⟩,
    ⟨some 31, .fa 2 1 2 (.t 30), some (29, false)⟩,
    ⟨some 32, .ld 1 false (.t 31), some (29, false)⟩,
    ⟨some 33, .bin .eql (.t 32) (.k (.str ⟨#[]⟩)), some (29, false)⟩,
    ⟨some 34, .pick (.t 29) (.k (.bool true)) (.t 33), none⟩])
  (.cond (.t 34)
  (.exit 3)
  .skip))
  (.seq (.seq (.ops [⟨some 35, .mv (.t 3), none⟩,
    ⟨some 36, .fa 0 7 0 (.t 7), none⟩,
    ⟨some 37, .fa 2 1 2 (.t 36), none⟩,
    ⟨some 38, .ld 1 false (.t 37), none⟩,
    ⟨some 39, .lk (.t 35) (.t 38), none⟩])
  (.cond (.t 39)
  (.seq (.ops [⟨some 2, .mv (.k (.bool false)), none⟩])
  .ret)
  .skip))
  (.ops [⟨some 40, .mv (.t 3), none⟩,
    ⟨some 41, .fa 0 7 0 (.t 7), none⟩,
    ⟨some 42, .fa 2 1 2 (.t 41), none⟩,
    ⟨some 43, .ld 1 false (.t 42), none⟩,
    ⟨none, .mu (.t 40) (.t 43) (.k (.bool true)), none⟩])))))
  (.ops [⟨some 44, .bin .add (.t 22) (.k (.int .i64 1)), none⟩,
    ⟨some 22, .mv (.t 44), none⟩])))))))))
  (.ops [⟨some 45, .bin .add (.t 15) (.k (.int .i64 1)), none⟩,
    ⟨some 15, .mv (.t 45), none⟩])))))))
  (.seq (.ops [⟨some 2, .mv (.k (.bool true)), none⟩])
  .ret)))))⟩
theorem c50 : compileF Try.prog [] 50 = some cf50 := by kernel_rfl
def cnt (r : MateRun) : Bool := !(!alive r || (r.fWant.fHold.toList == (ByteArray.mk #[]).toList))
def memB (l : List ByteArray) (h : ByteArray) : Bool := l.any fun x => x.toList == h.toList
def hX (acc : List ByteArray) (xs : List MateRun) : Nat → List ByteArray
  | 0 => acc
  | k + 1 => if cnt (xs.getD k default) then hX acc xs k ++ [(xs.getD k default).fWant.fHold] else hX acc xs k
def hM (ms : List Mate) : Nat → List ByteArray
  | 0 => []
  | i + 1 => hX (hM ms i) (ms.getD i default).fRuns (ms.getD i default).fRuns.length
def chk (acc : List ByteArray) (xs : List MateRun) (k : Nat) : Bool := !(cnt (xs.getD k default) && memB (hX acc xs k) (xs.getD k default).fWant.fHold)
def mF (ms : List Mate) (i : Nat) : Bool := allN (chk (hM ms i) (ms.getD i default).fRuns) (ms.getD i default).fRuns.length 0
def safe (w : MateWorld) : Bool := worldOk w && (allN (mF w.fMates) w.fMates.length 0 && true)
theorem worldOk_runs {w : MateWorld} (h : worldOk w = true) (i : Nat) : (w.fMates.getD i default).fRuns.length ≤ 20 := by
  by_cases hi : i < w.fMates.length
  · simp only [worldOk, Bool.and_eq_true, Bool.and_true] at h
    have := allN_get h.2 (Nat.zero_le i) (by omega)
    simp only [oS, validM, Bool.and_eq_true, Bool.not_eq_true'] at this
    exact (c1_facts this.1.1).2.2.2.1
  · have e : w.fMates.getD i default = default := by simp [hi]
    rw [e]
    exact Nat.zero_le _
theorem worldOk_mates {w : MateWorld} (h : worldOk w = true) : w.fMates.length ≤ 4 := by
  simp only [worldOk, Bool.and_eq_true, Bool.not_eq_true'] at h
  exact wH_mates h.1
def mapOf (l : List ByteArray) : List (ByteArray × Bool) := l.foldl (fun m h => kset m h true) []
theorem mapOf_snoc (l : List ByteArray) (h : ByteArray) : mapOf (l ++ [h]) = kset (mapOf l) h true := by
  unfold mapOf
  rw [List.foldl_append]
  rfl
theorem kget_fold : ∀ (l : List ByteArray) (m : List (ByteArray × Bool)) (h : ByteArray), kget (l.foldl (fun m h => kset m h true) m) h = (kget m h || memB l h)
  | [], m, h => by simp [memB]
  | x :: l, m, h => by
    simp only [List.foldl_cons]
    rw [kget_fold l, kget_set, bytes_toList, beq_cm h.toList]
    simp only [memB, List.any_cons]
    cases (x.toList == h.toList) <;> cases kget m h <;> simp
theorem kget_mapOf (l : List ByteArray) (h : ByteArray) : kget (mapOf l) h = memB l h := by
  unfold mapOf
  rw [kget_fold]
  rfl
theorem hX_no {acc : List ByteArray} {xs : List MateRun} {k : Nat} (h : cnt (xs.getD k default) = false) : hX acc xs (k + 1) = hX acc xs k := by
  rw [hX, h]
  rfl
theorem hX_yes {acc : List ByteArray} {xs : List MateRun} {k : Nat} (h : cnt (xs.getD k default) = true) : hX acc xs (k + 1) = hX acc xs k ++ [(xs.getD k default).fWant.fHold] := by
  rw [hX, h]
  rfl
theorem hX_len {acc : List ByteArray} {xs : List MateRun} : ∀ {k : Nat}, (hX acc xs k).length ≤ acc.length + k
  | 0 => Nat.le_refl _
  | k + 1 => by
    have := hX_len (acc := acc) (xs := xs) (k := k)
    rw [hX]
    split
    · simp; omega
    · omega
set_option maxHeartbeats 8000000 in
theorem impl_Safe (w : MateWorld) (hz : ∀ i, (w.fLand.fPlaces.getD i default).fWants.length ≤ 1048576) : Rdr Try.prog 50 [w.D] (.bool (safe w)) := by
  refine Rdr.intro' hm c50 (Nat.le_of_ble_eq_true rfl) ?_
  conv => whnf
  repeat' (first | (refine g_op ?_; conv => whnf) | (refine And.intro ?_ ?_; (focus (first | exact rfl | exact Nat.le_of_ble_eq_true rfl | decide | omega | fail)); conv => whnf) | (refine g_seq ?_) | (refine g_ops ?_) | (refine g_nil ?_; conv => whnf) | (refine fun _ => ?_; conv => whnf) | fail)
  refine XS.freezeB 1 rfl ?_
  repeat' (first | (refine z_ld1 ?_; first | (refine z_ld rfl rfl rfl rfl (by first | (simp only [List.length_set]; assumption) | assumption | omega) (by first | exact elt_set (by first | assumption | (simp only [List.length_set]; assumption)) | assumption) ?_; conv => whnf) | (refine z_ld0 rfl ?_; conv => whnf)) | (refine z_op ?_ ?_; (focus exact rfl); conv => whnf) | (refine zs_ops ?_ ?_; (focus exact rfl)) | (refine z_nil fun vals => ?_; conv => whnf) | (refine z_call ?_ ?_; (focus exact rfl)) | (refine RC.of (impl_WorldOk w hz) ?_ ?_; (focus exact rfl); conv => whnf) | (refine And.intro ?_ ?_; (focus (first | exact rfl | exact Nat.le_of_ble_eq_true rfl | decide | omega | fail)); conv => whnf) | (refine g_seq ?_) | (refine XS.go ?_) | (refine g_cond ?_; conv => whnf) | fail)
  refine Br.mk (fun hb => ?_) (fun hb => ?_)
  · have hc : worldOk w = false := by simpa using hb
    conv => whnf
    repeat' (first | (refine g_op ?_; conv => whnf) | (refine And.intro ?_ ?_; (focus (first | exact rfl | exact Nat.le_of_ble_eq_true rfl | decide | omega | fail)); conv => whnf) | (refine g_seq ?_) | (refine XS.go ?_) | (refine g_ops ?_) | (refine g_nil ?_; conv => whnf) | (refine g_ret ?_; conv => whnf) | (refine r_t ?_; conv => whnf) | (refine r_nil ?_; conv => whnf) | fail)
    (conv => lhs; whnf)
    rw [safe, hc]
    rfl
  have hc : worldOk w = true := by simpa using hb
  have hv : safe w = (allN (mF w.fMates) w.fMates.length 0 && true) := by rw [safe, hc]; rfl
  have hl := worldOk_mates hc
  have hr := worldOk_runs hc
  clear hb hc
  conv => whnf
  repeat' (first | (refine z_ld1 ?_; first | (refine z_ld rfl rfl rfl rfl (by first | (simp only [List.length_set]; assumption) | assumption | omega) (by first | exact elt_set (by first | assumption | (simp only [List.length_set]; assumption)) | assumption) ?_; conv => whnf) | (refine z_ld0 rfl ?_; conv => whnf)) | (refine z_op ?_ ?_; (focus exact rfl); conv => whnf) | (refine zs_ops ?_ ?_; (focus exact rfl)) | (refine z_nil fun vals => ?_; conv => whnf) | (refine g_op ?_; conv => whnf) | (refine And.intro ?_ ?_; (focus (first | exact rfl | exact Nat.le_of_ble_eq_true rfl | decide | omega | fail)); conv => whnf) | (refine g_seq ?_) | (refine XS.go ?_) | (refine g_ops ?_) | (refine g_loop ?_) | (refine g_nil ?_; conv => whnf) | (refine g_skip ?_; conv => whnf) | (refine g_block ?_) | (refine fun _ => ?_; conv => whnf) | fail)
  refine XLc.mkL (α := Nat) (fun a => a ≤ w.fMates.length ∧ safe w = (allN (mF w.fMates) (w.fMates.length - a) a && true)) (fun a => w.fMates.length - a) (fun a gs => [.any, .any, .any, .lmp 11 (gs 11), .any, .any, .any, .any, .any, .any, .any, .any, .any, .ro 9 (w.fMates.map Mate.D), .int .i64 ((w.fMates.map Mate.D).length : Int), .int .i64 (a : Int)]) (fun a gs => [none, none, none, none, none, none, none, none, none, none, none, some (.mp (mapOf (hM w.fMates a)))]) 0 ⟨Nat.zero_le _, hv⟩ ?_ ?_
  · refine ⟨?_, ?_⟩
    · repeat' (first | exact True.intro | refine And.intro rfl ?_)
    · repeat' (first | exact True.intro | refine And.intro rfl ?_)
  intro a gsa hI
  obtain ⟨hia, hNa⟩ := hI
  repeat' (first | (refine g_op ?_; conv => whnf) | (refine And.intro ?_ ?_; (focus (first | exact rfl | exact Nat.le_of_ble_eq_true rfl | decide | omega | fail)); conv => whnf) | (refine g_seq ?_) | (refine XS.go ?_) | (refine g_ops ?_) | (refine g_nil ?_; conv => whnf) | (refine g_cond ?_; conv => whnf) | fail)
  refine Br.mk (fun hb => ?_) (fun hb => ?_)
  · have hlta : a < w.fMates.length := by simpa using hb
    have hwa : IntKind.wrap .i64 ((a : Int) + 1) = ((a + 1 : Nat) : Int) := by rw [wrap_ok (by omega) (by omega)]; rfl
    have hpa : IntKind.wrap .i64 ((a : Int) - 1) = (a : Int) - 1 := wrap_ok (by omega) (by omega)
    have hbada := fun h => allN_bad (f := mF w.fMates) hlta hNa h
    have hgooda := fun h => allN_good (f := mF w.fMates) hlta hNa h
    have hsa := hNa.trans (by rw [allN_step (f := mF w.fMates) hlta])
    clear hb
    conv => whnf
    have hra := hr a
    have hcon : safe w = (allN (chk (hM w.fMates a) (w.fMates.getD a default).fRuns) (w.fMates.getD a default).fRuns.length 0 && (allN (mF w.fMates) (w.fMates.length - (a + 1)) (a + 1) && true)) := by
      rw [hsa, Bool.and_assoc]
      rfl
    clear hbada hgooda hsa hNa
    repeat' (first | (refine z_ld1 ?_; first | (refine z_ld rfl rfl rfl rfl (by first | (simp only [List.length_set]; assumption) | assumption | omega) (by first | exact elt_set (by first | assumption | (simp only [List.length_set]; assumption)) | assumption) ?_; conv => whnf) | (refine z_ld0 rfl ?_; conv => whnf)) | (refine z_st1 ?_; first | (refine z_st rfl rfl rfl (by first | (simp only [List.length_set]; assumption) | assumption | omega) (by first | exact elt_set (by first | assumption | (simp only [List.length_set]; assumption)) | assumption) rfl rfl ?_; conv => whnf) | (refine z_st0 ?_; conv => whnf)) | (refine z_ix1 ?_; first | (refine z_ix rfl rfl rfl rfl rfl ⟨by first | omega | (simp only [decide_eq_true_eq, Bool.not_eq_true', Bool.or_eq_false_iff, decide_eq_false_iff_not, Bool.and_eq_true, Bool.not_eq_false'] at *; omega), by first | omega | (simp only [decide_eq_true_eq, Bool.not_eq_true', Bool.or_eq_false_iff, decide_eq_false_iff_not, Bool.and_eq_true, Bool.not_eq_false'] at *; omega)⟩ ?_; conv => whnf) | (refine z_ix0 rfl rfl ?_; conv => whnf)) | (refine z_op ?_ ?_; (focus exact rfl); conv => whnf) | (refine zs_ops ?_ ?_; (focus exact rfl)) | (refine z_nil fun vals => ?_; conv => whnf) | (refine z_eff ?_; conv => whnf) | (refine And.intro ?_ ?_; (focus (first | exact rfl | exact Nat.le_of_ble_eq_true rfl | decide | omega | fail)); conv => whnf) | (refine g_seq ?_) | (refine XS.go ?_) | (refine g_loop ?_) | (refine g_skip ?_; conv => whnf) | (refine g_block ?_) | (refine fun _ => ?_; conv => whnf) | fail)
    refine XLc.cut (α := Unit) (β := Unit) 2 (fun _ gs => safe w = ((allN (mF w.fMates) (w.fMates.length - (a + 1)) (a + 1) && true))) (fun _ gs => [.any, .any, .any, .lmp 11 (gs 11), .any, .any, .any, .any, .any, .any, .any, .any, .any, .ro 9 (w.fMates.map Mate.D), .int .i64 ((w.fMates.map Mate.D).length : Int), .int .i64 (a : Int)]) (fun _ gs => [(11, .mp (mapOf (hM w.fMates (a + 1))))]) (fun _ => false = safe w) (fun _ => [.any, .any, .bool false]) ?_ ?_ ?_
    · skip
      refine XLc.mkL (α := Nat) (fun k => k ≤ (w.fMates.getD a default).fRuns.length ∧ safe w = (allN (chk (hM w.fMates a) (w.fMates.getD a default).fRuns) ((w.fMates.getD a default).fRuns.length - k) k && (allN (mF w.fMates) (w.fMates.length - (a + 1)) (a + 1) && true))) (fun k => (w.fMates.getD a default).fRuns.length - k) (fun k gs => [.any, .any, .any, .lmp 11 (gs 11), .any, .any, .any, .any, .any, .any, .any, .any, .any, .ro 9 (w.fMates.map Mate.D), .int .i64 ((w.fMates.map Mate.D).length : Int), .int .i64 (a : Int), .any, .any, .any, .any, .ro 11 ((w.fMates.getD a default).fRuns.map MateRun.D), .int .i64 (((w.fMates.getD a default).fRuns.map MateRun.D).length : Int), .int .i64 (k : Int)]) (fun k gs => [none, none, none, none, none, none, none, none, none, none, none, some (.mp (mapOf (hX (hM w.fMates a) (w.fMates.getD a default).fRuns k)))]) 0 ⟨Nat.zero_le _, hcon⟩ ?_ ?_
      · refine ⟨?_, ?_⟩
        · repeat' (first | exact True.intro | refine And.intro rfl ?_)
        · repeat' (first | exact True.intro | refine And.intro rfl ?_)
      intro k gsk hI
      obtain ⟨hik, hNk⟩ := hI
      repeat' (first | (refine g_op ?_; conv => whnf) | (refine And.intro ?_ ?_; (focus (first | exact rfl | exact Nat.le_of_ble_eq_true rfl | decide | omega | fail)); conv => whnf) | (refine g_seq ?_) | (refine XS.go ?_) | (refine g_ops ?_) | (refine g_nil ?_; conv => whnf) | (refine g_cond ?_; conv => whnf) | fail)
      refine Br.mk (fun hb => ?_) (fun hb => ?_)
      · have hltk : k < (w.fMates.getD a default).fRuns.length := by simpa using hb
        have hwk : IntKind.wrap .i64 ((k : Int) + 1) = ((k + 1 : Nat) : Int) := by rw [wrap_ok (by omega) (by omega)]; rfl
        have hpk : IntKind.wrap .i64 ((k : Int) - 1) = (k : Int) - 1 := wrap_ok (by omega) (by omega)
        have hbadk := fun h => allN_bad (f := chk (hM w.fMates a) (w.fMates.getD a default).fRuns) hltk hNk h
        have hgoodk := fun h => allN_good (f := chk (hM w.fMates a) (w.fMates.getD a default).fRuns) hltk hNk h
        have hsk := hNk.trans (by rw [allN_step (f := chk (hM w.fMates a) (w.fMates.getD a default).fRuns) hltk])
        clear hb
        conv => whnf
        have hk1 := kget_mapOf (hX (hM w.fMates a) (w.fMates.getD a default).fRuns k) ((w.fMates.getD a default).fRuns.getD (k : Int).toNat default).fWant.fHold
        have hc0 := hX_no (acc := hM w.fMates a) (xs := (w.fMates.getD a default).fRuns) (k := k)
        have hc1 := hX_yes (acc := hM w.fMates a) (xs := (w.fMates.getD a default).fRuns) (k := k)
        clear hsk hNk
        repeat' (first | (refine z_ld1 ?_; first | (refine z_ld rfl rfl rfl rfl (by first | (simp only [List.length_set]; assumption) | assumption | omega) (by first | exact elt_set (by first | assumption | (simp only [List.length_set]; assumption)) | assumption) ?_; conv => whnf) | (refine z_ld0 rfl ?_; conv => whnf)) | (refine z_ld1g ?_; first | (refine z_ldg rfl rfl rfl rfl rfl rfl rfl (by (repeat intro _); exact ⟨(by first | (simp only [List.length_set]; assumption) | assumption | omega), (by first | exact elt_set (by first | assumption | (simp only [List.length_set]; assumption)) | assumption)⟩) rfl rfl rfl rfl ?_; conv => whnf) | (refine z_ld0g ?_; (conv => whnf); refine And.intro ?_ ?_; (focus exact rfl); conv => whnf)) | (refine z_st1 ?_; first | (refine z_st rfl rfl rfl (by first | (simp only [List.length_set]; assumption) | assumption | omega) (by first | exact elt_set (by first | assumption | (simp only [List.length_set]; assumption)) | assumption) rfl rfl ?_; conv => whnf) | (refine z_st0 ?_; conv => whnf)) | (refine z_ix1 ?_; first | (refine z_ix rfl rfl rfl rfl rfl ⟨by first | omega | (simp only [decide_eq_true_eq, Bool.not_eq_true', Bool.or_eq_false_iff, decide_eq_false_iff_not, Bool.and_eq_true, Bool.not_eq_false'] at *; omega), by first | omega | (simp only [decide_eq_true_eq, Bool.not_eq_true', Bool.or_eq_false_iff, decide_eq_false_iff_not, Bool.and_eq_true, Bool.not_eq_false'] at *; omega)⟩ ?_; conv => whnf) | (refine z_ix0 rfl rfl ?_; conv => whnf)) | (refine z_op ?_ ?_; (focus exact rfl); conv => whnf) | (refine z_opg0 ?_; (conv => whnf); refine And.intro ?_ ?_; (focus exact rfl); conv => whnf) | (refine z_pick ?_ ?_; (focus exact rfl); conv => whnf) | (refine zs_ops ?_ ?_; (focus exact rfl)) | (refine z_nil fun vals => ?_; conv => whnf) | (refine z_call ?_ ?_; (focus exact rfl)) | (refine z_eff ?_; conv => whnf) | (refine RC.of (impl_Alive _) ?_ ?_; (focus exact rfl); conv => whnf) | (refine And.intro ?_ ?_; (focus (first | exact rfl | exact Nat.le_of_ble_eq_true rfl | decide | omega | fail)); conv => whnf) | (refine g_seq ?_) | (refine XS.go ?_) | (refine g_cond ?_; conv => whnf) | (refine g_skip ?_; conv => whnf) | (refine g_block ?_) | (refine fun _ => ?_; conv => whnf) | fail)
        refine Br.mk (fun h1 => ?_) (fun h1 => ?_)
        · have hn : cnt ((w.fMates.getD a default).fRuns.getD k default) = false := congrArg Bool.not h1
          have he := hc0 hn
          conv => whnf
          repeat' (first | (refine g_op ?_; conv => whnf) | (refine And.intro ?_ ?_; (focus (first | exact rfl | exact Nat.le_of_ble_eq_true rfl | decide | omega | fail)); conv => whnf) | (refine XS.go ?_) | (refine g_ops ?_) | (refine g_nil ?_; conv => whnf) | (refine g_exit ?_; conv => whnf) | fail)
          refine ⟨k + 1, ⟨by omega, hgoodk (by unfold chk; rw [hn]; rfl)⟩, by omega, ?_, ?_⟩
          · repeat' (first | exact True.intro | refine And.intro (congrArg (D.int .i64) hwk) ?_ | refine And.intro rfl ?_)
          · exact ⟨congrArg (fun l => some (D.mp (mapOf l))) he.symm, True.intro⟩
        have hn : cnt ((w.fMates.getD a default).fRuns.getD k default) = true := congrArg Bool.not h1
        have he := hc1 hn
        conv => whnf
        repeat' (first | (refine z_ld1 ?_; first | (refine z_ld rfl rfl rfl rfl (by first | (simp only [List.length_set]; assumption) | assumption | omega) (by first | exact elt_set (by first | assumption | (simp only [List.length_set]; assumption)) | assumption) ?_; conv => whnf) | (refine z_ld0 rfl ?_; conv => whnf)) | (refine z_op ?_ ?_; (focus exact rfl); conv => whnf) | (refine zs_ops ?_ ?_; (focus exact rfl)) | (refine z_nil fun vals => ?_; conv => whnf) | (refine And.intro ?_ ?_; (focus (first | exact rfl | exact Nat.le_of_ble_eq_true rfl | decide | omega | fail)); conv => whnf) | (refine g_seq ?_) | (refine XS.go ?_) | (refine g_cond ?_; conv => whnf) | (refine g_skip ?_; conv => whnf) | fail)
        rw [hk1]
        refine Br.mk (fun h2 => ?_) (fun h2 => ?_)
        · conv => whnf
          repeat' (first | (refine g_op ?_; conv => whnf) | (refine And.intro ?_ ?_; (focus (first | exact rfl | exact Nat.le_of_ble_eq_true rfl | decide | omega | fail)); conv => whnf) | (refine g_seq ?_) | (refine XS.go ?_) | (refine g_ops ?_) | (refine g_nil ?_; conv => whnf) | (refine g_ret ?_; conv => whnf) | fail)
          refine ⟨(), hbadk (by unfold chk; rw [hn]; exact congrArg Bool.not h2), ⟨?_, True.intro⟩⟩
          rotate_left
          · repeat' (first | exact True.intro | refine And.intro rfl ?_)
        conv => whnf
        repeat' (first | (refine z_ld1 ?_; first | (refine z_ld rfl rfl rfl rfl (by first | (simp only [List.length_set]; assumption) | assumption | omega) (by first | exact elt_set (by first | assumption | (simp only [List.length_set]; assumption)) | assumption) ?_; conv => whnf) | (refine z_ld0 rfl ?_; conv => whnf)) | (refine z_op ?_ ?_; (focus exact rfl); conv => whnf) | (refine zs_ops ?_ ?_; (focus exact rfl)) | (refine z_nil fun vals => ?_; conv => whnf) | (refine z_eff ?_; conv => whnf) | (refine g_op ?_; conv => whnf) | (refine And.intro ?_ ?_; (focus (first | exact rfl | exact Nat.le_of_ble_eq_true rfl | decide | omega | fail)); conv => whnf) | (refine XS.go ?_) | (refine g_ops ?_) | (refine g_nil ?_; conv => whnf) | (refine g_skip ?_; conv => whnf) | fail)
        refine ⟨k + 1, ⟨by omega, hgoodk (by unfold chk; rw [hn]; exact congrArg Bool.not h2)⟩, by omega, ?_, ?_⟩
        · repeat' (first | exact True.intro | refine And.intro (congrArg (D.int .i64) hwk) ?_ | refine And.intro rfl ?_)
        · exact ⟨congrArg (fun l => some (D.mp l)) (by rw [he, mapOf_snoc]; rfl), True.intro⟩
      have hgek : ¬ k < (w.fMates.getD a default).fRuns.length := by simpa using hb
      have hend : safe w = ((allN (mF w.fMates) (w.fMates.length - (a + 1)) (a + 1) && true)) := by rw [hNk, allN_end hgek, Bool.true_and]
      clear hNk hb
      conv => whnf
      obtain rfl : k = (w.fMates.getD a default).fRuns.length := by omega
      repeat' (first | (refine And.intro ?_ ?_; (focus (first | exact rfl | exact Nat.le_of_ble_eq_true rfl | decide | omega | fail)); conv => whnf) | (refine g_exit ?_; conv => whnf) | fail)
      first | refine ⟨(), hend, ⟨?_, ?_⟩⟩ | refine ⟨rfl, (), hend, ⟨?_, ?_⟩⟩
      · repeat' (first | exact True.intro | refine And.intro rfl ?_)
      · repeat' (first | exact True.intro | refine And.intro rfl ?_)
    · intro _ gs hret
      conv => whnf
      repeat' (first | (refine And.intro ?_ ?_; (focus (first | exact rfl | exact Nat.le_of_ble_eq_true rfl | decide | omega | fail)); conv => whnf) | (refine r_t ?_; conv => whnf) | (refine r_nil ?_; conv => whnf) | fail)
      first
      | (refine ⟨(), hret, ⟨?_, True.intro⟩⟩; repeat' (first | exact True.intro | refine And.intro rfl ?_))
      | ((conv => lhs; whnf); rw [← hret])
      | fail
    intro _ gs hend
    conv => whnf
    repeat' (first | (refine g_op ?_; conv => whnf) | (refine And.intro ?_ ?_; (focus (first | exact rfl | exact Nat.le_of_ble_eq_true rfl | decide | omega | fail)); conv => whnf) | (refine XS.go ?_) | (refine g_ops ?_) | (refine g_nil ?_; conv => whnf) | fail)
    refine ⟨a + 1, ⟨by omega, hend⟩, by omega, ?_, ?_⟩
    · repeat' (first | exact True.intro | refine And.intro (congrArg (D.int .i64) hwa) ?_ | refine And.intro rfl ?_)
    · repeat' (first | exact True.intro | refine And.intro rfl ?_)
  have hgea : ¬ a < w.fMates.length := by simpa using hb
  have hend : safe w = (true) := by rw [hNa, allN_end hgea, Bool.true_and]
  clear hNa hb
  conv => whnf
  repeat' (first | (refine g_op ?_; conv => whnf) | (refine And.intro ?_ ?_; (focus (first | exact rfl | exact Nat.le_of_ble_eq_true rfl | decide | omega | fail)); conv => whnf) | (refine g_seq ?_) | (refine XS.go ?_) | (refine g_ops ?_) | (refine g_nil ?_; conv => whnf) | (refine g_ret ?_; conv => whnf) | (refine g_exit ?_; conv => whnf) | (refine r_t ?_; conv => whnf) | (refine r_nil ?_; conv => whnf) | fail)
  (conv => lhs; whnf)
  rw [hend]
end Go.Ab
