/- Steps towards the law: contracts of functions and facts of lists. -/
import Derived.Test.YtjajdgljjompgaaPiloG
import Derived.Test.YtjajdgljjompgaaRows
set_option linter.unusedSimpArgs false
set_option linter.unusedVariables false
namespace Go.Ab
open Go Go.RowKit Go.Proofs
attribute [local irreducible] XC Rdr IntKind.wrap xw xos xqs xr xd
set_option maxRecDepth 100000

/-- laws.markFleetRanS -/
def cf57 : CF := ⟨35, [.t 4],
  (.seq (.ops [⟨some 4, .mv (.k (.int .i64 0)), none⟩])
  (.seq (.seq (.ops [⟨some 5, .mv (.k (.int .i64 0)), none⟩])
  (.block 0 (.loop (.seq (.seq (.ops [⟨some 6, .mv (.t 5), none⟩,
    ⟨some 7, .mv (.t 0), none⟩,
    ⟨some 8, .lenl (.t 7), none⟩,
    ⟨some 9, .bin .lss (.t 6) (.t 8), none⟩])
  (.cond (.t 9)
  .skip
  (.exit 0)))
  (.seq (.block 1 (.seq (.ops [⟨some 12, .mv (.t 0), none⟩,
    ⟨some 13, .mv (.t 5), none⟩,
    ⟨some 14, .mv (.t 1), none⟩,
    ⟨some 15, .call 95 [(.t 14)], none⟩,
    ⟨some 16, .ix 3 (.t 12) (.t 13), none⟩,
    ⟨some 17, .fa 0 1 0 (.t 16), none⟩,
    ⟨none, .st 1 (.t 17) (.t 15), none⟩])
  (.seq (.ops [⟨some 18, .mv (.t 1), none⟩,
    ⟨some 19, .bin .add (.t 18) (.k (.int .i64 1)), none⟩,
    ⟨some 1, .mv (.t 19), none⟩])
  (.seq (.ops [⟨some 20, .mv (.t 0), none⟩,
    ⟨some 21, .mv (.t 5), none⟩,
    ⟨some 22, .mv (.t 1), none⟩,
    ⟨some 23, .ix 3 (.t 20) (.t 21), none⟩,
    ⟨some 24, .fa 1 1 1 (.t 23), none⟩,
    ⟨none, .st 1 (.t 24) (.t 22), none⟩])
  (.seq (.ops [⟨some 25, .mv (.t 1), none⟩,
    ⟨some 26, .bin .add (.t 25) (.k (.int .i64 1)), none⟩,
    ⟨some 1, .mv (.t 26), none⟩])
  (.seq (.ops [⟨some 27, .mv (.t 0), none⟩,
    ⟨some 28, .mv (.t 5), none⟩,
    ⟨some 29, .mv (.t 1), none⟩,
    ⟨some 30, .ix 3 (.t 27) (.t 28), none⟩,
    ⟨some 31, .fa 2 1 2 (.t 30), none⟩,
    ⟨none, .st 1 (.t 31) (.t 29), none⟩])
  (.ops [⟨some 32, .mv (.t 1), none⟩,
    ⟨some 33, .bin .add (.t 32) (.k (.int .i64 1)), none⟩,
    ⟨some 1, .mv (.t 33), none⟩])))))))
  (.ops [⟨some 10, .mv (.t 5), none⟩,
    ⟨some 11, .bin .add (.t 10) (.k (.int .i64 1)), none⟩,
    ⟨some 5, .mv (.t 11), none⟩]))))))
  (.seq (.ops [⟨some 34, .mv (.t 1), none⟩,
    ⟨some 4, .mv (.t 34), none⟩])
  .ret)))⟩
theorem c57 : compileF Try.prog [] 57 = some cf57 := by kernel_rfl
/-- laws.heldFleetRanS -/
def cf58 : CF := ⟨41, [.t 4],
  (.seq (.ops [⟨some 4, .mv (.k (.int .i64 0)), none⟩])
  (.seq (.seq (.ops [⟨some 5, .mv (.k (.int .i64 0)), none⟩])
  (.block 0 (.loop (.seq (.seq (.ops [⟨some 6, .mv (.t 5), none⟩,
    ⟨some 7, .mv (.t 0), none⟩,
    ⟨some 8, .lenl (.t 7), none⟩,
    ⟨some 9, .bin .lss (.t 6) (.t 8), none⟩])
  (.cond (.t 9)
  .skip
  (.exit 0)))
  (.seq (.block 1 (.seq (.seq (.quiet [⟨some 12, .mv (.t 0), none⟩,
    ⟨some 13, .mv (.t 5), none⟩,
    ⟨some 14, .ix 3 (.t 12) (.t 13), none⟩,
    ⟨some 15, .fa 0 1 0 (.t 14), none⟩,
    ⟨some 16, .ld 1 false (.t 15), none⟩,
    ⟨some 17, .mv (.t 1), none⟩,
    ⟨some 18, .call 95 [(.t 17)], none⟩,
    ⟨some 19, .bin .neq (.t 16) (.t 18), none⟩])
  (.cond (.t 19)
  (.seq (.ops [⟨some 4, .mv (.k (.int .i64 (-1))), none⟩])
  .ret)
  .skip))
  (.seq (.ops [⟨some 20, .mv (.t 1), none⟩,
    ⟨some 21, .bin .add (.t 20) (.k (.int .i64 1)), none⟩,
    ⟨some 1, .mv (.t 21), none⟩])
  (.seq (.seq (.ops [⟨some 22, .mv (.t 0), none⟩,
    ⟨some 23, .mv (.t 5), none⟩,
    ⟨some 24, .ix 3 (.t 22) (.t 23), none⟩,
    ⟨some 25, .fa 1 1 1 (.t 24), none⟩,
    ⟨some 26, .ld 1 false (.t 25), none⟩,
    ⟨some 27, .mv (.t 1), none⟩,
    ⟨some 28, .bin .neq (.t 26) (.t 27), none⟩])
  (.cond (.t 28)
  (.seq (.ops [⟨some 4, .mv (.k (.int .i64 (-1))), none⟩])
  .ret)
  .skip))
  (.seq (.ops [⟨some 29, .mv (.t 1), none⟩,
    ⟨some 30, .bin .add (.t 29) (.k (.int .i64 1)), none⟩,
    ⟨some 1, .mv (.t 30), none⟩])
  (.seq (.seq (.ops [⟨some 31, .mv (.t 0), none⟩,
    ⟨some 32, .mv (.t 5), none⟩,
    ⟨some 33, .ix 3 (.t 31) (.t 32), none⟩,
    ⟨some 34, .fa 2 1 2 (.t 33), none⟩,
    ⟨some 35, .ld 1 false (.t 34), none⟩,
    ⟨some 36, .mv (.t 1), none⟩,
    ⟨some 37, .bin .neq (.t 35) (.t 36), none⟩])
  (.cond (.t 37)
  (.seq (.ops [⟨some 4, .mv (.k (.int .i64 (-1))), none⟩])
  .ret)
  .skip))
  (.ops [⟨some 38, .mv (.t 1), none⟩,
    ⟨some 39, .bin .add (.t 38) (.k (.int .i64 1)), none⟩,
    ⟨some 1, .mv (.t 39), none⟩])))))))
  (.ops [⟨some 10, .mv (.t 5), none⟩,
    ⟨some 11, .bin .add (.t 10) (.k (.int .i64 1)), none⟩,
    ⟨some 5, .mv (.t 11), none⟩]))))))
  (.seq (.ops [⟨some 40, .mv (.t 1), none⟩,
    ⟨some 4, .mv (.t 40), none⟩])
  .ret)))⟩
theorem c58 : compileF Try.prog [] 58 = some cf58 := by kernel_rfl
def mk_FleetRan (x : FleetRan) (k : Int) : FleetRan := { x with fCopy := mtext k, fVersion := (k + 1), fState := ((k + 1) + 1) }
set_option maxHeartbeats 8000000 in
theorem mark_FleetRanS (xs : List FleetRan) (b0 c0 : Nat) (k : Int) (hk : 1 ≤ k) (hl : xs.length ≤ 1048576) (hB : k + (3 * xs.length : Nat) ≤ 50000000) : XC Try.prog 57 [.lsl 0 b0 xs.length c0, .int .i64 k] [(0, b0, .arr 3 (xs.map FleetRan.D) c0)] (fun d ls => d = .int .i64 (k + (3 * xs.length : Nat)) ∧ ls = [(0, b0, .arr 3 ((mkS mk_FleetRan 3 xs k).map FleetRan.D) c0)]) := by
  refine XC.intro' hm [0] rfl c57 (Nat.le_of_ble_eq_true rfl) ?_
  conv => whnf
  repeat' (first | (refine g_op ?_; conv => whnf) | (refine And.intro ?_ ?_; (focus (first | exact rfl | exact Nat.le_of_ble_eq_true rfl | decide | omega | fail)); conv => whnf) | (refine g_seq ?_) | (refine XS.go ?_) | (refine g_ops ?_) | (refine g_loop ?_) | (refine g_nil ?_; conv => whnf) | (refine g_block ?_) | fail)
  refine XLc.mkG (α := Nat) (fun i gs => i ≤ xs.length ∧ gs 0 = b0) (fun i => xs.length - i) (fun i gs => [.lsl 0 (gs 0) xs.length c0, .int .i64 (k + (3 * i : Nat)), .any, .any, .any, .int .i64 (i : Int)]) (fun i gs => [(0, .arr 3 ((mkP mk_FleetRan 3 xs k i).map FleetRan.D) c0)]) 0 ⟨Nat.zero_le _, rfl⟩ ?_ ?_
  · refine ⟨?_, ?_⟩
    · repeat' (first | exact True.intro | refine And.intro rfl ?_ | refine And.intro (congrArg (D.int .i64) (by simp)) ?_)
    · exact And.intro (by rw [mkP_zero]; rfl) True.intro
  intro i gs hI
  obtain ⟨hi0, hg⟩ := hI
  subst hg
  repeat' (first | (refine g_op ?_; conv => whnf) | (refine And.intro ?_ ?_; (focus (first | exact rfl | exact Nat.le_of_ble_eq_true rfl | decide | omega | fail)); conv => whnf) | (refine g_seq ?_) | (refine XS.go ?_) | (refine g_ops ?_) | (refine g_nil ?_; conv => whnf) | (refine g_cond ?_; conv => whnf) | fail)
  refine Br.mk (fun hb => ?_) (fun hb => ?_)
  · have hlt : i < xs.length := by simpa using hb
    have hj0 : i < ((mkP mk_FleetRan 3 xs k i).map FleetRan.D).length := by rw [List.length_map, mkP_len]; exact hlt
    have he0 : ((mkP mk_FleetRan 3 xs k i).map FleetRan.D).getD i .any = (xs.getD i default).D := by
      rw [elt_map (by rw [mkP_len]; exact hlt), mkP_get _ hlt]
    have hfin : ∀ d, d = (mk_FleetRan (xs.getD i default) (k + (3 * i : Nat))).D → ((mkP mk_FleetRan 3 xs k i).map FleetRan.D).set i d = (mkP mk_FleetRan 3 xs k (i + 1)).map FleetRan.D := fun d h => by
      rw [h, ← mkP_set default hlt, List.map_set]
    have hKe : k + (3 * (i + 1) : Nat) = k + (3 * i : Nat) + 3 := by omega
    have hK0 : 1 ≤ k + (3 * i : Nat) := by omega
    have hK1 : k + (3 * i : Nat) + 3 ≤ 50000000 := by omega
    generalize hK : k + (3 * i : Nat) = K at hfin hK0 hK1 hKe ⊢
    have hw1 : IntKind.wrap .i64 (K + 1) = (K + 1) := wrap_ok (by omega) (by omega)
    have hw2 : IntKind.wrap .i64 ((K + 1) + 1) = ((K + 1) + 1) := wrap_ok (by omega) (by omega)
    have hw3 : IntKind.wrap .i64 (((K + 1) + 1) + 1) = (((K + 1) + 1) + 1) := wrap_ok (by omega) (by omega)
    have ht0 := mark_text K (by first | omega | (simp only [hw1, hw2, hw3]; omega)) (by first | omega | (simp only [hw1, hw2, hw3]; omega))
    conv => whnf
    repeat' (first | (refine z_st1 ?_; first | (refine z_st rfl rfl rfl (by first | (simp only [List.length_set]; assumption) | assumption | omega) (by first | exact elt_set (by first | assumption | (simp only [List.length_set]; assumption)) | assumption) rfl rfl ?_; conv => whnf) | (refine z_st0 ?_; conv => whnf)) | (refine z_ix1 ?_; first | (refine z_ix rfl rfl rfl rfl rfl ⟨by first | omega | (simp only [decide_eq_true_eq, Bool.not_eq_true', Bool.or_eq_false_iff, decide_eq_false_iff_not, Bool.and_eq_true, Bool.not_eq_false'] at *; omega), by first | omega | (simp only [decide_eq_true_eq, Bool.not_eq_true', Bool.or_eq_false_iff, decide_eq_false_iff_not, Bool.and_eq_true, Bool.not_eq_false'] at *; omega)⟩ ?_; conv => whnf) | (refine z_ix0 rfl rfl ?_; conv => whnf)) | (refine z_op ?_ ?_; (focus exact rfl); conv => whnf) | (refine zs_ops ?_ ?_; (focus exact rfl)) | (refine z_nil fun vals => ?_; conv => whnf) | (refine z_call ?_ ?_; (focus exact rfl)) | (refine RC.of (ht0) ?_ ?_; (focus exact rfl); conv => whnf) | (refine g_op ?_; conv => whnf) | (refine And.intro ?_ ?_; (focus (first | exact rfl | exact Nat.le_of_ble_eq_true rfl | decide | omega | fail)); conv => whnf) | (refine g_seq ?_) | (refine XS.go ?_) | (refine g_ops ?_) | (refine g_nil ?_; conv => whnf) | (refine g_skip ?_; conv => whnf) | (refine g_block ?_) | fail)
    have hw : IntKind.wrap .i64 ((i : Int) + 1) = ((i + 1 : Nat) : Int) := by rw [wrap_ok (by omega) (by omega)]; rfl
    refine ⟨i + 1, ⟨by omega, rfl⟩, by omega, ?_, ?_⟩
    · repeat' (first | exact True.intro | refine And.intro (congrArg (D.int .i64) hw) ?_ | refine And.intro rfl ?_ | refine And.intro (congrArg (D.int .i64) (by simp only [hw1, hw2, hw3]; omega)) ?_)
    · refine And.intro ?_ True.intro
      refine congrArg (fun l => some (D.arr 3 l c0)) ?_
      simp only [List.set_set]
      exact hfin _ (by simp only [hw1, hw2, hw3]; rfl)
  have hi : i = xs.length := by
    have : ¬ i < xs.length := by simpa using hb
    omega
  subst hi
  rw [mkP_all]
  conv => whnf
  repeat' (first | (refine g_op ?_; conv => whnf) | (refine And.intro ?_ ?_; (focus (first | exact rfl | exact Nat.le_of_ble_eq_true rfl | decide | omega | fail)); conv => whnf) | (refine g_seq ?_) | (refine XS.go ?_) | (refine g_ops ?_) | (refine g_nil ?_; conv => whnf) | (refine g_ret ?_; conv => whnf) | (refine g_exit ?_; conv => whnf) | (refine r_t ?_; conv => whnf) | (refine r_nil ?_; conv => whnf) | fail)
  first | exact ⟨rfl, rfl⟩ | exact rfl
set_option maxHeartbeats 8000000 in
theorem held_FleetRanS (xs : List FleetRan) (k : Int) (hk : 1 ≤ k) (hl : xs.length ≤ 1048576) (hB : k + (3 * xs.length : Nat) ≤ 50000000) : Rdr Try.prog 58 [.ro 3 ((mkS mk_FleetRan 3 xs k).map FleetRan.D), .int .i64 k] (.int .i64 (k + (3 * xs.length : Nat))) := by
  have hml : (mkS mk_FleetRan 3 xs k).length = xs.length := mkS_len
  refine Rdr.intro' hm c58 (Nat.le_of_ble_eq_true rfl) ?_
  conv => whnf
  repeat' (first | (refine g_op ?_; conv => whnf) | (refine And.intro ?_ ?_; (focus (first | exact rfl | exact Nat.le_of_ble_eq_true rfl | decide | omega | fail)); conv => whnf) | (refine g_seq ?_) | (refine XS.go ?_) | (refine g_ops ?_) | (refine g_loop ?_) | (refine g_nil ?_; conv => whnf) | (refine g_block ?_) | fail)
  refine XLc.mkA (α := Nat) (fun i => i ≤ xs.length) (fun i => xs.length - i) (fun i gs => [.ro 3 ((mkS mk_FleetRan 3 xs k).map FleetRan.D), .int .i64 (k + (3 * i : Nat)), .any, .any, .any, .int .i64 (i : Int)]) (fun i gs => []) 0 (Nat.zero_le _) ?_ ?_
  · refine ⟨?_, True.intro⟩
    · repeat' (first | exact True.intro | refine And.intro rfl ?_ | refine And.intro (congrArg (D.int .i64) (by simp)) ?_)
  intro i gs hi0
  repeat' (first | (refine g_op ?_; conv => whnf) | (refine And.intro ?_ ?_; (focus (first | exact rfl | exact Nat.le_of_ble_eq_true rfl | decide | omega | fail)); conv => whnf) | (refine g_seq ?_) | (refine XS.go ?_) | (refine g_ops ?_) | (refine g_nil ?_; conv => whnf) | (refine g_cond ?_; conv => whnf) | fail)
  refine Br.mk (fun hb => ?_) (fun hb => ?_)
  · have hlt : i < xs.length := by simpa [mkS_len] using hb
    have hel : (mkS mk_FleetRan 3 xs k).getD i default = mk_FleetRan (xs.getD i default) (k + (3 * i : Nat)) := mkS_get default hlt
    have hlt' : i < (mkS mk_FleetRan 3 xs k).length := by rw [hml]; exact hlt
    have hKe : k + (3 * (i + 1) : Nat) = k + (3 * i : Nat) + 3 := by omega
    have hK0 : 1 ≤ k + (3 * i : Nat) := by omega
    have hK1 : k + (3 * i : Nat) + 3 ≤ 50000000 := by omega
    generalize hK : k + (3 * i : Nat) = K at hel hK0 hK1 hKe ⊢
    have hw1 : IntKind.wrap .i64 (K + 1) = (K + 1) := wrap_ok (by omega) (by omega)
    have hw2 : IntKind.wrap .i64 ((K + 1) + 1) = ((K + 1) + 1) := wrap_ok (by omega) (by omega)
    have hw3 : IntKind.wrap .i64 (((K + 1) + 1) + 1) = (((K + 1) + 1) + 1) := wrap_ok (by omega) (by omega)
    have ht0 := mark_text K (by first | omega | (simp only [hw1, hw2, hw3]; omega)) (by first | omega | (simp only [hw1, hw2, hw3]; omega))
    conv => whnf
    repeat' (first | (refine z_ld1 ?_; first | (refine z_ld rfl rfl rfl rfl (by first | (simp only [List.length_set]; assumption) | assumption | omega) (by first | exact elt_set (by first | assumption | (simp only [List.length_set]; assumption)) | assumption) ?_; conv => whnf) | (refine z_ld0 rfl ?_; conv => whnf)) | (refine z_ix1 ?_; first | (refine z_ix rfl rfl rfl rfl rfl ⟨by first | omega | (simp only [decide_eq_true_eq, Bool.not_eq_true', Bool.or_eq_false_iff, decide_eq_false_iff_not, Bool.and_eq_true, Bool.not_eq_false'] at *; omega), by first | omega | (simp only [decide_eq_true_eq, Bool.not_eq_true', Bool.or_eq_false_iff, decide_eq_false_iff_not, Bool.and_eq_true, Bool.not_eq_false'] at *; omega)⟩ ?_; conv => whnf) | (refine z_ix0 rfl rfl ?_; conv => whnf)) | (refine z_op ?_ ?_; (focus exact rfl); conv => whnf) | (refine zs_ops ?_ ?_; (focus exact rfl)) | (refine zs_quiet ?_ ?_; (focus exact rfl)) | (refine z_nil fun vals => ?_; conv => whnf) | (refine z_call ?_ ?_; (focus exact rfl)) | (refine RC.of (ht0) ?_ ?_; (focus exact rfl); conv => whnf) | (refine g_op ?_; conv => whnf) | (refine And.intro ?_ ?_; (focus (first | exact rfl | exact Nat.le_of_ble_eq_true rfl | decide | omega | fail)); conv => whnf) | (refine g_seq ?_) | (refine XS.go ?_) | (refine g_ops ?_) | (refine g_nil ?_; conv => whnf) | (refine g_cond ?_; conv => whnf) | (refine g_skip ?_; conv => whnf) | (refine g_block ?_) | (refine Br.f (by simp only [Int.toNat_natCast, hel, hw1, hw2, hw3, mk_FleetRan] <;> simp) ?_; conv => whnf) | fail)
    have hw : IntKind.wrap .i64 ((i : Int) + 1) = ((i + 1 : Nat) : Int) := by rw [wrap_ok (by omega) (by omega)]; rfl
    refine ⟨i + 1, by omega, by omega, ?_, True.intro⟩
    · repeat' (first | exact True.intro | refine And.intro (congrArg (D.int .i64) hw) ?_ | refine And.intro rfl ?_ | refine And.intro (congrArg (D.int .i64) (by simp only [hw1, hw2, hw3]; omega)) ?_)
  have hi : i = xs.length := by
    have : ¬ i < xs.length := by simpa [mkS_len] using hb
    omega
  subst hi
  conv => whnf
  repeat' (first | (refine g_op ?_; conv => whnf) | (refine And.intro ?_ ?_; (focus (first | exact rfl | exact Nat.le_of_ble_eq_true rfl | decide | omega | fail)); conv => whnf) | (refine g_seq ?_) | (refine XS.go ?_) | (refine g_ops ?_) | (refine g_nil ?_; conv => whnf) | (refine g_ret ?_; conv => whnf) | (refine g_exit ?_; conv => whnf) | (refine r_t ?_; conv => whnf) | (refine r_nil ?_; conv => whnf) | fail)
  rfl
theorem markx_FleetRanS (s : Nat) (xs : List FleetRan) (b0 c0 : Nat) (k : Int) (hk : 1 ≤ k) (hl : xs.length ≤ 1048576) (hB : k + (3 * xs.length : Nat) ≤ 50000000) : XC Try.prog 57 [.lsl s b0 xs.length c0, .int .i64 k] [(s, b0, .arr 3 (xs.map FleetRan.D) c0)] (fun d ls => d = .int .i64 (k + (3 * xs.length : Nat)) ∧ ls = [(s, b0, .arr 3 ((mkS mk_FleetRan 3 xs k).map FleetRan.D) c0)]) := by
  refine (mark_FleetRanS xs b0 c0 k hk hl hB).ren (fun _ _ _ h => h) rfl (fun d ls ⟨h1, h2⟩ => ?_)
  subst h1 h2
  exact ⟨_, _, ⟨rfl, rfl⟩, fun _ _ _ h => HolL.ren rfl h, fun _ _ _ h => h⟩
def mkR (x : FleetReport) (k : Int) : FleetReport := { x with fRuns := mkS mk_FleetRan 3 x.fRuns k }
theorem Bor.repO {st : St} {x : FleetReport} {s b c k : Nat} (h : st.lc s = some (.arr 3 (x.fRuns.map FleetRan.D) k)) (g : st.gen s = b) : Bor st (x.O s b c) x.D :=
  Bor.agg (.cons (Bor.refl _ _) (.cons (Bor.refl _ _) (.cons (Bor.rowM h g rfl (fun _ => rfl)) .nil))) rfl rfl rfl
theorem Bor.repM {st : St} {x : FleetReport} {m : Int} {s b c k : Nat} (h : st.lc s = some (.arr 3 ((mkR x m).fRuns.map FleetRan.D) k)) (g : st.gen s = b) : Bor st (x.O s b c) (mkR x m).D :=
  Bor.agg (.cons (Bor.refl _ _) (.cons (Bor.refl _ _) (.cons (Bor.rowM h g mkS_len.symm (fun _ => rfl)) .nil))) rfl rfl rfl
theorem mark_Rep (x : FleetReport) (b c : Nat) (k : Int) (hk : 1 ≤ k) (hl : x.fRuns.length ≤ 1048576) (hB : k + (3 * x.fRuns.length : Nat) ≤ 50000000) : XC Try.prog 27 [x.O 41 b c, .int .i64 k] (x.L 41 b c) (fun d ls => d = .int .i64 (k + (3 * x.fRuns.length : Nat)) ∧ ls = (mkR x k).L 41 b c) := by
  refine XC.intro' hm [41] rfl c27 (Nat.le_of_ble_eq_true rfl) ?_
  conv => whnf
  repeat' (first | (refine g_op ?_; conv => whnf) | (refine And.intro ?_ ?_; (focus (first | exact rfl | exact Nat.le_of_ble_eq_true rfl | decide | omega | fail)); conv => whnf) | (refine g_seq ?_) | (refine XS.go ?_) | (refine g_ops ?_) | (refine g_nil ?_; conv => whnf) | (refine fun _ => ?_; conv => whnf) | fail)
  refine XCL.of_XC (ls := [(41, b, .arr 3 (x.fRuns.map FleetRan.D) c)]) ⟨rfl, rfl, rfl, True.intro⟩ ((markx_FleetRanS 41 x.fRuns b c k hk hl hB).mono fun d ls h => ?_)
  obtain ⟨rfl, rfl⟩ := h
  conv => whnf
  repeat' (first | (refine g_op ?_; conv => whnf) | (refine And.intro ?_ ?_; (focus (first | exact rfl | exact Nat.le_of_ble_eq_true rfl | decide | omega | fail)); conv => whnf) | (refine g_seq ?_) | (refine XS.go ?_) | (refine g_ops ?_) | (refine g_nil ?_; conv => whnf) | (refine g_ret ?_; conv => whnf) | (refine r_t ?_; conv => whnf) | (refine r_nil ?_; conv => whnf) | fail)
  first | exact ⟨rfl, rfl⟩ | exact rfl
theorem held_Rep (x : FleetReport) (k : Int) (hk : 1 ≤ k) (hl : x.fRuns.length ≤ 1048576) (hB : k + (3 * x.fRuns.length : Nat) ≤ 50000000) : Rdr Try.prog 28 [(mkR x k).D, .int .i64 k] (.int .i64 (k + (3 * x.fRuns.length : Nat))) := by
  have q1 := held_FleetRanS x.fRuns k hk hl hB
  have p1 : decide ((k + (3 * x.fRuns.length : Nat)) < 0) = false := by simp; omega
  refine Rdr.intro' hm c28 (Nat.le_of_ble_eq_true rfl) ?_
  conv => whnf
  repeat' (first | (refine g_op ?_; conv => whnf) | (refine And.intro ?_ ?_; (focus (first | exact rfl | exact Nat.le_of_ble_eq_true rfl | decide | omega | fail)); conv => whnf) | (refine g_seq ?_) | (refine XS.go ?_) | (refine g_ops ?_) | (refine g_nil ?_; conv => whnf) | (refine Br.f ?_ ?_; (focus (first | assumption | exact rfl)); conv => whnf) | (refine g_cond ?_; conv => whnf) | (refine g_skip ?_; conv => whnf) | (refine g_ret ?_; conv => whnf) | (refine r_t ?_; conv => whnf) | (refine r_nil ?_; conv => whnf) | (refine fun _ => ?_; conv => whnf) | (refine XCL.of_rdr (q1) ?_; conv => whnf) | fail)
  rfl
theorem impl_RepB (x : Mate) (hs : x.small) (b1 b2 b3 b4 c1 c2 c3 c4 : Nat) : XC Try.prog 23 [x.O 31 32 33 34 b1 b2 b3 b4 c1 c2 c3 c4] (x.L 31 32 33 34 b1 b2 b3 b4 c1 c2 c3 c4) (fun d ls => ∃ l, ls = x.L 31 32 33 34 b1 b2 b3 b4 c1 c2 c3 c4 ++ l ∧ ∃ b c, d = (repR x).O 33 b c ∧ l = (repR x).L 33 b c) := by
  have h := impl_Rep x hs
  rw [← frz_mate x b1 b2 b3 b4 c1 c2 c3 c4 c1 c2 c3 c4] at h
  exact XC.bor h (ok_mate x b1 b2 b3 b4 c1 c2 c3 c4 c1 c2 c3 c4) (fun d l ⟨b, c, h1, h2⟩ => by subst h1 h2; exact ⟨rfl, by show ((D.arr 3 ((repR x).fRuns.map FleetRan.D) c).cl && true) = true; rw [Bool.and_true]; exact D.cls_map (fun _ => rfl) _⟩)
end Go.Ab
