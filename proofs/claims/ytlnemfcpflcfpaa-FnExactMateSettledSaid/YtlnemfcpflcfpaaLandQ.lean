/- Steps towards the law: contracts of functions and facts of lists. -/
import Derived.Test.YtlnemfcpflcfpaaLandP
import Derived.Test.YtlnemfcpflcfpaaAb11
import Derived.Test.YtlnemfcpflcfpaaRows
set_option linter.unusedSimpArgs false
set_option linter.unusedVariables false
namespace Go.Ab
open Go Go.RowKit Go.Proofs
attribute [local irreducible] XC Rdr IntKind.wrap xw xos xqs xr xd
set_option maxRecDepth 100000

set_option maxHeartbeats 8000000 in
theorem impl_Settled (w : MateWorld) (hz : ∀ i, (w.fLand.fPlaces.getD i default).fWants.length ≤ 1048576) : Rdr Try.prog 52 [w.D] (.bool (settled w)) := by
  refine Rdr.intro' hm c52 (Nat.le_of_ble_eq_true rfl) ?_
  conv => whnf
  repeat' (first | (refine g_op ?_; conv => whnf) | (refine And.intro ?_ ?_; (focus (first | exact rfl | exact Nat.le_of_ble_eq_true rfl | decide | omega | fail)); conv => whnf) | (refine g_seq ?_) | (refine g_ops ?_) | (refine g_nil ?_; conv => whnf) | (refine fun _ => ?_; conv => whnf) | fail)
  refine XS.freezeB 1 rfl ?_
  repeat' (first | (refine z_ld1 ?_; first | (refine z_ld rfl rfl rfl rfl (by first | (simp only [List.length_set]; assumption) | assumption | omega) (by first | exact elt_set (by first | assumption | (simp only [List.length_set]; assumption)) | assumption) ?_; conv => whnf) | (refine z_ld0 rfl ?_; conv => whnf)) | (refine z_op ?_ ?_; (focus exact rfl); conv => whnf) | (refine zs_ops ?_ ?_; (focus exact rfl)) | (refine z_nil fun vals => ?_; conv => whnf) | (refine z_call ?_ ?_; (focus exact rfl)) | (refine RC.of (impl_WorldOk w hz) ?_ ?_; (focus exact rfl); conv => whnf) | (refine And.intro ?_ ?_; (focus (first | exact rfl | exact Nat.le_of_ble_eq_true rfl | decide | omega | fail)); conv => whnf) | (refine g_seq ?_) | (refine XS.go ?_) | (refine g_cond ?_; conv => whnf) | fail)
  refine Br.mk (fun hb => ?_) (fun hb => ?_)
  · have hc : worldOk w = false := by simpa using hb
    conv => whnf
    repeat' (first | (refine g_op ?_; conv => whnf) | (refine And.intro ?_ ?_; (focus (first | exact rfl | exact Nat.le_of_ble_eq_true rfl | decide | omega | fail)); conv => whnf) | (refine g_seq ?_) | (refine XS.go ?_) | (refine g_ops ?_) | (refine g_nil ?_; conv => whnf) | (refine g_ret ?_; conv => whnf) | (refine r_t ?_; conv => whnf) | (refine r_nil ?_; conv => whnf) | fail)
    (conv => lhs; whnf)
    rw [settled, hc]
    rfl
  have hc : worldOk w = true := by simpa using hb
  have hv : settled w = (allN (sM w) w.fMates.length 0 && true) := by rw [settled, hc]; rfl
  have hl := worldOk_mates hc
  have hr := worldOk_runs hc
  have hpl := (worldOk_places hc).2
  clear hb hc
  conv => whnf
  repeat' (first | (refine z_ld1 ?_; first | (refine z_ld rfl rfl rfl rfl (by first | (simp only [List.length_set]; assumption) | assumption | omega) (by first | exact elt_set (by first | assumption | (simp only [List.length_set]; assumption)) | assumption) ?_; conv => whnf) | (refine z_ld0 rfl ?_; conv => whnf)) | (refine z_op ?_ ?_; (focus exact rfl); conv => whnf) | (refine zs_ops ?_ ?_; (focus exact rfl)) | (refine z_nil fun vals => ?_; conv => whnf) | (refine And.intro ?_ ?_; (focus (first | exact rfl | exact Nat.le_of_ble_eq_true rfl | decide | omega | fail)); conv => whnf) | (refine g_seq ?_) | (refine XS.go ?_) | (refine g_loop ?_) | (refine g_skip ?_; conv => whnf) | (refine g_block ?_) | fail)
  refine XLc.mkL (α := Nat) (fun a => a ≤ w.fMates.length ∧ settled w = (allN (sM w) (w.fMates.length - a) a && true)) (fun a => w.fMates.length - a) (fun a gs => [.any, .cref w.D, .any, .any, .any, .any, .any, .any, .any, .any, .any, .any, .any, .ro 9 (w.fMates.map Mate.D), .int .i64 ((w.fMates.map Mate.D).length : Int), .int .i64 (a : Int)]) (fun a gs => []) 0 ⟨Nat.zero_le _, hv⟩ ?_ ?_
  · refine ⟨?_, ?_⟩
    · repeat' (first | exact True.intro | refine And.intro rfl ?_)
    · repeat' (first | exact True.intro | refine And.intro rfl ?_)
  intro a gsa hI
  obtain ⟨hia, hNa⟩ := hI
  repeat' (first | (refine g_op ?_; conv => whnf) | (refine And.intro ?_ ?_; (focus (first | exact rfl | exact Nat.le_of_ble_eq_true rfl | decide | omega | fail)); conv => whnf) | (refine g_seq ?_) | (refine XS.go ?_) | (refine g_ops ?_) | (refine g_nil ?_; conv => whnf) | (refine g_cond ?_; conv => whnf) | fail)
  refine Br.mk (fun hb => ?_) (fun hb => ?_)
  · have hlta : a < w.fMates.length := by simpa using hb
    have hwa : IntKind.wrap .i64 ((a : Int) + 1) = ((a + 1 : Nat) : Int) := by rw [wrap_ok (by omega) (by omega)]; rfl
    have hpa : IntKind.wrap .i64 ((a : Int) - 1) = (a : Int) - 1 := wrap_ok (by omega) (by omega)
    have hbada := fun h => allN_bad (f := sM w) hlta hNa h
    have hgooda := fun h => allN_good (f := sM w) hlta hNa h
    have hsa := hNa.trans (by rw [allN_step (f := sM w) hlta])
    clear hb
    conv => whnf
    have hra := hr a
    have hWW : settled w = (sM w a && (allN (sM w) (w.fMates.length - (a + 1)) (a + 1) && true)) := by rw [hsa, Bool.and_assoc]
    have hwn := (show ∀ h : plI w.fLand.fPlaces (w.fMates.getD a default).fName < 0, wantsAt w.fLand.fPlaces (w.fMates.getD a default).fName = [] from fun h => if_pos h)
    have hwy := (show ∀ h : ¬ plI w.fLand.fPlaces (w.fMates.getD a default).fName < 0, wantsAt w.fLand.fPlaces (w.fMates.getD a default).fName = (w.fLand.fPlaces.getD (plI w.fLand.fPlaces (w.fMates.getD a default).fName).toNat default).fWants from fun h => if_neg h)
    simp only [sM] at hWW
    clear hsa hNa hbada hgooda
    generalize wantsAt w.fLand.fPlaces (w.fMates.getD a default).fName = ws at hWW hwn hwy
    repeat' (first | (refine XS.freezeB 4 rfl ?_) | (refine z_ld1 ?_; first | (refine z_ld rfl rfl rfl rfl (by first | (simp only [List.length_set]; assumption) | assumption | omega) (by first | exact elt_set (by first | assumption | (simp only [List.length_set]; assumption)) | assumption) ?_; conv => whnf) | (refine z_ld0 rfl ?_; conv => whnf)) | (refine z_st1 ?_; first | (refine z_st rfl rfl rfl (by first | (simp only [List.length_set]; assumption) | assumption | omega) (by first | exact elt_set (by first | assumption | (simp only [List.length_set]; assumption)) | assumption) rfl rfl ?_; conv => whnf) | (refine z_st0 ?_; conv => whnf)) | (refine z_ix1 ?_; first | (refine z_ix rfl rfl rfl rfl rfl ⟨by first | omega | (simp only [decide_eq_true_eq, Bool.not_eq_true', Bool.or_eq_false_iff, decide_eq_false_iff_not, Bool.and_eq_true, Bool.not_eq_false'] at *; omega), by first | omega | (simp only [decide_eq_true_eq, Bool.not_eq_true', Bool.or_eq_false_iff, decide_eq_false_iff_not, Bool.and_eq_true, Bool.not_eq_false'] at *; omega)⟩ ?_; conv => whnf) | (refine z_ix0 rfl rfl ?_; conv => whnf)) | (refine z_op ?_ ?_; (focus exact rfl); conv => whnf) | (refine zs_ops ?_ ?_; (focus exact rfl)) | (refine z_nil fun vals => ?_; conv => whnf) | (refine z_call ?_ ?_; (focus exact rfl)) | (refine z_eff ?_; conv => whnf) | (refine RC.of (impl_place w.fLand (w.fMates.getD a default).fName (by omega)) ?_ ?_; (focus exact rfl); conv => whnf) | (refine g_op ?_; conv => whnf) | (refine And.intro ?_ ?_; (focus (first | exact rfl | exact Nat.le_of_ble_eq_true rfl | decide | omega | fail)); conv => whnf) | (refine g_seq ?_) | (refine XS.go ?_) | (refine g_ops ?_) | (refine g_nil ?_; conv => whnf) | (refine g_skip ?_; conv => whnf) | (refine g_block ?_) | (refine fun _ => ?_; conv => whnf) | fail)
    generalize hpi : plI w.fLand.fPlaces (w.fMates.getD a default).fName = pi at hwn hwy ⊢
    by_cases hp : pi < 0
    all_goals (first | rw [ptr_none hp] | rw [ptr_some hp])
    all_goals (conv => whnf)
    all_goals skip
    repeat' (first | (refine z_op ?_ ?_; (focus exact rfl); conv => whnf) | (refine z_nil fun vals => ?_; conv => whnf) | (refine And.intro ?_ ?_; (focus (first | exact rfl | exact Nat.le_of_ble_eq_true rfl | decide | omega | fail)); conv => whnf) | fail)
    all_goals refine XS.go ?_
    all_goals skip
    repeat' (first | (refine g_op ?_; conv => whnf) | (refine And.intro ?_ ?_; (focus (first | exact rfl | exact Nat.le_of_ble_eq_true rfl | decide | omega | fail)); conv => whnf) | (refine g_seq ?_) | (refine g_ops ?_) | (refine g_nil ?_; conv => whnf) | fail)
    all_goals refine XS.go ?_
    all_goals skip
    repeat' (first | (refine z_ld1 ?_; first | (refine z_ld rfl rfl rfl rfl (by first | (simp only [List.length_set]; assumption) | assumption | omega) (by first | exact elt_set (by first | assumption | (simp only [List.length_set]; assumption)) | assumption) ?_; conv => whnf) | (refine z_ld0 rfl ?_; conv => whnf)) | (refine z_op ?_ ?_; (focus exact rfl); conv => whnf) | (refine zs_ops ?_ ?_; (focus exact rfl)) | (refine z_nil fun vals => ?_; conv => whnf) | (refine And.intro ?_ ?_; (focus (first | exact rfl | exact Nat.le_of_ble_eq_true rfl | decide | omega | fail)); conv => whnf) | (refine Br.t ?_ ?_; (focus (first | assumption | exact rfl)); conv => whnf) | (refine Br.f ?_ ?_; (focus (first | assumption | exact rfl)); conv => whnf) | (refine g_cond ?_; conv => whnf) | (refine g_skip ?_; conv => whnf) | fail)
    rotate_left
    · have e : (w.fLand.fPlaces.getD pi.toNat default).fWants = ws := (hwy hp).symm
      refine XS.weakenA (fs := [.any, .cref w.D, .any, .any, .cref (w.fMates.getD a default).D, .ro 7 ((w.fLand.fPlaces.getD pi.toNat default).fWants.map MateWant.D), .any, .any, .any, .any, .any, .any, .any, .ro 9 (w.fMates.map Mate.D), .int .i64 ((w.fMates.map Mate.D).length : Int), .int .i64 (a : Int)]) (ls := []) ⟨?_, True.intro⟩ ?_
      · repeat' (first | exact True.intro | refine And.intro rfl ?_)
      rw [e]
      clear hwn hwy hpi
      repeat' (first | (refine z_ld1 ?_; first | (refine z_ld rfl rfl rfl rfl (by first | (simp only [List.length_set]; assumption) | assumption | omega) (by first | exact elt_set (by first | assumption | (simp only [List.length_set]; assumption)) | assumption) ?_; conv => whnf) | (refine z_ld0 rfl ?_; conv => whnf)) | (refine z_ld1g ?_; first | (refine z_ldg rfl rfl rfl rfl rfl rfl rfl (by (repeat intro _); exact ⟨(by first | (simp only [List.length_set]; assumption) | assumption | omega), (by first | exact elt_set (by first | assumption | (simp only [List.length_set]; assumption)) | assumption)⟩) rfl rfl rfl rfl ?_; conv => whnf) | (refine z_ld0g ?_; (conv => whnf); refine And.intro ?_ ?_; (focus exact rfl); conv => whnf)) | (refine z_op ?_ ?_; (focus exact rfl); conv => whnf) | (refine z_opg0 ?_; (conv => whnf); refine And.intro ?_ ?_; (focus exact rfl); conv => whnf) | (refine z_pick ?_ ?_; (focus exact rfl); conv => whnf) | (refine zs_ops ?_ ?_; (focus exact rfl)) | (refine z_nil fun vals => ?_; conv => whnf) | (refine And.intro ?_ ?_; (focus (first | exact rfl | exact Nat.le_of_ble_eq_true rfl | decide | omega | fail)); conv => whnf) | (refine g_seq ?_) | (refine XS.go ?_) | (refine g_cond ?_; conv => whnf) | fail)
      refine Br.mk (fun hb => ?_) (fun hb => ?_) <;> simp only [mlen'] at hb
      · conv => whnf
        repeat' (first | (refine g_op ?_; conv => whnf) | (refine And.intro ?_ ?_; (focus (first | exact rfl | exact Nat.le_of_ble_eq_true rfl | decide | omega | fail)); conv => whnf) | (refine g_seq ?_) | (refine XS.go ?_) | (refine g_ops ?_) | (refine g_nil ?_; conv => whnf) | (refine g_ret ?_; conv => whnf) | (refine r_t ?_; conv => whnf) | (refine r_nil ?_; conv => whnf) | fail)
        (conv => lhs; whnf)
        refine congrArg D.bool ?_
        rw [hWW]
        rcases (Bool.or_eq_true_iff.1 hb) with h | h
        · have h' : (w.fMates.getD a default).fUp = false := by simpa using h
          rw [h']
          simp
        · have h' : ((((w.fMates.getD a default).fRuns).length : Int) != (ws.length : Int)) = true := h
          rw [h']
          simp
      obtain ⟨hb1, hb2⟩ := Bool.or_eq_false_iff.1 hb
      have hup : (w.fMates.getD a default).fUp = true := by simpa using hb1
      have hlen : (w.fMates.getD a default).fRuns.length = ws.length := by
        have : ((w.fMates.getD a default).fRuns.length : Int) = (ws.length : Int) := by simpa using hb2
        omega
      have hcon : settled w = (allN (fun j => weF (w.fMates.getD a default).fRuns ws j && stF (w.fMates.getD a default).fRuns j) ((w.fMates.getD a default).fRuns.length - 0) 0 && (allN (sM w) (w.fMates.length - (a + 1)) (a + 1) && true)) := by
        rw [hWW, hup, Nat.sub_zero, allN_and, hlen]
        simp only [bne_self_eq_false, Bool.not_false, Bool.true_and]
        rw [Bool.and_comm (allN (stF _) _ 0)]
      clear hWW hb hb1 hb2
      conv => whnf
      repeat' (first | (refine z_ld1 ?_; first | (refine z_ld rfl rfl rfl rfl (by first | (simp only [List.length_set]; assumption) | assumption | omega) (by first | exact elt_set (by first | assumption | (simp only [List.length_set]; assumption)) | assumption) ?_; conv => whnf) | (refine z_ld0 rfl ?_; conv => whnf)) | (refine z_op ?_ ?_; (focus exact rfl); conv => whnf) | (refine zs_ops ?_ ?_; (focus exact rfl)) | (refine z_nil fun vals => ?_; conv => whnf) | (refine And.intro ?_ ?_; (focus (first | exact rfl | exact Nat.le_of_ble_eq_true rfl | decide | omega | fail)); conv => whnf) | (refine g_seq ?_) | (refine XS.go ?_) | (refine g_loop ?_) | (refine g_skip ?_; conv => whnf) | (refine g_block ?_) | fail)
      refine XLc.cut (α := Unit) (β := Unit) 2 (fun _ gs => settled w = ((allN (sM w) (w.fMates.length - (a + 1)) (a + 1) && true))) (fun _ gs => [.any, .cref w.D, .any, .any, .any, .any, .any, .any, .any, .any, .any, .any, .any, .ro 9 (w.fMates.map Mate.D), .int .i64 ((w.fMates.map Mate.D).length : Int), .int .i64 (a : Int)]) (fun _ gs => []) (fun _ => false = settled w) (fun _ => [.any, .any, .bool false]) ?_ ?_ ?_
      · skip
        refine XLc.mkL (α := Nat) (fun i => i ≤ (w.fMates.getD a default).fRuns.length ∧ settled w = (allN (fun j => weF (w.fMates.getD a default).fRuns ws j && stF (w.fMates.getD a default).fRuns j) ((w.fMates.getD a default).fRuns.length - i) i && (allN (sM w) (w.fMates.length - (a + 1)) (a + 1) && true))) (fun i => (w.fMates.getD a default).fRuns.length - i) (fun i gs => [.any, .cref w.D, .any, .any, .any, .ro 7 (ws.map MateWant.D), .any, .any, .any, .any, .any, .any, .any, .ro 9 (w.fMates.map Mate.D), .int .i64 ((w.fMates.map Mate.D).length : Int), .int .i64 (a : Int), .any, .any, .any, .any, .any, .any, .any, .any, .any, .any, .any, .any, .any, .any, .any, .any, .any, .any, .any, .any, .any, .any, .any, .any, .any, .ro 11 ((w.fMates.getD a default).fRuns.map MateRun.D), .int .i64 (((w.fMates.getD a default).fRuns.map MateRun.D).length : Int), .int .i64 (i : Int)]) (fun i gs => []) 0 ⟨Nat.zero_le _, hcon⟩ ?_ ?_
        · refine ⟨?_, ?_⟩
          · repeat' (first | exact True.intro | refine And.intro rfl ?_)
          · repeat' (first | exact True.intro | refine And.intro rfl ?_)
        intro i gs hI
        obtain ⟨hi, hN⟩ := hI
        repeat' (first | (refine g_op ?_; conv => whnf) | (refine And.intro ?_ ?_; (focus (first | exact rfl | exact Nat.le_of_ble_eq_true rfl | decide | omega | fail)); conv => whnf) | (refine g_seq ?_) | (refine XS.go ?_) | (refine g_ops ?_) | (refine g_nil ?_; conv => whnf) | (refine g_cond ?_; conv => whnf) | fail)
        refine Br.mk (fun hb => ?_) (fun hb => ?_)
        · have hlt : i < (w.fMates.getD a default).fRuns.length := by simpa using hb
          have hw : IntKind.wrap .i64 ((i : Int) + 1) = ((i + 1 : Nat) : Int) := by rw [wrap_ok (by omega) (by omega)]; rfl
          have hw1 : IntKind.wrap .i64 ((i : Int) - 1) = (i : Int) - 1 := wrap_ok (by omega) (by omega)
          have hbad := fun h => allN_bad (f := fun j => weF (w.fMates.getD a default).fRuns ws j && stF (w.fMates.getD a default).fRuns j) hlt hN h
          have hgood := fun h => allN_good (f := fun j => weF (w.fMates.getD a default).fRuns ws j && stF (w.fMates.getD a default).fRuns j) hlt hN h
          clear hN hb
          all_goals conv => whnf
          repeat' (first | (refine z_ld1 ?_; first | (refine z_ld rfl rfl rfl rfl (by first | (simp only [List.length_set]; assumption) | assumption | omega) (by first | exact elt_set (by first | assumption | (simp only [List.length_set]; assumption)) | assumption) ?_; conv => whnf) | (refine z_ld0 rfl ?_; conv => whnf)) | (refine z_ld1g ?_; first | (refine z_ldg rfl rfl rfl rfl rfl rfl rfl (by (repeat intro _); exact ⟨(by first | (simp only [List.length_set]; assumption) | assumption | omega), (by first | exact elt_set (by first | assumption | (simp only [List.length_set]; assumption)) | assumption)⟩) rfl rfl rfl rfl ?_; conv => whnf) | (refine z_ld0g ?_; (conv => whnf); refine And.intro ?_ ?_; (focus exact rfl); conv => whnf)) | (refine z_st1 ?_; first | (refine z_st rfl rfl rfl (by first | (simp only [List.length_set]; assumption) | assumption | omega) (by first | exact elt_set (by first | assumption | (simp only [List.length_set]; assumption)) | assumption) rfl rfl ?_; conv => whnf) | (refine z_st0 ?_; conv => whnf)) | (refine z_ix1 ?_; first | (refine z_ix rfl rfl rfl rfl rfl ⟨by first | omega | (simp only [decide_eq_true_eq, Bool.not_eq_true', Bool.or_eq_false_iff, decide_eq_false_iff_not, Bool.and_eq_true, Bool.not_eq_false'] at *; omega), by first | omega | (simp only [decide_eq_true_eq, Bool.not_eq_true', Bool.or_eq_false_iff, decide_eq_false_iff_not, Bool.and_eq_true, Bool.not_eq_false'] at *; omega)⟩ ?_; conv => whnf) | (refine z_ix0 rfl rfl ?_; conv => whnf)) | (refine z_op ?_ ?_; (focus exact rfl); conv => whnf) | (refine z_opg0 ?_; (conv => whnf); refine And.intro ?_ ?_; (focus exact rfl); conv => whnf) | (refine z_pick ?_ ?_; (focus exact rfl); conv => whnf) | (refine zs_ops ?_ ?_; (focus exact rfl)) | (refine zs_quiet ?_ ?_; (focus exact rfl)) | (refine z_nil fun vals => ?_; conv => whnf) | (refine z_eff ?_; conv => whnf) | (refine g_op ?_; conv => whnf) | (refine And.intro ?_ ?_; (focus (first | exact rfl | exact Nat.le_of_ble_eq_true rfl | decide | omega | fail)); conv => whnf) | (refine g_seq ?_) | (refine XS.go ?_) | (refine g_ops ?_) | (refine g_nil ?_; conv => whnf) | (refine g_cond ?_; conv => whnf) | (refine g_skip ?_; conv => whnf) | (refine g_ret ?_; conv => whnf) | (refine g_block ?_) | (refine fun _ => ?_; conv => whnf) | (refine Br.mk (fun hb => ?_) (fun hb => ?_) <;> conv => whnf) | fail)
          all_goals
            first
            | (refine ⟨(), hbad ?_, ⟨?_, True.intro⟩⟩
               · clear hbad hgood hw hcon
                 first | (first | (refine (Bool.eq_false_iff.mpr fun h => ?_).symm; simp_all [weF, stF, wantEq]; done) | (refine Bool.eq_false_iff.mpr fun h => ?_; simp_all [weF, stF, wantEq]; done) | (simp_all [weF, stF, wantEq]; done) | (simp_all [weF, stF, wantEq]; omega) | (refine (Bool.eq_false_iff.mpr fun h => ?_).symm; simp_all [weF, stF, wantEq]; omega) | (refine Bool.eq_false_iff.mpr fun h => ?_; simp_all [weF, stF, wantEq]; omega) | (rw [Bool.eq_iff_iff]; constructor <;> intro h <;> simp_all [weF, stF, wantEq] <;> omega) | fail) | (rcases Nat.eq_zero_or_pos i with h0 | h0 <;> simp_all [weF, stF, wantEq] <;> omega) | ((simp only [Bool.or_eq_true, Bool.or_eq_false_iff] at hb; first | (rcases hb with h | h; · (have h' : weF (w.fMates.getD a default).fRuns ws i = false := by simpa using (show (!weF (w.fMates.getD a default).fRuns ws i) = true from h)); simp [h']; · (have h' : stF (w.fMates.getD a default).fRuns i = false := congrArg Bool.not h); simp [h']; done) | (obtain ⟨h1, h2⟩ := hb; have h1' : weF (w.fMates.getD a default).fRuns ws i = true := Bool.not_inj (show (!weF (w.fMates.getD a default).fRuns ws i) = !true from h1); have h2' : stF (w.fMates.getD a default).fRuns i = true := congrArg Bool.not h2; simp [h1', h2']; done))) | fail
               · repeat' (first | exact True.intro | refine And.intro rfl ?_))
            | (conv => lhs; whnf
               refine congrArg D.bool (hbad ?_)
               clear hbad hgood hw hcon
               first | (first | (refine (Bool.eq_false_iff.mpr fun h => ?_).symm; simp_all [weF, stF, wantEq]; done) | (refine Bool.eq_false_iff.mpr fun h => ?_; simp_all [weF, stF, wantEq]; done) | (simp_all [weF, stF, wantEq]; done) | (simp_all [weF, stF, wantEq]; omega) | (refine (Bool.eq_false_iff.mpr fun h => ?_).symm; simp_all [weF, stF, wantEq]; omega) | (refine Bool.eq_false_iff.mpr fun h => ?_; simp_all [weF, stF, wantEq]; omega) | (rw [Bool.eq_iff_iff]; constructor <;> intro h <;> simp_all [weF, stF, wantEq] <;> omega) | fail) | (rcases Nat.eq_zero_or_pos i with h0 | h0 <;> simp_all [weF, stF, wantEq] <;> omega) | ((simp only [Bool.or_eq_true, Bool.or_eq_false_iff] at hb; first | (rcases hb with h | h; · (have h' : weF (w.fMates.getD a default).fRuns ws i = false := by simpa using (show (!weF (w.fMates.getD a default).fRuns ws i) = true from h)); simp [h']; · (have h' : stF (w.fMates.getD a default).fRuns i = false := congrArg Bool.not h); simp [h']; done) | (obtain ⟨h1, h2⟩ := hb; have h1' : weF (w.fMates.getD a default).fRuns ws i = true := Bool.not_inj (show (!weF (w.fMates.getD a default).fRuns ws i) = !true from h1); have h2' : stF (w.fMates.getD a default).fRuns i = true := congrArg Bool.not h2; simp [h1', h2']; done))) | fail)
            | (refine ⟨i + 1, ⟨by omega, ?_⟩, by omega, ?_, ?_⟩
               · refine hgood ?_
                 clear hbad hgood hw hcon
                 first | (first | (refine (Bool.eq_false_iff.mpr fun h => ?_).symm; simp_all [weF, stF, wantEq]; done) | (refine Bool.eq_false_iff.mpr fun h => ?_; simp_all [weF, stF, wantEq]; done) | (simp_all [weF, stF, wantEq]; done) | (simp_all [weF, stF, wantEq]; omega) | (refine (Bool.eq_false_iff.mpr fun h => ?_).symm; simp_all [weF, stF, wantEq]; omega) | (refine Bool.eq_false_iff.mpr fun h => ?_; simp_all [weF, stF, wantEq]; omega) | (rw [Bool.eq_iff_iff]; constructor <;> intro h <;> simp_all [weF, stF, wantEq] <;> omega) | fail) | (rcases Nat.eq_zero_or_pos i with h0 | h0 <;> simp_all [weF, stF, wantEq] <;> omega) | ((simp only [Bool.or_eq_true, Bool.or_eq_false_iff] at hb; first | (rcases hb with h | h; · (have h' : weF (w.fMates.getD a default).fRuns ws i = false := by simpa using (show (!weF (w.fMates.getD a default).fRuns ws i) = true from h)); simp [h']; · (have h' : stF (w.fMates.getD a default).fRuns i = false := congrArg Bool.not h); simp [h']; done) | (obtain ⟨h1, h2⟩ := hb; have h1' : weF (w.fMates.getD a default).fRuns ws i = true := Bool.not_inj (show (!weF (w.fMates.getD a default).fRuns ws i) = !true from h1); have h2' : stF (w.fMates.getD a default).fRuns i = true := congrArg Bool.not h2; simp [h1', h2']; done))) | fail
               · repeat' (first | exact True.intro | refine And.intro (congrArg (D.int .i64) hw) ?_ | refine And.intro rfl ?_)
               · repeat' (first | exact True.intro | refine And.intro rfl ?_))
        have hge : ¬ i < (w.fMates.getD a default).fRuns.length := by simpa using hb
        have hend : settled w = (allN (sM w) (w.fMates.length - (a + 1)) (a + 1) && true) := by rw [hN, allN_end hge, Bool.true_and]
        clear hN
        conv => whnf
        repeat' (first | (refine And.intro ?_ ?_; (focus (first | exact rfl | exact Nat.le_of_ble_eq_true rfl | decide | omega | fail)); conv => whnf) | (refine g_exit ?_; conv => whnf) | fail)
        first | refine ⟨(), hend, ⟨?_, ?_⟩⟩ | refine ⟨rfl, (), hend, ⟨?_, ?_⟩⟩
        · repeat' (first | exact True.intro | refine And.intro rfl ?_)
        · repeat' (first | exact True.intro | refine And.intro rfl ?_)
      · intro _ gs hret
        conv => whnf
        repeat' (first | (refine And.intro ?_ ?_; (focus (first | exact rfl | exact Nat.le_of_ble_eq_true rfl | decide | omega | fail)); conv => whnf) | (refine r_t ?_; conv => whnf) | (refine r_nil ?_; conv => whnf) | fail)
        first
        | (refine ⟨(), hret, ⟨?_, True.intro⟩⟩; repeat' (first | exact True.intro | refine And.intro rfl ?_))
        | ((conv => lhs; whnf); rw [← hret])
        | fail
      intro _ gs hend
      conv => whnf
      repeat' (first | (refine g_op ?_; conv => whnf) | (refine And.intro ?_ ?_; (focus (first | exact rfl | exact Nat.le_of_ble_eq_true rfl | decide | omega | fail)); conv => whnf) | (refine XS.go ?_) | (refine g_ops ?_) | (refine g_nil ?_; conv => whnf) | fail)
      refine ⟨a + 1, ⟨by omega, hend⟩, by omega, ?_, ?_⟩
      · repeat' (first | exact True.intro | refine And.intro (congrArg (D.int .i64) hwa) ?_ | refine And.intro rfl ?_)
      · repeat' (first | exact True.intro | refine And.intro rfl ?_)
    refine XS.nilro 5 7 (ws.map MateWant.D) (by rw [hwn hp]; rfl) rfl ?_
    refine XS.weakenA (fs := [.any, .cref w.D, .any, .any, .cref (w.fMates.getD a default).D, .ro 7 (ws.map MateWant.D), .any, .any, .any, .any, .any, .any, .any, .ro 9 (w.fMates.map Mate.D), .int .i64 ((w.fMates.map Mate.D).length : Int), .int .i64 (a : Int)]) (ls := []) ⟨?_, True.intro⟩ ?_
    · repeat' (first | exact True.intro | refine And.intro rfl ?_)
    clear hwn hwy hpi
    repeat' (first | (refine z_ld1 ?_; first | (refine z_ld rfl rfl rfl rfl (by first | (simp only [List.length_set]; assumption) | assumption | omega) (by first | exact elt_set (by first | assumption | (simp only [List.length_set]; assumption)) | assumption) ?_; conv => whnf) | (refine z_ld0 rfl ?_; conv => whnf)) | (refine z_ld1g ?_; first | (refine z_ldg rfl rfl rfl rfl rfl rfl rfl (by (repeat intro _); exact ⟨(by first | (simp only [List.length_set]; assumption) | assumption | omega), (by first | exact elt_set (by first | assumption | (simp only [List.length_set]; assumption)) | assumption)⟩) rfl rfl rfl rfl ?_; conv => whnf) | (refine z_ld0g ?_; (conv => whnf); refine And.intro ?_ ?_; (focus exact rfl); conv => whnf)) | (refine z_op ?_ ?_; (focus exact rfl); conv => whnf) | (refine z_opg0 ?_; (conv => whnf); refine And.intro ?_ ?_; (focus exact rfl); conv => whnf) | (refine z_pick ?_ ?_; (focus exact rfl); conv => whnf) | (refine zs_ops ?_ ?_; (focus exact rfl)) | (refine z_nil fun vals => ?_; conv => whnf) | (refine And.intro ?_ ?_; (focus (first | exact rfl | exact Nat.le_of_ble_eq_true rfl | decide | omega | fail)); conv => whnf) | (refine g_seq ?_) | (refine XS.go ?_) | (refine g_cond ?_; conv => whnf) | fail)
    refine Br.mk (fun hb => ?_) (fun hb => ?_) <;> simp only [mlen'] at hb
    · conv => whnf
      repeat' (first | (refine g_op ?_; conv => whnf) | (refine And.intro ?_ ?_; (focus (first | exact rfl | exact Nat.le_of_ble_eq_true rfl | decide | omega | fail)); conv => whnf) | (refine g_seq ?_) | (refine XS.go ?_) | (refine g_ops ?_) | (refine g_nil ?_; conv => whnf) | (refine g_ret ?_; conv => whnf) | (refine r_t ?_; conv => whnf) | (refine r_nil ?_; conv => whnf) | fail)
      (conv => lhs; whnf)
      refine congrArg D.bool ?_
      rw [hWW]
      rcases (Bool.or_eq_true_iff.1 hb) with h | h
      · have h' : (w.fMates.getD a default).fUp = false := by simpa using h
        rw [h']
        simp
      · have h' : ((((w.fMates.getD a default).fRuns).length : Int) != (ws.length : Int)) = true := h
        rw [h']
        simp
    obtain ⟨hb1, hb2⟩ := Bool.or_eq_false_iff.1 hb
    have hup : (w.fMates.getD a default).fUp = true := by simpa using hb1
    have hlen : (w.fMates.getD a default).fRuns.length = ws.length := by
      have : ((w.fMates.getD a default).fRuns.length : Int) = (ws.length : Int) := by simpa using hb2
      omega
    have hcon : settled w = (allN (fun j => weF (w.fMates.getD a default).fRuns ws j && stF (w.fMates.getD a default).fRuns j) ((w.fMates.getD a default).fRuns.length - 0) 0 && (allN (sM w) (w.fMates.length - (a + 1)) (a + 1) && true)) := by
      rw [hWW, hup, Nat.sub_zero, allN_and, hlen]
      simp only [bne_self_eq_false, Bool.not_false, Bool.true_and]
      rw [Bool.and_comm (allN (stF _) _ 0)]
    clear hWW hb hb1 hb2
    conv => whnf
    repeat' (first | (refine z_ld1 ?_; first | (refine z_ld rfl rfl rfl rfl (by first | (simp only [List.length_set]; assumption) | assumption | omega) (by first | exact elt_set (by first | assumption | (simp only [List.length_set]; assumption)) | assumption) ?_; conv => whnf) | (refine z_ld0 rfl ?_; conv => whnf)) | (refine z_op ?_ ?_; (focus exact rfl); conv => whnf) | (refine zs_ops ?_ ?_; (focus exact rfl)) | (refine z_nil fun vals => ?_; conv => whnf) | (refine And.intro ?_ ?_; (focus (first | exact rfl | exact Nat.le_of_ble_eq_true rfl | decide | omega | fail)); conv => whnf) | (refine g_seq ?_) | (refine XS.go ?_) | (refine g_loop ?_) | (refine g_skip ?_; conv => whnf) | (refine g_block ?_) | fail)
    refine XLc.cut (α := Unit) (β := Unit) 2 (fun _ gs => settled w = ((allN (sM w) (w.fMates.length - (a + 1)) (a + 1) && true))) (fun _ gs => [.any, .cref w.D, .any, .any, .any, .any, .any, .any, .any, .any, .any, .any, .any, .ro 9 (w.fMates.map Mate.D), .int .i64 ((w.fMates.map Mate.D).length : Int), .int .i64 (a : Int)]) (fun _ gs => []) (fun _ => false = settled w) (fun _ => [.any, .any, .bool false]) ?_ ?_ ?_
    · skip
      refine XLc.mkL (α := Nat) (fun i => i ≤ (w.fMates.getD a default).fRuns.length ∧ settled w = (allN (fun j => weF (w.fMates.getD a default).fRuns ws j && stF (w.fMates.getD a default).fRuns j) ((w.fMates.getD a default).fRuns.length - i) i && (allN (sM w) (w.fMates.length - (a + 1)) (a + 1) && true))) (fun i => (w.fMates.getD a default).fRuns.length - i) (fun i gs => [.any, .cref w.D, .any, .any, .any, .ro 7 (ws.map MateWant.D), .any, .any, .any, .any, .any, .any, .any, .ro 9 (w.fMates.map Mate.D), .int .i64 ((w.fMates.map Mate.D).length : Int), .int .i64 (a : Int), .any, .any, .any, .any, .any, .any, .any, .any, .any, .any, .any, .any, .any, .any, .any, .any, .any, .any, .any, .any, .any, .any, .any, .any, .any, .ro 11 ((w.fMates.getD a default).fRuns.map MateRun.D), .int .i64 (((w.fMates.getD a default).fRuns.map MateRun.D).length : Int), .int .i64 (i : Int)]) (fun i gs => []) 0 ⟨Nat.zero_le _, hcon⟩ ?_ ?_
      · refine ⟨?_, ?_⟩
        · repeat' (first | exact True.intro | refine And.intro rfl ?_)
        · repeat' (first | exact True.intro | refine And.intro rfl ?_)
      intro i gs hI
      obtain ⟨hi, hN⟩ := hI
      repeat' (first | (refine g_op ?_; conv => whnf) | (refine And.intro ?_ ?_; (focus (first | exact rfl | exact Nat.le_of_ble_eq_true rfl | decide | omega | fail)); conv => whnf) | (refine g_seq ?_) | (refine XS.go ?_) | (refine g_ops ?_) | (refine g_nil ?_; conv => whnf) | (refine g_cond ?_; conv => whnf) | fail)
      refine Br.mk (fun hb => ?_) (fun hb => ?_)
      · have hlt : i < (w.fMates.getD a default).fRuns.length := by simpa using hb
        have hw : IntKind.wrap .i64 ((i : Int) + 1) = ((i + 1 : Nat) : Int) := by rw [wrap_ok (by omega) (by omega)]; rfl
        have hw1 : IntKind.wrap .i64 ((i : Int) - 1) = (i : Int) - 1 := wrap_ok (by omega) (by omega)
        have hbad := fun h => allN_bad (f := fun j => weF (w.fMates.getD a default).fRuns ws j && stF (w.fMates.getD a default).fRuns j) hlt hN h
        have hgood := fun h => allN_good (f := fun j => weF (w.fMates.getD a default).fRuns ws j && stF (w.fMates.getD a default).fRuns j) hlt hN h
        clear hN hb
        all_goals conv => whnf
        repeat' (first | (refine z_ld1 ?_; first | (refine z_ld rfl rfl rfl rfl (by first | (simp only [List.length_set]; assumption) | assumption | omega) (by first | exact elt_set (by first | assumption | (simp only [List.length_set]; assumption)) | assumption) ?_; conv => whnf) | (refine z_ld0 rfl ?_; conv => whnf)) | (refine z_ld1g ?_; first | (refine z_ldg rfl rfl rfl rfl rfl rfl rfl (by (repeat intro _); exact ⟨(by first | (simp only [List.length_set]; assumption) | assumption | omega), (by first | exact elt_set (by first | assumption | (simp only [List.length_set]; assumption)) | assumption)⟩) rfl rfl rfl rfl ?_; conv => whnf) | (refine z_ld0g ?_; (conv => whnf); refine And.intro ?_ ?_; (focus exact rfl); conv => whnf)) | (refine z_st1 ?_; first | (refine z_st rfl rfl rfl (by first | (simp only [List.length_set]; assumption) | assumption | omega) (by first | exact elt_set (by first | assumption | (simp only [List.length_set]; assumption)) | assumption) rfl rfl ?_; conv => whnf) | (refine z_st0 ?_; conv => whnf)) | (refine z_ix1 ?_; first | (refine z_ix rfl rfl rfl rfl rfl ⟨by first | omega | (simp only [decide_eq_true_eq, Bool.not_eq_true', Bool.or_eq_false_iff, decide_eq_false_iff_not, Bool.and_eq_true, Bool.not_eq_false'] at *; omega), by first | omega | (simp only [decide_eq_true_eq, Bool.not_eq_true', Bool.or_eq_false_iff, decide_eq_false_iff_not, Bool.and_eq_true, Bool.not_eq_false'] at *; omega)⟩ ?_; conv => whnf) | (refine z_ix0 rfl rfl ?_; conv => whnf)) | (refine z_op ?_ ?_; (focus exact rfl); conv => whnf) | (refine z_opg0 ?_; (conv => whnf); refine And.intro ?_ ?_; (focus exact rfl); conv => whnf) | (refine z_pick ?_ ?_; (focus exact rfl); conv => whnf) | (refine zs_ops ?_ ?_; (focus exact rfl)) | (refine zs_quiet ?_ ?_; (focus exact rfl)) | (refine z_nil fun vals => ?_; conv => whnf) | (refine z_eff ?_; conv => whnf) | (refine g_op ?_; conv => whnf) | (refine And.intro ?_ ?_; (focus (first | exact rfl | exact Nat.le_of_ble_eq_true rfl | decide | omega | fail)); conv => whnf) | (refine g_seq ?_) | (refine XS.go ?_) | (refine g_ops ?_) | (refine g_nil ?_; conv => whnf) | (refine g_cond ?_; conv => whnf) | (refine g_skip ?_; conv => whnf) | (refine g_ret ?_; conv => whnf) | (refine g_block ?_) | (refine fun _ => ?_; conv => whnf) | (refine Br.mk (fun hb => ?_) (fun hb => ?_) <;> conv => whnf) | fail)
        all_goals
          first
          | (refine ⟨(), hbad ?_, ⟨?_, True.intro⟩⟩
             · clear hbad hgood hw hcon
               first | (first | (refine (Bool.eq_false_iff.mpr fun h => ?_).symm; simp_all [weF, stF, wantEq]; done) | (refine Bool.eq_false_iff.mpr fun h => ?_; simp_all [weF, stF, wantEq]; done) | (simp_all [weF, stF, wantEq]; done) | (simp_all [weF, stF, wantEq]; omega) | (refine (Bool.eq_false_iff.mpr fun h => ?_).symm; simp_all [weF, stF, wantEq]; omega) | (refine Bool.eq_false_iff.mpr fun h => ?_; simp_all [weF, stF, wantEq]; omega) | (rw [Bool.eq_iff_iff]; constructor <;> intro h <;> simp_all [weF, stF, wantEq] <;> omega) | fail) | (rcases Nat.eq_zero_or_pos i with h0 | h0 <;> simp_all [weF, stF, wantEq] <;> omega) | ((simp only [Bool.or_eq_true, Bool.or_eq_false_iff] at hb; first | (rcases hb with h | h; · (have h' : weF (w.fMates.getD a default).fRuns ws i = false := by simpa using (show (!weF (w.fMates.getD a default).fRuns ws i) = true from h)); simp [h']; · (have h' : stF (w.fMates.getD a default).fRuns i = false := congrArg Bool.not h); simp [h']; done) | (obtain ⟨h1, h2⟩ := hb; have h1' : weF (w.fMates.getD a default).fRuns ws i = true := Bool.not_inj (show (!weF (w.fMates.getD a default).fRuns ws i) = !true from h1); have h2' : stF (w.fMates.getD a default).fRuns i = true := congrArg Bool.not h2; simp [h1', h2']; done))) | fail
             · repeat' (first | exact True.intro | refine And.intro rfl ?_))
          | (conv => lhs; whnf
             refine congrArg D.bool (hbad ?_)
             clear hbad hgood hw hcon
             first | (first | (refine (Bool.eq_false_iff.mpr fun h => ?_).symm; simp_all [weF, stF, wantEq]; done) | (refine Bool.eq_false_iff.mpr fun h => ?_; simp_all [weF, stF, wantEq]; done) | (simp_all [weF, stF, wantEq]; done) | (simp_all [weF, stF, wantEq]; omega) | (refine (Bool.eq_false_iff.mpr fun h => ?_).symm; simp_all [weF, stF, wantEq]; omega) | (refine Bool.eq_false_iff.mpr fun h => ?_; simp_all [weF, stF, wantEq]; omega) | (rw [Bool.eq_iff_iff]; constructor <;> intro h <;> simp_all [weF, stF, wantEq] <;> omega) | fail) | (rcases Nat.eq_zero_or_pos i with h0 | h0 <;> simp_all [weF, stF, wantEq] <;> omega) | ((simp only [Bool.or_eq_true, Bool.or_eq_false_iff] at hb; first | (rcases hb with h | h; · (have h' : weF (w.fMates.getD a default).fRuns ws i = false := by simpa using (show (!weF (w.fMates.getD a default).fRuns ws i) = true from h)); simp [h']; · (have h' : stF (w.fMates.getD a default).fRuns i = false := congrArg Bool.not h); simp [h']; done) | (obtain ⟨h1, h2⟩ := hb; have h1' : weF (w.fMates.getD a default).fRuns ws i = true := Bool.not_inj (show (!weF (w.fMates.getD a default).fRuns ws i) = !true from h1); have h2' : stF (w.fMates.getD a default).fRuns i = true := congrArg Bool.not h2; simp [h1', h2']; done))) | fail)
          | (refine ⟨i + 1, ⟨by omega, ?_⟩, by omega, ?_, ?_⟩
             · refine hgood ?_
               clear hbad hgood hw hcon
               first | (first | (refine (Bool.eq_false_iff.mpr fun h => ?_).symm; simp_all [weF, stF, wantEq]; done) | (refine Bool.eq_false_iff.mpr fun h => ?_; simp_all [weF, stF, wantEq]; done) | (simp_all [weF, stF, wantEq]; done) | (simp_all [weF, stF, wantEq]; omega) | (refine (Bool.eq_false_iff.mpr fun h => ?_).symm; simp_all [weF, stF, wantEq]; omega) | (refine Bool.eq_false_iff.mpr fun h => ?_; simp_all [weF, stF, wantEq]; omega) | (rw [Bool.eq_iff_iff]; constructor <;> intro h <;> simp_all [weF, stF, wantEq] <;> omega) | fail) | (rcases Nat.eq_zero_or_pos i with h0 | h0 <;> simp_all [weF, stF, wantEq] <;> omega) | ((simp only [Bool.or_eq_true, Bool.or_eq_false_iff] at hb; first | (rcases hb with h | h; · (have h' : weF (w.fMates.getD a default).fRuns ws i = false := by simpa using (show (!weF (w.fMates.getD a default).fRuns ws i) = true from h)); simp [h']; · (have h' : stF (w.fMates.getD a default).fRuns i = false := congrArg Bool.not h); simp [h']; done) | (obtain ⟨h1, h2⟩ := hb; have h1' : weF (w.fMates.getD a default).fRuns ws i = true := Bool.not_inj (show (!weF (w.fMates.getD a default).fRuns ws i) = !true from h1); have h2' : stF (w.fMates.getD a default).fRuns i = true := congrArg Bool.not h2; simp [h1', h2']; done))) | fail
             · repeat' (first | exact True.intro | refine And.intro (congrArg (D.int .i64) hw) ?_ | refine And.intro rfl ?_)
             · repeat' (first | exact True.intro | refine And.intro rfl ?_))
      have hge : ¬ i < (w.fMates.getD a default).fRuns.length := by simpa using hb
      have hend : settled w = (allN (sM w) (w.fMates.length - (a + 1)) (a + 1) && true) := by rw [hN, allN_end hge, Bool.true_and]
      clear hN
      conv => whnf
      repeat' (first | (refine And.intro ?_ ?_; (focus (first | exact rfl | exact Nat.le_of_ble_eq_true rfl | decide | omega | fail)); conv => whnf) | (refine g_exit ?_; conv => whnf) | fail)
      first | refine ⟨(), hend, ⟨?_, ?_⟩⟩ | refine ⟨rfl, (), hend, ⟨?_, ?_⟩⟩
      · repeat' (first | exact True.intro | refine And.intro rfl ?_)
      · repeat' (first | exact True.intro | refine And.intro rfl ?_)
    · intro _ gs hret
      conv => whnf
      repeat' (first | (refine And.intro ?_ ?_; (focus (first | exact rfl | exact Nat.le_of_ble_eq_true rfl | decide | omega | fail)); conv => whnf) | (refine r_t ?_; conv => whnf) | (refine r_nil ?_; conv => whnf) | fail)
      first
      | (refine ⟨(), hret, ⟨?_, True.intro⟩⟩; repeat' (first | exact True.intro | refine And.intro rfl ?_))
      | ((conv => lhs; whnf); rw [← hret])
      | fail
    intro _ gs hend
    conv => whnf
    repeat' (first | (refine g_op ?_; conv => whnf) | (refine And.intro ?_ ?_; (focus (first | exact rfl | exact Nat.le_of_ble_eq_true rfl | decide | omega | fail)); conv => whnf) | (refine XS.go ?_) | (refine g_ops ?_) | (refine g_nil ?_; conv => whnf) | fail)
    refine ⟨a + 1, ⟨by omega, hend⟩, by omega, ?_, ?_⟩
    · repeat' (first | exact True.intro | refine And.intro (congrArg (D.int .i64) hwa) ?_ | refine And.intro rfl ?_)
    · repeat' (first | exact True.intro | refine And.intro rfl ?_)
  have hgea : ¬ a < w.fMates.length := by simpa using hb
  have hend : settled w = (true) := by rw [hNa, allN_end hgea, Bool.true_and]
  clear hNa hb
  conv => whnf
  repeat' (first | (refine g_op ?_; conv => whnf) | (refine And.intro ?_ ?_; (focus (first | exact rfl | exact Nat.le_of_ble_eq_true rfl | decide | omega | fail)); conv => whnf) | (refine g_seq ?_) | (refine XS.go ?_) | (refine g_ops ?_) | (refine g_nil ?_; conv => whnf) | (refine g_ret ?_; conv => whnf) | (refine g_exit ?_; conv => whnf) | (refine r_t ?_; conv => whnf) | (refine r_nil ?_; conv => whnf) | fail)
  (conv => lhs; whnf)
  rw [hend]
end Go.Ab
