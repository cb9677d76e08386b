/- Steps towards the law: contracts of functions and facts of lists. -/
import Derived.Test.YtlnemfcpflcfpaaLandQ
import Derived.Test.YtlnemfcpflcfpaaRows
set_option linter.unusedSimpArgs false
set_option linter.unusedVariables false
namespace Go.Ab
open Go Go.RowKit Go.Proofs
attribute [local irreducible] XC Rdr IntKind.wrap xw xos xqs xr xd
set_option maxRecDepth 100000

set_option maxHeartbeats 8000000 in
theorem spec_Settled (w : MateWorld) (hz : ∀ i, (w.fLand.fPlaces.getD i default).fWants.length ≤ 1048576) : Rdr Try.prog 51 [w.D] (.bool (settled w)) := by
  refine Rdr.intro' hm c51 (Nat.le_of_ble_eq_true rfl) ?_
  conv => whnf
  repeat' (first | (refine g_op ?_; conv => whnf) | (refine And.intro ?_ ?_; (focus (first | exact rfl | exact Nat.le_of_ble_eq_true rfl | decide | omega | fail)); conv => whnf) | (refine g_seq ?_) | (refine g_ops ?_) | (refine g_nil ?_; conv => whnf) | (refine fun _ => ?_; conv => whnf) | fail)
  refine XS.freezeB 1 rfl ?_
  repeat' (first | (refine z_ld1 ?_; first | (refine z_ld rfl rfl rfl rfl (by first | (simp only [List.length_set]; assumption) | assumption | omega) (by first | exact elt_set (by first | assumption | (simp only [List.length_set]; assumption)) | assumption) ?_; conv => whnf) | (refine z_ld0 rfl ?_; conv => whnf)) | (refine z_op ?_ ?_; (focus exact rfl); conv => whnf) | (refine zs_ops ?_ ?_; (focus exact rfl)) | (refine z_nil fun vals => ?_; conv => whnf) | (refine z_call ?_ ?_; (focus exact rfl)) | (refine RC.of (spec_WorldOk w hz) ?_ ?_; (focus exact rfl); conv => whnf) | (refine And.intro ?_ ?_; (focus (first | exact rfl | exact Nat.le_of_ble_eq_true rfl | decide | omega | fail)); conv => whnf) | (refine g_seq ?_) | (refine XS.go ?_) | (refine g_cond ?_; conv => whnf) | fail)
  refine Br.mk (fun hb => ?_) (fun hb => ?_)
  · have hc : worldOk w = false := by simpa using hb
    conv => whnf
    repeat' (first | (refine g_op ?_; conv => whnf) | (refine And.intro ?_ ?_; (focus (first | exact rfl | exact Nat.le_of_ble_eq_true rfl | decide | omega | fail)); conv => whnf) | (refine g_seq ?_) | (refine XS.go ?_) | (refine g_ops ?_) | (refine g_nil ?_; conv => whnf) | (refine g_ret ?_; conv => whnf) | (refine r_t ?_; conv => whnf) | (refine r_nil ?_; conv => whnf) | fail)
    (conv => lhs; whnf)
    rw [settled, hc]
    rfl
  have hc : worldOk w = true := by simpa using hb
  have hv : settled w = (allN (sM w) w.fMates.length 0 && true) := by rw [settled, hc]; rfl
  have hl := worldOk_mates hc
  have hr := worldOk_runs hc
  have hpl := (worldOk_places hc).2
  have hlw := fun name => lastW_all (worldOk_places hc).1 name
  clear hb hc
  conv => whnf
  repeat' (first | (refine g_op ?_; conv => whnf) | (refine And.intro ?_ ?_; (focus (first | exact rfl | exact Nat.le_of_ble_eq_true rfl | decide | omega | fail)); conv => whnf) | (refine g_seq ?_) | (refine XS.go ?_) | (refine g_ops ?_) | (refine g_loop ?_) | (refine g_nil ?_; conv => whnf) | (refine g_skip ?_; conv => whnf) | (refine g_block ?_) | fail)
  refine XLc.mkL (α := Nat) (fun a => a ≤ w.fMates.length ∧ settled w = (allN (sM w) (w.fMates.length - a) a && true)) (fun a => w.fMates.length - a) (fun a gs => [.any, .cref w.D, .any, .int .i64 (a : Int)]) (fun a gs => []) 0 ⟨Nat.zero_le _, hv⟩ ?_ ?_
  · refine ⟨?_, ?_⟩
    · repeat' (first | exact True.intro | refine And.intro rfl ?_)
    · repeat' (first | exact True.intro | refine And.intro rfl ?_)
  intro a gsa hI
  obtain ⟨hia, hNa⟩ := hI
  repeat' (first | (refine z_ld1 ?_; first | (refine z_ld rfl rfl rfl rfl (by first | (simp only [List.length_set]; assumption) | assumption | omega) (by first | exact elt_set (by first | assumption | (simp only [List.length_set]; assumption)) | assumption) ?_; conv => whnf) | (refine z_ld0 rfl ?_; conv => whnf)) | (refine z_op ?_ ?_; (focus exact rfl); conv => whnf) | (refine zs_ops ?_ ?_; (focus exact rfl)) | (refine z_nil fun vals => ?_; conv => whnf) | (refine And.intro ?_ ?_; (focus (first | exact rfl | exact Nat.le_of_ble_eq_true rfl | decide | omega | fail)); conv => whnf) | (refine g_seq ?_) | (refine XS.go ?_) | (refine g_cond ?_; conv => whnf) | fail)
  refine Br.mk (fun hb => ?_) (fun hb => ?_)
  · have hlta : a < w.fMates.length := by simpa using hb
    have hwa : IntKind.wrap .i64 ((a : Int) + 1) = ((a + 1 : Nat) : Int) := by rw [wrap_ok (by omega) (by omega)]; rfl
    have hpa : IntKind.wrap .i64 ((a : Int) - 1) = (a : Int) - 1 := wrap_ok (by omega) (by omega)
    have hbada := fun h => allN_bad (f := sM w) hlta hNa h
    have hgooda := fun h => allN_good (f := sM w) hlta hNa h
    have hsa := hNa.trans (by rw [allN_step (f := sM w) hlta])
    clear hb
    conv => whnf
    have hra := hr a
    have hW0 : settled w = (allN (stF (w.fMates.getD a default).fRuns) ((w.fMates.getD a default).fRuns.length - 0) 0 && (((w.fMates.getD a default).fUp && sameW ((w.fMates.getD a default).fRuns.map (·.fWant)) (lastW w.fLand.fPlaces (w.fMates.getD a default).fName w.fLand.fPlaces.length)) && (allN (sM w) (w.fMates.length - (a + 1)) (a + 1) && true))) := by
      rw [hsa, hlw, sameW_runs, Nat.sub_zero]
      simp only [sM]
      simp only [Bool.and_assoc]
    clear hsa hNa hbada hgooda
    repeat' (first | (refine g_skip ?_; conv => whnf) | fail)
    refine XS.go ?_
    repeat' (first | (refine XS.freezeB 4 rfl ?_) | (refine z_ld1 ?_; first | (refine z_ld rfl rfl rfl rfl (by first | (simp only [List.length_set]; assumption) | assumption | omega) (by first | exact elt_set (by first | assumption | (simp only [List.length_set]; assumption)) | assumption) ?_; conv => whnf) | (refine z_ld0 rfl ?_; conv => whnf)) | (refine z_st1 ?_; first | (refine z_st rfl rfl rfl (by first | (simp only [List.length_set]; assumption) | assumption | omega) (by first | exact elt_set (by first | assumption | (simp only [List.length_set]; assumption)) | assumption) rfl rfl ?_; conv => whnf) | (refine z_st0 ?_; conv => whnf)) | (refine z_ix1 ?_; first | (refine z_ix rfl rfl rfl rfl rfl ⟨by first | omega | (simp only [decide_eq_true_eq, Bool.not_eq_true', Bool.or_eq_false_iff, decide_eq_false_iff_not, Bool.and_eq_true, Bool.not_eq_false'] at *; omega), by first | omega | (simp only [decide_eq_true_eq, Bool.not_eq_true', Bool.or_eq_false_iff, decide_eq_false_iff_not, Bool.and_eq_true, Bool.not_eq_false'] at *; omega)⟩ ?_; conv => whnf) | (refine z_ix0 rfl rfl ?_; conv => whnf)) | (refine z_op ?_ ?_; (focus exact rfl); conv => whnf) | (refine zs_ops ?_ ?_; (focus exact rfl)) | (refine z_nil fun vals => ?_; conv => whnf) | (refine z_eff ?_; conv => whnf) | (refine And.intro ?_ ?_; (focus (first | exact rfl | exact Nat.le_of_ble_eq_true rfl | decide | omega | fail)); conv => whnf) | (refine g_seq ?_) | (refine g_block ?_) | (refine fun _ => ?_; conv => whnf) | fail)
    refine XS.go ?_
    repeat' (first | (refine g_op ?_; conv => whnf) | (refine And.intro ?_ ?_; (focus (first | exact rfl | exact Nat.le_of_ble_eq_true rfl | decide | omega | fail)); conv => whnf) | (refine g_seq ?_) | (refine g_ops ?_) | (refine g_nil ?_; conv => whnf) | fail)
    refine XS.nilro 5 7 ((lastW w.fLand.fPlaces (w.fMates.getD a default).fName 0).map MateWant.D) rfl rfl ?_
    repeat' (first | (refine g_op ?_; conv => whnf) | (refine And.intro ?_ ?_; (focus (first | exact rfl | exact Nat.le_of_ble_eq_true rfl | decide | omega | fail)); conv => whnf) | (refine g_seq ?_) | (refine XS.go ?_) | (refine g_ops ?_) | (refine g_loop ?_) | (refine g_nil ?_; conv => whnf) | (refine g_block ?_) | fail)
    refine XLc.mkL (α := Nat) (fun k => k ≤ w.fLand.fPlaces.length) (fun k => w.fLand.fPlaces.length - k) (fun k gs => [.any, .cref w.D, .any, .int .i64 (a : Int), .cref (w.fMates.getD a default).D, .ro 7 ((lastW w.fLand.fPlaces (w.fMates.getD a default).fName k).map MateWant.D), .int .i64 (k : Int)]) (fun k gs => []) 0 (Nat.zero_le _) ?_ ?_
    · refine ⟨?_, ?_⟩
      · repeat' (first | exact True.intro | refine And.intro rfl ?_)
      · repeat' (first | exact True.intro | refine And.intro rfl ?_)
    intro k gsk hik
    repeat' (first | (refine z_ld1 ?_; first | (refine z_ld rfl rfl rfl rfl (by first | (simp only [List.length_set]; assumption) | assumption | omega) (by first | exact elt_set (by first | assumption | (simp only [List.length_set]; assumption)) | assumption) ?_; conv => whnf) | (refine z_ld0 rfl ?_; conv => whnf)) | (refine z_op ?_ ?_; (focus exact rfl); conv => whnf) | (refine zs_ops ?_ ?_; (focus exact rfl)) | (refine z_nil fun vals => ?_; conv => whnf) | (refine And.intro ?_ ?_; (focus (first | exact rfl | exact Nat.le_of_ble_eq_true rfl | decide | omega | fail)); conv => whnf) | (refine g_seq ?_) | (refine XS.go ?_) | (refine g_cond ?_; conv => whnf) | fail)
    refine Br.mk (fun hb => ?_) (fun hb => ?_)
    · have hltk : k < w.fLand.fPlaces.length := by simpa using hb
      have hwk : IntKind.wrap .i64 ((k : Int) + 1) = ((k + 1 : Nat) : Int) := by rw [wrap_ok (by omega) (by omega)]; rfl
      clear hb
      conv => whnf
      repeat' (first | (refine z_ld1 ?_; first | (refine z_ld rfl rfl rfl rfl (by first | (simp only [List.length_set]; assumption) | assumption | omega) (by first | exact elt_set (by first | assumption | (simp only [List.length_set]; assumption)) | assumption) ?_; conv => whnf) | (refine z_ld0 rfl ?_; conv => whnf)) | (refine z_ix1 ?_; first | (refine z_ix rfl rfl rfl rfl rfl ⟨by first | omega | (simp only [decide_eq_true_eq, Bool.not_eq_true', Bool.or_eq_false_iff, decide_eq_false_iff_not, Bool.and_eq_true, Bool.not_eq_false'] at *; omega), by first | omega | (simp only [decide_eq_true_eq, Bool.not_eq_true', Bool.or_eq_false_iff, decide_eq_false_iff_not, Bool.and_eq_true, Bool.not_eq_false'] at *; omega)⟩ ?_; conv => whnf) | (refine z_ix0 rfl rfl ?_; conv => whnf)) | (refine z_op ?_ ?_; (focus exact rfl); conv => whnf) | (refine zs_quiet ?_ ?_; (focus exact rfl)) | (refine z_nil fun vals => ?_; conv => whnf) | (refine And.intro ?_ ?_; (focus (first | exact rfl | exact Nat.le_of_ble_eq_true rfl | decide | omega | fail)); conv => whnf) | (refine g_seq ?_) | (refine XS.go ?_) | (refine g_cond ?_; conv => whnf) | (refine g_skip ?_; conv => whnf) | (refine g_block ?_) | fail)
      refine Br.mk (fun hb => ?_) (fun hb => ?_)
      · have e : lastW w.fLand.fPlaces (w.fMates.getD a default).fName (k + 1) = (w.fLand.fPlaces.getD k default).fWants := by rw [lastW, show plF w.fLand.fPlaces (w.fMates.getD a default).fName k = true from hb]; rfl
        conv => whnf
        repeat' (first | (refine z_ld1 ?_; first | (refine z_ld rfl rfl rfl rfl (by first | (simp only [List.length_set]; assumption) | assumption | omega) (by first | exact elt_set (by first | assumption | (simp only [List.length_set]; assumption)) | assumption) ?_; conv => whnf) | (refine z_ld0 rfl ?_; conv => whnf)) | (refine z_ix1 ?_; first | (refine z_ix rfl rfl rfl rfl rfl ⟨by first | omega | (simp only [decide_eq_true_eq, Bool.not_eq_true', Bool.or_eq_false_iff, decide_eq_false_iff_not, Bool.and_eq_true, Bool.not_eq_false'] at *; omega), by first | omega | (simp only [decide_eq_true_eq, Bool.not_eq_true', Bool.or_eq_false_iff, decide_eq_false_iff_not, Bool.and_eq_true, Bool.not_eq_false'] at *; omega)⟩ ?_; conv => whnf) | (refine z_ix0 rfl rfl ?_; conv => whnf)) | (refine z_op ?_ ?_; (focus exact rfl); conv => whnf) | (refine zs_ops ?_ ?_; (focus exact rfl)) | (refine z_nil fun vals => ?_; conv => whnf) | (refine g_op ?_; conv => whnf) | (refine And.intro ?_ ?_; (focus (first | exact rfl | exact Nat.le_of_ble_eq_true rfl | decide | omega | fail)); conv => whnf) | (refine XS.go ?_) | (refine g_ops ?_) | (refine g_nil ?_; conv => whnf) | fail)
        refine ⟨k + 1, by omega, by omega, ?_, ?_⟩
        · rw [e]
          repeat' (first | exact True.intro | refine And.intro (congrArg (D.int .i64) hwk) ?_ | refine And.intro rfl ?_)
        · repeat' (first | exact True.intro | refine And.intro rfl ?_)
      have e : lastW w.fLand.fPlaces (w.fMates.getD a default).fName (k + 1) = lastW w.fLand.fPlaces (w.fMates.getD a default).fName k := by rw [lastW, show plF w.fLand.fPlaces (w.fMates.getD a default).fName k = false from hb]; rfl
      conv => whnf
      repeat' (first | (refine g_op ?_; conv => whnf) | (refine And.intro ?_ ?_; (focus (first | exact rfl | exact Nat.le_of_ble_eq_true rfl | decide | omega | fail)); conv => whnf) | (refine XS.go ?_) | (refine g_ops ?_) | (refine g_nil ?_; conv => whnf) | (refine g_skip ?_; conv => whnf) | fail)
      refine ⟨k + 1, by omega, by omega, ?_, ?_⟩
      · rw [e]
        repeat' (first | exact True.intro | refine And.intro (congrArg (D.int .i64) hwk) ?_ | refine And.intro rfl ?_)
      · repeat' (first | exact True.intro | refine And.intro rfl ?_)
    have hgek : ¬ k < w.fLand.fPlaces.length := by simpa using hb
    obtain rfl : k = w.fLand.fPlaces.length := by omega
    clear hb
    generalize lastW w.fLand.fPlaces (w.fMates.getD a default).fName w.fLand.fPlaces.length = ws at hW0 ⊢
    conv => whnf
    repeat' (first | (refine g_exit ?_; conv => whnf) | fail)
    refine XS.go ?_
    repeat' (first | (refine g_op ?_; conv => whnf) | (refine And.intro ?_ ?_; (focus (first | exact rfl | exact Nat.le_of_ble_eq_true rfl | decide | omega | fail)); conv => whnf) | (refine g_seq ?_) | (refine g_ops ?_) | (refine g_nil ?_; conv => whnf) | fail)
    refine XS.own 7 66 7 rfl fun b0 => ?_
    repeat' (first | (refine g_op ?_; conv => whnf) | (refine And.intro ?_ ?_; (focus (first | exact rfl | exact Nat.le_of_ble_eq_true rfl | decide | omega | fail)); conv => whnf) | (refine g_seq ?_) | (refine XS.go ?_) | (refine g_ops ?_) | (refine g_loop ?_) | (refine g_nil ?_; conv => whnf) | (refine g_block ?_) | fail)
    refine XLc.cut (α := Nat) (β := Unit) 4 (fun cp _ => (w.fMates.getD a default).fRuns.length ≤ cp ∧ settled w = (((w.fMates.getD a default).fUp && sameW ((w.fMates.getD a default).fRuns.map (·.fWant)) ws) && (allN (sM w) (w.fMates.length - (a + 1)) (a + 1) && true))) (fun cp gs => [.any, .cref w.D, .any, .int .i64 (a : Int), .cref (w.fMates.getD a default).D, .ro 7 (ws.map MateWant.D), .any, .lsl 66 (gs 66) (w.fMates.getD a default).fRuns.length cp]) (fun cp _ => [(66, .arr 7 (((w.fMates.getD a default).fRuns.map (·.fWant)).map MateWant.D) cp)]) (fun _ => false = settled w) (fun _ => [.any, .any, .bool false]) ?_ ?_ ?_
    · refine XLc.mkA (α := Nat × Nat) (fun p => p.1 ≤ (w.fMates.getD a default).fRuns.length ∧ p.1 ≤ p.2 ∧ settled w = (allN (stF (w.fMates.getD a default).fRuns) ((w.fMates.getD a default).fRuns.length - p.1) p.1 && (((w.fMates.getD a default).fUp && sameW ((w.fMates.getD a default).fRuns.map (·.fWant)) ws) && (allN (sM w) (w.fMates.length - (a + 1)) (a + 1) && true)))) (fun p => (w.fMates.getD a default).fRuns.length - p.1) (fun p gs => [.any, .cref w.D, .any, .int .i64 (a : Int), .cref (w.fMates.getD a default).D, .ro 7 (ws.map MateWant.D), .any, .lsl 66 (gs 66) p.1 p.2, .int .i64 (p.1 : Int)]) (fun p gs => [(66, .arr 7 ((((w.fMates.getD a default).fRuns.take p.1).map (·.fWant)).map MateWant.D) p.2)]) (0, 0) ⟨Nat.zero_le _, Nat.le_refl _, hW0⟩ ?_ ?_
      · refine ⟨?_, ?_⟩
        · repeat' (first | exact True.intro | refine And.intro rfl ?_)
        · exact ⟨rfl, True.intro⟩
      intro p gsk hI
      obtain ⟨k, ck⟩ := p
      obtain ⟨hik, hck, hNk⟩ := hI
      simp only at hik hck hNk
      dsimp only
      repeat' (first | (refine z_ld1 ?_; first | (refine z_ld rfl rfl rfl rfl (by first | (simp only [List.length_set]; assumption) | assumption | omega) (by first | exact elt_set (by first | assumption | (simp only [List.length_set]; assumption)) | assumption) ?_; conv => whnf) | (refine z_ld0 rfl ?_; conv => whnf)) | (refine z_op ?_ ?_; (focus exact rfl); conv => whnf) | (refine zs_ops ?_ ?_; (focus exact rfl)) | (refine z_nil fun vals => ?_; conv => whnf) | (refine And.intro ?_ ?_; (focus (first | exact rfl | exact Nat.le_of_ble_eq_true rfl | decide | omega | fail)); conv => whnf) | (refine g_seq ?_) | (refine XS.go ?_) | (refine g_cond ?_; conv => whnf) | fail)
      refine Br.mk (fun hb => ?_) (fun hb => ?_)
      · have hltk : k < (w.fMates.getD a default).fRuns.length := by simpa using hb
        have hltk2 : k < (w.fMates.getD (a : Int).toNat default).fRuns.length := hltk
        have hwk : IntKind.wrap .i64 ((k : Int) + 1) = ((k + 1 : Nat) : Int) := by rw [wrap_ok (by omega) (by omega)]; rfl
        have hs := hNk.trans (by rw [allN_step (f := stF (w.fMates.getD a default).fRuns) hltk])
        have hln : ((((w.fMates.getD a default).fRuns.take k).map (·.fWant)).map MateWant.D).length = k := by rw [List.length_map, List.length_map, List.length_take]; omega
        have hmp : (((w.fMates.getD a default).fRuns.take k).map (·.fWant)).map MateWant.D ++ [((w.fMates.getD a default).fRuns.getD k default).fWant.D] = (((w.fMates.getD a default).fRuns.take (k + 1)).map (·.fWant)).map MateWant.D := by
          rw [List.map_map, List.map_map]
          exact take_snoc (fun r : MateRun => r.fWant.D) hltk
        clear hb hNk
        generalize (((w.fMates.getD a default).fRuns.take k).map (·.fWant)).map MateWant.D = L at hln hmp ⊢
        conv => whnf
        repeat' (first | (refine z_ld1 ?_; first | (refine z_ld rfl rfl rfl rfl (by first | (simp only [List.length_set]; assumption) | assumption | omega) (by first | exact elt_set (by first | assumption | (simp only [List.length_set]; assumption)) | assumption) ?_; conv => whnf) | (refine z_ld0 rfl ?_; conv => whnf)) | (refine z_ix1 ?_; first | (refine z_ix rfl rfl rfl rfl rfl ⟨by first | omega | (simp only [decide_eq_true_eq, Bool.not_eq_true', Bool.or_eq_false_iff, decide_eq_false_iff_not, Bool.and_eq_true, Bool.not_eq_false'] at *; omega), by first | omega | (simp only [decide_eq_true_eq, Bool.not_eq_true', Bool.or_eq_false_iff, decide_eq_false_iff_not, Bool.and_eq_true, Bool.not_eq_false'] at *; omega)⟩ ?_; conv => whnf) | (refine z_ix0 rfl rfl ?_; conv => whnf)) | (refine z_op ?_ ?_; (focus exact rfl); conv => whnf) | (refine zs_ops ?_ ?_; (focus exact rfl)) | (refine z_eff ?_; conv => whnf) | (refine And.intro ?_ ?_; (focus (first | exact rfl | exact Nat.le_of_ble_eq_true rfl | decide | omega | fail)); conv => whnf) | (refine g_seq ?_) | (refine XS.go ?_) | (refine g_skip ?_; conv => whnf) | (refine g_block ?_) | (refine fun _ => ?_; conv => whnf) | fail)
        refine ⟨?_, Nat.le_of_ble_eq_true rfl, (by decide), fun n' b' c' hn' hc' => ?_⟩
        · show _ + 1 ≤ 1073741824
          omega
        have hn' : n' = k + 1 := by rw [hn', hln]; rfl
        subst hn'
        conv => whnf
        repeat' (first | (refine z_ld1 ?_; first | (refine z_ld rfl rfl rfl rfl (by first | (simp only [List.length_set]; assumption) | assumption | omega) (by first | exact elt_set (by first | assumption | (simp only [List.length_set]; assumption)) | assumption) ?_; conv => whnf) | (refine z_ld0 rfl ?_; conv => whnf)) | (refine z_ix1 ?_; first | (refine z_ix rfl rfl rfl rfl rfl ⟨by first | omega | (simp only [decide_eq_true_eq, Bool.not_eq_true', Bool.or_eq_false_iff, decide_eq_false_iff_not, Bool.and_eq_true, Bool.not_eq_false'] at *; omega), by first | omega | (simp only [decide_eq_true_eq, Bool.not_eq_true', Bool.or_eq_false_iff, decide_eq_false_iff_not, Bool.and_eq_true, Bool.not_eq_false'] at *; omega)⟩ ?_; conv => whnf) | (refine z_ix0 rfl rfl ?_; conv => whnf)) | (refine z_op ?_ ?_; (focus exact rfl); conv => whnf) | (refine zs_ops ?_ ?_; (focus exact rfl)) | (refine z_nil fun vals => ?_; conv => whnf) | (refine And.intro ?_ ?_; (focus (first | exact rfl | exact Nat.le_of_ble_eq_true rfl | decide | omega | fail)); conv => whnf) | (refine g_seq ?_) | (refine XS.go ?_) | (refine g_cond ?_; conv => whnf) | fail)
        refine Br.mk (fun h1 => ?_) (fun h1 => ?_)
        · conv => whnf
          repeat' (first | (refine g_op ?_; conv => whnf) | (refine And.intro ?_ ?_; (focus (first | exact rfl | exact Nat.le_of_ble_eq_true rfl | decide | omega | fail)); conv => whnf) | (refine g_seq ?_) | (refine XS.go ?_) | (refine g_ops ?_) | (refine g_nil ?_; conv => whnf) | (refine g_ret ?_; conv => whnf) | fail)
          refine ⟨(), ?_, ⟨?_, True.intro⟩⟩
          · rw [hs, show stF (w.fMates.getD a default).fRuns k = false from congrArg Bool.not h1]
            rfl
          · repeat' (first | exact True.intro | refine And.intro rfl ?_)
        conv => whnf
        repeat' (first | (refine g_op ?_; conv => whnf) | (refine And.intro ?_ ?_; (focus (first | exact rfl | exact Nat.le_of_ble_eq_true rfl | decide | omega | fail)); conv => whnf) | (refine XS.go ?_) | (refine g_ops ?_) | (refine g_nil ?_; conv => whnf) | (refine g_skip ?_; conv => whnf) | fail)
        refine ⟨(k + 1, c'), ⟨by simp only; omega, by simp only; omega, ?_⟩, by simp only; omega, ?_, ?_⟩
        · rw [hs, show stF (w.fMates.getD a default).fRuns k = true from congrArg Bool.not h1, Bool.true_and]
        · repeat' (first | exact True.intro | refine And.intro (congrArg (D.int .i64) hwk) ?_ | refine And.intro rfl ?_)
        · exact ⟨congrArg (fun l => some (D.arr 7 l c')) hmp, True.intro⟩
      have hgek : ¬ k < (w.fMates.getD a default).fRuns.length := by simpa using hb
      have hend : settled w = (((w.fMates.getD a default).fUp && sameW ((w.fMates.getD a default).fRuns.map (·.fWant)) ws) && (allN (sM w) (w.fMates.length - (a + 1)) (a + 1) && true)) := by rw [hNk, allN_end hgek, Bool.true_and]
      obtain rfl : k = (w.fMates.getD a default).fRuns.length := by omega
      clear hNk hb
      rw [List.take_length]
      conv => whnf
      repeat' (first | (refine And.intro ?_ ?_; (focus (first | exact rfl | exact Nat.le_of_ble_eq_true rfl | decide | omega | fail)); conv => whnf) | (refine g_exit ?_; conv => whnf) | fail)
      first | refine ⟨ck, ⟨hck, hend⟩, ⟨?_, ?_⟩⟩ | refine ⟨rfl, ck, ⟨hck, hend⟩, ⟨?_, ?_⟩⟩
      · repeat' (first | exact True.intro | refine And.intro rfl ?_)
      · exact ⟨rfl, True.intro⟩
    · intro _ gs hret
      conv => whnf
      repeat' (first | (refine And.intro ?_ ?_; (focus (first | exact rfl | exact Nat.le_of_ble_eq_true rfl | decide | omega | fail)); conv => whnf) | (refine r_t ?_; conv => whnf) | (refine r_nil ?_; conv => whnf) | fail)
      first
      | (refine ⟨(), hret, ⟨?_, True.intro⟩⟩; repeat' (first | exact True.intro | refine And.intro rfl ?_))
      | ((conv => lhs; whnf); rw [← hret])
      | fail
    intro cp gs hend
    obtain ⟨hcp, hend⟩ := hend
    conv => whnf
    skip
    refine XS.freezeR 66 [7] rfl (D.frozs_map (fun _ => rfl) _) ⟨⟨rfl, by simp⟩, True.intro⟩ ?_
    have hss := spec_Same ((w.fMates.getD a default).fRuns.map (·.fWant)) ws (by rw [List.length_map]; omega)
    repeat' (first | (refine z_ld1 ?_; first | (refine z_ld rfl rfl rfl rfl (by first | (simp only [List.length_set]; assumption) | assumption | omega) (by first | exact elt_set (by first | assumption | (simp only [List.length_set]; assumption)) | assumption) ?_; conv => whnf) | (refine z_ld0 rfl ?_; conv => whnf)) | (refine z_op ?_ ?_; (focus exact rfl); conv => whnf) | (refine z_opg0 ?_; (conv => whnf); refine And.intro ?_ ?_; (focus exact rfl); conv => whnf) | (refine z_pick ?_ ?_; (focus exact rfl); conv => whnf) | (refine zs_ops ?_ ?_; (focus exact rfl)) | (refine z_nil fun vals => ?_; conv => whnf) | (refine z_callg0 ?_; (conv => whnf); refine And.intro ?_ ?_; (focus exact rfl)) | (refine RC.of (hss) ?_ ?_; (focus exact rfl); conv => whnf) | (refine And.intro ?_ ?_; (focus (first | exact rfl | exact Nat.le_of_ble_eq_true rfl | decide | omega | fail)); conv => whnf) | (refine g_seq ?_) | (refine XS.go ?_) | (refine g_cond ?_; conv => whnf) | fail)
    refine Br.mk (fun h1 => ?_) (fun h1 => ?_)
    · conv => whnf
      repeat' (first | (refine g_op ?_; conv => whnf) | (refine And.intro ?_ ?_; (focus (first | exact rfl | exact Nat.le_of_ble_eq_true rfl | decide | omega | fail)); conv => whnf) | (refine g_seq ?_) | (refine XS.go ?_) | (refine g_ops ?_) | (refine g_nil ?_; conv => whnf) | (refine g_ret ?_; conv => whnf) | (refine r_t ?_; conv => whnf) | (refine r_nil ?_; conv => whnf) | fail)
      (conv => lhs; whnf)
      refine congrArg D.bool ?_
      rw [hend]
      rcases (Bool.or_eq_true_iff.1 h1) with h | h
      · rw [show (w.fMates.getD a default).fUp = false by simpa using h]
        rfl
      · rw [show sameW ((w.fMates.getD a default).fRuns.map (·.fWant)) ws = false by simpa using h]
        simp
    obtain ⟨h1, h2⟩ := Bool.or_eq_false_iff.1 h1
    have hend2 : settled w = (allN (sM w) (w.fMates.length - (a + 1)) (a + 1) && true) := by
      rw [hend, show (w.fMates.getD a default).fUp = true by simpa using h1, show sameW ((w.fMates.getD a default).fRuns.map (·.fWant)) ws = true by simpa using h2]
      rfl
    conv => whnf
    repeat' (first | (refine g_op ?_; conv => whnf) | (refine And.intro ?_ ?_; (focus (first | exact rfl | exact Nat.le_of_ble_eq_true rfl | decide | omega | fail)); conv => whnf) | (refine XS.go ?_) | (refine g_ops ?_) | (refine g_nil ?_; conv => whnf) | (refine g_skip ?_; conv => whnf) | fail)
    refine ⟨a + 1, ⟨by omega, hend2⟩, by omega, ?_, ?_⟩
    · repeat' (first | exact True.intro | refine And.intro (congrArg (D.int .i64) hwa) ?_ | refine And.intro rfl ?_)
    · repeat' (first | exact True.intro | refine And.intro rfl ?_)
  have hgea : ¬ a < w.fMates.length := by simpa using hb
  have hend : settled w = (true) := by rw [hNa, allN_end hgea, Bool.true_and]
  clear hNa hb
  conv => whnf
  repeat' (first | (refine g_op ?_; conv => whnf) | (refine And.intro ?_ ?_; (focus (first | exact rfl | exact Nat.le_of_ble_eq_true rfl | decide | omega | fail)); conv => whnf) | (refine g_seq ?_) | (refine XS.go ?_) | (refine g_ops ?_) | (refine g_nil ?_; conv => whnf) | (refine g_ret ?_; conv => whnf) | (refine g_exit ?_; conv => whnf) | (refine r_t ?_; conv => whnf) | (refine r_nil ?_; conv => whnf) | fail)
  (conv => lhs; whnf)
  rw [hend]
set_option maxHeartbeats 4000000 in
theorem law_Settled (x : MateWorld) (hw : x.wf) : Rdr Try.prog 10 [x.D] (.bool true) := by
  refine Rdr.intro' hm c10 (Nat.le_of_ble_eq_true rfl) ?_
  conv => whnf
  repeat' (first | (refine g_op ?_; conv => whnf) | (refine And.intro ?_ ?_; (focus (first | exact rfl | exact Nat.le_of_ble_eq_true rfl | decide | omega | fail)); conv => whnf) | (refine g_seq ?_) | (refine g_ops ?_) | (refine g_nil ?_; conv => whnf) | (refine fun _ => ?_; conv => whnf) | fail)
  refine XS.freezeB 1 rfl ?_
  repeat' (first | (refine g_op ?_; conv => whnf) | (refine And.intro ?_ ?_; (focus (first | exact rfl | exact Nat.le_of_ble_eq_true rfl | decide | omega | fail)); conv => whnf) | (refine g_seq ?_) | (refine XS.go ?_) | (refine g_ops ?_) | (refine g_nil ?_; conv => whnf) | fail)
  refine XCL.ask (sz_MateWorld x _ hw (by decide) (by decide)) (fun d h => ?_)
  obtain ⟨n, rfl, hn⟩ := h
  conv => whnf
  repeat' (first | (refine g_op ?_; conv => whnf) | (refine And.intro ?_ ?_; (focus (first | exact rfl | exact Nat.le_of_ble_eq_true rfl | decide | omega | fail)); conv => whnf) | (refine g_seq ?_) | (refine XS.go ?_) | (refine g_ops ?_) | (refine g_nil ?_; conv => whnf) | (refine g_cond ?_; conv => whnf) | fail)
  refine Br.mk (fun hb => ?_) (fun hb => ?_)
  · conv => whnf
    repeat' (first | (refine g_op ?_; conv => whnf) | (refine And.intro ?_ ?_; (focus (first | exact rfl | exact Nat.le_of_ble_eq_true rfl | decide | omega | fail)); conv => whnf) | (refine g_seq ?_) | (refine XS.go ?_) | (refine g_ops ?_) | (refine g_nil ?_; conv => whnf) | (refine g_ret ?_; conv => whnf) | (refine r_t ?_; conv => whnf) | (refine r_nil ?_; conv => whnf) | fail)
    rfl
  have hs := (hn (Int.not_lt.1 (of_decide_eq_false hb))).2
  have q1 := spec_Settled x hs.fLand.places
  have q2 := impl_Settled x hs.fLand.places
  generalize settled x = r at *
  conv => whnf
  repeat' (first | (refine g_op ?_; conv => whnf) | (refine And.intro ?_ ?_; (focus (first | exact rfl | exact Nat.le_of_ble_eq_true rfl | decide | omega | fail)); conv => whnf) | (refine g_seq ?_) | (refine XS.go ?_) | (refine g_ops ?_) | (refine g_nil ?_; conv => whnf) | (refine Br.f ?_ ?_; (focus (first | assumption | exact rfl)); conv => whnf) | (refine g_cond ?_; conv => whnf) | (refine g_skip ?_; conv => whnf) | (refine g_ret ?_; conv => whnf) | (refine g_quiet ?_) | (refine q_op ?_; conv => whnf) | (refine q_nil ?_; conv => whnf) | (refine r_t ?_; conv => whnf) | (refine r_nil ?_; conv => whnf) | (refine fun _ => ?_; conv => whnf) | (refine Br.f (by simp) ?_; conv => whnf) | (refine XCL.of_rdr (to_MateWorld x hs) ?_; conv => whnf) | (refine XCL.of_rdr (q1) ?_; conv => whnf) | (refine XCL.of_rdr (q2) ?_; conv => whnf) | (refine QC.of_rdr (to_MateWorld x hs) ?_; conv => whnf) | (refine QC.of_rdr (eq_MateWorld x hs) ?_; conv => whnf) | fail)
  rfl
end Go.Ab
