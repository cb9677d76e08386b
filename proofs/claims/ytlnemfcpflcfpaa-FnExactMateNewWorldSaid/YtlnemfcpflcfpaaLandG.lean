/- Steps towards the law: contracts of functions and facts of lists. -/
import Derived.Test.YtlnemfcpflcfpaaLandF
import Derived.Test.YtlnemfcpflcfpaaAb11
import Derived.Test.YtlnemfcpflcfpaaRows
set_option linter.unusedSimpArgs false
set_option linter.unusedVariables false
namespace Go.Ab
open Go Go.RowKit Go.Proofs
attribute [local irreducible] XC Rdr IntKind.wrap xw xos xqs xr xd
set_option maxRecDepth 100000

set_option maxHeartbeats 8000000 in
theorem spec_PlacesOk (ps : List MatePlace) (hz : ∀ i, (ps.getD i default).fWants.length ≤ 1048576) : Rdr Try.prog 62 [.ro 3 (ps.map MatePlace.D)] (.bool (placesOk ps)) := by
  refine Rdr.intro' hm c62 (Nat.le_of_ble_eq_true rfl) ?_
  conv => whnf
  repeat' (first | (refine g_op ?_; conv => whnf) | (refine And.intro ?_ ?_; (focus (first | exact rfl | exact Nat.le_of_ble_eq_true rfl | decide | omega | fail)); conv => whnf) | (refine g_seq ?_) | (refine XS.go ?_) | (refine g_ops ?_) | (refine g_nil ?_; conv => whnf) | (refine g_cond ?_; conv => whnf) | fail)
  rw [mlen]
  refine Br.mk (fun hb => ?_) (fun hb => ?_)
  · conv => whnf
    repeat' (first | (refine g_op ?_; conv => whnf) | (refine And.intro ?_ ?_; (focus (first | exact rfl | exact Nat.le_of_ble_eq_true rfl | decide | omega | fail)); conv => whnf) | (refine g_seq ?_) | (refine XS.go ?_) | (refine g_ops ?_) | (refine g_nil ?_; conv => whnf) | (refine g_ret ?_; conv => whnf) | (refine r_t ?_; conv => whnf) | (refine r_nil ?_; conv => whnf) | fail)
    (conv => lhs; whnf)
    rw [placesOk, hb]
    rfl
  have hv : placesOk ps = (allN (pF ps) ps.length 0 && true) := by rw [placesOk, hb]; rfl
  have hl : ps.length ≤ 4 := by simp at hb; omega
  clear hb
  conv => whnf
  repeat' (first | (refine g_op ?_; conv => whnf) | (refine And.intro ?_ ?_; (focus (first | exact rfl | exact Nat.le_of_ble_eq_true rfl | decide | omega | fail)); conv => whnf) | (refine g_seq ?_) | (refine XS.go ?_) | (refine g_ops ?_) | (refine g_loop ?_) | (refine g_nil ?_; conv => whnf) | (refine g_skip ?_; conv => whnf) | (refine g_block ?_) | fail)
  refine XLc.mkL (α := Nat) (fun a => a ≤ ps.length ∧ placesOk ps = (allN (pF ps) (ps.length - a) a && true)) (fun a => ps.length - a) (fun a gs => [.ro 3 (ps.map MatePlace.D), .any, .any, .int .i64 (a : Int)]) (fun a gs => []) 0 ⟨Nat.zero_le _, hv⟩ ?_ ?_
  · refine ⟨?_, ?_⟩
    · repeat' (first | exact True.intro | refine And.intro rfl ?_)
    · repeat' (first | exact True.intro | refine And.intro rfl ?_)
  intro a gsa hI
  obtain ⟨hia, hNa⟩ := hI
  repeat' (first | (refine g_op ?_; conv => whnf) | (refine And.intro ?_ ?_; (focus (first | exact rfl | exact Nat.le_of_ble_eq_true rfl | decide | omega | fail)); conv => whnf) | (refine g_seq ?_) | (refine XS.go ?_) | (refine g_ops ?_) | (refine g_nil ?_; conv => whnf) | (refine g_cond ?_; conv => whnf) | fail)
  refine Br.mk (fun hb => ?_) (fun hb => ?_)
  · have hlta : a < ps.length := by simpa using hb
    have hwa : IntKind.wrap .i64 ((a : Int) + 1) = ((a + 1 : Nat) : Int) := by rw [wrap_ok (by omega) (by omega)]; rfl
    have hpa : IntKind.wrap .i64 ((a : Int) - 1) = (a : Int) - 1 := wrap_ok (by omega) (by omega)
    have hbada := fun h => allN_bad (f := pF ps) hlta hNa h
    have hgooda := fun h => allN_good (f := pF ps) hlta hNa h
    have hsa := hNa.trans (by rw [allN_step (f := pF ps) hlta])
    clear hb
    conv => whnf
    have hza := hz a
    repeat' (first | (refine z_ld1 ?_; first | (refine z_ld rfl rfl rfl rfl (by first | (simp only [List.length_set]; assumption) | assumption | omega) (by first | exact elt_set (by first | assumption | (simp only [List.length_set]; assumption)) | assumption) ?_; conv => whnf) | (refine z_ld0 rfl ?_; conv => whnf)) | (refine z_ld1g ?_; first | (refine z_ldg rfl rfl rfl rfl rfl rfl rfl (by (repeat intro _); exact ⟨(by first | (simp only [List.length_set]; assumption) | assumption | omega), (by first | exact elt_set (by first | assumption | (simp only [List.length_set]; assumption)) | assumption)⟩) rfl rfl rfl rfl ?_; conv => whnf) | (refine z_ld0g ?_; (conv => whnf); refine And.intro ?_ ?_; (focus exact rfl); conv => whnf)) | (refine z_st1 ?_; first | (refine z_st rfl rfl rfl (by first | (simp only [List.length_set]; assumption) | assumption | omega) (by first | exact elt_set (by first | assumption | (simp only [List.length_set]; assumption)) | assumption) rfl rfl ?_; conv => whnf) | (refine z_st0 ?_; conv => whnf)) | (refine z_ix1 ?_; first | (refine z_ix rfl rfl rfl rfl rfl ⟨by first | omega | (simp only [decide_eq_true_eq, Bool.not_eq_true', Bool.or_eq_false_iff, decide_eq_false_iff_not, Bool.and_eq_true, Bool.not_eq_false'] at *; omega), by first | omega | (simp only [decide_eq_true_eq, Bool.not_eq_true', Bool.or_eq_false_iff, decide_eq_false_iff_not, Bool.and_eq_true, Bool.not_eq_false'] at *; omega)⟩ ?_; conv => whnf) | (refine z_ix0 rfl rfl ?_; conv => whnf)) | (refine z_ix1g ?_; refine z_ixg rfl rfl rfl rfl rfl rfl rfl (by (repeat intro _); refine ⟨?_, ?_⟩ <;> first | omega | (simp only [decide_eq_true_eq, Bool.not_eq_true', Bool.or_eq_false_iff, decide_eq_false_iff_not, Bool.and_eq_true, Bool.not_eq_false'] at *; omega)) ?_) | (refine z_op ?_ ?_; (focus exact rfl); conv => whnf) | (refine z_opg0 ?_; (conv => whnf); refine And.intro ?_ ?_; (focus exact rfl); conv => whnf) | (refine z_pick ?_ ?_; (focus exact rfl); conv => whnf) | (refine z_pickg ?_; (conv => whnf); refine And.intro ?_ ?_; (focus exact rfl); conv => whnf) | (refine zs_ops ?_ ?_; (focus exact rfl)) | (refine zs_quiet ?_ ?_; (focus exact rfl)) | (refine z_nil fun vals => ?_; conv => whnf) | (refine z_call ?_ ?_; (focus exact rfl)) | (refine z_eff ?_; conv => whnf) | (refine z_callg0 ?_; (conv => whnf); refine And.intro ?_ ?_; (focus exact rfl)) | (refine RC.of (spec_NameOk _) ?_ ?_; (focus exact rfl); conv => whnf) | (refine RC.of (spec_In _ _ _) ?_ ?_; (focus exact rfl); conv => whnf) | (refine RC.of (spec_WantsOk _) ?_ ?_; (focus exact rfl); conv => whnf) | (refine And.intro ?_ ?_; (focus (first | exact rfl | exact Nat.le_of_ble_eq_true rfl | decide | omega | fail)); conv => whnf) | (refine g_seq ?_) | (refine XS.go ?_) | (refine g_cond ?_; conv => whnf) | (refine g_skip ?_; conv => whnf) | (refine g_block ?_) | (refine fun _ => ?_; conv => whnf) | fail)
    refine Br.mk (fun hb => ?_) (fun hb => ?_)
    · conv => whnf
      repeat' (first | (refine g_op ?_; conv => whnf) | (refine And.intro ?_ ?_; (focus (first | exact rfl | exact Nat.le_of_ble_eq_true rfl | decide | omega | fail)); conv => whnf) | (refine g_seq ?_) | (refine XS.go ?_) | (refine g_ops ?_) | (refine g_nil ?_; conv => whnf) | (refine g_ret ?_; conv => whnf) | (refine r_t ?_; conv => whnf) | (refine r_nil ?_; conv => whnf) | fail)
      (conv => lhs; whnf)
      refine congrArg D.bool (hbada ?_)
      clear hbada hgooda hsa hNa hwa
      first | (rcases Nat.eq_zero_or_pos a with h0 | h0 <;> simp_all [pF, pS, pr]; done) | (refine Bool.eq_false_iff.mpr fun h => ?_; simp_all [pF, pS, pr]; done)
    have hS : pS ps a = true := by
      clear hbada hgooda hsa hNa hwa
      first | (rcases Nat.eq_zero_or_pos a with h0 | h0 <;> simp_all [pS, pr]; done) | (simp_all [pS, pr]; done)
    have hcon : placesOk ps = (allN (cK ps a) (a - 0) 0 && (allN (pF ps) (ps.length - (a + 1)) (a + 1) && true)) := by
      rw [hsa, Nat.sub_zero]
      simp [pF, hS, noClash]
    clear hb hbada hgooda hsa hNa
    conv => whnf
    repeat' (first | (refine g_skip ?_; conv => whnf) | fail)
    refine XS.freezeB 4 rfl ?_
    repeat' (first | (refine g_op ?_; conv => whnf) | (refine And.intro ?_ ?_; (focus (first | exact rfl | exact Nat.le_of_ble_eq_true rfl | decide | omega | fail)); conv => whnf) | (refine g_seq ?_) | (refine XS.go ?_) | (refine g_ops ?_) | (refine g_loop ?_) | (refine g_nil ?_; conv => whnf) | (refine g_block ?_) | fail)
    refine XLc.cut (α := Unit) (β := Unit) 2 (fun _ gs => placesOk ps = ((allN (pF ps) (ps.length - (a + 1)) (a + 1) && true))) (fun _ gs => [.ro 3 (ps.map MatePlace.D), .any, .any, .int .i64 (a : Int)]) (fun _ gs => []) (fun _ => false = placesOk ps) (fun _ => [.any, .any, .bool false]) ?_ ?_ ?_
    · skip
      refine XLc.mkL (α := Nat) (fun k => k ≤ a ∧ placesOk ps = (allN (cK ps a) (a - k) k && (allN (pF ps) (ps.length - (a + 1)) (a + 1) && true))) (fun k => a - k) (fun k gs => [.ro 3 (ps.map MatePlace.D), .any, .any, .int .i64 (a : Int), .cref (ps.getD a default).D, .int .i64 (k : Int)]) (fun k gs => []) 0 ⟨Nat.zero_le _, hcon⟩ ?_ ?_
      · refine ⟨?_, ?_⟩
        · repeat' (first | exact True.intro | refine And.intro rfl ?_)
        · repeat' (first | exact True.intro | refine And.intro rfl ?_)
      intro k gsk hI
      obtain ⟨hik, hNk⟩ := hI
      repeat' (first | (refine g_op ?_; conv => whnf) | (refine And.intro ?_ ?_; (focus (first | exact rfl | exact Nat.le_of_ble_eq_true rfl | decide | omega | fail)); conv => whnf) | (refine g_seq ?_) | (refine XS.go ?_) | (refine g_ops ?_) | (refine g_nil ?_; conv => whnf) | (refine g_cond ?_; conv => whnf) | fail)
      refine Br.mk (fun hb => ?_) (fun hb => ?_)
      · have hltk : k < a := by simpa using hb
        have hwk : IntKind.wrap .i64 ((k : Int) + 1) = ((k + 1 : Nat) : Int) := by rw [wrap_ok (by omega) (by omega)]; rfl
        have hpk : IntKind.wrap .i64 ((k : Int) - 1) = (k : Int) - 1 := wrap_ok (by omega) (by omega)
        have hbadk := fun h => allN_bad (f := cK ps a) hltk hNk h
        have hgoodk := fun h => allN_good (f := cK ps a) hltk hNk h
        have hsk := hNk.trans (by rw [allN_step (f := cK ps a) hltk])
        clear hb
        conv => whnf
        have hltk' : k < ps.length := by omega
        have hcon : placesOk ps = (allN (cJ ps a k) ((ps.getD a default).fWants.length - 0) 0 && (allN (cK ps a) (a - (k + 1)) (k + 1) && (allN (pF ps) (ps.length - (a + 1)) (a + 1) && true))) := by
          rw [hsk, Nat.sub_zero, Bool.and_assoc]
          rfl
        clear hbadk hgoodk hsk hNk
        repeat' (first | (refine g_op ?_; conv => whnf) | (refine And.intro ?_ ?_; (focus (first | exact rfl | exact Nat.le_of_ble_eq_true rfl | decide | omega | fail)); conv => whnf) | (refine g_seq ?_) | (refine XS.go ?_) | (refine g_ops ?_) | (refine g_loop ?_) | (refine g_nil ?_; conv => whnf) | (refine g_skip ?_; conv => whnf) | (refine g_block ?_) | fail)
        refine XLc.cut (α := Unit) (β := Unit) 4 (fun _ gs => placesOk ps = ((allN (cK ps a) (a - (k + 1)) (k + 1) && (allN (pF ps) (ps.length - (a + 1)) (a + 1) && true)))) (fun _ gs => [.ro 3 (ps.map MatePlace.D), .any, .any, .int .i64 (a : Int), .cref (ps.getD a default).D, .int .i64 (k : Int)]) (fun _ gs => []) (fun _ => false = placesOk ps) (fun _ => [.any, .any, .bool false]) ?_ ?_ ?_
        · skip
          refine XLc.mkL (α := Nat) (fun j => j ≤ (ps.getD a default).fWants.length ∧ placesOk ps = (allN (cJ ps a k) ((ps.getD a default).fWants.length - j) j && (allN (cK ps a) (a - (k + 1)) (k + 1) && (allN (pF ps) (ps.length - (a + 1)) (a + 1) && true)))) (fun j => (ps.getD a default).fWants.length - j) (fun j gs => [.ro 3 (ps.map MatePlace.D), .any, .any, .int .i64 (a : Int), .cref (ps.getD a default).D, .int .i64 (k : Int), .int .i64 (j : Int)]) (fun j gs => []) 0 ⟨Nat.zero_le _, hcon⟩ ?_ ?_
          · refine ⟨?_, ?_⟩
            · repeat' (first | exact True.intro | refine And.intro rfl ?_)
            · repeat' (first | exact True.intro | refine And.intro rfl ?_)
          intro j gsj hI
          obtain ⟨hij, hNj⟩ := hI
          repeat' (first | (refine z_ld1 ?_; first | (refine z_ld rfl rfl rfl rfl (by first | (simp only [List.length_set]; assumption) | assumption | omega) (by first | exact elt_set (by first | assumption | (simp only [List.length_set]; assumption)) | assumption) ?_; conv => whnf) | (refine z_ld0 rfl ?_; conv => whnf)) | (refine z_op ?_ ?_; (focus exact rfl); conv => whnf) | (refine zs_ops ?_ ?_; (focus exact rfl)) | (refine z_nil fun vals => ?_; conv => whnf) | (refine And.intro ?_ ?_; (focus (first | exact rfl | exact Nat.le_of_ble_eq_true rfl | decide | omega | fail)); conv => whnf) | (refine g_seq ?_) | (refine XS.go ?_) | (refine g_cond ?_; conv => whnf) | fail)
          refine Br.mk (fun hb => ?_) (fun hb => ?_)
          · have hltj : j < (ps.getD a default).fWants.length := by simpa using hb
            have hwj : IntKind.wrap .i64 ((j : Int) + 1) = ((j + 1 : Nat) : Int) := by rw [wrap_ok (by omega) (by omega)]; rfl
            have hpj : IntKind.wrap .i64 ((j : Int) - 1) = (j : Int) - 1 := wrap_ok (by omega) (by omega)
            have hbadj := fun h => allN_bad (f := cJ ps a k) hltj hNj h
            have hgoodj := fun h => allN_good (f := cJ ps a k) hltj hNj h
            have hsj := hNj.trans (by rw [allN_step (f := cJ ps a k) hltj])
            clear hb
            conv => whnf
            have hcon : placesOk ps = (allN (cF ps a k j) ((ps.getD k default).fWants.length - 0) 0 && (allN (cJ ps a k) ((ps.getD a default).fWants.length - (j + 1)) (j + 1) && (allN (cK ps a) (a - (k + 1)) (k + 1) && (allN (pF ps) (ps.length - (a + 1)) (a + 1) && true)))) := by
              rw [hsj, Nat.sub_zero, Bool.and_assoc]
              rfl
            clear hbadj hgoodj hsj hNj
            have hz2 := hz k
            repeat' (first | (refine g_op ?_; conv => whnf) | (refine And.intro ?_ ?_; (focus (first | exact rfl | exact Nat.le_of_ble_eq_true rfl | decide | omega | fail)); conv => whnf) | (refine g_seq ?_) | (refine XS.go ?_) | (refine g_ops ?_) | (refine g_loop ?_) | (refine g_nil ?_; conv => whnf) | (refine g_skip ?_; conv => whnf) | (refine g_block ?_) | fail)
            refine XLc.cut (α := Unit) (β := Unit) 6 (fun _ gs => placesOk ps = ((allN (cJ ps a k) ((ps.getD a default).fWants.length - (j + 1)) (j + 1) && (allN (cK ps a) (a - (k + 1)) (k + 1) && (allN (pF ps) (ps.length - (a + 1)) (a + 1) && true))))) (fun _ gs => [.ro 3 (ps.map MatePlace.D), .any, .any, .int .i64 (a : Int), .cref (ps.getD a default).D, .int .i64 (k : Int), .int .i64 (j : Int)]) (fun _ gs => []) (fun _ => false = placesOk ps) (fun _ => [.any, .any, .bool false]) ?_ ?_ ?_
            · skip
              refine XLc.mkL (α := Nat) (fun i => i ≤ (ps.getD k default).fWants.length ∧ placesOk ps = (allN (cF ps a k j) ((ps.getD k default).fWants.length - i) i && (allN (cJ ps a k) ((ps.getD a default).fWants.length - (j + 1)) (j + 1) && (allN (cK ps a) (a - (k + 1)) (k + 1) && (allN (pF ps) (ps.length - (a + 1)) (a + 1) && true))))) (fun i => (ps.getD k default).fWants.length - i) (fun i gs => [.ro 3 (ps.map MatePlace.D), .any, .any, .int .i64 (a : Int), .cref (ps.getD a default).D, .int .i64 (k : Int), .int .i64 (j : Int), .int .i64 (i : Int)]) (fun i gs => []) 0 ⟨Nat.zero_le _, hcon⟩ ?_ ?_
              · refine ⟨?_, ?_⟩
                · repeat' (first | exact True.intro | refine And.intro rfl ?_)
                · repeat' (first | exact True.intro | refine And.intro rfl ?_)
              intro i gs hI
              obtain ⟨hi, hN⟩ := hI
              repeat' (first | (refine z_ld1 ?_; first | (refine z_ld rfl rfl rfl rfl (by first | (simp only [List.length_set]; assumption) | assumption | omega) (by first | exact elt_set (by first | assumption | (simp only [List.length_set]; assumption)) | assumption) ?_; conv => whnf) | (refine z_ld0 rfl ?_; conv => whnf)) | (refine z_ix1 ?_; first | (refine z_ix rfl rfl rfl rfl rfl ⟨by first | omega | (simp only [decide_eq_true_eq, Bool.not_eq_true', Bool.or_eq_false_iff, decide_eq_false_iff_not, Bool.and_eq_true, Bool.not_eq_false'] at *; omega), by first | omega | (simp only [decide_eq_true_eq, Bool.not_eq_true', Bool.or_eq_false_iff, decide_eq_false_iff_not, Bool.and_eq_true, Bool.not_eq_false'] at *; omega)⟩ ?_; conv => whnf) | (refine z_ix0 rfl rfl ?_; conv => whnf)) | (refine z_op ?_ ?_; (focus exact rfl); conv => whnf) | (refine zs_ops ?_ ?_; (focus exact rfl)) | (refine z_nil fun vals => ?_; conv => whnf) | (refine And.intro ?_ ?_; (focus (first | exact rfl | exact Nat.le_of_ble_eq_true rfl | decide | omega | fail)); conv => whnf) | (refine g_seq ?_) | (refine XS.go ?_) | (refine g_cond ?_; conv => whnf) | fail)
              refine Br.mk (fun hb => ?_) (fun hb => ?_)
              · have hlt : i < (ps.getD k default).fWants.length := by simpa using hb
                have hw : IntKind.wrap .i64 ((i : Int) + 1) = ((i + 1 : Nat) : Int) := by rw [wrap_ok (by omega) (by omega)]; rfl
                have hw1 : IntKind.wrap .i64 ((i : Int) - 1) = (i : Int) - 1 := wrap_ok (by omega) (by omega)
                have hbad := fun h => allN_bad (f := cF ps a k j) hlt hN h
                have hgood := fun h => allN_good (f := cF ps a k j) hlt hN h
                clear hN hb
                have hlt2 : i < (ps.getD (k : Int).toNat default).fWants.length := hlt
                all_goals conv => whnf
                repeat' (first | (refine z_ld1 ?_; first | (refine z_ld rfl rfl rfl rfl (by first | (simp only [List.length_set]; assumption) | assumption | omega) (by first | exact elt_set (by first | assumption | (simp only [List.length_set]; assumption)) | assumption) ?_; conv => whnf) | (refine z_ld0 rfl ?_; conv => whnf)) | (refine z_ld1g ?_; first | (refine z_ldg rfl rfl rfl rfl rfl rfl rfl (by (repeat intro _); exact ⟨(by first | (simp only [List.length_set]; assumption) | assumption | omega), (by first | exact elt_set (by first | assumption | (simp only [List.length_set]; assumption)) | assumption)⟩) rfl rfl rfl rfl ?_; conv => whnf) | (refine z_ld0g ?_; (conv => whnf); refine And.intro ?_ ?_; (focus exact rfl); conv => whnf)) | (refine z_ix1 ?_; first | (refine z_ix rfl rfl rfl rfl rfl ⟨by first | omega | (simp only [decide_eq_true_eq, Bool.not_eq_true', Bool.or_eq_false_iff, decide_eq_false_iff_not, Bool.and_eq_true, Bool.not_eq_false'] at *; omega), by first | omega | (simp only [decide_eq_true_eq, Bool.not_eq_true', Bool.or_eq_false_iff, decide_eq_false_iff_not, Bool.and_eq_true, Bool.not_eq_false'] at *; omega)⟩ ?_; conv => whnf) | (refine z_ix0 rfl rfl ?_; conv => whnf)) | (refine z_ix1g ?_; refine z_ixg rfl rfl rfl rfl rfl rfl rfl (by (repeat intro _); refine ⟨?_, ?_⟩ <;> first | omega | (simp only [decide_eq_true_eq, Bool.not_eq_true', Bool.or_eq_false_iff, decide_eq_false_iff_not, Bool.and_eq_true, Bool.not_eq_false'] at *; omega)) ?_) | (refine z_op ?_ ?_; (focus exact rfl); conv => whnf) | (refine z_opg0 ?_; (conv => whnf); refine And.intro ?_ ?_; (focus exact rfl); conv => whnf) | (refine z_pick ?_ ?_; (focus exact rfl); conv => whnf) | (refine zs_quiet ?_ ?_; (focus exact rfl)) | (refine z_nil fun vals => ?_; conv => whnf) | (refine g_op ?_; conv => whnf) | (refine And.intro ?_ ?_; (focus (first | exact rfl | exact Nat.le_of_ble_eq_true rfl | decide | omega | fail)); conv => whnf) | (refine g_seq ?_) | (refine XS.go ?_) | (refine g_ops ?_) | (refine g_nil ?_; conv => whnf) | (refine g_cond ?_; conv => whnf) | (refine g_skip ?_; conv => whnf) | (refine g_ret ?_; conv => whnf) | (refine g_block ?_) | (refine Br.mk (fun hb => ?_) (fun hb => ?_) <;> conv => whnf) | fail)
                all_goals
                  first
                  | (refine ⟨(), hbad ?_, ⟨?_, True.intro⟩⟩
                     · clear hbad hgood hw hcon hS
                       first | (first | (refine (Bool.eq_false_iff.mpr fun h => ?_).symm; simp_all [cF]; done) | (refine Bool.eq_false_iff.mpr fun h => ?_; simp_all [cF]; done) | (simp_all [cF]; done) | (simp_all [cF]; omega) | (refine (Bool.eq_false_iff.mpr fun h => ?_).symm; simp_all [cF]; omega) | (refine Bool.eq_false_iff.mpr fun h => ?_; simp_all [cF]; omega) | (rw [Bool.eq_iff_iff]; constructor <;> intro h <;> simp_all [cF] <;> omega) | fail) | (rcases Nat.eq_zero_or_pos i with h0 | h0 <;> simp_all [cF] <;> omega) | (exact congrArg Bool.not hb) | fail
                     · repeat' (first | exact True.intro | refine And.intro rfl ?_))
                  | (conv => lhs; whnf
                     refine congrArg D.bool (hbad ?_)
                     clear hbad hgood hw hcon hS
                     first | (first | (refine (Bool.eq_false_iff.mpr fun h => ?_).symm; simp_all [cF]; done) | (refine Bool.eq_false_iff.mpr fun h => ?_; simp_all [cF]; done) | (simp_all [cF]; done) | (simp_all [cF]; omega) | (refine (Bool.eq_false_iff.mpr fun h => ?_).symm; simp_all [cF]; omega) | (refine Bool.eq_false_iff.mpr fun h => ?_; simp_all [cF]; omega) | (rw [Bool.eq_iff_iff]; constructor <;> intro h <;> simp_all [cF] <;> omega) | fail) | (rcases Nat.eq_zero_or_pos i with h0 | h0 <;> simp_all [cF] <;> omega) | (exact congrArg Bool.not hb) | fail)
                  | (refine ⟨i + 1, ⟨by omega, ?_⟩, by omega, ?_, ?_⟩
                     · refine hgood ?_
                       clear hbad hgood hw hcon hS
                       first | (first | (refine (Bool.eq_false_iff.mpr fun h => ?_).symm; simp_all [cF]; done) | (refine Bool.eq_false_iff.mpr fun h => ?_; simp_all [cF]; done) | (simp_all [cF]; done) | (simp_all [cF]; omega) | (refine (Bool.eq_false_iff.mpr fun h => ?_).symm; simp_all [cF]; omega) | (refine Bool.eq_false_iff.mpr fun h => ?_; simp_all [cF]; omega) | (rw [Bool.eq_iff_iff]; constructor <;> intro h <;> simp_all [cF] <;> omega) | fail) | (rcases Nat.eq_zero_or_pos i with h0 | h0 <;> simp_all [cF] <;> omega) | (exact congrArg Bool.not hb) | fail
                     · repeat' (first | exact True.intro | refine And.intro (congrArg (D.int .i64) hw) ?_ | refine And.intro rfl ?_)
                     · repeat' (first | exact True.intro | refine And.intro rfl ?_))
              have hge : ¬ i < (ps.getD k default).fWants.length := by simpa using hb
              have hend : placesOk ps = (allN (cJ ps a k) ((ps.getD a default).fWants.length - (j + 1)) (j + 1) && (allN (cK ps a) (a - (k + 1)) (k + 1) && (allN (pF ps) (ps.length - (a + 1)) (a + 1) && true))) := by rw [hN, allN_end hge, Bool.true_and]
              clear hN
              conv => whnf
              repeat' (first | (refine And.intro ?_ ?_; (focus (first | exact rfl | exact Nat.le_of_ble_eq_true rfl | decide | omega | fail)); conv => whnf) | (refine g_exit ?_; conv => whnf) | fail)
              first | refine ⟨(), hend, ⟨?_, ?_⟩⟩ | refine ⟨rfl, (), hend, ⟨?_, ?_⟩⟩
              · repeat' (first | exact True.intro | refine And.intro rfl ?_)
              · repeat' (first | exact True.intro | refine And.intro rfl ?_)
            · intro _ gs hret
              conv => whnf
              skip
              first
              | (refine ⟨(), hret, ⟨?_, True.intro⟩⟩; repeat' (first | exact True.intro | refine And.intro rfl ?_))
              | ((conv => lhs; whnf); rw [← hret])
              | fail
            intro _ gs hend
            conv => whnf
            repeat' (first | (refine g_op ?_; conv => whnf) | (refine And.intro ?_ ?_; (focus (first | exact rfl | exact Nat.le_of_ble_eq_true rfl | decide | omega | fail)); conv => whnf) | (refine XS.go ?_) | (refine g_ops ?_) | (refine g_nil ?_; conv => whnf) | fail)
            refine ⟨j + 1, ⟨by omega, hend⟩, by omega, ?_, ?_⟩
            · repeat' (first | exact True.intro | refine And.intro (congrArg (D.int .i64) hwj) ?_ | refine And.intro rfl ?_)
            · repeat' (first | exact True.intro | refine And.intro rfl ?_)
          have hgej : ¬ j < (ps.getD a default).fWants.length := by simpa using hb
          have hend : placesOk ps = ((allN (cK ps a) (a - (k + 1)) (k + 1) && (allN (pF ps) (ps.length - (a + 1)) (a + 1) && true))) := by rw [hNj, allN_end hgej, Bool.true_and]
          clear hNj hb
          conv => whnf
          repeat' (first | (refine And.intro ?_ ?_; (focus (first | exact rfl | exact Nat.le_of_ble_eq_true rfl | decide | omega | fail)); conv => whnf) | (refine g_exit ?_; conv => whnf) | fail)
          first | refine ⟨(), hend, ⟨?_, ?_⟩⟩ | refine ⟨rfl, (), hend, ⟨?_, ?_⟩⟩
          · repeat' (first | exact True.intro | refine And.intro rfl ?_)
          · repeat' (first | exact True.intro | refine And.intro rfl ?_)
        · intro _ gs hret
          conv => whnf
          skip
          first
          | (refine ⟨(), hret, ⟨?_, True.intro⟩⟩; repeat' (first | exact True.intro | refine And.intro rfl ?_))
          | ((conv => lhs; whnf); rw [← hret])
          | fail
        intro _ gs hend
        conv => whnf
        repeat' (first | (refine g_op ?_; conv => whnf) | (refine And.intro ?_ ?_; (focus (first | exact rfl | exact Nat.le_of_ble_eq_true rfl | decide | omega | fail)); conv => whnf) | (refine XS.go ?_) | (refine g_ops ?_) | (refine g_nil ?_; conv => whnf) | fail)
        refine ⟨k + 1, ⟨by omega, hend⟩, by omega, ?_, ?_⟩
        · repeat' (first | exact True.intro | refine And.intro (congrArg (D.int .i64) hwk) ?_ | refine And.intro rfl ?_)
        · repeat' (first | exact True.intro | refine And.intro rfl ?_)
      have hgek : ¬ k < a := by simpa using hb
      have hend : placesOk ps = ((allN (pF ps) (ps.length - (a + 1)) (a + 1) && true)) := by rw [hNk, allN_end hgek, Bool.true_and]
      clear hNk hb
      conv => whnf
      repeat' (first | (refine And.intro ?_ ?_; (focus (first | exact rfl | exact Nat.le_of_ble_eq_true rfl | decide | omega | fail)); conv => whnf) | (refine g_exit ?_; conv => whnf) | fail)
      first | refine ⟨(), hend, ⟨?_, ?_⟩⟩ | refine ⟨rfl, (), hend, ⟨?_, ?_⟩⟩
      · repeat' (first | exact True.intro | refine And.intro rfl ?_)
      · repeat' (first | exact True.intro | refine And.intro rfl ?_)
    · intro _ gs hret
      conv => whnf
      repeat' (first | (refine And.intro ?_ ?_; (focus (first | exact rfl | exact Nat.le_of_ble_eq_true rfl | decide | omega | fail)); conv => whnf) | (refine r_t ?_; conv => whnf) | (refine r_nil ?_; conv => whnf) | fail)
      first
      | (refine ⟨(), hret, ⟨?_, True.intro⟩⟩; repeat' (first | exact True.intro | refine And.intro rfl ?_))
      | ((conv => lhs; whnf); rw [← hret])
      | fail
    intro _ gs hend
    conv => whnf
    repeat' (first | (refine g_op ?_; conv => whnf) | (refine And.intro ?_ ?_; (focus (first | exact rfl | exact Nat.le_of_ble_eq_true rfl | decide | omega | fail)); conv => whnf) | (refine XS.go ?_) | (refine g_ops ?_) | (refine g_nil ?_; conv => whnf) | fail)
    refine ⟨a + 1, ⟨by omega, hend⟩, by omega, ?_, ?_⟩
    · repeat' (first | exact True.intro | refine And.intro (congrArg (D.int .i64) hwa) ?_ | refine And.intro rfl ?_)
    · repeat' (first | exact True.intro | refine And.intro rfl ?_)
  have hgea : ¬ a < ps.length := by simpa using hb
  have hend : placesOk ps = (true) := by rw [hNa, allN_end hgea, Bool.true_and]
  clear hNa hb
  conv => whnf
  repeat' (first | (refine g_op ?_; conv => whnf) | (refine And.intro ?_ ?_; (focus (first | exact rfl | exact Nat.le_of_ble_eq_true rfl | decide | omega | fail)); conv => whnf) | (refine g_seq ?_) | (refine XS.go ?_) | (refine g_ops ?_) | (refine g_nil ?_; conv => whnf) | (refine g_ret ?_; conv => whnf) | (refine g_exit ?_; conv => whnf) | (refine r_t ?_; conv => whnf) | (refine r_nil ?_; conv => whnf) | fail)
  (conv => lhs; whnf)
  rw [hend]
end Go.Ab
