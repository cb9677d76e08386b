/- Steps towards the law: contracts of functions and facts of lists. -/
import Derived.Test.YtagleaabhljkfaaMateQI
import Derived.Test.YtagleaabhljkfaaMateUM
import Derived.Test.YtagleaabhljkfaaRows
set_option linter.unusedSimpArgs false
set_option linter.unusedVariables false
namespace Go.Ab
open Go Go.RowKit Go.Proofs
attribute [local irreducible] XC Rdr IntKind.wrap xw xos xqs xr xd
set_option maxRecDepth 100000

/-- laws.FnMateStops -/
def cf6 : CF := ⟨112, [.t 2],
  (.seq (.ops [⟨some 2, .mv (.k (.bool false)), none⟩])
  (.seq (.seq (.ops [⟨some 12, .mv (.t 0), none⟩,
    ⟨some 13, .lenl (.t 12), none⟩,
    ⟨some 14, .bin .gtr (.t 13) (.k (.int .i64 1048576)), none⟩])
  (.cond (.t 14)
  (.seq (.ops [⟨some 2, .mv (.k (.bool true)), none⟩])
  .ret)
  .skip))
  (.seq (.ops [⟨some 16, .mv (.t 0), none⟩,
    ⟨some 17, .call 28 [(.t 16)], none⟩,
    ⟨some 15, .mv (.t 17), none⟩,
    ⟨some 18, .ext (.t 15) 0, none⟩,
    ⟨some 19, .ext (.t 15) 1, none⟩,
    ⟨some 20, .ext (.t 15) 2, none⟩,
    ⟨some 21, .ext (.t 15) 3, none⟩,
    ⟨some 3, .al (.agg [.agg [.str ⟨#[]⟩, .int .i64 0, .str ⟨#[]⟩, .int .i64 0, .int .i64 0, .int .i64 0, .int .i64 0], .int .i64 0, .int .i64 0, .int .i64 0, .int .i64 0]), none⟩,
    ⟨some 4, .al (.agg [.str ⟨#[]⟩, .int .i64 0, .str ⟨#[]⟩, .int .i64 0, .int .i64 0, .int .i64 0, .int .i64 0]), none⟩,
    ⟨none, .st 11 (.t 3) (.t 18), none⟩,
    ⟨none, .st 7 (.t 4) (.t 19), none⟩,
    ⟨some 5, .mv (.t 20), none⟩,
    ⟨some 6, .mv (.t 21), none⟩])
  (.seq (.ops [⟨some 23, .ld 11 true (.t 3), none⟩,
    ⟨some 24, .ld 7 true (.t 4), none⟩,
    ⟨some 25, .mv (.t 5), none⟩,
    ⟨some 26, .mv (.t 6), none⟩,
    ⟨some 27, .call 29 [(.t 23), (.t 24), (.t 25), (.t 26)], none⟩,
    ⟨some 22, .mv (.t 27), none⟩,
    ⟨some 28, .ext (.t 22) 0, none⟩,
    ⟨some 29, .ext (.t 22) 1, none⟩,
    ⟨some 7, .al (.agg [.agg [.str ⟨#[]⟩, .int .i64 0, .str ⟨#[]⟩, .int .i64 0, .int .i64 0, .int .i64 0, .int .i64 0], .int .i64 0, .int .i64 0, .int .i64 0, .int .i64 0]), none⟩,
    ⟨none, .st 11 (.t 7) (.t 28), none⟩,
    ⟨some 8, .mv (.t 29), none⟩])
  (.seq (.ops [⟨some 31, .ld 11 true (.t 3), none⟩,
    ⟨some 32, .ld 7 true (.t 4), none⟩,
    ⟨some 33, .mv (.t 5), none⟩,
    ⟨some 34, .mv (.t 6), none⟩,
    ⟨some 35, .call 30 [(.t 31), (.t 32), (.t 33), (.t 34)], none⟩,
    ⟨some 30, .mv (.t 35), none⟩,
    ⟨some 36, .ext (.t 30) 0, none⟩,
    ⟨some 37, .ext (.t 30) 1, none⟩,
    ⟨some 9, .al (.agg [.agg [.str ⟨#[]⟩, .int .i64 0, .str ⟨#[]⟩, .int .i64 0, .int .i64 0, .int .i64 0, .int .i64 0], .int .i64 0, .int .i64 0, .int .i64 0, .int .i64 0]), none⟩,
    ⟨none, .st 11 (.t 9) (.t 36), none⟩,
    ⟨some 10, .mv (.t 37), none⟩])
  (.seq (.seq (.ops [⟨some 38, .mv (.t 8), none⟩,
    ⟨some 39, .mv (.t 10), none⟩,
    ⟨some 40, .binb true (.t 38) (.t 39), none⟩,
    ⟨some 41, .mv (.t 40), none⟩,
    ⟨some 42, .ld 11 true (.t 7), some (41, false)⟩,
    ⟨some 43, .ld 11 true (.t 9), some (41, false)⟩,
    ⟨some 44, .cmp true (.agg [.agg [.str ⟨#[]⟩, .int .i64 0, .str ⟨#[]⟩, .int .i64 0, .int .i64 0, .int .i64 0, .int .i64 0], .int .i64 0, .int .i64 0, .int .i64 0, .int .i64 0]) (.t 42) (.t 43), some (41, false)⟩,
    ⟨some 45, .pick (.t 41) (.k (.bool true)) (.t 44), none⟩])
  (.cond (.t 45)
  (.seq (.ops [⟨some 2, .mv (.k (.bool false)), none⟩])
  .ret)
  .skip))
  (.seq (.seq (.ops [⟨some 46, .fa 7 1 1 (.t 3), none⟩,
    ⟨some 47, .ld 1 false (.t 46), none⟩,
    ⟨some 48, .bin .lss (.t 47) (.k (.int .i64 1)), none⟩,
    ⟨some 49, .mv (.t 48), none⟩,
    ⟨some 50, .fa 7 1 1 (.t 3), some (49, false)⟩,
    ⟨some 51, .ld 1 false (.t 50), some (49, false)⟩,
    ⟨some 52, .bin .gtr (.t 51) (.k (.int .i64 6)), some (49, false)⟩,
    ⟨some 53, .pick (.t 49) (.k (.bool true)) (.t 52), none⟩,
    ⟨some 54, .mv (.t 53), none⟩,
    ⟨some 55, .fa 0 7 0 (.t 3), some (54, false)⟩,
    ⟨some 56, .fa 6 1 6 (.t 55), some (54, false)⟩,
    ⟨some 57, .ld 1 false (.t 56), some (54, false)⟩,
    ⟨some 58, .bin .lss (.t 57) (.k (.int .i64 0)), some (54, false)⟩,
    ⟨some 59, .pick (.t 54) (.k (.bool true)) (.t 58), none⟩,
    ⟨some 60, .mv (.t 59), none⟩,
    ⟨some 61, .fa 0 7 0 (.t 3), some (60, false)⟩,
    ⟨some 62, .fa 6 1 6 (.t 61), some (60, false)⟩,
    ⟨some 63, .ld 1 false (.t 62), some (60, false)⟩,
    ⟨some 64, .bin .gtr (.t 63) (.k (.int .i64 100)), some (60, false)⟩,
    ⟨some 65, .pick (.t 60) (.k (.bool true)) (.t 64), none⟩,
    ⟨some 66, .mv (.t 65), none⟩,
    ⟨some 67, .fa 8 1 2 (.t 3), some (66, false)⟩,
    ⟨some 68, .ld 1 false (.t 67), some (66, false)⟩,
    ⟨some 69, .fa 0 7 0 (.t 3), some (66, false)⟩,
    ⟨some 70, .fa 6 1 6 (.t 69), some (66, false)⟩,
    ⟨some 71, .ld 1 false (.t 70), some (66, false)⟩,
    ⟨some 72, .bin .gtr (.t 68) (.t 71), some (66, false)⟩,
    ⟨some 73, .mv (.t 72), some (66, false)⟩,
    ⟨some 74, .fa 7 1 1 (.t 3), some (73, true)⟩,
    ⟨some 75, .ld 1 false (.t 74), some (73, true)⟩,
    ⟨some 76, .bin .eql (.t 75) (.k (.int .i64 6)), some (73, true)⟩,
    ⟨some 77, .pick (.t 73) (.t 76) (.k (.bool false)), some (66, false)⟩,
    ⟨some 78, .pick (.t 66) (.k (.bool true)) (.t 77), none⟩])
  (.cond (.t 78)
  (.seq (.ops [⟨some 2, .mv (.k (.bool true)), none⟩])
  .ret)
  .skip))
  (.seq (.ops [⟨some 79, .ld 11 true (.t 3), none⟩,
    ⟨none, .st 11 (.t 7) (.t 79), none⟩])
  (.seq (.seq (.ops [⟨some 11, .mv (.k (.int .i64 0)), none⟩])
  (.block 0 (.loop (.seq (.seq (.ops [⟨some 80, .mv (.t 11), none⟩,
    ⟨some 81, .fa 0 7 0 (.t 3), none⟩,
    ⟨some 82, .fa 6 1 6 (.t 81), none⟩,
    ⟨some 83, .ld 1 false (.t 82), none⟩,
    ⟨some 84, .bin .add (.t 83) (.k (.int .i64 2)), none⟩,
    ⟨some 85, .bin .lss (.t 80) (.t 84), none⟩])
  (.cond (.t 85)
  .skip
  (.exit 0)))
  (.seq (.block 1 (.seq (.ops [⟨some 89, .ld 11 true (.t 7), none⟩,
    ⟨some 90, .bld (.agg [.str ⟨#[]⟩, .int .i64 0, .str ⟨#[]⟩, .int .i64 0, .int .i64 0, .int .i64 0, .int .i64 0]) [], none⟩,
    ⟨some 91, .mv (.t 6), none⟩,
    ⟨some 92, .mv (.t 11), none⟩,
    ⟨some 93, .bin .add (.t 91) (.t 92), none⟩,
    ⟨some 94, .call 29 [(.t 89), (.t 90), (.k (.bool false)), (.t 93)], none⟩,
    ⟨some 88, .mv (.t 94), none⟩,
    ⟨some 95, .ext (.t 88) 0, none⟩,
    ⟨some 96, .ext (.t 88) 1, none⟩,
    ⟨none, .st 11 (.t 7) (.t 95), none⟩,
    ⟨some 8, .mv (.t 96), none⟩])
  (.seq (.seq (.ops [⟨some 97, .mv (.t 8), none⟩,
    ⟨some 98, .not (.t 97), none⟩])
  (.cond (.t 98)
  (.seq (.ops [⟨some 99, .ld 11 true (.t 7), none⟩,
    ⟨some 100, .bld (.agg [.agg [.str ⟨#[]⟩, .int .i64 0, .str ⟨#[]⟩, .int .i64 0, .int .i64 0, .int .i64 0, .int .i64 0], .int .i64 0, .int .i64 0, .int .i64 0, .int .i64 0]) [], none⟩,
    ⟨some 101, .cmp false (.agg [.agg [.str ⟨#[]⟩, .int .i64 0, .str ⟨#[]⟩, .int .i64 0, .int .i64 0, .int .i64 0, .int .i64 0], .int .i64 0, .int .i64 0, .int .i64 0, .int .i64 0]) (.t 99) (.t 100), none⟩,
    ⟨some 2, .mv (.t 101), none⟩])
  .ret)
  .skip))
  (.seq (.ops [⟨some 102, .fa 7 1 1 (.t 7), none⟩,
    ⟨some 103, .ld 1 false (.t 102), none⟩,
    ⟨some 104, .bin .neq (.t 103) (.k (.int .i64 6)), none⟩,
    ⟨some 105, .mv (.t 104), none⟩,
    ⟨some 106, .fa 0 7 0 (.t 7), some (105, false)⟩,
    ⟨some 107, .ld 7 true (.t 106), some (105, false)⟩,
    ⟨some 108, .fa 0 7 0 (.t 3), some (105, false)⟩,
    ⟨some 109, .ld 7 true (.t 108), some (105, false)⟩,
    ⟨some 110, .cmp true (.agg [.str ⟨#[]⟩, .int .i64 0, .str ⟨#[]⟩, .int .i64 0, .int .i64 0, .int .i64 0, .int .i64 0]) (.t 107) (.t 109), some (105, false)⟩,
    ⟨some 111, .pick (.t 105) (.k (.bool true)) (.t 110), none⟩])
  (.cond (.t 111)
  (.seq (.ops [⟨some 2, .mv (.k (.bool false)), none⟩])
  .ret)
  .skip)))))
  (.ops [⟨some 86, .mv (.t 11), none⟩,
    ⟨some 87, .bin .add (.t 86) (.k (.int .i64 1)), none⟩,
    ⟨some 11, .mv (.t 87), none⟩]))))))
  (.seq (.ops [⟨some 2, .mv (.k (.bool false)), none⟩])
  .ret))))))))))⟩
theorem c6 : compileF Try.prog [] 6 = some cf6 := by kernel_rfl
def stopI (r x : MateRun) (i : Nat) : Prop := (i = 0 ∧ x = r) ∨ (1 ≤ i ∧ (i : Int) ≤ r.fWant.fGrace + 2 ∧ x.fState = 6 ∧ x.fWant = r.fWant ∧ x.fLeft ≤ r.fWant.fGrace + 1 - i ∧ (2 ≤ i → 1 ≤ x.fLeft))
theorem stop_step {r x : MateRun} {i : Nat} (k : Int) (hG0 : 0 ≤ r.fWant.fGrace) (hG : r.fWant.fGrace ≤ 100) (hL : r.fState = 6 → r.fLeft ≤ r.fWant.fGrace) (hI : stopI r x i) (hi : (i : Int) < r.fWant.fGrace + 2) :
    liveR x default false k = (default, false) ∨ ∃ x', liveR x default false k = (x', true) ∧ x'.fState = 6 ∧ x'.fWant = r.fWant ∧ stopI r x' (i + 1) := by
  have e : lc1 x default false = (x.fState != 6) := by simp [lc1]
  by_cases h6 : x.fState = 6
  · have e1 : lc1 x default false = false := by rw [e]; simp [h6]
    have hw : x.fWant = r.fWant := by
      rcases hI with ⟨_, rfl⟩ | ⟨_, _, _, h, _⟩
      · rfl
      · exact h
    have hb : x.fLeft ≤ r.fWant.fGrace + 1 - i ∨ (i = 0 ∧ x.fLeft ≤ r.fWant.fGrace) := by
      rcases hI with ⟨h0, rfl⟩ | ⟨_, _, _, _, h, _⟩
      · exact .inr ⟨h0, hL h6⟩
      · exact .inl h
    by_cases hl : x.fLeft > 1
    · have e2 : lc2 x = true := by simp [lc2, h6]; exact hl
      have e3 : IntKind.wrap .i64 (x.fLeft - 1) = x.fLeft - 1 := wrap_ok (by omega) (by omega)
      refine .inr ⟨{ x with fLeft := x.fLeft - 1 }, ?_, h6, hw, .inr ⟨by omega, by omega, h6, hw, ?_, fun _ => ?_⟩⟩
      · rw [liveR, if_neg (by rw [e1]; exact Bool.false_ne_true), if_pos e2, e3]
      · show x.fLeft - 1 ≤ _
        omega
      · show 1 ≤ x.fLeft - 1
        omega
    · have e2 : lc2 x = false := by simp [lc2, h6]; omega
      refine .inl ?_
      rw [liveR, if_neg (by rw [e1]; exact Bool.false_ne_true), if_neg (by rw [e2]; exact Bool.false_ne_true), liveS, if_neg (by omega), if_neg (by omega), if_pos h6]
  · have e1 : lc1 x default false = true := by rw [e]; simp [h6]
    rcases hI with ⟨h0, rfl⟩ | ⟨_, _, h, _⟩
    · cases ha : alive x with
      | true =>
        refine .inr ⟨{ x with fState := 6, fLeft := x.fWant.fGrace }, by rw [liveR, if_pos e1, if_pos ha], rfl, rfl, .inr ⟨by omega, by omega, rfl, rfl, ?_, fun h => ?_⟩⟩
        · show x.fWant.fGrace ≤ _
          omega
        · omega
      | false =>
        exact .inl (by rw [liveR, if_pos e1, if_neg (by rw [ha]; exact Bool.false_ne_true)])
    · exact absurd h h6
set_option maxHeartbeats 8000000 in
theorem law_MateStops (c : List Int) (hl : c.length ≤ maxLen) (hb : ∀ x ∈ c, 0 ≤ x ∧ x < 256) : Rdr Try.prog 6 [.ro 1 (c.map U8D)] (.bool true) := by
  refine Rdr.intro' hm c6 (Nat.le_of_ble_eq_true rfl) ?_
  conv => whnf
  repeat' (first | (refine g_op ?_; conv => whnf) | (refine And.intro ?_ ?_; (focus (first | exact rfl | exact Nat.le_of_ble_eq_true rfl | decide | omega | fail)); conv => whnf) | (refine g_seq ?_) | (refine XS.go ?_) | (refine g_ops ?_) | (refine g_nil ?_; conv => whnf) | (refine g_cond ?_; conv => whnf) | fail)
  refine Br.mk (fun hb1 => ?_) (fun hb1 => ?_)
  · conv => whnf
    repeat' (first | (refine g_op ?_; conv => whnf) | (refine And.intro ?_ ?_; (focus (first | exact rfl | exact Nat.le_of_ble_eq_true rfl | decide | omega | fail)); conv => whnf) | (refine g_seq ?_) | (refine XS.go ?_) | (refine g_ops ?_) | (refine g_nil ?_; conv => whnf) | (refine g_ret ?_; conv => whnf) | (refine r_t ?_; conv => whnf) | (refine r_nil ?_; conv => whnf) | fail)
    rfl
  have hlen : c.length ≤ 1048576 := by simp at hb1; omega
  clear hb1
  conv => whnf
  repeat' (first | (refine g_op ?_; conv => whnf) | (refine And.intro ?_ ?_; (focus (first | exact rfl | exact Nat.le_of_ble_eq_true rfl | decide | omega | fail)); conv => whnf) | (refine g_seq ?_) | (refine XS.go ?_) | (refine g_ops ?_) | (refine g_skip ?_; conv => whnf) | fail)
  refine XCL.ask (make_Live c hlen hb) (fun d h => ?_)
  obtain ⟨r, w, wd, k, rfl⟩ := h
  have h1 := impl_Live r w wd k
  have h2 := spec_Live r w wd k
  generalize liveR r w wd k = q at h1 h2
  conv => whnf
  repeat' (first | (refine z_ld1 ?_; first | (refine z_ld rfl rfl rfl rfl (by first | (simp only [List.length_set]; assumption) | assumption | omega) (by first | exact elt_set (by first | assumption | (simp only [List.length_set]; assumption)) | assumption) ?_; conv => whnf) | (refine z_ld0 rfl ?_; conv => whnf)) | (refine z_ld1g ?_; first | (refine z_ldg rfl rfl rfl rfl rfl rfl rfl (by (repeat intro _); exact ⟨(by first | (simp only [List.length_set]; assumption) | assumption | omega), (by first | exact elt_set (by first | assumption | (simp only [List.length_set]; assumption)) | assumption)⟩) rfl rfl rfl rfl ?_; conv => whnf) | (refine z_ld0g ?_; (conv => whnf); refine And.intro ?_ ?_; (focus exact rfl); conv => whnf)) | (refine z_st1 ?_; first | (refine z_st rfl rfl rfl (by first | (simp only [List.length_set]; assumption) | assumption | omega) (by first | exact elt_set (by first | assumption | (simp only [List.length_set]; assumption)) | assumption) rfl rfl ?_; conv => whnf) | (refine z_st0 ?_; conv => whnf)) | (refine z_op ?_ ?_; (focus exact rfl); conv => whnf) | (refine z_opg0 ?_; (conv => whnf); refine And.intro ?_ ?_; (focus exact rfl); conv => whnf) | (refine z_pick ?_ ?_; (focus exact rfl); conv => whnf) | (refine zs_ops ?_ ?_; (focus exact rfl)) | (refine z_nil fun vals => ?_; conv => whnf) | (refine z_call ?_ ?_; (focus exact rfl)) | (refine z_eff ?_; conv => whnf) | (refine RC.of (h1) ?_ ?_; (focus exact rfl); conv => whnf) | (refine RC.of (h2) ?_ ?_; (focus exact rfl); conv => whnf) | (refine g_op ?_; conv => whnf) | (refine And.intro ?_ ?_; (focus (first | exact rfl | exact Nat.le_of_ble_eq_true rfl | decide | omega | fail)); conv => whnf) | (refine g_seq ?_) | (refine XS.go ?_) | (refine g_nil ?_; conv => whnf) | (refine g_cond ?_; conv => whnf) | (refine fun _ => ?_; conv => whnf) | fail)
  refine Br.f (by simp) ?_
  conv => whnf
  repeat' (first | (refine z_ld1 ?_; first | (refine z_ld rfl rfl rfl rfl (by first | (simp only [List.length_set]; assumption) | assumption | omega) (by first | exact elt_set (by first | assumption | (simp only [List.length_set]; assumption)) | assumption) ?_; conv => whnf) | (refine z_ld0 rfl ?_; conv => whnf)) | (refine z_ld1g ?_; first | (refine z_ldg rfl rfl rfl rfl rfl rfl rfl (by (repeat intro _); exact ⟨(by first | (simp only [List.length_set]; assumption) | assumption | omega), (by first | exact elt_set (by first | assumption | (simp only [List.length_set]; assumption)) | assumption)⟩) rfl rfl rfl rfl ?_; conv => whnf) | (refine z_ld0g ?_; (conv => whnf); refine And.intro ?_ ?_; (focus exact rfl); conv => whnf)) | (refine z_op ?_ ?_; (focus exact rfl); conv => whnf) | (refine z_opg0 ?_; (conv => whnf); refine And.intro ?_ ?_; (focus exact rfl); conv => whnf) | (refine z_pick ?_ ?_; (focus exact rfl); conv => whnf) | (refine z_pickg ?_; (conv => whnf); refine And.intro ?_ ?_; (focus exact rfl); conv => whnf) | (refine zs_ops ?_ ?_; (focus exact rfl)) | (refine z_nil fun vals => ?_; conv => whnf) | (refine And.intro ?_ ?_; (focus (first | exact rfl | exact Nat.le_of_ble_eq_true rfl | decide | omega | fail)); conv => whnf) | (refine g_seq ?_) | (refine XS.go ?_) | (refine g_cond ?_; conv => whnf) | (refine g_skip ?_; conv => whnf) | fail)
  refine Br.mk (fun hb1 => ?_) (fun hb1 => ?_)
  · conv => whnf
    repeat' (first | (refine g_op ?_; conv => whnf) | (refine And.intro ?_ ?_; (focus (first | exact rfl | exact Nat.le_of_ble_eq_true rfl | decide | omega | fail)); conv => whnf) | (refine g_seq ?_) | (refine XS.go ?_) | (refine g_ops ?_) | (refine g_nil ?_; conv => whnf) | (refine g_ret ?_; conv => whnf) | (refine r_t ?_; conv => whnf) | (refine r_nil ?_; conv => whnf) | fail)
    rfl
  have hG0 : 0 ≤ r.fWant.fGrace := by simp at hb1; omega
  have hG : r.fWant.fGrace ≤ 100 := by simp at hb1; omega
  have hL : r.fState = 6 → r.fLeft ≤ r.fWant.fGrace := by
    intro h6
    simp [h6] at hb1
    omega
  clear hb1 h1 h2
  conv => whnf
  repeat' (first | (refine z_ld1 ?_; first | (refine z_ld rfl rfl rfl rfl (by first | (simp only [List.length_set]; assumption) | assumption | omega) (by first | exact elt_set (by first | assumption | (simp only [List.length_set]; assumption)) | assumption) ?_; conv => whnf) | (refine z_ld0 rfl ?_; conv => whnf)) | (refine z_st1 ?_; first | (refine z_st rfl rfl rfl (by first | (simp only [List.length_set]; assumption) | assumption | omega) (by first | exact elt_set (by first | assumption | (simp only [List.length_set]; assumption)) | assumption) rfl rfl ?_; conv => whnf) | (refine z_st0 ?_; conv => whnf)) | (refine zs_ops ?_ ?_; (focus exact rfl)) | (refine z_nil fun vals => ?_; conv => whnf) | (refine g_op ?_; conv => whnf) | (refine And.intro ?_ ?_; (focus (first | exact rfl | exact Nat.le_of_ble_eq_true rfl | decide | omega | fail)); conv => whnf) | (refine g_seq ?_) | (refine XS.go ?_) | (refine g_ops ?_) | (refine g_loop ?_) | (refine g_nil ?_; conv => whnf) | (refine g_skip ?_; conv => whnf) | (refine g_block ?_) | fail)
  refine XLc.mkA (α := Nat × MateRun) (fun y => stopI r y.2 y.1) (fun y => (r.fWant.fGrace + 2).toNat - y.1) (fun y gs => [.any, .any, .any, .lref 3 (gs 3) [] 0, .any, .any, .int .i64 k, .lref 7 (gs 7) [] 0, .any, .any, .any, .int .i64 (y.1 : Int)]) (fun y gs => [(3, r.D), (7, y.2.D)]) (0, r) (.inl ⟨rfl, rfl⟩) ?_ ?_
  · refine ⟨?_, ?_⟩
    · repeat' (first | exact True.intro | refine And.intro rfl ?_)
    · exact ⟨rfl, rfl, True.intro⟩
  rintro ⟨i, x⟩ gs hI
  repeat' (first | (refine z_ld1 ?_; first | (refine z_ld rfl rfl rfl rfl (by first | (simp only [List.length_set]; assumption) | assumption | omega) (by first | exact elt_set (by first | assumption | (simp only [List.length_set]; assumption)) | assumption) ?_; conv => whnf) | (refine z_ld0 rfl ?_; conv => whnf)) | (refine z_op ?_ ?_; (focus exact rfl); conv => whnf) | (refine zs_ops ?_ ?_; (focus exact rfl)) | (refine z_nil fun vals => ?_; conv => whnf) | (refine And.intro ?_ ?_; (focus (first | exact rfl | exact Nat.le_of_ble_eq_true rfl | decide | omega | fail)); conv => whnf) | (refine g_seq ?_) | (refine XS.go ?_) | (refine g_cond ?_; conv => whnf) | fail)
  have hw2 : IntKind.wrap .i64 (r.fWant.fGrace + 2) = r.fWant.fGrace + 2 := wrap_ok (by omega) (by omega)
  refine Br.mk (fun hb1 => ?_) (fun hb1 => ?_)
  · have hi : (i : Int) < r.fWant.fGrace + 2 := by rw [hw2] at hb1; simpa using hb1
    clear hb1
    have hq := impl_Live x default false (IntKind.wrap .i64 (k + i))
    have hw : IntKind.wrap .i64 ((i : Int) + 1) = ((i + 1 : Nat) : Int) := by rw [wrap_ok (by omega) (by omega)]; rfl
    rcases stop_step (IntKind.wrap .i64 (k + i)) hG0 hG hL hI hi with e | ⟨x', e, h6, hW, hI'⟩
    · rw [e] at hq
      conv => whnf
      repeat' (first | (refine z_ld1 ?_; first | (refine z_ld rfl rfl rfl rfl (by first | (simp only [List.length_set]; assumption) | assumption | omega) (by first | exact elt_set (by first | assumption | (simp only [List.length_set]; assumption)) | assumption) ?_; conv => whnf) | (refine z_ld0 rfl ?_; conv => whnf)) | (refine z_st1 ?_; first | (refine z_st rfl rfl rfl (by first | (simp only [List.length_set]; assumption) | assumption | omega) (by first | exact elt_set (by first | assumption | (simp only [List.length_set]; assumption)) | assumption) rfl rfl ?_; conv => whnf) | (refine z_st0 ?_; conv => whnf)) | (refine z_op ?_ ?_; (focus exact rfl); conv => whnf) | (refine zs_ops ?_ ?_; (focus exact rfl)) | (refine z_nil fun vals => ?_; conv => whnf) | (refine z_call ?_ ?_; (focus exact rfl)) | (refine RC.of (hq) ?_ ?_; (focus exact rfl); conv => whnf) | (refine g_op ?_; conv => whnf) | (refine And.intro ?_ ?_; (focus (first | exact rfl | exact Nat.le_of_ble_eq_true rfl | decide | omega | fail)); conv => whnf) | (refine g_seq ?_) | (refine XS.go ?_) | (refine g_ops ?_) | (refine g_nil ?_; conv => whnf) | (refine Br.t ?_ ?_; (focus (first | assumption | exact rfl)); conv => whnf) | (refine g_cond ?_; conv => whnf) | (refine g_skip ?_; conv => whnf) | (refine g_ret ?_; conv => whnf) | (refine g_block ?_) | (refine r_t ?_; conv => whnf) | (refine r_nil ?_; conv => whnf) | fail)
      (conv => lhs; whnf)
      refine congrArg D.bool ?_
      first | exact rfl | decide | (simp [default]; done) | (trace_state; fail)
    · rw [e] at hq
      clear e
      conv => whnf
      repeat' (first | (refine z_ld1 ?_; first | (refine z_ld rfl rfl rfl rfl (by first | (simp only [List.length_set]; assumption) | assumption | omega) (by first | exact elt_set (by first | assumption | (simp only [List.length_set]; assumption)) | assumption) ?_; conv => whnf) | (refine z_ld0 rfl ?_; conv => whnf)) | (refine z_ld1g ?_; first | (refine z_ldg rfl rfl rfl rfl rfl rfl rfl (by (repeat intro _); exact ⟨(by first | (simp only [List.length_set]; assumption) | assumption | omega), (by first | exact elt_set (by first | assumption | (simp only [List.length_set]; assumption)) | assumption)⟩) rfl rfl rfl rfl ?_; conv => whnf) | (refine z_ld0g ?_; (conv => whnf); refine And.intro ?_ ?_; (focus exact rfl); conv => whnf)) | (refine z_st1 ?_; first | (refine z_st rfl rfl rfl (by first | (simp only [List.length_set]; assumption) | assumption | omega) (by first | exact elt_set (by first | assumption | (simp only [List.length_set]; assumption)) | assumption) rfl rfl ?_; conv => whnf) | (refine z_st0 ?_; conv => whnf)) | (refine z_op ?_ ?_; (focus exact rfl); conv => whnf) | (refine z_opg0 ?_; (conv => whnf); refine And.intro ?_ ?_; (focus exact rfl); conv => whnf) | (refine z_pick ?_ ?_; (focus exact rfl); conv => whnf) | (refine zs_ops ?_ ?_; (focus exact rfl)) | (refine z_nil fun vals => ?_; conv => whnf) | (refine z_call ?_ ?_; (focus exact rfl)) | (refine RC.of (hq) ?_ ?_; (focus exact rfl); conv => whnf) | (refine g_op ?_; conv => whnf) | (refine And.intro ?_ ?_; (focus (first | exact rfl | exact Nat.le_of_ble_eq_true rfl | decide | omega | fail)); conv => whnf) | (refine g_seq ?_) | (refine XS.go ?_) | (refine g_ops ?_) | (refine g_nil ?_; conv => whnf) | (refine Br.f ?_ ?_; (focus (first | assumption | exact rfl)); conv => whnf) | (refine g_cond ?_; conv => whnf) | (refine g_skip ?_; conv => whnf) | (refine g_block ?_) | fail)
      refine Br.f (by simp [h6, hW]) ?_
      conv => whnf
      repeat' (first | (refine g_op ?_; conv => whnf) | (refine And.intro ?_ ?_; (focus (first | exact rfl | exact Nat.le_of_ble_eq_true rfl | decide | omega | fail)); conv => whnf) | (refine XS.go ?_) | (refine g_ops ?_) | (refine g_nil ?_; conv => whnf) | (refine g_skip ?_; conv => whnf) | fail)
      refine ⟨(i + 1, x'), hI', ?_, ?_, ?_⟩
      · show (r.fWant.fGrace + 2).toNat - (i + 1) < (r.fWant.fGrace + 2).toNat - i
        omega
      · repeat' (first | exact True.intro | refine And.intro (congrArg (D.int .i64) hw) ?_ | refine And.intro rfl ?_)
      · exact ⟨rfl, rfl, True.intro⟩
  · exfalso
    have hi : ¬ (i : Int) < r.fWant.fGrace + 2 := by rw [hw2] at hb1; simpa using hb1
    rcases hI with ⟨h0, _⟩ | ⟨h1, h2, _, _, h3, h4⟩
    · dsimp only at h0
      omega
    · dsimp only at h1 h2 h3 h4
      omega
theorem u8_wf {n : Int} (h : (Lit.int .u8 n).wf = true) : 0 ≤ n ∧ n < 256 := by
  simp only [Lit.wf, IntKind.min, IntKind.max, IntKind.signed, IntKind.bits, Bool.and_eq_true, decide_eq_true_eq, if_true, Bool.false_eq_true, if_false] at h
  omega
theorem u8_list : ∀ {ds : List Go.Ab.D}, (∀ x ∈ ds, Has (.int .u8) x) → ∃ c : List Int, ds = c.map U8D ∧ ∀ x ∈ c, 0 ≤ x ∧ x < 256
  | [], _ => ⟨[], rfl, by simp⟩
  | d :: ds, h => by
    obtain ⟨c, rfl, hc⟩ := u8_list (ds := ds) (fun x hx => h x (by simp [hx]))
    have h1 := h d (by simp)
    rw [Has] at h1
    obtain ⟨n, rfl, hn⟩ := h1
    refine ⟨n :: c, rfl, fun x hx => ?_⟩
    rcases List.mem_cons.1 hx with rfl | hx
    · exact u8_wf hn
    · exact hc x hx
end Go.Ab
