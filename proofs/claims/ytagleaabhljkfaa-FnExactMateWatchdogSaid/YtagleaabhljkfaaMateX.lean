/- The watchdog, the program's and the reference's. -/
import Derived.Test.YtagleaabhljkfaaMateW
import Derived.Test.YtagleaabhljkfaaRows
set_option linter.unusedSimpArgs false
set_option linter.unusedVariables false
namespace Go.Ab
open Go Go.RowKit Go.Proofs
attribute [local irreducible] XC Rdr IntKind.wrap xw xos xqs xr xd
set_option maxRecDepth 100000

/-- spec.MateWatchdog -/
def cf31 : CF := ⟨34, [.t 4],
  (.seq (.ops [⟨some 4, .mv (.k (.nil)), none⟩])
  (.seq (.ops [⟨some 8, .bsl (.agg [.agg [.str ⟨#[]⟩, .int .i64 0, .str ⟨#[]⟩, .int .i64 0, .int .i64 0, .int .i64 0, .int .i64 0], .int .i64 0, .int .i64 0, .int .i64 0, .int .i64 0]) 0 [], none⟩,
    ⟨some 5, .mv (.t 8), none⟩])
  (.seq (.seq (.ops [⟨some 6, .mv (.k (.int .i64 0)), none⟩])
  (.block 0 (.loop (.seq (.seq (.ops [⟨some 9, .mv (.t 6), none⟩,
    ⟨some 10, .mv (.t 0), none⟩,
    ⟨some 11, .lenl (.t 10), none⟩,
    ⟨some 12, .bin .lss (.t 9) (.t 11), none⟩])
  (.cond (.t 12)
  .skip
  (.exit 0)))
  (.seq (.block 1 (.seq (.ops [⟨some 15, .mv (.t 0), none⟩,
    ⟨some 16, .mv (.t 6), none⟩,
    ⟨some 17, .ix 11 (.t 15) (.t 16), none⟩,
    ⟨some 18, .ld 11 true (.t 17), none⟩,
    ⟨some 7, .al (.agg [.agg [.str ⟨#[]⟩, .int .i64 0, .str ⟨#[]⟩, .int .i64 0, .int .i64 0, .int .i64 0, .int .i64 0], .int .i64 0, .int .i64 0, .int .i64 0, .int .i64 0]), none⟩,
    ⟨none, .st 11 (.t 7) (.t 18), none⟩])
  (.seq (.seq (.ops [⟨some 19, .ld 11 true (.t 7), none⟩,
    ⟨some 20, .call 15 [(.t 19)], none⟩,
    ⟨some 21, .mv (.t 20), none⟩,
    ⟨some 22, .ld 11 true (.t 7), some (21, true)⟩,
    ⟨some 23, .mv (.t 1), some (21, true)⟩,
    ⟨some 24, .call 76 [(.t 22), (.t 23)], some (21, true)⟩,
    ⟨some 25, .not (.t 24), some (21, true)⟩,
    ⟨some 26, .pick (.t 21) (.t 25) (.k (.bool false)), none⟩])
  (.cond (.t 26)
  (.seq (.ops [⟨some 27, .fa 7 1 1 (.t 7), none⟩,
    ⟨none, .st 1 (.t 27) (.k (.int .i64 2)), none⟩])
  (.ops [⟨some 28, .fa 8 1 2 (.t 7), none⟩,
    ⟨none, .st 1 (.t 28) (.k (.int .i64 0)), none⟩]))
  .skip))
  (.ops [⟨some 29, .mv (.t 5), none⟩,
    ⟨some 30, .ld 11 true (.t 7), none⟩,
    ⟨some 31, .bsl (.agg [.agg [.str ⟨#[]⟩, .int .i64 0, .str ⟨#[]⟩, .int .i64 0, .int .i64 0, .int .i64 0, .int .i64 0], .int .i64 0, .int .i64 0, .int .i64 0, .int .i64 0]) 1 [(0, (.t 30))], none⟩,
    ⟨some 32, .app 11 104 (.t 29) (.t 31), none⟩,
    ⟨some 5, .mv (.t 32), none⟩]))))
  (.ops [⟨some 13, .mv (.t 6), none⟩,
    ⟨some 14, .bin .add (.t 13) (.k (.int .i64 1)), none⟩,
    ⟨some 6, .mv (.t 14), none⟩]))))))
  (.seq (.ops [⟨some 33, .mv (.t 5), none⟩,
    ⟨some 4, .mv (.t 33), none⟩])
  .ret))))⟩
theorem c31 : compileF Try.prog [] 31 = some cf31 := by kernel_rfl
/-- impl.MateWatchdog -/
def cf32 : CF := ⟨47, [.t 4],
  (.seq (.ops [⟨some 4, .mv (.k (.nil)), none⟩])
  (.seq (.ops [⟨some 8, .mv (.t 0), none⟩,
    ⟨some 9, .app 11 104 (.k (.nil)) (.t 8), none⟩,
    ⟨some 5, .mv (.t 9), none⟩])
  (.seq (.seq (.ops [⟨some 10, .mv (.t 5), none⟩,
    ⟨some 11, .lenl (.t 10), none⟩,
    ⟨some 12, .mv (.k (.int .i64 0)), none⟩])
  (.block 0 (.loop (.seq (.ops [⟨some 13, .bin .lss (.t 12) (.t 11), none⟩])
  (.seq (.cond (.t 13)
  .skip
  (.exit 0))
  (.seq (.block 1 (.seq (.ops [⟨some 14, .mv (.t 12), none⟩,
    ⟨some 6, .mv (.t 14), none⟩])
  (.seq (.ops [⟨some 15, .mv (.t 5), none⟩,
    ⟨some 16, .mv (.t 6), none⟩,
    ⟨some 17, .ix 11 (.t 15) (.t 16), none⟩,
    ⟨some 7, .mv (.t 17), none⟩])
  (.seq (.ops [⟨some 18, .mv (.t 7), none⟩,
    ⟨some 19, .nilc (.t 18), none⟩,
    ⟨some 20, .ld 11 true (.t 19), none⟩,
    ⟨some 21, .call 17 [(.t 20)], none⟩,
    ⟨some 22, .mv (.t 21), none⟩,
    ⟨some 23, .mv (.t 7), some (22, true)⟩,
    ⟨some 24, .nilc (.t 23), some (22, true)⟩,
    ⟨some 25, .fa 0 7 0 (.t 24), some (22, true)⟩,
    ⟨some 26, .fa 2 1 2 (.t 25), some (22, true)⟩,
    ⟨some 27, .ld 1 false (.t 26), some (22, true)⟩,
    ⟨some 28, .bin .neq (.t 27) (.k (.str ⟨#[]⟩)), some (22, true)⟩,
    ⟨some 29, .pick (.t 22) (.t 28) (.k (.bool false)), none⟩,
    ⟨some 30, .mv (.t 29), none⟩,
    ⟨some 31, .mv (.t 7), some (30, true)⟩,
    ⟨some 32, .nilc (.t 31), some (30, true)⟩,
    ⟨some 33, .fa 10 1 4 (.t 32), some (30, true)⟩,
    ⟨some 34, .ld 1 false (.t 33), some (30, true)⟩,
    ⟨some 35, .mv (.t 1), some (30, true)⟩,
    ⟨some 36, .bin .add (.t 35) (.k (.int .i64 4)), some (30, true)⟩,
    ⟨some 37, .bin .lss (.t 34) (.t 36), some (30, true)⟩,
    ⟨some 38, .pick (.t 30) (.t 37) (.k (.bool false)), none⟩])
  (.cond (.t 38)
  (.ops [⟨some 39, .mv (.t 7), none⟩,
    ⟨some 40, .mv (.t 7), none⟩,
    ⟨some 41, .nilc (.t 39), none⟩,
    ⟨some 42, .fa 7 1 1 (.t 41), none⟩,
    ⟨none, .st 1 (.t 42) (.k (.int .i64 2)), none⟩,
    ⟨some 43, .nilc (.t 40), none⟩,
    ⟨some 44, .fa 8 1 2 (.t 43), none⟩,
    ⟨none, .st 1 (.t 44) (.k (.int .i64 0)), none⟩])
  .skip)))))
  (.ops [⟨some 45, .bin .add (.t 12) (.k (.int .i64 1)), none⟩,
    ⟨some 12, .mv (.t 45), none⟩])))))))
  (.seq (.ops [⟨some 46, .mv (.t 5), none⟩,
    ⟨some 4, .mv (.t 46), none⟩])
  .ret))))⟩
theorem c32 : compileF Try.prog [] 32 = some cf32 := by kernel_rfl
def wdog (r : MateRun) (c : Int) : MateRun := if alive r && !leased r c then { r with fState := 2, fLeft := 0 } else r
set_option maxHeartbeats 4000000 in
theorem spec_Watchdog (xs : List MateRun) (c : Int) (hl : xs.length ≤ 1048576) : Rdr Try.prog 31 [.ro 11 (xs.map MateRun.D), .int .i64 c] (.ro 11 ((xs.map fun r => wdog r c).map MateRun.D)) := by
  refine Rdr.introF hm [32] rfl c31 (Nat.le_of_ble_eq_true rfl) ?_
  conv => whnf
  repeat' (first
    | (refine g_op ?_; conv => whnf)
    | (refine And.intro ?_ ?_; (focus (first | exact rfl | exact Nat.le_of_ble_eq_true rfl | decide | omega | fail)); conv => whnf)
    | (refine g_seq ?_)
    | (refine g_ops ?_)
    | (refine g_loop ?_)
    | (refine g_nil ?_; conv => whnf)
    | (refine g_opg ?_; conv => whnf)
    | (refine Br.t ?_ ?_; (focus (first | assumption | exact rfl)); conv => whnf)
    | (refine Br.f ?_ ?_; (focus (first | assumption | exact rfl)); conv => whnf)
    | (refine g_cond ?_; conv => whnf)
    | (refine g_skip ?_; conv => whnf)
    | (refine g_ret ?_; conv => whnf)
    | (refine g_exit ?_; conv => whnf)
    | (refine g_block ?_)
    | (refine g_quiet ?_)
    | (refine g_drawn ?_)
    | (refine d_p ?_; conv => whnf)
    | (refine d_pg ?_; conv => whnf)
    | (refine d_e ?_; conv => whnf)
    | (refine d_eg ?_; conv => whnf)
    | (refine d_nil ?_; conv => whnf)
    | (refine q_op ?_; conv => whnf)
    | (refine q_nil ?_; conv => whnf)
    | (refine q_opg ?_; conv => whnf)
    | (refine r_t ?_; conv => whnf)
    | (refine r_c ?_; conv => whnf)
    | (refine r_nil ?_; conv => whnf)
    | (refine fun _ => ?_; conv => whnf)
    | fail)
  refine XS.go ?_
  repeat' (first
    | (refine g_op ?_; conv => whnf)
    | (refine And.intro ?_ ?_; (focus (first | exact rfl | exact Nat.le_of_ble_eq_true rfl | decide | omega | fail)); conv => whnf)
    | (refine g_seq ?_)
    | (refine g_ops ?_)
    | (refine g_loop ?_)
    | (refine g_nil ?_; conv => whnf)
    | (refine g_opg ?_; conv => whnf)
    | (refine Br.t ?_ ?_; (focus (first | assumption | exact rfl)); conv => whnf)
    | (refine Br.f ?_ ?_; (focus (first | assumption | exact rfl)); conv => whnf)
    | (refine g_cond ?_; conv => whnf)
    | (refine g_skip ?_; conv => whnf)
    | (refine g_ret ?_; conv => whnf)
    | (refine g_exit ?_; conv => whnf)
    | (refine g_block ?_)
    | (refine g_quiet ?_)
    | (refine g_drawn ?_)
    | (refine d_p ?_; conv => whnf)
    | (refine d_pg ?_; conv => whnf)
    | (refine d_e ?_; conv => whnf)
    | (refine d_eg ?_; conv => whnf)
    | (refine d_nil ?_; conv => whnf)
    | (refine q_op ?_; conv => whnf)
    | (refine q_nil ?_; conv => whnf)
    | (refine q_opg ?_; conv => whnf)
    | (refine r_t ?_; conv => whnf)
    | (refine r_c ?_; conv => whnf)
    | (refine r_nil ?_; conv => whnf)
    | (refine fun _ => ?_; conv => whnf)
    | fail)
  refine XS.own 5 32 11 rfl fun b => ?_
  repeat' (first
    | (refine z_ld1 ?_; first | (refine z_ld rfl rfl rfl rfl (by first | (simp only [List.length_set]; assumption) | assumption | omega) (by first | exact elt_set (by first | assumption | (simp only [List.length_set]; assumption)) | assumption) ?_; conv => whnf) | (refine z_ld0 rfl ?_; conv => whnf))
    | (refine z_ld1g ?_; first | (refine z_ldg rfl rfl rfl rfl rfl rfl rfl (by (repeat intro _); exact ⟨(by first | (simp only [List.length_set]; assumption) | assumption | omega), (by first | exact elt_set (by first | assumption | (simp only [List.length_set]; assumption)) | assumption)⟩) rfl rfl rfl rfl ?_; conv => whnf) | (refine z_ld0g ?_; (conv => whnf); refine And.intro ?_ ?_; (focus exact rfl); conv => whnf))
    | (refine z_st1 ?_; first | (refine z_st rfl rfl rfl (by first | (simp only [List.length_set]; assumption) | assumption | omega) (by first | exact elt_set (by first | assumption | (simp only [List.length_set]; assumption)) | assumption) rfl rfl ?_; conv => whnf) | (refine z_st0 ?_; conv => whnf))
    | (refine z_ix1 ?_; first | (refine z_ix rfl rfl rfl rfl rfl ⟨by first | omega | (simp only [decide_eq_true_eq, Bool.not_eq_true', Bool.or_eq_false_iff, decide_eq_false_iff_not, Bool.and_eq_true, Bool.not_eq_false'] at *; omega), by first | omega | (simp only [decide_eq_true_eq, Bool.not_eq_true', Bool.or_eq_false_iff, decide_eq_false_iff_not, Bool.and_eq_true, Bool.not_eq_false'] at *; omega)⟩ ?_; conv => whnf) | (refine z_ix0 rfl rfl ?_; conv => whnf))
    | (refine z_ix1g ?_; refine z_ixg rfl rfl rfl rfl rfl rfl rfl (by (repeat intro _); refine ⟨?_, ?_⟩ <;> first | omega | (simp only [decide_eq_true_eq, Bool.not_eq_true', Bool.or_eq_false_iff, decide_eq_false_iff_not, Bool.and_eq_true, Bool.not_eq_false'] at *; omega)) ?_)
    | (refine z_op ?_ ?_; (focus exact rfl); conv => whnf)
    | (refine z_opg0 ?_; (conv => whnf); refine And.intro ?_ ?_; (focus exact rfl); conv => whnf)
    | (refine z_pick ?_ ?_; (focus exact rfl); conv => whnf)
    | (refine z_pickg ?_; (conv => whnf); refine And.intro ?_ ?_; (focus exact rfl); conv => whnf)
    | (refine zs_ops ?_ ?_; (focus exact rfl))
    | (refine zs_quiet ?_ ?_; (focus exact rfl))
    | (refine zs_decl ?_)
    | (refine z_nil fun vals => ?_; conv => whnf)
    | (refine z_call ?_ ?_; (focus exact rfl))
    | (refine z_eff ?_; conv => whnf)
    | (refine z_callg0 ?_; (conv => whnf); refine And.intro ?_ ?_; (focus exact rfl))
    | (refine g_op ?_; conv => whnf)
    | (refine And.intro ?_ ?_; (focus (first | exact rfl | exact Nat.le_of_ble_eq_true rfl | decide | omega | fail)); conv => whnf)
    | (refine g_seq ?_)
    | (refine XS.go ?_)
    | (refine g_ops ?_)
    | (refine g_loop ?_)
    | (refine g_nil ?_; conv => whnf)
    | (refine g_opg ?_; conv => whnf)
    | (refine Br.t ?_ ?_; (focus (first | assumption | exact rfl)); conv => whnf)
    | (refine Br.f ?_ ?_; (focus (first | assumption | exact rfl)); conv => whnf)
    | (refine g_cond ?_; conv => whnf)
    | (refine g_skip ?_; conv => whnf)
    | (refine g_ret ?_; conv => whnf)
    | (refine g_exit ?_; conv => whnf)
    | (refine g_block ?_)
    | (refine g_quiet ?_)
    | (refine g_drawn ?_)
    | (refine d_p ?_; conv => whnf)
    | (refine d_pg ?_; conv => whnf)
    | (refine d_e ?_; conv => whnf)
    | (refine d_eg ?_; conv => whnf)
    | (refine d_nil ?_; conv => whnf)
    | (refine q_op ?_; conv => whnf)
    | (refine q_nil ?_; conv => whnf)
    | (refine q_opg ?_; conv => whnf)
    | (refine r_t ?_; conv => whnf)
    | (refine r_c ?_; conv => whnf)
    | (refine r_nil ?_; conv => whnf)
    | (refine fun _ => ?_; conv => whnf)
    | fail)
  refine XLc.mkA (α := Nat × Nat) (fun i => i.1 ≤ xs.length ∧ i.1 ≤ i.2) (fun i => xs.length - i.1) (fun i gs => [.ro 11 (xs.map MateRun.D), .int .i64 c, .any, .any, .nil, .lsl 32 (gs 32) i.1 i.2, .int .i64 (i.1 : Int)]) (fun i gs => [(32, .arr 11 ((xs.take i.1).map fun r => (wdog r c).D) i.2)]) (0, 0) ⟨Nat.zero_le _, Nat.le_refl _⟩ ?_ ?_
  · refine ⟨?_, ?_⟩
    · repeat' (first | exact True.intro | refine And.intro rfl ?_)
    · refine And.intro rfl True.intro
  intro i gs hI
  obtain ⟨i, cp⟩ := i
  obtain ⟨hi0, hi1⟩ := hI
  simp only at hi0 hi1
  dsimp only
  repeat' (first
    | (refine z_ld1 ?_; first | (refine z_ld rfl rfl rfl rfl (by first | (simp only [List.length_set]; assumption) | assumption | omega) (by first | exact elt_set (by first | assumption | (simp only [List.length_set]; assumption)) | assumption) ?_; conv => whnf) | (refine z_ld0 rfl ?_; conv => whnf))
    | (refine z_ld1g ?_; first | (refine z_ldg rfl rfl rfl rfl rfl rfl rfl (by (repeat intro _); exact ⟨(by first | (simp only [List.length_set]; assumption) | assumption | omega), (by first | exact elt_set (by first | assumption | (simp only [List.length_set]; assumption)) | assumption)⟩) rfl rfl rfl rfl ?_; conv => whnf) | (refine z_ld0g ?_; (conv => whnf); refine And.intro ?_ ?_; (focus exact rfl); conv => whnf))
    | (refine z_st1 ?_; first | (refine z_st rfl rfl rfl (by first | (simp only [List.length_set]; assumption) | assumption | omega) (by first | exact elt_set (by first | assumption | (simp only [List.length_set]; assumption)) | assumption) rfl rfl ?_; conv => whnf) | (refine z_st0 ?_; conv => whnf))
    | (refine z_ix1 ?_; first | (refine z_ix rfl rfl rfl rfl rfl ⟨by first | omega | (simp only [decide_eq_true_eq, Bool.not_eq_true', Bool.or_eq_false_iff, decide_eq_false_iff_not, Bool.and_eq_true, Bool.not_eq_false'] at *; omega), by first | omega | (simp only [decide_eq_true_eq, Bool.not_eq_true', Bool.or_eq_false_iff, decide_eq_false_iff_not, Bool.and_eq_true, Bool.not_eq_false'] at *; omega)⟩ ?_; conv => whnf) | (refine z_ix0 rfl rfl ?_; conv => whnf))
    | (refine z_ix1g ?_; refine z_ixg rfl rfl rfl rfl rfl rfl rfl (by (repeat intro _); refine ⟨?_, ?_⟩ <;> first | omega | (simp only [decide_eq_true_eq, Bool.not_eq_true', Bool.or_eq_false_iff, decide_eq_false_iff_not, Bool.and_eq_true, Bool.not_eq_false'] at *; omega)) ?_)
    | (refine z_op ?_ ?_; (focus exact rfl); conv => whnf)
    | (refine z_opg0 ?_; (conv => whnf); refine And.intro ?_ ?_; (focus exact rfl); conv => whnf)
    | (refine z_pick ?_ ?_; (focus exact rfl); conv => whnf)
    | (refine z_pickg ?_; (conv => whnf); refine And.intro ?_ ?_; (focus exact rfl); conv => whnf)
    | (refine zs_ops ?_ ?_; (focus exact rfl))
    | (refine zs_quiet ?_ ?_; (focus exact rfl))
    | (refine zs_decl ?_)
    | (refine z_nil fun vals => ?_; conv => whnf)
    | (refine z_call ?_ ?_; (focus exact rfl))
    | (refine z_eff ?_; conv => whnf)
    | (refine z_callg0 ?_; (conv => whnf); refine And.intro ?_ ?_; (focus exact rfl))
    | (refine g_op ?_; conv => whnf)
    | (refine And.intro ?_ ?_; (focus (first | exact rfl | exact Nat.le_of_ble_eq_true rfl | decide | omega | fail)); conv => whnf)
    | (refine g_seq ?_)
    | (refine XS.go ?_)
    | (refine g_ops ?_)
    | (refine g_loop ?_)
    | (refine g_nil ?_; conv => whnf)
    | (refine g_opg ?_; conv => whnf)
    | (refine Br.t ?_ ?_; (focus (first | assumption | exact rfl)); conv => whnf)
    | (refine Br.f ?_ ?_; (focus (first | assumption | exact rfl)); conv => whnf)
    | (refine g_cond ?_; conv => whnf)
    | (refine g_skip ?_; conv => whnf)
    | (refine g_ret ?_; conv => whnf)
    | (refine g_exit ?_; conv => whnf)
    | (refine g_block ?_)
    | (refine g_quiet ?_)
    | (refine g_drawn ?_)
    | (refine d_p ?_; conv => whnf)
    | (refine d_pg ?_; conv => whnf)
    | (refine d_e ?_; conv => whnf)
    | (refine d_eg ?_; conv => whnf)
    | (refine d_nil ?_; conv => whnf)
    | (refine q_op ?_; conv => whnf)
    | (refine q_nil ?_; conv => whnf)
    | (refine q_opg ?_; conv => whnf)
    | (refine r_t ?_; conv => whnf)
    | (refine r_c ?_; conv => whnf)
    | (refine r_nil ?_; conv => whnf)
    | (refine fun _ => ?_; conv => whnf)
    | fail)
  refine Br.mk (fun hb => ?_) (fun hb => ?_)
  · have hlt : i < xs.length := by simpa using hb
    have hfin : ∀ d, d = (wdog (xs.getD i default) c).D → ((xs.take i).map fun r => (wdog r c).D) ++ [d] = (xs.take (i + 1)).map fun r => (wdog r c).D := fun d h => by rw [h]; exact take_snoc (fun r => (wdog r c).D) hlt
    conv => whnf
    repeat' (first
      | (refine z_ld1 ?_; first | (refine z_ld rfl rfl rfl rfl (by first | (simp only [List.length_set]; assumption) | assumption | omega) (by first | exact elt_set (by first | assumption | (simp only [List.length_set]; assumption)) | assumption) ?_; conv => whnf) | (refine z_ld0 rfl ?_; conv => whnf))
      | (refine z_ld1g ?_; first | (refine z_ldg rfl rfl rfl rfl rfl rfl rfl (by (repeat intro _); exact ⟨(by first | (simp only [List.length_set]; assumption) | assumption | omega), (by first | exact elt_set (by first | assumption | (simp only [List.length_set]; assumption)) | assumption)⟩) rfl rfl rfl rfl ?_; conv => whnf) | (refine z_ld0g ?_; (conv => whnf); refine And.intro ?_ ?_; (focus exact rfl); conv => whnf))
      | (refine z_st1 ?_; first | (refine z_st rfl rfl rfl (by first | (simp only [List.length_set]; assumption) | assumption | omega) (by first | exact elt_set (by first | assumption | (simp only [List.length_set]; assumption)) | assumption) rfl rfl ?_; conv => whnf) | (refine z_st0 ?_; conv => whnf))
      | (refine z_ix1 ?_; first | (refine z_ix rfl rfl rfl rfl rfl ⟨by first | omega | (simp only [decide_eq_true_eq, Bool.not_eq_true', Bool.or_eq_false_iff, decide_eq_false_iff_not, Bool.and_eq_true, Bool.not_eq_false'] at *; omega), by first | omega | (simp only [decide_eq_true_eq, Bool.not_eq_true', Bool.or_eq_false_iff, decide_eq_false_iff_not, Bool.and_eq_true, Bool.not_eq_false'] at *; omega)⟩ ?_; conv => whnf) | (refine z_ix0 rfl rfl ?_; conv => whnf))
      | (refine z_ix1g ?_; refine z_ixg rfl rfl rfl rfl rfl rfl rfl (by (repeat intro _); refine ⟨?_, ?_⟩ <;> first | omega | (simp only [decide_eq_true_eq, Bool.not_eq_true', Bool.or_eq_false_iff, decide_eq_false_iff_not, Bool.and_eq_true, Bool.not_eq_false'] at *; omega)) ?_)
      | (refine z_op ?_ ?_; (focus exact rfl); conv => whnf)
      | (refine z_opg0 ?_; (conv => whnf); refine And.intro ?_ ?_; (focus exact rfl); conv => whnf)
      | (refine z_pick ?_ ?_; (focus exact rfl); conv => whnf)
      | (refine z_pickg ?_; (conv => whnf); refine And.intro ?_ ?_; (focus exact rfl); conv => whnf)
      | (refine zs_ops ?_ ?_; (focus exact rfl))
      | (refine zs_quiet ?_ ?_; (focus exact rfl))
      | (refine zs_decl ?_)
      | (refine z_nil fun vals => ?_; conv => whnf)
      | (refine z_call ?_ ?_; (focus exact rfl))
      | (refine z_eff ?_; conv => whnf)
      | (refine z_callg0 ?_; (conv => whnf); refine And.intro ?_ ?_; (focus exact rfl))
      | (refine RC.of (spec_Alive (xs.getD i default)) ?_ ?_; (focus exact rfl); conv => whnf)
      | (refine RC.of (spec_Leased (xs.getD i default) _) ?_ ?_; (focus exact rfl); conv => whnf)
      | (refine g_op ?_; conv => whnf)
      | (refine And.intro ?_ ?_; (focus (first | exact rfl | exact Nat.le_of_ble_eq_true rfl | decide | omega | fail)); conv => whnf)
      | (refine g_seq ?_)
      | (refine XS.go ?_)
      | (refine g_ops ?_)
      | (refine g_loop ?_)
      | (refine g_nil ?_; conv => whnf)
      | (refine g_opg ?_; conv => whnf)
      | (refine Br.t ?_ ?_; (focus (first | assumption | exact rfl)); conv => whnf)
      | (refine Br.f ?_ ?_; (focus (first | assumption | exact rfl)); conv => whnf)
      | (refine g_cond ?_; conv => whnf)
      | (refine g_skip ?_; conv => whnf)
      | (refine g_ret ?_; conv => whnf)
      | (refine g_exit ?_; conv => whnf)
      | (refine g_block ?_)
      | (refine g_quiet ?_)
      | (refine g_drawn ?_)
      | (refine d_p ?_; conv => whnf)
      | (refine d_pg ?_; conv => whnf)
      | (refine d_e ?_; conv => whnf)
      | (refine d_eg ?_; conv => whnf)
      | (refine d_nil ?_; conv => whnf)
      | (refine q_op ?_; conv => whnf)
      | (refine q_nil ?_; conv => whnf)
      | (refine q_opg ?_; conv => whnf)
      | (refine r_t ?_; conv => whnf)
      | (refine r_c ?_; conv => whnf)
      | (refine r_nil ?_; conv => whnf)
      | (refine fun _ => ?_; conv => whnf)
      | (refine Br.mk (fun hb => ?_) (fun hb => ?_) <;> conv => whnf)
      | (refine XCL.of_rdr (spec_Alive (xs.getD i default)) ?_; conv => whnf)
      | (refine XCL.of_rdr (spec_Leased (xs.getD i default) _) ?_; conv => whnf)
      | (refine QC.of_rdr (spec_Alive (xs.getD i default)) ?_; conv => whnf)
      | (refine QC.of_rdr (spec_Leased (xs.getD i default) _) ?_; conv => whnf)
      | fail)
    · have hel : wdog (xs.getD i default) c = { xs.getD i default with fState := 2, fLeft := 0 } := by simp only [wdog]; rw [if_pos hb]
      refine ⟨by simp; omega, rfl, ?_⟩
      conv => whnf
      refine ⟨rfl, ?_⟩
      conv => whnf
      refine ⟨rfl, rfl, rfl, ?_⟩
      conv => whnf
      refine ⟨?_, Nat.le_of_ble_eq_true rfl, (by decide), fun n' b' c' hn hc => ?_⟩
      · show _ + 1 ≤ 1073741824
        rw [List.length_map, List.length_take]; omega
      have hn : n' = i + 1 := by
        rw [hn, List.length_map, List.length_take]
        show min i xs.length + 1 = _
        omega
      subst hn
      conv => whnf
      repeat' (first
        | (refine z_ld1 ?_; first | (refine z_ld rfl rfl rfl rfl (by first | (simp only [List.length_set]; assumption) | assumption | omega) (by first | exact elt_set (by first | assumption | (simp only [List.length_set]; assumption)) | assumption) ?_; conv => whnf) | (refine z_ld0 rfl ?_; conv => whnf))
        | (refine z_ld1g ?_; first | (refine z_ldg rfl rfl rfl rfl rfl rfl rfl (by (repeat intro _); exact ⟨(by first | (simp only [List.length_set]; assumption) | assumption | omega), (by first | exact elt_set (by first | assumption | (simp only [List.length_set]; assumption)) | assumption)⟩) rfl rfl rfl rfl ?_; conv => whnf) | (refine z_ld0g ?_; (conv => whnf); refine And.intro ?_ ?_; (focus exact rfl); conv => whnf))
        | (refine z_st1 ?_; first | (refine z_st rfl rfl rfl (by first | (simp only [List.length_set]; assumption) | assumption | omega) (by first | exact elt_set (by first | assumption | (simp only [List.length_set]; assumption)) | assumption) rfl rfl ?_; conv => whnf) | (refine z_st0 ?_; conv => whnf))
        | (refine z_ix1 ?_; first | (refine z_ix rfl rfl rfl rfl rfl ⟨by first | omega | (simp only [decide_eq_true_eq, Bool.not_eq_true', Bool.or_eq_false_iff, decide_eq_false_iff_not, Bool.and_eq_true, Bool.not_eq_false'] at *; omega), by first | omega | (simp only [decide_eq_true_eq, Bool.not_eq_true', Bool.or_eq_false_iff, decide_eq_false_iff_not, Bool.and_eq_true, Bool.not_eq_false'] at *; omega)⟩ ?_; conv => whnf) | (refine z_ix0 rfl rfl ?_; conv => whnf))
        | (refine z_ix1g ?_; refine z_ixg rfl rfl rfl rfl rfl rfl rfl (by (repeat intro _); refine ⟨?_, ?_⟩ <;> first | omega | (simp only [decide_eq_true_eq, Bool.not_eq_true', Bool.or_eq_false_iff, decide_eq_false_iff_not, Bool.and_eq_true, Bool.not_eq_false'] at *; omega)) ?_)
        | (refine z_op ?_ ?_; (focus exact rfl); conv => whnf)
        | (refine z_opg0 ?_; (conv => whnf); refine And.intro ?_ ?_; (focus exact rfl); conv => whnf)
        | (refine z_pick ?_ ?_; (focus exact rfl); conv => whnf)
        | (refine z_pickg ?_; (conv => whnf); refine And.intro ?_ ?_; (focus exact rfl); conv => whnf)
        | (refine zs_ops ?_ ?_; (focus exact rfl))
        | (refine zs_quiet ?_ ?_; (focus exact rfl))
        | (refine zs_decl ?_)
        | (refine z_nil fun vals => ?_; conv => whnf)
        | (refine z_call ?_ ?_; (focus exact rfl))
        | (refine z_eff ?_; conv => whnf)
        | (refine z_callg0 ?_; (conv => whnf); refine And.intro ?_ ?_; (focus exact rfl))
        | (refine g_op ?_; conv => whnf)
        | (refine And.intro ?_ ?_; (focus (first | exact rfl | exact Nat.le_of_ble_eq_true rfl | decide | omega | fail)); conv => whnf)
        | (refine g_seq ?_)
        | (refine XS.go ?_)
        | (refine g_ops ?_)
        | (refine g_loop ?_)
        | (refine g_nil ?_; conv => whnf)
        | (refine g_opg ?_; conv => whnf)
        | (refine Br.t ?_ ?_; (focus (first | assumption | exact rfl)); conv => whnf)
        | (refine Br.f ?_ ?_; (focus (first | assumption | exact rfl)); conv => whnf)
        | (refine g_cond ?_; conv => whnf)
        | (refine g_skip ?_; conv => whnf)
        | (refine g_ret ?_; conv => whnf)
        | (refine g_exit ?_; conv => whnf)
        | (refine g_block ?_)
        | (refine g_quiet ?_)
        | (refine g_drawn ?_)
        | (refine d_p ?_; conv => whnf)
        | (refine d_pg ?_; conv => whnf)
        | (refine d_e ?_; conv => whnf)
        | (refine d_eg ?_; conv => whnf)
        | (refine d_nil ?_; conv => whnf)
        | (refine q_op ?_; conv => whnf)
        | (refine q_nil ?_; conv => whnf)
        | (refine q_opg ?_; conv => whnf)
        | (refine r_t ?_; conv => whnf)
        | (refine r_c ?_; conv => whnf)
        | (refine r_nil ?_; conv => whnf)
        | (refine fun _ => ?_; conv => whnf)
        | fail)
      refine ⟨(i + 1, c'), ⟨by simp only; omega, by simp only; omega⟩, by simp only; omega, ?_, ?_⟩
      · have hw : IntKind.wrap .i64 ((i : Int) + 1) = ((i + 1 : Nat) : Int) := by rw [wrap_ok (by omega) (by omega)]; rfl
        repeat' (first | exact True.intro | refine And.intro (congrArg (D.int .i64) hw) ?_ | refine And.intro rfl ?_)
      · exact ⟨congrArg (fun l => some (D.arr 11 l c')) (hfin _ (by rw [hel]; rfl)), True.intro⟩
    · have hel : wdog (xs.getD i default) c = xs.getD i default := by simp only [wdog]; rw [if_neg (by simp only [hb]; decide)]
      refine ⟨by simp; omega, rfl, ?_⟩
      conv => whnf
      refine ⟨rfl, ?_⟩
      conv => whnf
      refine ⟨rfl, rfl, rfl, ?_⟩
      conv => whnf
      refine ⟨?_, Nat.le_of_ble_eq_true rfl, (by decide), fun n' b' c' hn hc => ?_⟩
      · show _ + 1 ≤ 1073741824
        rw [List.length_map, List.length_take]; omega
      have hn : n' = i + 1 := by
        rw [hn, List.length_map, List.length_take]
        show min i xs.length + 1 = _
        omega
      subst hn
      conv => whnf
      repeat' (first
        | (refine z_ld1 ?_; first | (refine z_ld rfl rfl rfl rfl (by first | (simp only [List.length_set]; assumption) | assumption | omega) (by first | exact elt_set (by first | assumption | (simp only [List.length_set]; assumption)) | assumption) ?_; conv => whnf) | (refine z_ld0 rfl ?_; conv => whnf))
        | (refine z_ld1g ?_; first | (refine z_ldg rfl rfl rfl rfl rfl rfl rfl (by (repeat intro _); exact ⟨(by first | (simp only [List.length_set]; assumption) | assumption | omega), (by first | exact elt_set (by first | assumption | (simp only [List.length_set]; assumption)) | assumption)⟩) rfl rfl rfl rfl ?_; conv => whnf) | (refine z_ld0g ?_; (conv => whnf); refine And.intro ?_ ?_; (focus exact rfl); conv => whnf))
        | (refine z_st1 ?_; first | (refine z_st rfl rfl rfl (by first | (simp only [List.length_set]; assumption) | assumption | omega) (by first | exact elt_set (by first | assumption | (simp only [List.length_set]; assumption)) | assumption) rfl rfl ?_; conv => whnf) | (refine z_st0 ?_; conv => whnf))
        | (refine z_ix1 ?_; first | (refine z_ix rfl rfl rfl rfl rfl ⟨by first | omega | (simp only [decide_eq_true_eq, Bool.not_eq_true', Bool.or_eq_false_iff, decide_eq_false_iff_not, Bool.and_eq_true, Bool.not_eq_false'] at *; omega), by first | omega | (simp only [decide_eq_true_eq, Bool.not_eq_true', Bool.or_eq_false_iff, decide_eq_false_iff_not, Bool.and_eq_true, Bool.not_eq_false'] at *; omega)⟩ ?_; conv => whnf) | (refine z_ix0 rfl rfl ?_; conv => whnf))
        | (refine z_ix1g ?_; refine z_ixg rfl rfl rfl rfl rfl rfl rfl (by (repeat intro _); refine ⟨?_, ?_⟩ <;> first | omega | (simp only [decide_eq_true_eq, Bool.not_eq_true', Bool.or_eq_false_iff, decide_eq_false_iff_not, Bool.and_eq_true, Bool.not_eq_false'] at *; omega)) ?_)
        | (refine z_op ?_ ?_; (focus exact rfl); conv => whnf)
        | (refine z_opg0 ?_; (conv => whnf); refine And.intro ?_ ?_; (focus exact rfl); conv => whnf)
        | (refine z_pick ?_ ?_; (focus exact rfl); conv => whnf)
        | (refine z_pickg ?_; (conv => whnf); refine And.intro ?_ ?_; (focus exact rfl); conv => whnf)
        | (refine zs_ops ?_ ?_; (focus exact rfl))
        | (refine zs_quiet ?_ ?_; (focus exact rfl))
        | (refine zs_decl ?_)
        | (refine z_nil fun vals => ?_; conv => whnf)
        | (refine z_call ?_ ?_; (focus exact rfl))
        | (refine z_eff ?_; conv => whnf)
        | (refine z_callg0 ?_; (conv => whnf); refine And.intro ?_ ?_; (focus exact rfl))
        | (refine g_op ?_; conv => whnf)
        | (refine And.intro ?_ ?_; (focus (first | exact rfl | exact Nat.le_of_ble_eq_true rfl | decide | omega | fail)); conv => whnf)
        | (refine g_seq ?_)
        | (refine XS.go ?_)
        | (refine g_ops ?_)
        | (refine g_loop ?_)
        | (refine g_nil ?_; conv => whnf)
        | (refine g_opg ?_; conv => whnf)
        | (refine Br.t ?_ ?_; (focus (first | assumption | exact rfl)); conv => whnf)
        | (refine Br.f ?_ ?_; (focus (first | assumption | exact rfl)); conv => whnf)
        | (refine g_cond ?_; conv => whnf)
        | (refine g_skip ?_; conv => whnf)
        | (refine g_ret ?_; conv => whnf)
        | (refine g_exit ?_; conv => whnf)
        | (refine g_block ?_)
        | (refine g_quiet ?_)
        | (refine g_drawn ?_)
        | (refine d_p ?_; conv => whnf)
        | (refine d_pg ?_; conv => whnf)
        | (refine d_e ?_; conv => whnf)
        | (refine d_eg ?_; conv => whnf)
        | (refine d_nil ?_; conv => whnf)
        | (refine q_op ?_; conv => whnf)
        | (refine q_nil ?_; conv => whnf)
        | (refine q_opg ?_; conv => whnf)
        | (refine r_t ?_; conv => whnf)
        | (refine r_c ?_; conv => whnf)
        | (refine r_nil ?_; conv => whnf)
        | (refine fun _ => ?_; conv => whnf)
        | fail)
      refine ⟨(i + 1, c'), ⟨by simp only; omega, by simp only; omega⟩, by simp only; omega, ?_, ?_⟩
      · have hw : IntKind.wrap .i64 ((i : Int) + 1) = ((i + 1 : Nat) : Int) := by rw [wrap_ok (by omega) (by omega)]; rfl
        repeat' (first | exact True.intro | refine And.intro (congrArg (D.int .i64) hw) ?_ | refine And.intro rfl ?_)
      · exact ⟨congrArg (fun l => some (D.arr 11 l c')) (hfin _ (by rw [hel]; rfl)), True.intro⟩
  have hi : i = xs.length := by
    have : ¬ i < xs.length := by simpa using hb
    omega
  subst hi
  rw [List.take_length]
  conv => whnf
  repeat' (first
    | (refine z_ld1 ?_; first | (refine z_ld rfl rfl rfl rfl (by first | (simp only [List.length_set]; assumption) | assumption | omega) (by first | exact elt_set (by first | assumption | (simp only [List.length_set]; assumption)) | assumption) ?_; conv => whnf) | (refine z_ld0 rfl ?_; conv => whnf))
    | (refine z_ld1g ?_; first | (refine z_ldg rfl rfl rfl rfl rfl rfl rfl (by (repeat intro _); exact ⟨(by first | (simp only [List.length_set]; assumption) | assumption | omega), (by first | exact elt_set (by first | assumption | (simp only [List.length_set]; assumption)) | assumption)⟩) rfl rfl rfl rfl ?_; conv => whnf) | (refine z_ld0g ?_; (conv => whnf); refine And.intro ?_ ?_; (focus exact rfl); conv => whnf))
    | (refine z_st1 ?_; first | (refine z_st rfl rfl rfl (by first | (simp only [List.length_set]; assumption) | assumption | omega) (by first | exact elt_set (by first | assumption | (simp only [List.length_set]; assumption)) | assumption) rfl rfl ?_; conv => whnf) | (refine z_st0 ?_; conv => whnf))
    | (refine z_ix1 ?_; first | (refine z_ix rfl rfl rfl rfl rfl ⟨by first | omega | (simp only [decide_eq_true_eq, Bool.not_eq_true', Bool.or_eq_false_iff, decide_eq_false_iff_not, Bool.and_eq_true, Bool.not_eq_false'] at *; omega), by first | omega | (simp only [decide_eq_true_eq, Bool.not_eq_true', Bool.or_eq_false_iff, decide_eq_false_iff_not, Bool.and_eq_true, Bool.not_eq_false'] at *; omega)⟩ ?_; conv => whnf) | (refine z_ix0 rfl rfl ?_; conv => whnf))
    | (refine z_ix1g ?_; refine z_ixg rfl rfl rfl rfl rfl rfl rfl (by (repeat intro _); refine ⟨?_, ?_⟩ <;> first | omega | (simp only [decide_eq_true_eq, Bool.not_eq_true', Bool.or_eq_false_iff, decide_eq_false_iff_not, Bool.and_eq_true, Bool.not_eq_false'] at *; omega)) ?_)
    | (refine z_op ?_ ?_; (focus exact rfl); conv => whnf)
    | (refine z_opg0 ?_; (conv => whnf); refine And.intro ?_ ?_; (focus exact rfl); conv => whnf)
    | (refine z_pick ?_ ?_; (focus exact rfl); conv => whnf)
    | (refine z_pickg ?_; (conv => whnf); refine And.intro ?_ ?_; (focus exact rfl); conv => whnf)
    | (refine zs_ops ?_ ?_; (focus exact rfl))
    | (refine zs_quiet ?_ ?_; (focus exact rfl))
    | (refine zs_decl ?_)
    | (refine z_nil fun vals => ?_; conv => whnf)
    | (refine z_call ?_ ?_; (focus exact rfl))
    | (refine z_eff ?_; conv => whnf)
    | (refine z_callg0 ?_; (conv => whnf); refine And.intro ?_ ?_; (focus exact rfl))
    | (refine g_op ?_; conv => whnf)
    | (refine And.intro ?_ ?_; (focus (first | exact rfl | exact Nat.le_of_ble_eq_true rfl | decide | omega | fail)); conv => whnf)
    | (refine g_seq ?_)
    | (refine XS.go ?_)
    | (refine g_ops ?_)
    | (refine g_loop ?_)
    | (refine g_nil ?_; conv => whnf)
    | (refine g_opg ?_; conv => whnf)
    | (refine Br.t ?_ ?_; (focus (first | assumption | exact rfl)); conv => whnf)
    | (refine Br.f ?_ ?_; (focus (first | assumption | exact rfl)); conv => whnf)
    | (refine g_cond ?_; conv => whnf)
    | (refine g_skip ?_; conv => whnf)
    | (refine g_ret ?_; conv => whnf)
    | (refine g_exit ?_; conv => whnf)
    | (refine g_block ?_)
    | (refine g_quiet ?_)
    | (refine g_drawn ?_)
    | (refine d_p ?_; conv => whnf)
    | (refine d_pg ?_; conv => whnf)
    | (refine d_e ?_; conv => whnf)
    | (refine d_eg ?_; conv => whnf)
    | (refine d_nil ?_; conv => whnf)
    | (refine q_op ?_; conv => whnf)
    | (refine q_nil ?_; conv => whnf)
    | (refine q_opg ?_; conv => whnf)
    | (refine r_t ?_; conv => whnf)
    | (refine r_c ?_; conv => whnf)
    | (refine r_nil ?_; conv => whnf)
    | (refine fun _ => ?_; conv => whnf)
    | fail)
  refine ⟨⟨rfl, Nat.le_of_eq (by simp)⟩, ?_⟩
  show D.ro 11 ((D.frozs (xs.map fun r => (wdog r c).D)).take xs.length) = _
  rw [D.frozs_map (fun x => rfl), List.map_map, List.take_of_length_le (by simp)]
  rfl
set_option maxHeartbeats 4000000 in
theorem impl_Watchdog (xs : List MateRun) (b0 c0 : Nat) (c : Int) (hl : xs.length ≤ 1048576) : XC Try.prog 32 [.lsl 7 b0 xs.length c0, .int .i64 c] [(7, b0, .arr 11 (xs.map MateRun.D) c0)] (fun d ls => ∃ b c1, xs.length ≤ c1 ∧ d = .lsl 9 b xs.length c1 ∧ ls = [(7, b0, .arr 11 (xs.map MateRun.D) c0), (9, b, .arr 11 ((xs.map fun r => wdog r c).map MateRun.D) c1)]) := by
  refine XC.intro' hm [7, 9] rfl c32 (Nat.le_of_ble_eq_true rfl) ?_
  conv => whnf
  repeat' (first
    | (refine g_op ?_; conv => whnf)
    | (refine And.intro ?_ ?_; (focus (first | exact rfl | exact Nat.le_of_ble_eq_true rfl | decide | omega | fail)); conv => whnf)
    | (refine g_seq ?_)
    | (refine g_ops ?_)
    | (refine g_loop ?_)
    | (refine g_nil ?_; conv => whnf)
    | (refine g_opg ?_; conv => whnf)
    | (refine Br.t ?_ ?_; (focus (first | assumption | exact rfl)); conv => whnf)
    | (refine Br.f ?_ ?_; (focus (first | assumption | exact rfl)); conv => whnf)
    | (refine g_cond ?_; conv => whnf)
    | (refine g_skip ?_; conv => whnf)
    | (refine g_ret ?_; conv => whnf)
    | (refine g_exit ?_; conv => whnf)
    | (refine g_block ?_)
    | (refine g_quiet ?_)
    | (refine g_drawn ?_)
    | (refine d_p ?_; conv => whnf)
    | (refine d_pg ?_; conv => whnf)
    | (refine d_e ?_; conv => whnf)
    | (refine d_eg ?_; conv => whnf)
    | (refine d_nil ?_; conv => whnf)
    | (refine q_op ?_; conv => whnf)
    | (refine q_nil ?_; conv => whnf)
    | (refine q_opg ?_; conv => whnf)
    | (refine r_t ?_; conv => whnf)
    | (refine r_c ?_; conv => whnf)
    | (refine r_nil ?_; conv => whnf)
    | (refine fun _ => ?_; conv => whnf)
    | fail)
  refine XS.go ?_
  repeat' (first
    | (refine g_op ?_; conv => whnf)
    | (refine And.intro ?_ ?_; (focus (first | exact rfl | exact Nat.le_of_ble_eq_true rfl | decide | omega | fail)); conv => whnf)
    | (refine g_seq ?_)
    | (refine g_ops ?_)
    | (refine g_loop ?_)
    | (refine g_nil ?_; conv => whnf)
    | (refine g_opg ?_; conv => whnf)
    | (refine Br.t ?_ ?_; (focus (first | assumption | exact rfl)); conv => whnf)
    | (refine Br.f ?_ ?_; (focus (first | assumption | exact rfl)); conv => whnf)
    | (refine g_cond ?_; conv => whnf)
    | (refine g_skip ?_; conv => whnf)
    | (refine g_ret ?_; conv => whnf)
    | (refine g_exit ?_; conv => whnf)
    | (refine g_block ?_)
    | (refine g_quiet ?_)
    | (refine g_drawn ?_)
    | (refine d_p ?_; conv => whnf)
    | (refine d_pg ?_; conv => whnf)
    | (refine d_e ?_; conv => whnf)
    | (refine d_eg ?_; conv => whnf)
    | (refine d_nil ?_; conv => whnf)
    | (refine q_op ?_; conv => whnf)
    | (refine q_nil ?_; conv => whnf)
    | (refine q_opg ?_; conv => whnf)
    | (refine r_t ?_; conv => whnf)
    | (refine r_c ?_; conv => whnf)
    | (refine r_nil ?_; conv => whnf)
    | (refine fun _ => ?_; conv => whnf)
    | fail)
  refine ⟨by simp, by rw [List.map_map]; rfl, ?_⟩
  conv => whnf
  refine ⟨by show 0 + _ ≤ _; simp; omega, Nat.le_of_ble_eq_true rfl, by decide, fun n' b1 c1 hn hc => ?_⟩
  have hn : n' = xs.length := by rw [hn]; show 0 + _ = _; simp
  subst hn
  conv => whnf
  repeat' (first
    | (refine z_ld1 ?_; first | (refine z_ld rfl rfl rfl rfl (by first | (simp only [List.length_set]; assumption) | assumption | omega) (by first | exact elt_set (by first | assumption | (simp only [List.length_set]; assumption)) | assumption) ?_; conv => whnf) | (refine z_ld0 rfl ?_; conv => whnf))
    | (refine z_ld1g ?_; first | (refine z_ldg rfl rfl rfl rfl rfl rfl rfl (by (repeat intro _); exact ⟨(by first | (simp only [List.length_set]; assumption) | assumption | omega), (by first | exact elt_set (by first | assumption | (simp only [List.length_set]; assumption)) | assumption)⟩) rfl rfl rfl rfl ?_; conv => whnf) | (refine z_ld0g ?_; (conv => whnf); refine And.intro ?_ ?_; (focus exact rfl); conv => whnf))
    | (refine z_st1 ?_; first | (refine z_st rfl rfl rfl (by first | (simp only [List.length_set]; assumption) | assumption | omega) (by first | exact elt_set (by first | assumption | (simp only [List.length_set]; assumption)) | assumption) rfl rfl ?_; conv => whnf) | (refine z_st0 ?_; conv => whnf))
    | (refine z_ix1 ?_; first | (refine z_ix rfl rfl rfl rfl rfl ⟨by first | omega | (simp only [decide_eq_true_eq, Bool.not_eq_true', Bool.or_eq_false_iff, decide_eq_false_iff_not, Bool.and_eq_true, Bool.not_eq_false'] at *; omega), by first | omega | (simp only [decide_eq_true_eq, Bool.not_eq_true', Bool.or_eq_false_iff, decide_eq_false_iff_not, Bool.and_eq_true, Bool.not_eq_false'] at *; omega)⟩ ?_; conv => whnf) | (refine z_ix0 rfl rfl ?_; conv => whnf))
    | (refine z_ix1g ?_; refine z_ixg rfl rfl rfl rfl rfl rfl rfl (by (repeat intro _); refine ⟨?_, ?_⟩ <;> first | omega | (simp only [decide_eq_true_eq, Bool.not_eq_true', Bool.or_eq_false_iff, decide_eq_false_iff_not, Bool.and_eq_true, Bool.not_eq_false'] at *; omega)) ?_)
    | (refine z_op ?_ ?_; (focus exact rfl); conv => whnf)
    | (refine z_opg0 ?_; (conv => whnf); refine And.intro ?_ ?_; (focus exact rfl); conv => whnf)
    | (refine z_pick ?_ ?_; (focus exact rfl); conv => whnf)
    | (refine z_pickg ?_; (conv => whnf); refine And.intro ?_ ?_; (focus exact rfl); conv => whnf)
    | (refine zs_ops ?_ ?_; (focus exact rfl))
    | (refine zs_quiet ?_ ?_; (focus exact rfl))
    | (refine zs_decl ?_)
    | (refine z_nil fun vals => ?_; conv => whnf)
    | (refine z_call ?_ ?_; (focus exact rfl))
    | (refine z_eff ?_; conv => whnf)
    | (refine z_callg0 ?_; (conv => whnf); refine And.intro ?_ ?_; (focus exact rfl))
    | (refine g_op ?_; conv => whnf)
    | (refine And.intro ?_ ?_; (focus (first | exact rfl | exact Nat.le_of_ble_eq_true rfl | decide | omega | fail)); conv => whnf)
    | (refine g_seq ?_)
    | (refine XS.go ?_)
    | (refine g_ops ?_)
    | (refine g_loop ?_)
    | (refine g_nil ?_; conv => whnf)
    | (refine g_opg ?_; conv => whnf)
    | (refine Br.t ?_ ?_; (focus (first | assumption | exact rfl)); conv => whnf)
    | (refine Br.f ?_ ?_; (focus (first | assumption | exact rfl)); conv => whnf)
    | (refine g_cond ?_; conv => whnf)
    | (refine g_skip ?_; conv => whnf)
    | (refine g_ret ?_; conv => whnf)
    | (refine g_exit ?_; conv => whnf)
    | (refine g_block ?_)
    | (refine g_quiet ?_)
    | (refine g_drawn ?_)
    | (refine d_p ?_; conv => whnf)
    | (refine d_pg ?_; conv => whnf)
    | (refine d_e ?_; conv => whnf)
    | (refine d_eg ?_; conv => whnf)
    | (refine d_nil ?_; conv => whnf)
    | (refine q_op ?_; conv => whnf)
    | (refine q_nil ?_; conv => whnf)
    | (refine q_opg ?_; conv => whnf)
    | (refine r_t ?_; conv => whnf)
    | (refine r_c ?_; conv => whnf)
    | (refine r_nil ?_; conv => whnf)
    | (refine fun _ => ?_; conv => whnf)
    | fail)
  refine XLc.mkG (α := Nat) (fun i gs => i ≤ xs.length ∧ gs 7 = b0) (fun i => xs.length - i) (fun i gs => [.any, .int .i64 c, .any, .any, .nil, .lsl 9 (gs 9) xs.length c1, .any, .any, .any, .any, .any, .int .i64 (xs.length : Int), .int .i64 (i : Int)]) (fun i gs => [(7, .arr 11 (xs.map MateRun.D) c0), (9, .arr 11 ((part (fun r => wdog r c) xs i).map MateRun.D) c1)]) 0 ⟨Nat.zero_le _, rfl⟩ ?_ ?_
  · refine ⟨?_, ?_⟩
    · repeat' (first | exact True.intro | refine And.intro rfl ?_)
    · refine And.intro rfl (And.intro rfl True.intro)
  intro i gs hI
  obtain ⟨hi0, hg⟩ := hI
  repeat' (first
    | (refine z_ld1 ?_; first | (refine z_ld rfl rfl rfl rfl (by first | (simp only [List.length_set]; assumption) | assumption | omega) (by first | exact elt_set (by first | assumption | (simp only [List.length_set]; assumption)) | assumption) ?_; conv => whnf) | (refine z_ld0 rfl ?_; conv => whnf))
    | (refine z_ld1g ?_; first | (refine z_ldg rfl rfl rfl rfl rfl rfl rfl (by (repeat intro _); exact ⟨(by first | (simp only [List.length_set]; assumption) | assumption | omega), (by first | exact elt_set (by first | assumption | (simp only [List.length_set]; assumption)) | assumption)⟩) rfl rfl rfl rfl ?_; conv => whnf) | (refine z_ld0g ?_; (conv => whnf); refine And.intro ?_ ?_; (focus exact rfl); conv => whnf))
    | (refine z_st1 ?_; first | (refine z_st rfl rfl rfl (by first | (simp only [List.length_set]; assumption) | assumption | omega) (by first | exact elt_set (by first | assumption | (simp only [List.length_set]; assumption)) | assumption) rfl rfl ?_; conv => whnf) | (refine z_st0 ?_; conv => whnf))
    | (refine z_ix1 ?_; first | (refine z_ix rfl rfl rfl rfl rfl ⟨by first | omega | (simp only [decide_eq_true_eq, Bool.not_eq_true', Bool.or_eq_false_iff, decide_eq_false_iff_not, Bool.and_eq_true, Bool.not_eq_false'] at *; omega), by first | omega | (simp only [decide_eq_true_eq, Bool.not_eq_true', Bool.or_eq_false_iff, decide_eq_false_iff_not, Bool.and_eq_true, Bool.not_eq_false'] at *; omega)⟩ ?_; conv => whnf) | (refine z_ix0 rfl rfl ?_; conv => whnf))
    | (refine z_ix1g ?_; refine z_ixg rfl rfl rfl rfl rfl rfl rfl (by (repeat intro _); refine ⟨?_, ?_⟩ <;> first | omega | (simp only [decide_eq_true_eq, Bool.not_eq_true', Bool.or_eq_false_iff, decide_eq_false_iff_not, Bool.and_eq_true, Bool.not_eq_false'] at *; omega)) ?_)
    | (refine z_op ?_ ?_; (focus exact rfl); conv => whnf)
    | (refine z_opg0 ?_; (conv => whnf); refine And.intro ?_ ?_; (focus exact rfl); conv => whnf)
    | (refine z_pick ?_ ?_; (focus exact rfl); conv => whnf)
    | (refine z_pickg ?_; (conv => whnf); refine And.intro ?_ ?_; (focus exact rfl); conv => whnf)
    | (refine zs_ops ?_ ?_; (focus exact rfl))
    | (refine zs_quiet ?_ ?_; (focus exact rfl))
    | (refine zs_decl ?_)
    | (refine z_nil fun vals => ?_; conv => whnf)
    | (refine z_call ?_ ?_; (focus exact rfl))
    | (refine z_eff ?_; conv => whnf)
    | (refine z_callg0 ?_; (conv => whnf); refine And.intro ?_ ?_; (focus exact rfl))
    | (refine g_op ?_; conv => whnf)
    | (refine And.intro ?_ ?_; (focus (first | exact rfl | exact Nat.le_of_ble_eq_true rfl | decide | omega | fail)); conv => whnf)
    | (refine g_seq ?_)
    | (refine XS.go ?_)
    | (refine g_ops ?_)
    | (refine g_loop ?_)
    | (refine g_nil ?_; conv => whnf)
    | (refine g_opg ?_; conv => whnf)
    | (refine Br.t ?_ ?_; (focus (first | assumption | exact rfl)); conv => whnf)
    | (refine Br.f ?_ ?_; (focus (first | assumption | exact rfl)); conv => whnf)
    | (refine g_cond ?_; conv => whnf)
    | (refine g_skip ?_; conv => whnf)
    | (refine g_ret ?_; conv => whnf)
    | (refine g_exit ?_; conv => whnf)
    | (refine g_block ?_)
    | (refine g_quiet ?_)
    | (refine g_drawn ?_)
    | (refine d_p ?_; conv => whnf)
    | (refine d_pg ?_; conv => whnf)
    | (refine d_e ?_; conv => whnf)
    | (refine d_eg ?_; conv => whnf)
    | (refine d_nil ?_; conv => whnf)
    | (refine q_op ?_; conv => whnf)
    | (refine q_nil ?_; conv => whnf)
    | (refine q_opg ?_; conv => whnf)
    | (refine r_t ?_; conv => whnf)
    | (refine r_c ?_; conv => whnf)
    | (refine r_nil ?_; conv => whnf)
    | (refine fun _ => ?_; conv => whnf)
    | fail)
  refine Br.mk (fun hb => ?_) (fun hb => ?_)
  · have hlt : i < xs.length := by simpa using hb
    have hj0 : i < ((part (fun r => wdog r c) xs i).map MateRun.D).length := by rw [List.length_map, part_len]; exact hlt
    have he0 : ((part (fun r => wdog r c) xs i).map MateRun.D).getD i .any = (xs.getD i default).D := by
      rw [elt_map (by rw [part_len]; exact hlt), part_get _ _ hlt]
    have hfin : ∀ X d, d = (wdog (xs.getD i default) c).D → (((part (fun r => wdog r c) xs i).map MateRun.D).set i X).set i d = (part (fun r => wdog r c) xs (i + 1)).map MateRun.D := fun X d h => by
      rw [List.set_set, h, ← part_set (fun r => wdog r c) default hlt, List.map_set]
    have hsame : wdog (xs.getD i default) c = xs.getD i default → (part (fun r => wdog r c) xs i).map MateRun.D = (part (fun r => wdog r c) xs (i + 1)).map MateRun.D := fun h => by
      rw [← part_set (fun r => wdog r c) default hlt, h, ← part_get (fun r => wdog r c) default hlt]
      congr 1
      have hq : i < (part (fun r => wdog r c) xs i).length := by rw [part_len]; exact hlt
      rw [show (part (fun r => wdog r c) xs i).getD i default = (part (fun r => wdog r c) xs i)[i] by simp [hq]]
      simp
    conv => whnf
    repeat' (first
      | (refine z_ld1 ?_; first | (refine z_ld rfl rfl rfl rfl (by first | (simp only [List.length_set]; assumption) | assumption | omega) (by first | exact elt_set (by first | assumption | (simp only [List.length_set]; assumption)) | assumption) ?_; conv => whnf) | (refine z_ld0 rfl ?_; conv => whnf))
      | (refine z_ld1g ?_; first | (refine z_ldg rfl rfl rfl rfl rfl rfl rfl (by (repeat intro _); exact ⟨(by first | (simp only [List.length_set]; assumption) | assumption | omega), (by first | exact elt_set (by first | assumption | (simp only [List.length_set]; assumption)) | assumption)⟩) rfl rfl rfl rfl ?_; conv => whnf) | (refine z_ld0g ?_; (conv => whnf); refine And.intro ?_ ?_; (focus exact rfl); conv => whnf))
      | (refine z_st1 ?_; first | (refine z_st rfl rfl rfl (by first | (simp only [List.length_set]; assumption) | assumption | omega) (by first | exact elt_set (by first | assumption | (simp only [List.length_set]; assumption)) | assumption) rfl rfl ?_; conv => whnf) | (refine z_st0 ?_; conv => whnf))
      | (refine z_ix1 ?_; first | (refine z_ix rfl rfl rfl rfl rfl ⟨by first | omega | (simp only [decide_eq_true_eq, Bool.not_eq_true', Bool.or_eq_false_iff, decide_eq_false_iff_not, Bool.and_eq_true, Bool.not_eq_false'] at *; omega), by first | omega | (simp only [decide_eq_true_eq, Bool.not_eq_true', Bool.or_eq_false_iff, decide_eq_false_iff_not, Bool.and_eq_true, Bool.not_eq_false'] at *; omega)⟩ ?_; conv => whnf) | (refine z_ix0 rfl rfl ?_; conv => whnf))
      | (refine z_ix1g ?_; refine z_ixg rfl rfl rfl rfl rfl rfl rfl (by (repeat intro _); refine ⟨?_, ?_⟩ <;> first | omega | (simp only [decide_eq_true_eq, Bool.not_eq_true', Bool.or_eq_false_iff, decide_eq_false_iff_not, Bool.and_eq_true, Bool.not_eq_false'] at *; omega)) ?_)
      | (refine z_op ?_ ?_; (focus exact rfl); conv => whnf)
      | (refine z_opg0 ?_; (conv => whnf); refine And.intro ?_ ?_; (focus exact rfl); conv => whnf)
      | (refine z_pick ?_ ?_; (focus exact rfl); conv => whnf)
      | (refine z_pickg ?_; (conv => whnf); refine And.intro ?_ ?_; (focus exact rfl); conv => whnf)
      | (refine zs_ops ?_ ?_; (focus exact rfl))
      | (refine zs_quiet ?_ ?_; (focus exact rfl))
      | (refine zs_decl ?_)
      | (refine z_nil fun vals => ?_; conv => whnf)
      | (refine z_call ?_ ?_; (focus exact rfl))
      | (refine z_eff ?_; conv => whnf)
      | (refine z_callg0 ?_; (conv => whnf); refine And.intro ?_ ?_; (focus exact rfl))
      | (refine RC.of (impl_Alive (xs.getD i default)) ?_ ?_; (focus exact rfl); conv => whnf)
      | (refine g_op ?_; conv => whnf)
      | (refine And.intro ?_ ?_; (focus (first | exact rfl | exact Nat.le_of_ble_eq_true rfl | decide | omega | fail)); conv => whnf)
      | (refine g_seq ?_)
      | (refine XS.go ?_)
      | (refine g_ops ?_)
      | (refine g_loop ?_)
      | (refine g_nil ?_; conv => whnf)
      | (refine g_opg ?_; conv => whnf)
      | (refine Br.t ?_ ?_; (focus (first | assumption | exact rfl)); conv => whnf)
      | (refine Br.f ?_ ?_; (focus (first | assumption | exact rfl)); conv => whnf)
      | (refine g_cond ?_; conv => whnf)
      | (refine g_skip ?_; conv => whnf)
      | (refine g_ret ?_; conv => whnf)
      | (refine g_exit ?_; conv => whnf)
      | (refine g_block ?_)
      | (refine g_quiet ?_)
      | (refine g_drawn ?_)
      | (refine d_p ?_; conv => whnf)
      | (refine d_pg ?_; conv => whnf)
      | (refine d_e ?_; conv => whnf)
      | (refine d_eg ?_; conv => whnf)
      | (refine d_nil ?_; conv => whnf)
      | (refine q_op ?_; conv => whnf)
      | (refine q_nil ?_; conv => whnf)
      | (refine q_opg ?_; conv => whnf)
      | (refine r_t ?_; conv => whnf)
      | (refine r_c ?_; conv => whnf)
      | (refine r_nil ?_; conv => whnf)
      | (refine fun _ => ?_; conv => whnf)
      | (refine Br.mk (fun hb => ?_) (fun hb => ?_) <;> conv => whnf)
      | (refine XCL.of_rdr (impl_Alive (xs.getD i default)) ?_; conv => whnf)
      | (refine QC.of_rdr (impl_Alive (xs.getD i default)) ?_; conv => whnf)
      | fail)
    · have hel : wdog (xs.getD i default) c = { xs.getD i default with fState := 2, fLeft := 0 } := by
        simp only [wdog]
        rw [if_pos]
        simp [leased] at hb ⊢
        exact ⟨hb.1.1, hb.1.2, by omega⟩
      refine ⟨i + 1, ⟨by omega, hg⟩, by omega, ?_, ?_⟩
      · have hw : IntKind.wrap .i64 ((i : Int) + 1) = ((i + 1 : Nat) : Int) := by rw [wrap_ok (by omega) (by omega)]; rfl
        repeat' (first | exact True.intro | refine And.intro (congrArg (D.int .i64) hw) ?_ | refine And.intro rfl ?_)
      · refine And.intro rfl (And.intro ?_ True.intro)
        exact congrArg (fun l => some (D.arr 11 l c1)) (hfin _ _ (by rw [hel]; rfl))
    · have hel : wdog (xs.getD i default) c = xs.getD i default := by
        simp only [wdog]
        rw [if_neg]
        intro h
        simp [leased] at h
        simp at hb
        have := hb h.1 h.2.1
        omega
      refine ⟨i + 1, ⟨by omega, hg⟩, by omega, ?_, ?_⟩
      · have hw : IntKind.wrap .i64 ((i : Int) + 1) = ((i + 1 : Nat) : Int) := by rw [wrap_ok (by omega) (by omega)]; rfl
        repeat' (first | exact True.intro | refine And.intro (congrArg (D.int .i64) hw) ?_ | refine And.intro rfl ?_)
      · refine And.intro rfl (And.intro ?_ True.intro)
        exact congrArg (fun l => some (D.arr 11 l c1)) (hsame (by rw [hel]))
  have hi : i = xs.length := by
    have : ¬ i < xs.length := by simpa using hb
    omega
  subst hi
  rw [part_all]
  conv => whnf
  repeat' (first
    | (refine z_ld1 ?_; first | (refine z_ld rfl rfl rfl rfl (by first | (simp only [List.length_set]; assumption) | assumption | omega) (by first | exact elt_set (by first | assumption | (simp only [List.length_set]; assumption)) | assumption) ?_; conv => whnf) | (refine z_ld0 rfl ?_; conv => whnf))
    | (refine z_ld1g ?_; first | (refine z_ldg rfl rfl rfl rfl rfl rfl rfl (by (repeat intro _); exact ⟨(by first | (simp only [List.length_set]; assumption) | assumption | omega), (by first | exact elt_set (by first | assumption | (simp only [List.length_set]; assumption)) | assumption)⟩) rfl rfl rfl rfl ?_; conv => whnf) | (refine z_ld0g ?_; (conv => whnf); refine And.intro ?_ ?_; (focus exact rfl); conv => whnf))
    | (refine z_st1 ?_; first | (refine z_st rfl rfl rfl (by first | (simp only [List.length_set]; assumption) | assumption | omega) (by first | exact elt_set (by first | assumption | (simp only [List.length_set]; assumption)) | assumption) rfl rfl ?_; conv => whnf) | (refine z_st0 ?_; conv => whnf))
    | (refine z_ix1 ?_; first | (refine z_ix rfl rfl rfl rfl rfl ⟨by first | omega | (simp only [decide_eq_true_eq, Bool.not_eq_true', Bool.or_eq_false_iff, decide_eq_false_iff_not, Bool.and_eq_true, Bool.not_eq_false'] at *; omega), by first | omega | (simp only [decide_eq_true_eq, Bool.not_eq_true', Bool.or_eq_false_iff, decide_eq_false_iff_not, Bool.and_eq_true, Bool.not_eq_false'] at *; omega)⟩ ?_; conv => whnf) | (refine z_ix0 rfl rfl ?_; conv => whnf))
    | (refine z_ix1g ?_; refine z_ixg rfl rfl rfl rfl rfl rfl rfl (by (repeat intro _); refine ⟨?_, ?_⟩ <;> first | omega | (simp only [decide_eq_true_eq, Bool.not_eq_true', Bool.or_eq_false_iff, decide_eq_false_iff_not, Bool.and_eq_true, Bool.not_eq_false'] at *; omega)) ?_)
    | (refine z_op ?_ ?_; (focus exact rfl); conv => whnf)
    | (refine z_opg0 ?_; (conv => whnf); refine And.intro ?_ ?_; (focus exact rfl); conv => whnf)
    | (refine z_pick ?_ ?_; (focus exact rfl); conv => whnf)
    | (refine z_pickg ?_; (conv => whnf); refine And.intro ?_ ?_; (focus exact rfl); conv => whnf)
    | (refine zs_ops ?_ ?_; (focus exact rfl))
    | (refine zs_quiet ?_ ?_; (focus exact rfl))
    | (refine zs_decl ?_)
    | (refine z_nil fun vals => ?_; conv => whnf)
    | (refine z_call ?_ ?_; (focus exact rfl))
    | (refine z_eff ?_; conv => whnf)
    | (refine z_callg0 ?_; (conv => whnf); refine And.intro ?_ ?_; (focus exact rfl))
    | (refine g_op ?_; conv => whnf)
    | (refine And.intro ?_ ?_; (focus (first | exact rfl | exact Nat.le_of_ble_eq_true rfl | decide | omega | fail)); conv => whnf)
    | (refine g_seq ?_)
    | (refine XS.go ?_)
    | (refine g_ops ?_)
    | (refine g_loop ?_)
    | (refine g_nil ?_; conv => whnf)
    | (refine g_opg ?_; conv => whnf)
    | (refine Br.t ?_ ?_; (focus (first | assumption | exact rfl)); conv => whnf)
    | (refine Br.f ?_ ?_; (focus (first | assumption | exact rfl)); conv => whnf)
    | (refine g_cond ?_; conv => whnf)
    | (refine g_skip ?_; conv => whnf)
    | (refine g_ret ?_; conv => whnf)
    | (refine g_exit ?_; conv => whnf)
    | (refine g_block ?_)
    | (refine g_quiet ?_)
    | (refine g_drawn ?_)
    | (refine d_p ?_; conv => whnf)
    | (refine d_pg ?_; conv => whnf)
    | (refine d_e ?_; conv => whnf)
    | (refine d_eg ?_; conv => whnf)
    | (refine d_nil ?_; conv => whnf)
    | (refine q_op ?_; conv => whnf)
    | (refine q_nil ?_; conv => whnf)
    | (refine q_opg ?_; conv => whnf)
    | (refine r_t ?_; conv => whnf)
    | (refine r_c ?_; conv => whnf)
    | (refine r_nil ?_; conv => whnf)
    | (refine fun _ => ?_; conv => whnf)
    | fail)
  exact ⟨_, c1, hc, rfl, by rw [← hg]; rfl⟩
end Go.Ab
