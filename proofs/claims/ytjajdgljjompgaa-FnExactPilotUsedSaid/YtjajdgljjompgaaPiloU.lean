/- Steps towards the law: contracts of functions and facts of lists. -/
import Derived.Test.YtjajdgljjompgaaPiloT
import Derived.Test.YtjajdgljjompgaaRows
set_option linter.unusedSimpArgs false
set_option linter.unusedVariables false
namespace Go.Ab
open Go Go.RowKit Go.Proofs
attribute [local irreducible] XC Rdr IntKind.wrap xw xos xqs xr xd
set_option maxRecDepth 100000

/-- spec.PilotUsed -/
def cf16 : CF := ⟨50, [.t 4, .t 5],
  (.seq (.ops [⟨some 2, .bx (.t 0), none⟩,
    ⟨some 4, .mv (.k (.int .i64 0)), none⟩,
    ⟨some 5, .mv (.k (.int .i64 0)), none⟩])
  (.seq (.ops [⟨some 6, .mv (.k (.int .i64 0)), none⟩])
  (.seq (.ops [⟨some 7, .mv (.k (.int .i64 0)), none⟩])
  (.seq (.seq (.ops [⟨some 9, .ld 4 true (.t 2), none⟩,
    ⟨some 10, .mv (.t 1), none⟩,
    ⟨some 11, .call 33 [(.t 9), (.t 10)], none⟩,
    ⟨some 12, .bin .lss (.t 11) (.k (.int .i64 0)), none⟩])
  (.cond (.t 12)
  (.seq (.ops [⟨some 4, .mv (.k (.int .i64 0)), none⟩,
    ⟨some 5, .mv (.k (.int .i64 0)), none⟩])
  .ret)
  .skip))
  (.seq (.seq (.ops [⟨some 8, .mv (.k (.int .i64 0)), none⟩])
  (.block 0 (.loop (.seq (.seq (.ops [⟨some 13, .mv (.t 8), none⟩,
    ⟨some 14, .fa 3 1 3 (.t 2), none⟩,
    ⟨some 15, .ld 1 false (.t 14), none⟩,
    ⟨some 16, .lenl (.t 15), none⟩,
    ⟨some 17, .bin .lss (.t 13) (.t 16), none⟩])
  (.cond (.t 17)
  .skip
  (.exit 0)))
  (.seq (.block 1 (.seq (.ops [⟨some 20, .mv (.t 1), none⟩,
    ⟨some 21, .bin .neq (.t 20) (.k (.str ⟨#[]⟩)), none⟩,
    ⟨some 22, .mv (.t 21), none⟩,
    ⟨some 23, .fa 3 1 3 (.t 2), some (22, true)⟩,
    ⟨some 24, .ld 1 false (.t 23), some (22, true)⟩,
    ⟨some 25, .mv (.t 8), some (22, true)⟩,
    ⟨some 26, .ix 12 (.t 24) (.t 25), some (22, true)⟩,
    ⟨some 27, .fa 11 1 11 (.t 26), some (22, true)⟩,
    ⟨some 28, .ld 1 false (.t 27), some (22, true)⟩,
    ⟨some 29, .mv (.t 1), some (22, true)⟩,
    ⟨some 30, .bin .eql (.t 28) (.t 29), some (22, true)⟩,
    ⟨some 31, .pick (.t 22) (.t 30) (.k (.bool false)), none⟩])
  (.cond (.t 31)
  (.seq (.ops [⟨some 32, .mv (.t 6), none⟩,
    ⟨some 33, .fa 3 1 3 (.t 2), none⟩,
    ⟨some 34, .ld 1 false (.t 33), none⟩,
    ⟨some 35, .mv (.t 8), none⟩,
    ⟨some 36, .ix 12 (.t 34) (.t 35), none⟩,
    ⟨some 37, .fa 4 1 4 (.t 36), none⟩,
    ⟨some 38, .ld 1 false (.t 37), none⟩,
    ⟨some 39, .bin .add (.t 32) (.t 38), none⟩,
    ⟨some 6, .mv (.t 39), none⟩])
  (.ops [⟨some 40, .mv (.t 7), none⟩,
    ⟨some 41, .fa 3 1 3 (.t 2), none⟩,
    ⟨some 42, .ld 1 false (.t 41), none⟩,
    ⟨some 43, .mv (.t 8), none⟩,
    ⟨some 44, .ix 12 (.t 42) (.t 43), none⟩,
    ⟨some 45, .fa 5 1 5 (.t 44), none⟩,
    ⟨some 46, .ld 1 false (.t 45), none⟩,
    ⟨some 47, .bin .add (.t 40) (.t 46), none⟩,
    ⟨some 7, .mv (.t 47), none⟩]))
  .skip)))
  (.ops [⟨some 18, .mv (.t 8), none⟩,
    ⟨some 19, .bin .add (.t 18) (.k (.int .i64 1)), none⟩,
    ⟨some 8, .mv (.t 19), none⟩]))))))
  (.seq (.ops [⟨some 48, .mv (.t 6), none⟩,
    ⟨some 49, .mv (.t 7), none⟩,
    ⟨some 4, .mv (.t 48), none⟩,
    ⟨some 5, .mv (.t 49), none⟩])
  .ret))))))⟩
theorem c16 : compileF Try.prog [] 16 = some cf16 := by kernel_rfl
/-- impl.PilotUsed -/
def cf18 : CF := ⟨40, [.t 4, .t 5],
  (.seq (.ops [⟨some 2, .bx (.t 0), none⟩,
    ⟨some 4, .mv (.k (.int .i64 0)), none⟩,
    ⟨some 5, .mv (.k (.int .i64 0)), none⟩])
  (.seq (.seq (.ops [⟨some 10, .mv (.t 1), none⟩,
    ⟨some 11, .bin .eql (.t 10) (.k (.str ⟨#[]⟩)), none⟩,
    ⟨some 12, .mv (.t 11), none⟩,
    ⟨some 13, .ld 4 true (.t 2), some (12, false)⟩,
    ⟨some 14, .mv (.t 1), some (12, false)⟩,
    ⟨some 15, .call 37 [(.t 13), (.t 14)], some (12, false)⟩,
    ⟨some 16, .bin .lss (.t 15) (.k (.int .i64 0)), some (12, false)⟩,
    ⟨some 17, .pick (.t 12) (.k (.bool true)) (.t 16), none⟩])
  (.cond (.t 17)
  (.seq (.ops [⟨some 4, .mv (.k (.int .i64 0)), none⟩,
    ⟨some 5, .mv (.k (.int .i64 0)), none⟩])
  .ret)
  .skip))
  (.seq (.ops [⟨some 6, .mv (.k (.int .i64 0)), none⟩,
    ⟨some 7, .mv (.k (.int .i64 0)), none⟩])
  (.seq (.seq (.ops [⟨some 18, .fa 3 1 3 (.t 2), none⟩,
    ⟨some 19, .ld 1 false (.t 18), none⟩,
    ⟨some 20, .lenl (.t 19), none⟩,
    ⟨some 21, .mv (.k (.int .i64 0)), none⟩])
  (.block 0 (.loop (.seq (.ops [⟨some 22, .bin .lss (.t 21) (.t 20), none⟩])
  (.seq (.cond (.t 22)
  .skip
  (.exit 0))
  (.seq (.block 1 (.seq (.ops [⟨some 23, .ix 12 (.t 19) (.t 21), none⟩,
    ⟨some 24, .ld 12 true (.t 23), none⟩,
    ⟨some 9, .al (.agg [.str ⟨#[]⟩, .str ⟨#[]⟩, .int .i64 0, .int .i64 0, .int .i64 0, .int .i64 0, .str ⟨#[]⟩, .nil, .int .i64 0, .str ⟨#[]⟩, .str ⟨#[]⟩, .str ⟨#[]⟩]), none⟩,
    ⟨none, .st 12 (.t 9) (.t 24), none⟩])
  (.seq (.ops [⟨some 25, .fa 11 1 11 (.t 9), none⟩,
    ⟨some 26, .ld 1 false (.t 25), none⟩,
    ⟨some 27, .mv (.t 1), none⟩,
    ⟨some 28, .bin .eql (.t 26) (.t 27), none⟩])
  (.cond (.t 28)
  (.seq (.ops [⟨some 29, .mv (.t 6), none⟩,
    ⟨some 30, .fa 4 1 4 (.t 9), none⟩,
    ⟨some 31, .ld 1 false (.t 30), none⟩,
    ⟨some 32, .bin .add (.t 29) (.t 31), none⟩,
    ⟨some 6, .mv (.t 32), none⟩])
  (.ops [⟨some 33, .mv (.t 7), none⟩,
    ⟨some 34, .fa 5 1 5 (.t 9), none⟩,
    ⟨some 35, .ld 1 false (.t 34), none⟩,
    ⟨some 36, .bin .add (.t 33) (.t 35), none⟩,
    ⟨some 7, .mv (.t 36), none⟩]))
  .skip))))
  (.ops [⟨some 37, .bin .add (.t 21) (.k (.int .i64 1)), none⟩,
    ⟨some 21, .mv (.t 37), none⟩])))))))
  (.seq (.ops [⟨some 38, .mv (.t 6), none⟩,
    ⟨some 39, .mv (.t 7), none⟩,
    ⟨some 4, .mv (.t 38), none⟩,
    ⟨some 5, .mv (.t 39), none⟩])
  .ret)))))⟩
theorem c18 : compileF Try.prog [] 18 = some cf18 := by kernel_rfl
/-- impl.pBerthAt -/
def cf37 : CF := ⟨9, [.t 4],
  (.seq (.ops [⟨some 2, .bx (.t 0), none⟩,
    ⟨some 3, .bx (.t 1), none⟩,
    ⟨some 4, .mv (.k (.int .i64 0)), none⟩])
  (.seq (.ops [⟨some 5, .fa 1 1 1 (.t 2), none⟩,
    ⟨some 6, .ld 1 false (.t 5), none⟩,
    ⟨some 7, .fnm 67 [(.t 3)], none⟩,
    ⟨some 8, .call 66 [(.t 6), (.t 7)], none⟩,
    ⟨some 4, .mv (.t 8), none⟩])
  .ret))⟩
theorem c37 : compileF Try.prog [] 37 = some cf37 := by kernel_rfl
/-- impl.pBerthAt$1 -/
def cf67 : CF := ⟨8, [.t 3],
  (.seq (.ops [⟨some 2, .bx (.t 0), none⟩,
    ⟨some 3, .mv (.k (.bool false)), none⟩])
  (.seq (.ops [⟨some 4, .fa 0 1 0 (.t 2), none⟩,
    ⟨some 5, .ld 1 false (.t 4), none⟩,
    ⟨some 6, .ld 1 false (.t 1), none⟩,
    ⟨some 7, .bin .eql (.t 5) (.t 6), none⟩,
    ⟨some 3, .mv (.t 7), none⟩])
  .ret))⟩
theorem c67 : compileF Try.prog [] 67 = some cf67 := by kernel_rfl
/-- slices.IndexFunc[[]impl.PilotBerth,impl.PilotBerth] -/
def cf66 : CF := ⟨19, [.t 4],
  (.seq (.ops [⟨some 4, .mv (.k (.int .i64 0)), none⟩])
  (.seq (.seq (.ops [⟨some 6, .mv (.t 0), none⟩,
    ⟨some 7, .lenl (.t 6), none⟩,
    ⟨some 8, .mv (.k (.int .i64 0)), none⟩])
  (.block 0 (.loop (.seq (.ops [⟨some 9, .bin .lss (.t 8) (.t 7), none⟩])
  (.seq (.cond (.t 9)
  .skip
  (.exit 0))
  (.seq (.block 1 (.seq (.ops [⟨some 10, .mv (.t 8), none⟩,
    ⟨some 5, .mv (.t 10), none⟩])
  (.seq (.ops [⟨some 11, .mv (.t 1), none⟩,
    ⟨some 12, .mv (.t 0), none⟩,
    ⟨some 13, .mv (.t 5), none⟩,
    ⟨some 14, .ix 6 (.t 12) (.t 13), none⟩,
    ⟨some 15, .ld 6 true (.t 14), none⟩,
    ⟨some 16, .callv (.t 11) [(.t 15)], none⟩])
  (.cond (.t 16)
  (.seq (.ops [⟨some 17, .mv (.t 5), none⟩,
    ⟨some 4, .mv (.t 17), none⟩])
  .ret)
  .skip))))
  (.ops [⟨some 18, .bin .add (.t 8) (.k (.int .i64 1)), none⟩,
    ⟨some 8, .mv (.t 18), none⟩])))))))
  (.seq (.ops [⟨some 4, .mv (.k (.int .i64 (-1))), none⟩])
  .ret)))⟩
theorem c66 : compileF Try.prog [] 66 = some cf66 := by kernel_rfl
/-- spec.l2Berth -/
def cf33 : CF := ⟨22, [.t 4],
  (.seq (.ops [⟨some 2, .bx (.t 0), none⟩,
    ⟨some 4, .mv (.k (.int .i64 0)), none⟩])
  (.seq (.seq (.ops [⟨some 5, .mv (.k (.int .i64 0)), none⟩])
  (.block 0 (.loop (.seq (.seq (.ops [⟨some 6, .mv (.t 5), none⟩,
    ⟨some 7, .fa 1 1 1 (.t 2), none⟩,
    ⟨some 8, .ld 1 false (.t 7), none⟩,
    ⟨some 9, .lenl (.t 8), none⟩,
    ⟨some 10, .bin .lss (.t 6) (.t 9), none⟩])
  (.cond (.t 10)
  .skip
  (.exit 0)))
  (.seq (.block 1 (.seq (.ops [⟨some 13, .fa 1 1 1 (.t 2), none⟩,
    ⟨some 14, .ld 1 false (.t 13), none⟩,
    ⟨some 15, .mv (.t 5), none⟩,
    ⟨some 16, .ix 6 (.t 14) (.t 15), none⟩,
    ⟨some 17, .fa 0 1 0 (.t 16), none⟩,
    ⟨some 18, .ld 1 false (.t 17), none⟩,
    ⟨some 19, .mv (.t 1), none⟩,
    ⟨some 20, .bin .eql (.t 18) (.t 19), none⟩])
  (.cond (.t 20)
  (.seq (.ops [⟨some 21, .mv (.t 5), none⟩,
    ⟨some 4, .mv (.t 21), none⟩])
  .ret)
  .skip)))
  (.ops [⟨some 11, .mv (.t 5), none⟩,
    ⟨some 12, .bin .add (.t 11) (.k (.int .i64 1)), none⟩,
    ⟨some 5, .mv (.t 12), none⟩]))))))
  (.seq (.ops [⟨some 4, .mv (.k (.int .i64 (-1))), none⟩])
  .ret)))⟩
theorem c33 : compileF Try.prog [] 33 = some cf33 := by kernel_rfl
def bF (xs : List PilotBerth) (name : ByteArray) (i : Nat) : Bool := (xs.getD i default).fName.toList == name.toList
def bI (xs : List PilotBerth) (name : ByteArray) : Int := idxN (bF xs name) xs.length 0
set_option maxHeartbeats 8000000 in
theorem spec_Berth (x : PilotFleet) (name : ByteArray) (hl : x.fBerths.length ≤ 1048576) : Rdr Try.prog 33 [x.D, .str name] (.int .i64 (bI x.fBerths name)) := by
  refine Rdr.intro' hm c33 (Nat.le_of_ble_eq_true rfl) ?_
  conv => whnf
  repeat' (first | (refine g_op ?_; conv => whnf) | (refine And.intro ?_ ?_; (focus (first | exact rfl | exact Nat.le_of_ble_eq_true rfl | decide | omega | fail)); conv => whnf) | (refine g_seq ?_) | (refine g_ops ?_) | (refine g_nil ?_; conv => whnf) | (refine fun _ => ?_; conv => whnf) | fail)
  refine XS.freezeB 2 rfl ?_
  repeat' (first | (refine g_op ?_; conv => whnf) | (refine And.intro ?_ ?_; (focus (first | exact rfl | exact Nat.le_of_ble_eq_true rfl | decide | omega | fail)); conv => whnf) | (refine g_seq ?_) | (refine XS.go ?_) | (refine g_ops ?_) | (refine g_loop ?_) | (refine g_nil ?_; conv => whnf) | (refine g_block ?_) | fail)
  refine XLc.mkL (α := Nat) (fun i => i ≤ x.fBerths.length ∧ bI x.fBerths name = idxN (bF x.fBerths name) (x.fBerths.length - i) i) (fun i => x.fBerths.length - i) (fun i gs => [.any, .str name, .cref x.D, .any, .any, .int .i64 (i : Int)]) (fun i gs => []) 0 ⟨Nat.zero_le _, rfl⟩ ?_ ?_
  · refine ⟨?_, ?_⟩
    · repeat' (first | exact True.intro | refine And.intro rfl ?_)
    · repeat' (first | exact True.intro | refine And.intro rfl ?_)
  intro i gs hI
  obtain ⟨hi, hN⟩ := hI
  repeat' (first | (refine z_ld1 ?_; first | (refine z_ld rfl rfl rfl rfl (by first | (simp only [List.length_set]; assumption) | assumption | omega) (by first | exact elt_set (by first | assumption | (simp only [List.length_set]; assumption)) | assumption) ?_; conv => whnf) | (refine z_ld0 rfl ?_; conv => whnf)) | (refine z_op ?_ ?_; (focus exact rfl); conv => whnf) | (refine zs_ops ?_ ?_; (focus exact rfl)) | (refine z_nil fun vals => ?_; conv => whnf) | (refine And.intro ?_ ?_; (focus (first | exact rfl | exact Nat.le_of_ble_eq_true rfl | decide | omega | fail)); conv => whnf) | (refine g_seq ?_) | (refine XS.go ?_) | (refine g_cond ?_; conv => whnf) | fail)
  refine Br.mk (fun hb => ?_) (fun hb => ?_)
  · have hlt : i < x.fBerths.length := by simpa using hb
    have hw : IntKind.wrap .i64 ((i : Int) + 1) = ((i + 1 : Nat) : Int) := by rw [wrap_ok (by omega) (by omega)]; rfl
    have hit := fun h => idxN_hit (f := bF x.fBerths name) hlt hN h
    have miss := fun h => idxN_miss (f := bF x.fBerths name) hlt hN h
    clear hN hb
    conv => whnf
    repeat' (first | (refine z_ld1 ?_; first | (refine z_ld rfl rfl rfl rfl (by first | (simp only [List.length_set]; assumption) | assumption | omega) (by first | exact elt_set (by first | assumption | (simp only [List.length_set]; assumption)) | assumption) ?_; conv => whnf) | (refine z_ld0 rfl ?_; conv => whnf)) | (refine z_ix1 ?_; first | (refine z_ix rfl rfl rfl rfl rfl ⟨by first | omega | (simp only [decide_eq_true_eq, Bool.not_eq_true', Bool.or_eq_false_iff, decide_eq_false_iff_not, Bool.and_eq_true, Bool.not_eq_false'] at *; omega), by first | omega | (simp only [decide_eq_true_eq, Bool.not_eq_true', Bool.or_eq_false_iff, decide_eq_false_iff_not, Bool.and_eq_true, Bool.not_eq_false'] at *; omega)⟩ ?_; conv => whnf) | (refine z_ix0 rfl rfl ?_; conv => whnf)) | (refine z_op ?_ ?_; (focus exact rfl); conv => whnf) | (refine zs_ops ?_ ?_; (focus exact rfl)) | (refine z_nil fun vals => ?_; conv => whnf) | (refine g_op ?_; conv => whnf) | (refine And.intro ?_ ?_; (focus (first | exact rfl | exact Nat.le_of_ble_eq_true rfl | decide | omega | fail)); conv => whnf) | (refine g_seq ?_) | (refine XS.go ?_) | (refine g_ops ?_) | (refine g_nil ?_; conv => whnf) | (refine g_cond ?_; conv => whnf) | (refine g_skip ?_; conv => whnf) | (refine g_ret ?_; conv => whnf) | (refine g_block ?_) | (refine r_t ?_; conv => whnf) | (refine r_nil ?_; conv => whnf) | (refine Br.mk (fun hb => ?_) (fun hb => ?_) <;> conv => whnf) | fail)
    all_goals
      first
      | ((conv => lhs; whnf); first | (rw [hit hb]; done) | (rw [hit hb]; rfl) | fail)
      | (refine ⟨i + 1, ⟨by omega, miss hb⟩, by omega, ?_, ?_⟩
         · repeat' (first | exact True.intro | refine And.intro (congrArg (D.int .i64) hw) ?_ | refine And.intro rfl ?_)
         · repeat' (first | exact True.intro | refine And.intro rfl ?_))
  have hge : ¬ i < x.fBerths.length := by simpa using hb
  have hend : bI x.fBerths name = -1 := by rw [hN, idxN_end hge]
  clear hN
  conv => whnf
  repeat' (first | (refine g_op ?_; conv => whnf) | (refine And.intro ?_ ?_; (focus (first | exact rfl | exact Nat.le_of_ble_eq_true rfl | decide | omega | fail)); conv => whnf) | (refine g_seq ?_) | (refine XS.go ?_) | (refine g_ops ?_) | (refine g_nil ?_; conv => whnf) | (refine g_ret ?_; conv => whnf) | (refine g_exit ?_; conv => whnf) | (refine r_t ?_; conv => whnf) | (refine r_nil ?_; conv => whnf) | fail)
  ((conv => lhs; whnf); first | (rw [hend]; done) | (rw [hend]; rfl))
theorem impl_cl (x : PilotBerth) (name : ByteArray) : Rdr Try.prog 67 [x.D, .cref (.str name)] (.bool (x.fName.toList == name.toList)) := by
  refine Rdr.intro' hm c67 (Nat.le_of_ble_eq_true rfl) ?_
  conv => whnf
  repeat' (first | (refine z_ld1 ?_; first | (refine z_ld rfl rfl rfl rfl (by first | (simp only [List.length_set]; assumption) | assumption | omega) (by first | exact elt_set (by first | assumption | (simp only [List.length_set]; assumption)) | assumption) ?_; conv => whnf) | (refine z_ld0 rfl ?_; conv => whnf)) | (refine z_op ?_ ?_; (focus exact rfl); conv => whnf) | (refine zs_ops ?_ ?_; (focus exact rfl)) | (refine z_nil fun vals => ?_; conv => whnf) | (refine g_op ?_; conv => whnf) | (refine And.intro ?_ ?_; (focus (first | exact rfl | exact Nat.le_of_ble_eq_true rfl | decide | omega | fail)); conv => whnf) | (refine g_seq ?_) | (refine XS.go ?_) | (refine g_ops ?_) | (refine g_nil ?_; conv => whnf) | (refine g_ret ?_; conv => whnf) | (refine r_t ?_; conv => whnf) | (refine r_nil ?_; conv => whnf) | (refine fun _ => ?_; conv => whnf) | fail)
  (conv => lhs; whnf)
set_option maxHeartbeats 8000000 in
theorem impl_Index (xs : List PilotBerth) (name : ByteArray) (hl : xs.length ≤ 1048576) : Rdr Try.prog 66 [.ro 6 (xs.map PilotBerth.D), .fn 67 [.cref (.str name)]] (.int .i64 (bI xs name)) := by
  refine Rdr.intro' hm c66 (Nat.le_of_ble_eq_true rfl) ?_
  conv => whnf
  repeat' (first | (refine g_op ?_; conv => whnf) | (refine And.intro ?_ ?_; (focus (first | exact rfl | exact Nat.le_of_ble_eq_true rfl | decide | omega | fail)); conv => whnf) | (refine g_seq ?_) | (refine XS.go ?_) | (refine g_ops ?_) | (refine g_loop ?_) | (refine g_nil ?_; conv => whnf) | (refine g_block ?_) | fail)
  refine XLc.mkL (α := Nat) (fun i => i ≤ xs.length ∧ bI xs name = idxN (bF xs name) (xs.length - i) i) (fun i => xs.length - i) (fun i gs => [.ro 6 (xs.map PilotBerth.D), .fn 67 [.cref (.str name)], .any, .any, .any, .any, .any, .int .i64 ((xs.map PilotBerth.D).length : Int), .int .i64 (i : Int)]) (fun i gs => []) 0 ⟨Nat.zero_le _, rfl⟩ ?_ ?_
  · refine ⟨?_, ?_⟩
    · repeat' (first | exact True.intro | refine And.intro rfl ?_)
    · repeat' (first | exact True.intro | refine And.intro rfl ?_)
  intro i gs hI
  obtain ⟨hi, hN⟩ := hI
  repeat' (first | (refine g_op ?_; conv => whnf) | (refine And.intro ?_ ?_; (focus (first | exact rfl | exact Nat.le_of_ble_eq_true rfl | decide | omega | fail)); conv => whnf) | (refine g_seq ?_) | (refine XS.go ?_) | (refine g_ops ?_) | (refine g_nil ?_; conv => whnf) | (refine g_cond ?_; conv => whnf) | fail)
  refine Br.mk (fun hb => ?_) (fun hb => ?_)
  · have hlt : i < xs.length := by simpa using hb
    have hw : IntKind.wrap .i64 ((i : Int) + 1) = ((i + 1 : Nat) : Int) := by rw [wrap_ok (by omega) (by omega)]; rfl
    have hit := fun h => idxN_hit (f := bF xs name) hlt hN h
    have miss := fun h => idxN_miss (f := bF xs name) hlt hN h
    clear hN hb
    conv => whnf
    repeat' (first | (refine z_ld1 ?_; first | (refine z_ld rfl rfl rfl rfl (by first | (simp only [List.length_set]; assumption) | assumption | omega) (by first | exact elt_set (by first | assumption | (simp only [List.length_set]; assumption)) | assumption) ?_; conv => whnf) | (refine z_ld0 rfl ?_; conv => whnf)) | (refine z_ix1 ?_; first | (refine z_ix rfl rfl rfl rfl rfl ⟨by first | omega | (simp only [decide_eq_true_eq, Bool.not_eq_true', Bool.or_eq_false_iff, decide_eq_false_iff_not, Bool.and_eq_true, Bool.not_eq_false'] at *; omega), by first | omega | (simp only [decide_eq_true_eq, Bool.not_eq_true', Bool.or_eq_false_iff, decide_eq_false_iff_not, Bool.and_eq_true, Bool.not_eq_false'] at *; omega)⟩ ?_; conv => whnf) | (refine z_ix0 rfl rfl ?_; conv => whnf)) | (refine z_op ?_ ?_; (focus exact rfl); conv => whnf) | (refine zs_ops ?_ ?_; (focus exact rfl)) | (refine z_nil fun vals => ?_; conv => whnf) | (refine z_eff ?_; conv => whnf) | (refine g_op ?_; conv => whnf) | (refine And.intro ?_ ?_; (focus (first | exact rfl | exact Nat.le_of_ble_eq_true rfl | decide | omega | fail)); conv => whnf) | (refine g_seq ?_) | (refine XS.go ?_) | (refine g_ops ?_) | (refine g_nil ?_; conv => whnf) | (refine g_cond ?_; conv => whnf) | (refine g_skip ?_; conv => whnf) | (refine g_ret ?_; conv => whnf) | (refine g_block ?_) | (refine r_t ?_; conv => whnf) | (refine r_nil ?_; conv => whnf) | (refine Br.mk (fun hb => ?_) (fun hb => ?_) <;> conv => whnf) | (refine XCL.of_rdr (impl_cl _ _) ?_; conv => whnf) | fail)
    all_goals
      first
      | ((conv => lhs; whnf); first | (rw [hit hb]; done) | (rw [hit hb]; rfl) | fail)
      | (refine ⟨i + 1, ⟨by omega, miss hb⟩, by omega, ?_, ?_⟩
         · repeat' (first | exact True.intro | refine And.intro (congrArg (D.int .i64) hw) ?_ | refine And.intro rfl ?_)
         · repeat' (first | exact True.intro | refine And.intro rfl ?_))
  have hge : ¬ i < xs.length := by simpa using hb
  have hend : bI xs name = -1 := by rw [hN, idxN_end hge]
  clear hN
  conv => whnf
  repeat' (first | (refine g_op ?_; conv => whnf) | (refine And.intro ?_ ?_; (focus (first | exact rfl | exact Nat.le_of_ble_eq_true rfl | decide | omega | fail)); conv => whnf) | (refine g_seq ?_) | (refine XS.go ?_) | (refine g_ops ?_) | (refine g_nil ?_; conv => whnf) | (refine g_ret ?_; conv => whnf) | (refine g_exit ?_; conv => whnf) | (refine r_t ?_; conv => whnf) | (refine r_nil ?_; conv => whnf) | fail)
  ((conv => lhs; whnf); first | (rw [hend]; done) | (rw [hend]; rfl))
set_option maxHeartbeats 8000000 in
theorem impl_BerthAt (x : PilotFleet) (name : ByteArray) (hl : x.fBerths.length ≤ 1048576) : Rdr Try.prog 37 [x.D, .str name] (.int .i64 (bI x.fBerths name)) := by
  refine Rdr.intro' hm c37 (Nat.le_of_ble_eq_true rfl) ?_
  conv => whnf
  repeat' (first | (refine g_op ?_; conv => whnf) | (refine And.intro ?_ ?_; (focus (first | exact rfl | exact Nat.le_of_ble_eq_true rfl | decide | omega | fail)); conv => whnf) | (refine g_seq ?_) | (refine g_ops ?_) | (refine g_nil ?_; conv => whnf) | (refine fun _ => ?_; conv => whnf) | fail)
  refine XS.freezeB 2 rfl ?_
  refine XS.freezeB 3 rfl ?_
  repeat' (first | (refine z_ld1 ?_; first | (refine z_ld rfl rfl rfl rfl (by first | (simp only [List.length_set]; assumption) | assumption | omega) (by first | exact elt_set (by first | assumption | (simp only [List.length_set]; assumption)) | assumption) ?_; conv => whnf) | (refine z_ld0 rfl ?_; conv => whnf)) | (refine z_op ?_ ?_; (focus exact rfl); conv => whnf) | (refine zs_ops ?_ ?_; (focus exact rfl)) | (refine z_nil fun vals => ?_; conv => whnf) | (refine z_call ?_ ?_; (focus exact rfl)) | (refine RC.of (impl_Index x.fBerths name hl) ?_ ?_; (focus exact rfl); conv => whnf) | (refine And.intro ?_ ?_; (focus (first | exact rfl | exact Nat.le_of_ble_eq_true rfl | decide | omega | fail)); conv => whnf) | (refine g_seq ?_) | (refine XS.go ?_) | (refine g_ret ?_; conv => whnf) | (refine r_t ?_; conv => whnf) | (refine r_nil ?_; conv => whnf) | fail)
  (conv => lhs; whnf)
def sumN (f : Nat → Bool) (g : Nat → Int) : Nat → Int
  | 0 => 0
  | k + 1 => if f k = true then IntKind.wrap .i64 (sumN f g k + g k) else sumN f g k
theorem sumN_none {f : Nat → Bool} {g : Nat → Int} (h : ∀ k, f k = false) : ∀ n, sumN f g n = 0
  | 0 => rfl
  | n + 1 => by rw [sumN, if_neg (by rw [h n]; exact Bool.false_ne_true), sumN_none h n]
def cF (xs : List PilotCopy) (name : ByteArray) (i : Nat) : Bool := !(name.toList == (ByteArray.mk #[]).toList) && (xs.getD i default).fAt.toList == name.toList
def rmG (xs : List PilotCopy) (i : Nat) : Int := (xs.getD i default).fRoom
def hdG (xs : List PilotCopy) (i : Nat) : Int := (xs.getD i default).fHold
def usd (x : PilotFleet) (name : ByteArray) (g : Nat → Int) : Int := if bI x.fBerths name < 0 then 0 else sumN (cF x.fCopies name) g x.fCopies.length
set_option maxHeartbeats 8000000 in
theorem spec_Used (x : PilotFleet) (name : ByteArray) (hl : x.fBerths.length ≤ 1048576) (hc : x.fCopies.length ≤ 1048576) : Rdr Try.prog 16 [x.D, .str name] (.tup [.int .i64 (usd x name (rmG x.fCopies)), .int .i64 (usd x name (hdG x.fCopies))]) := by
  have hq := spec_Berth x name hl
  refine Rdr.intro' hm c16 (Nat.le_of_ble_eq_true rfl) ?_
  conv => whnf
  repeat' (first | (refine g_op ?_; conv => whnf) | (refine And.intro ?_ ?_; (focus (first | exact rfl | exact Nat.le_of_ble_eq_true rfl | decide | omega | fail)); conv => whnf) | (refine g_seq ?_) | (refine g_ops ?_) | (refine g_nil ?_; conv => whnf) | (refine fun _ => ?_; conv => whnf) | fail)
  refine XS.freezeB 2 rfl ?_
  repeat' (first | (refine z_ld1 ?_; first | (refine z_ld rfl rfl rfl rfl (by first | (simp only [List.length_set]; assumption) | assumption | omega) (by first | exact elt_set (by first | assumption | (simp only [List.length_set]; assumption)) | assumption) ?_; conv => whnf) | (refine z_ld0 rfl ?_; conv => whnf)) | (refine z_op ?_ ?_; (focus exact rfl); conv => whnf) | (refine zs_ops ?_ ?_; (focus exact rfl)) | (refine z_nil fun vals => ?_; conv => whnf) | (refine z_call ?_ ?_; (focus exact rfl)) | (refine RC.of (hq) ?_ ?_; (focus exact rfl); conv => whnf) | (refine g_op ?_; conv => whnf) | (refine And.intro ?_ ?_; (focus (first | exact rfl | exact Nat.le_of_ble_eq_true rfl | decide | omega | fail)); conv => whnf) | (refine g_seq ?_) | (refine XS.go ?_) | (refine g_ops ?_) | (refine g_nil ?_; conv => whnf) | (refine g_cond ?_; conv => whnf) | fail)
  refine Br.mk (fun hb => ?_) (fun hb => ?_)
  · conv => whnf
    repeat' (first | (refine g_op ?_; conv => whnf) | (refine And.intro ?_ ?_; (focus (first | exact rfl | exact Nat.le_of_ble_eq_true rfl | decide | omega | fail)); conv => whnf) | (refine g_seq ?_) | (refine XS.go ?_) | (refine g_ops ?_) | (refine g_nil ?_; conv => whnf) | (refine g_ret ?_; conv => whnf) | (refine r_t ?_; conv => whnf) | (refine r_nil ?_; conv => whnf) | fail)
    (conv => lhs; whnf)
    have hn : bI x.fBerths name < 0 := by simpa using hb
    rw [usd, usd, if_pos hn, if_pos hn]
    rfl
  have hn : ¬ bI x.fBerths name < 0 := by simpa using hb
  clear hb
  conv => whnf
  repeat' (first | (refine g_op ?_; conv => whnf) | (refine And.intro ?_ ?_; (focus (first | exact rfl | exact Nat.le_of_ble_eq_true rfl | decide | omega | fail)); conv => whnf) | (refine g_seq ?_) | (refine XS.go ?_) | (refine g_ops ?_) | (refine g_loop ?_) | (refine g_nil ?_; conv => whnf) | (refine g_skip ?_; conv => whnf) | (refine g_block ?_) | fail)
  refine XLc.mkA (α := Nat) (fun i => i ≤ x.fCopies.length) (fun i => x.fCopies.length - i) (fun i gs => [.any, .str name, .cref x.D, .any, .any, .any, .int .i64 (sumN (cF x.fCopies name) (rmG x.fCopies) i), .int .i64 (sumN (cF x.fCopies name) (hdG x.fCopies) i), .int .i64 (i : Int)]) (fun i gs => []) 0 (Nat.zero_le _) ?_ ?_
  · refine ⟨?_, True.intro⟩
    · repeat' (first | exact True.intro | refine And.intro rfl ?_)
  intro i gs hi0
  repeat' (first | (refine z_ld1 ?_; first | (refine z_ld rfl rfl rfl rfl (by first | (simp only [List.length_set]; assumption) | assumption | omega) (by first | exact elt_set (by first | assumption | (simp only [List.length_set]; assumption)) | assumption) ?_; conv => whnf) | (refine z_ld0 rfl ?_; conv => whnf)) | (refine z_op ?_ ?_; (focus exact rfl); conv => whnf) | (refine zs_ops ?_ ?_; (focus exact rfl)) | (refine z_nil fun vals => ?_; conv => whnf) | (refine And.intro ?_ ?_; (focus (first | exact rfl | exact Nat.le_of_ble_eq_true rfl | decide | omega | fail)); conv => whnf) | (refine g_seq ?_) | (refine XS.go ?_) | (refine g_cond ?_; conv => whnf) | fail)
  refine Br.mk (fun hb => ?_) (fun hb => ?_)
  · have hlt : i < x.fCopies.length := by simpa using hb
    clear hb
    conv => whnf
    repeat' (first | (refine z_ld1 ?_; first | (refine z_ld rfl rfl rfl rfl (by first | (simp only [List.length_set]; assumption) | assumption | omega) (by first | exact elt_set (by first | assumption | (simp only [List.length_set]; assumption)) | assumption) ?_; conv => whnf) | (refine z_ld0 rfl ?_; conv => whnf)) | (refine z_ld1g ?_; first | (refine z_ldg rfl rfl rfl rfl rfl rfl rfl (by (repeat intro _); exact ⟨(by first | (simp only [List.length_set]; assumption) | assumption | omega), (by first | exact elt_set (by first | assumption | (simp only [List.length_set]; assumption)) | assumption)⟩) rfl rfl rfl rfl ?_; conv => whnf) | (refine z_ld0g ?_; (conv => whnf); refine And.intro ?_ ?_; (focus exact rfl); conv => whnf)) | (refine z_ix1 ?_; first | (refine z_ix rfl rfl rfl rfl rfl ⟨by first | omega | (simp only [decide_eq_true_eq, Bool.not_eq_true', Bool.or_eq_false_iff, decide_eq_false_iff_not, Bool.and_eq_true, Bool.not_eq_false'] at *; omega), by first | omega | (simp only [decide_eq_true_eq, Bool.not_eq_true', Bool.or_eq_false_iff, decide_eq_false_iff_not, Bool.and_eq_true, Bool.not_eq_false'] at *; omega)⟩ ?_; conv => whnf) | (refine z_ix0 rfl rfl ?_; conv => whnf)) | (refine z_ix1g ?_; refine z_ixg rfl rfl rfl rfl rfl rfl rfl (by (repeat intro _); refine ⟨?_, ?_⟩ <;> first | omega | (simp only [decide_eq_true_eq, Bool.not_eq_true', Bool.or_eq_false_iff, decide_eq_false_iff_not, Bool.and_eq_true, Bool.not_eq_false'] at *; omega)) ?_) | (refine z_op ?_ ?_; (focus exact rfl); conv => whnf) | (refine z_opg0 ?_; (conv => whnf); refine And.intro ?_ ?_; (focus exact rfl); conv => whnf) | (refine z_pick ?_ ?_; (focus exact rfl); conv => whnf) | (refine zs_ops ?_ ?_; (focus exact rfl)) | (refine z_nil fun vals => ?_; conv => whnf) | (refine g_op ?_; conv => whnf) | (refine And.intro ?_ ?_; (focus (first | exact rfl | exact Nat.le_of_ble_eq_true rfl | decide | omega | fail)); conv => whnf) | (refine g_seq ?_) | (refine XS.go ?_) | (refine g_ops ?_) | (refine g_nil ?_; conv => whnf) | (refine g_cond ?_; conv => whnf) | (refine g_skip ?_; conv => whnf) | (refine g_block ?_) | (refine Br.mk (fun hb => ?_) (fun hb => ?_) <;> conv => whnf) | fail)
    · have hc : cF x.fCopies name i = true := by simpa [cF] using hb
      refine ⟨i + 1, by omega, by omega, ?_, True.intro⟩
      have hw : IntKind.wrap .i64 ((i : Int) + 1) = ((i + 1 : Nat) : Int) := by rw [wrap_ok (by omega) (by omega)]; rfl
      repeat' (first | exact True.intro | refine And.intro (congrArg (D.int .i64) hw) ?_ | refine And.intro (congrArg (D.int .i64) (by rw [sumN, if_pos hc]; rfl)) ?_ | refine And.intro rfl ?_)
    · have hc : cF x.fCopies name i = false := by simpa [cF] using hb
      refine ⟨i + 1, by omega, by omega, ?_, True.intro⟩
      have hw : IntKind.wrap .i64 ((i : Int) + 1) = ((i + 1 : Nat) : Int) := by rw [wrap_ok (by omega) (by omega)]; rfl
      repeat' (first | exact True.intro | refine And.intro (congrArg (D.int .i64) hw) ?_ | refine And.intro (congrArg (D.int .i64) (by rw [sumN, if_neg (by rw [hc]; exact Bool.false_ne_true)])) ?_ | refine And.intro rfl ?_)
  have hi : i = x.fCopies.length := by
    have : ¬ i < x.fCopies.length := by simpa using hb
    omega
  subst hi
  conv => whnf
  repeat' (first | (refine g_op ?_; conv => whnf) | (refine And.intro ?_ ?_; (focus (first | exact rfl | exact Nat.le_of_ble_eq_true rfl | decide | omega | fail)); conv => whnf) | (refine g_seq ?_) | (refine XS.go ?_) | (refine g_ops ?_) | (refine g_nil ?_; conv => whnf) | (refine g_ret ?_; conv => whnf) | (refine g_exit ?_; conv => whnf) | (refine r_t ?_; conv => whnf) | (refine r_nil ?_; conv => whnf) | fail)
  (conv => lhs; whnf)
  rw [usd, usd, if_neg hn, if_neg hn]
  rfl
set_option maxHeartbeats 8000000 in
theorem impl_Used (x : PilotFleet) (name : ByteArray) (hl : x.fBerths.length ≤ 1048576) (hc : x.fCopies.length ≤ 1048576) : Rdr Try.prog 18 [x.D, .str name] (.tup [.int .i64 (usd x name (rmG x.fCopies)), .int .i64 (usd x name (hdG x.fCopies))]) := by
  have hq := impl_BerthAt x name hl
  refine Rdr.intro' hm c18 (Nat.le_of_ble_eq_true rfl) ?_
  conv => whnf
  repeat' (first | (refine g_op ?_; conv => whnf) | (refine And.intro ?_ ?_; (focus (first | exact rfl | exact Nat.le_of_ble_eq_true rfl | decide | omega | fail)); conv => whnf) | (refine g_seq ?_) | (refine g_ops ?_) | (refine g_nil ?_; conv => whnf) | (refine fun _ => ?_; conv => whnf) | fail)
  refine XS.freezeB 2 rfl ?_
  repeat' (first | (refine z_ld1g ?_; first | (refine z_ldg rfl rfl rfl rfl rfl rfl rfl (by (repeat intro _); exact ⟨(by first | (simp only [List.length_set]; assumption) | assumption | omega), (by first | exact elt_set (by first | assumption | (simp only [List.length_set]; assumption)) | assumption)⟩) rfl rfl rfl rfl ?_; conv => whnf) | (refine z_ld0g ?_; (conv => whnf); refine And.intro ?_ ?_; (focus exact rfl); conv => whnf)) | (refine z_op ?_ ?_; (focus exact rfl); conv => whnf) | (refine z_opg0 ?_; (conv => whnf); refine And.intro ?_ ?_; (focus exact rfl); conv => whnf) | (refine z_pick ?_ ?_; (focus exact rfl); conv => whnf) | (refine zs_ops ?_ ?_; (focus exact rfl)) | (refine z_nil fun vals => ?_; conv => whnf) | (refine z_callg0 ?_; (conv => whnf); refine And.intro ?_ ?_; (focus exact rfl)) | (refine RC.of (hq) ?_ ?_; (focus exact rfl); conv => whnf) | (refine And.intro ?_ ?_; (focus (first | exact rfl | exact Nat.le_of_ble_eq_true rfl | decide | omega | fail)); conv => whnf) | (refine g_seq ?_) | (refine XS.go ?_) | (refine g_cond ?_; conv => whnf) | fail)
  refine Br.mk (fun hb => ?_) (fun hb => ?_)
  · conv => whnf
    repeat' (first | (refine g_op ?_; conv => whnf) | (refine And.intro ?_ ?_; (focus (first | exact rfl | exact Nat.le_of_ble_eq_true rfl | decide | omega | fail)); conv => whnf) | (refine g_seq ?_) | (refine XS.go ?_) | (refine g_ops ?_) | (refine g_nil ?_; conv => whnf) | (refine g_ret ?_; conv => whnf) | (refine r_t ?_; conv => whnf) | (refine r_nil ?_; conv => whnf) | fail)
    (conv => lhs; whnf)
    have hz : ∀ g, usd x name g = 0 := fun g => by
      unfold usd
      split
      · rfl
      · rename_i hn
        have hn2 : name.toList = [] := by simpa [hn] using hb
        exact sumN_none (fun k => by simp [cF, hn2]) _
    rw [hz, hz]
    rfl
  have hn : ¬ bI x.fBerths name < 0 := by
    intro h
    simp [h] at hb
  have hn2 : name.toList ≠ [] := by
    intro h
    simp [h] at hb
  clear hb
  conv => whnf
  repeat' (first | (refine z_ld1 ?_; first | (refine z_ld rfl rfl rfl rfl (by first | (simp only [List.length_set]; assumption) | assumption | omega) (by first | exact elt_set (by first | assumption | (simp only [List.length_set]; assumption)) | assumption) ?_; conv => whnf) | (refine z_ld0 rfl ?_; conv => whnf)) | (refine z_op ?_ ?_; (focus exact rfl); conv => whnf) | (refine zs_ops ?_ ?_; (focus exact rfl)) | (refine z_nil fun vals => ?_; conv => whnf) | (refine g_op ?_; conv => whnf) | (refine And.intro ?_ ?_; (focus (first | exact rfl | exact Nat.le_of_ble_eq_true rfl | decide | omega | fail)); conv => whnf) | (refine g_seq ?_) | (refine XS.go ?_) | (refine g_ops ?_) | (refine g_loop ?_) | (refine g_nil ?_; conv => whnf) | (refine g_skip ?_; conv => whnf) | (refine g_block ?_) | fail)
  refine XLc.mkA (α := Nat) (fun i => i ≤ x.fCopies.length) (fun i => x.fCopies.length - i) (fun i gs => [.any, .str name, .cref x.D, .any, .any, .any, .int .i64 (sumN (cF x.fCopies name) (rmG x.fCopies) i), .int .i64 (sumN (cF x.fCopies name) (hdG x.fCopies) i), .any, .any, .any, .any, .any, .any, .any, .any, .any, .any, .any, .ro 12 (x.fCopies.map PilotCopy.D), .int .i64 ((x.fCopies.map PilotCopy.D).length : Int), .int .i64 (i : Int)]) (fun i gs => []) 0 (Nat.zero_le _) ?_ ?_
  · refine ⟨?_, True.intro⟩
    · repeat' (first | exact True.intro | refine And.intro rfl ?_)
  intro i gs hi0
  repeat' (first | (refine g_op ?_; conv => whnf) | (refine And.intro ?_ ?_; (focus (first | exact rfl | exact Nat.le_of_ble_eq_true rfl | decide | omega | fail)); conv => whnf) | (refine g_seq ?_) | (refine XS.go ?_) | (refine g_ops ?_) | (refine g_nil ?_; conv => whnf) | (refine g_cond ?_; conv => whnf) | fail)
  refine Br.mk (fun hb => ?_) (fun hb => ?_)
  · have hlt : i < x.fCopies.length := by simpa using hb
    clear hb
    conv => whnf
    repeat' (first | (refine z_ld1 ?_; first | (refine z_ld rfl rfl rfl rfl (by first | (simp only [List.length_set]; assumption) | assumption | omega) (by first | exact elt_set (by first | assumption | (simp only [List.length_set]; assumption)) | assumption) ?_; conv => whnf) | (refine z_ld0 rfl ?_; conv => whnf)) | (refine z_st1 ?_; first | (refine z_st rfl rfl rfl (by first | (simp only [List.length_set]; assumption) | assumption | omega) (by first | exact elt_set (by first | assumption | (simp only [List.length_set]; assumption)) | assumption) rfl rfl ?_; conv => whnf) | (refine z_st0 ?_; conv => whnf)) | (refine z_ix1 ?_; first | (refine z_ix rfl rfl rfl rfl rfl ⟨by first | omega | (simp only [decide_eq_true_eq, Bool.not_eq_true', Bool.or_eq_false_iff, decide_eq_false_iff_not, Bool.and_eq_true, Bool.not_eq_false'] at *; omega), by first | omega | (simp only [decide_eq_true_eq, Bool.not_eq_true', Bool.or_eq_false_iff, decide_eq_false_iff_not, Bool.and_eq_true, Bool.not_eq_false'] at *; omega)⟩ ?_; conv => whnf) | (refine z_ix0 rfl rfl ?_; conv => whnf)) | (refine z_op ?_ ?_; (focus exact rfl); conv => whnf) | (refine zs_ops ?_ ?_; (focus exact rfl)) | (refine z_nil fun vals => ?_; conv => whnf) | (refine z_eff ?_; conv => whnf) | (refine g_op ?_; conv => whnf) | (refine And.intro ?_ ?_; (focus (first | exact rfl | exact Nat.le_of_ble_eq_true rfl | decide | omega | fail)); conv => whnf) | (refine g_seq ?_) | (refine XS.go ?_) | (refine g_ops ?_) | (refine g_nil ?_; conv => whnf) | (refine g_cond ?_; conv => whnf) | (refine g_skip ?_; conv => whnf) | (refine g_block ?_) | (refine fun _ => ?_; conv => whnf) | (refine Br.mk (fun hb => ?_) (fun hb => ?_) <;> conv => whnf) | fail)
    · have hc : cF x.fCopies name i = true := by simpa [cF, hn2] using hb
      refine ⟨i + 1, by omega, by omega, ?_, True.intro⟩
      have hw : IntKind.wrap .i64 ((i : Int) + 1) = ((i + 1 : Nat) : Int) := by rw [wrap_ok (by omega) (by omega)]; rfl
      repeat' (first | exact True.intro | refine And.intro (congrArg (D.int .i64) hw) ?_ | refine And.intro (congrArg (D.int .i64) (by rw [sumN, if_pos hc]; rfl)) ?_ | refine And.intro rfl ?_)
    · have hc : cF x.fCopies name i = false := by simpa [cF, hn2] using hb
      refine ⟨i + 1, by omega, by omega, ?_, True.intro⟩
      have hw : IntKind.wrap .i64 ((i : Int) + 1) = ((i + 1 : Nat) : Int) := by rw [wrap_ok (by omega) (by omega)]; rfl
      repeat' (first | exact True.intro | refine And.intro (congrArg (D.int .i64) hw) ?_ | refine And.intro (congrArg (D.int .i64) (by rw [sumN, if_neg (by rw [hc]; exact Bool.false_ne_true)])) ?_ | refine And.intro rfl ?_)
  have hi : i = x.fCopies.length := by
    have : ¬ i < x.fCopies.length := by simpa using hb
    omega
  subst hi
  conv => whnf
  repeat' (first | (refine g_op ?_; conv => whnf) | (refine And.intro ?_ ?_; (focus (first | exact rfl | exact Nat.le_of_ble_eq_true rfl | decide | omega | fail)); conv => whnf) | (refine g_seq ?_) | (refine XS.go ?_) | (refine g_ops ?_) | (refine g_nil ?_; conv => whnf) | (refine g_ret ?_; conv => whnf) | (refine g_exit ?_; conv => whnf) | (refine r_t ?_; conv => whnf) | (refine r_nil ?_; conv => whnf) | fail)
  (conv => lhs; whnf)
  rw [usd, usd, if_neg hn, if_neg hn]
  rfl
end Go.Ab
