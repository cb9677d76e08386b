/- Steps towards the law: contracts of functions and facts of lists. -/
import Derived.Test.YtalddljlemppnaaStewM
import Derived.Test.YtalddljlemppnaaRows
set_option linter.unusedSimpArgs false
set_option linter.unusedVariables false
namespace Go.Ab
open Go Go.RowKit Go.Proofs
attribute [local irreducible] XC Rdr IntKind.wrap xw xos xqs xr xd
set_option maxRecDepth 100000

/-- impl.one -/
def cf102 : CF := ⟨4, [.t 2],
  (.seq (.ops [⟨some 2, .mv (.k (.int .i64 0)), none⟩])
  (.seq (.seq (.ops [⟨some 3, .mv (.t 0), none⟩])
  (.cond (.t 3)
  (.seq (.ops [⟨some 2, .mv (.k (.int .i64 1)), none⟩])
  .ret)
  .skip))
  (.seq (.ops [⟨some 2, .mv (.k (.int .i64 0)), none⟩])
  .ret)))⟩
theorem c102 : compileF Try.prog [] 102 = some cf102 := by kernel_rfl
/-- (*impl.StewBook).drained -/
def cf103 : CF := ⟨18, [.t 4],
  (.seq (.ops [⟨some 3, .bx (.t 1), none⟩,
    ⟨some 4, .mv (.k (.bool false)), none⟩])
  (.seq (.ops [⟨some 6, .mv (.t 0), none⟩,
    ⟨some 7, .fa 6 1 6 (.t 3), none⟩,
    ⟨some 8, .ld 1 false (.t 7), none⟩,
    ⟨some 9, .call 79 [(.t 6), (.t 8)], none⟩,
    ⟨some 5, .mv (.t 9), none⟩])
  (.seq (.ops [⟨some 10, .mv (.t 5), none⟩,
    ⟨some 11, .ptb true (.t 10) (.k (.nilp)), none⟩,
    ⟨some 12, .mv (.t 11), none⟩,
    ⟨some 13, .mv (.t 5), some (12, true)⟩,
    ⟨some 14, .nilc (.t 13), some (12, true)⟩,
    ⟨some 15, .fa 1 1 1 (.t 14), some (12, true)⟩,
    ⟨some 16, .ld 1 false (.t 15), some (12, true)⟩,
    ⟨some 17, .pick (.t 12) (.t 16) (.k (.bool false)), none⟩,
    ⟨some 4, .mv (.t 17), none⟩])
  .ret)))⟩
theorem c103 : compileF Try.prog [] 103 = some cf103 := by kernel_rfl
/-- spec.l22Drains -/
def cf101 : CF := ⟨20, [.t 4],
  (.seq (.ops [⟨some 2, .bx (.t 0), none⟩,
    ⟨some 3, .bx (.t 1), none⟩,
    ⟨some 4, .mv (.k (.bool false)), none⟩])
  (.seq (.ops [⟨some 6, .ld 4 true (.t 2), none⟩,
    ⟨some 7, .fa 6 1 6 (.t 3), none⟩,
    ⟨some 8, .ld 1 false (.t 7), none⟩,
    ⟨some 9, .call 138 [(.t 6), (.t 8)], none⟩,
    ⟨some 5, .mv (.t 9), none⟩])
  (.seq (.ops [⟨some 10, .mv (.t 5), none⟩,
    ⟨some 11, .bin .geq (.t 10) (.k (.int .i64 0)), none⟩,
    ⟨some 12, .mv (.t 11), none⟩,
    ⟨some 13, .fa 3 1 3 (.t 2), some (12, true)⟩,
    ⟨some 14, .ld 1 false (.t 13), some (12, true)⟩,
    ⟨some 15, .mv (.t 5), some (12, true)⟩,
    ⟨some 16, .ix 2 (.t 14) (.t 15), some (12, true)⟩,
    ⟨some 17, .fa 1 1 1 (.t 16), some (12, true)⟩,
    ⟨some 18, .ld 1 false (.t 17), some (12, true)⟩,
    ⟨some 19, .pick (.t 12) (.t 18) (.k (.bool false)), none⟩,
    ⟨some 4, .mv (.t 19), none⟩])
  .ret)))⟩
theorem c101 : compileF Try.prog [] 101 = some cf101 := by kernel_rfl
/-- spec.l22Live -/
def cf100 : CF := ⟨37, [.t 4],
  (.seq (.ops [⟨some 2, .bx (.t 0), none⟩,
    ⟨some 4, .mv (.k (.nil)), none⟩])
  (.seq (.ops [⟨some 7, .bsl (.int .i64 0) 0 [], none⟩,
    ⟨some 5, .mv (.t 7), none⟩])
  (.seq (.seq (.ops [⟨some 6, .mv (.k (.int .i64 0)), none⟩])
  (.block 0 (.loop (.seq (.seq (.ops [⟨some 8, .mv (.t 6), none⟩,
    ⟨some 9, .fa 2 1 2 (.t 2), none⟩,
    ⟨some 10, .ld 1 false (.t 9), none⟩,
    ⟨some 11, .lenl (.t 10), none⟩,
    ⟨some 12, .bin .lss (.t 8) (.t 11), none⟩])
  (.cond (.t 12)
  .skip
  (.exit 0)))
  (.seq (.block 1 (.seq (.ops [⟨some 15, .fa 2 1 2 (.t 2), none⟩,
    ⟨some 16, .ld 1 false (.t 15), none⟩,
    ⟨some 17, .mv (.t 6), none⟩,
    ⟨some 18, .ix 7 (.t 16) (.t 17), none⟩,
    ⟨some 19, .fa 0 1 0 (.t 18), none⟩,
    ⟨some 20, .ld 1 false (.t 19), none⟩,
    ⟨some 21, .mv (.t 1), none⟩,
    ⟨some 22, .bin .eql (.t 20) (.t 21), none⟩,
    ⟨some 23, .mv (.t 22), none⟩,
    ⟨some 24, .fa 2 1 2 (.t 2), some (23, true)⟩,
    ⟨some 25, .ld 1 false (.t 24), some (23, true)⟩,
    ⟨some 26, .mv (.t 6), some (23, true)⟩,
    ⟨some 27, .ix 7 (.t 25) (.t 26), some (23, true)⟩,
    ⟨some 28, .fa 5 1 5 (.t 27), some (23, true)⟩,
    ⟨some 29, .ld 1 false (.t 28), some (23, true)⟩,
    ⟨some 30, .not (.t 29), some (23, true)⟩,
    ⟨some 31, .pick (.t 23) (.t 30) (.k (.bool false)), none⟩])
  (.cond (.t 31)
  (.ops [⟨some 32, .mv (.t 5), none⟩,
    ⟨some 33, .mv (.t 6), none⟩,
    ⟨some 34, .bsl (.int .i64 0) 1 [(0, (.t 33))], none⟩,
    ⟨some 35, .app 1 8 (.t 32) (.t 34), none⟩,
    ⟨some 5, .mv (.t 35), none⟩])
  .skip)))
  (.ops [⟨some 13, .mv (.t 6), none⟩,
    ⟨some 14, .bin .add (.t 13) (.k (.int .i64 1)), none⟩,
    ⟨some 6, .mv (.t 14), none⟩]))))))
  (.seq (.ops [⟨some 36, .mv (.t 5), none⟩,
    ⟨some 4, .mv (.t 36), none⟩])
  .ret))))⟩
theorem c100 : compileF Try.prog [] 100 = some cf100 := by kernel_rfl
def b01 (x : Bool) : Int := if x then 1 else 0
def drP (b : StewBook) (c : StewCopy) : Bool := !decide (berI b c.fBerth < 0) && (b.fBerths.getD (berI b c.fBerth).toNat default).fDrain
theorem berI_hit (b : StewBook) (name : ByteArray) (h : ¬ berI b name < 0) : berI b name < b.fBerths.length := by
  rcases idxN_cases (f := berF b name) (k := b.fBerths.length) (i := 0) with ⟨h1, _⟩ | ⟨j, h1, _, h3, h4⟩
  · exact absurd (show berI b name < 0 by unfold berI; rw [h1]; decide) h
  · have e : berI b name = j := h1
    omega
theorem impl_one (x : Bool) : Rdr Try.prog 102 [.bool x] (.int .i64 (b01 x)) := by
  refine Rdr.intro' hm c102 (Nat.le_of_ble_eq_true rfl) ?_
  conv => whnf
  cases x
  · skip
    repeat' (first | (refine g_op ?_; conv => whnf) | (refine And.intro ?_ ?_; (focus (first | exact rfl | exact Nat.le_of_ble_eq_true rfl | decide | omega | fail)); conv => whnf) | (refine g_seq ?_) | (refine XS.go ?_) | (refine g_ops ?_) | (refine g_nil ?_; conv => whnf) | (refine Br.f ?_ ?_; (focus (first | assumption | exact rfl)); conv => whnf) | (refine g_cond ?_; conv => whnf) | (refine g_skip ?_; conv => whnf) | (refine g_ret ?_; conv => whnf) | (refine r_t ?_; conv => whnf) | (refine r_nil ?_; conv => whnf) | fail)
    rfl
  · skip
    repeat' (first | (refine g_op ?_; conv => whnf) | (refine And.intro ?_ ?_; (focus (first | exact rfl | exact Nat.le_of_ble_eq_true rfl | decide | omega | fail)); conv => whnf) | (refine g_seq ?_) | (refine XS.go ?_) | (refine g_ops ?_) | (refine g_nil ?_; conv => whnf) | (refine Br.t ?_ ?_; (focus (first | assumption | exact rfl)); conv => whnf) | (refine g_cond ?_; conv => whnf) | (refine g_ret ?_; conv => whnf) | (refine r_t ?_; conv => whnf) | (refine r_nil ?_; conv => whnf) | fail)
    rfl
set_option maxHeartbeats 4000000 in
theorem impl_drained (b : StewBook) (c : StewCopy) (h2 : b.fBerths.length ≤ 1048576) : Rdr Try.prog 103 [.cref b.D, c.D] (.bool (drP b c)) := by
  have hq := impl_berth b c.fBerth h2
  refine Rdr.intro' hm c103 (Nat.le_of_ble_eq_true rfl) ?_
  conv => whnf
  by_cases h : berI b c.fBerth < 0
  · rw [ptr_none h] at hq
    repeat' (first | (refine z_skipF' ?_ ?_; (focus ((conv => lhs; whnf); done)); (conv => whnf); refine And.intro ?_ ?_; (focus exact rfl)) | (refine z_ld1 ?_; first | (refine z_ld rfl rfl rfl rfl (by first | (simp only [List.length_set]; assumption) | assumption | omega) (by first | exact elt_set (by first | assumption | (simp only [List.length_set]; assumption)) | assumption) ?_; conv => whnf) | (refine z_ld0 rfl ?_; conv => whnf)) | (refine z_op ?_ ?_; (focus exact rfl); conv => whnf) | (refine z_pick ?_ ?_; (focus exact rfl); conv => whnf) | (refine zs_ops ?_ ?_; (focus exact rfl)) | (refine z_nil fun vals => ?_; conv => whnf) | (refine z_call ?_ ?_; (focus exact rfl)) | (refine RC.of (hq) ?_ ?_; (focus exact rfl); conv => whnf) | (refine g_op ?_; conv => whnf) | (refine And.intro ?_ ?_; (focus (first | exact rfl | exact Nat.le_of_ble_eq_true rfl | decide | omega | fail)); conv => whnf) | (refine g_seq ?_) | (refine XS.go ?_) | (refine g_ops ?_) | (refine g_nil ?_; conv => whnf) | (refine g_ret ?_; conv => whnf) | (refine r_t ?_; conv => whnf) | (refine r_nil ?_; conv => whnf) | (refine fun _ => ?_; conv => whnf) | fail)
    (conv => lhs; whnf)
    rw [drP, decide_eq_true h]
    rfl
  · rw [ptr_some h] at hq
    repeat' (first | (refine z_pickT ?_ ?_ ?_; (focus ((conv => lhs; whnf); done)); (focus exact rfl); (conv => whnf)) | (refine z_ld1 ?_; first | (refine z_ld rfl rfl rfl rfl (by first | (simp only [List.length_set]; assumption) | assumption | omega) (by first | exact elt_set (by first | assumption | (simp only [List.length_set]; assumption)) | assumption) ?_; conv => whnf) | (refine z_ld0 rfl ?_; conv => whnf)) | (refine z_ld1g ?_; first | (refine z_ldg rfl rfl rfl rfl rfl rfl rfl (by (repeat intro _); exact ⟨(by first | (simp only [List.length_set]; assumption) | assumption | omega), (by first | exact elt_set (by first | assumption | (simp only [List.length_set]; assumption)) | assumption)⟩) rfl rfl rfl rfl ?_; conv => whnf) | (refine z_ld0g ?_; (conv => whnf); refine And.intro ?_ ?_; (focus exact rfl); conv => whnf)) | (refine z_op ?_ ?_; (focus exact rfl); conv => whnf) | (refine z_opg0 ?_; (conv => whnf); refine And.intro ?_ ?_; (focus exact rfl); conv => whnf) | (refine zs_ops ?_ ?_; (focus exact rfl)) | (refine z_nil fun vals => ?_; conv => whnf) | (refine z_call ?_ ?_; (focus exact rfl)) | (refine RC.of (hq) ?_ ?_; (focus exact rfl); conv => whnf) | (refine g_op ?_; conv => whnf) | (refine And.intro ?_ ?_; (focus (first | exact rfl | exact Nat.le_of_ble_eq_true rfl | decide | omega | fail)); conv => whnf) | (refine g_seq ?_) | (refine XS.go ?_) | (refine g_ops ?_) | (refine g_nil ?_; conv => whnf) | (refine g_ret ?_; conv => whnf) | (refine r_t ?_; conv => whnf) | (refine r_nil ?_; conv => whnf) | (refine fun _ => ?_; conv => whnf) | fail)
    (conv => lhs; whnf)
    rw [drP, decide_eq_false h]
    rfl
set_option maxHeartbeats 4000000 in
theorem spec_Drains (b : StewBook) (c : StewCopy) (h2 : b.fBerths.length ≤ 1048576) : Rdr Try.prog 101 [b.D, c.D] (.bool (drP b c)) := by
  have hlt : 0 ≤ berI b c.fBerth → berI b c.fBerth < b.fBerths.length := fun h => berI_hit b _ (by omega)
  refine Rdr.intro' hm c101 (Nat.le_of_ble_eq_true rfl) ?_
  conv => whnf
  repeat' (first | (refine g_op ?_; conv => whnf) | (refine And.intro ?_ ?_; (focus (first | exact rfl | exact Nat.le_of_ble_eq_true rfl | decide | omega | fail)); conv => whnf) | (refine g_seq ?_) | (refine g_ops ?_) | (refine g_nil ?_; conv => whnf) | (refine fun _ => ?_; conv => whnf) | fail)
  refine XS.freezeB 2 rfl ?_
  repeat' (first | (refine z_ld1 ?_; first | (refine z_ld rfl rfl rfl rfl (by first | (simp only [List.length_set]; assumption) | assumption | omega) (by first | exact elt_set (by first | assumption | (simp only [List.length_set]; assumption)) | assumption) ?_; conv => whnf) | (refine z_ld0 rfl ?_; conv => whnf)) | (refine z_ld1g ?_; first | (refine z_ldg rfl rfl rfl rfl rfl rfl rfl (by (repeat intro _); exact ⟨(by first | (simp only [List.length_set]; assumption) | assumption | omega), (by first | exact elt_set (by first | assumption | (simp only [List.length_set]; assumption)) | assumption)⟩) rfl rfl rfl rfl ?_; conv => whnf) | (refine z_ld0g ?_; (conv => whnf); refine And.intro ?_ ?_; (focus exact rfl); conv => whnf)) | (refine z_ix1g ?_; refine z_ixg rfl rfl rfl rfl rfl rfl rfl (by (repeat intro _); refine ⟨?_, ?_⟩ <;> first | omega | (simp only [decide_eq_true_eq, Bool.not_eq_true', Bool.or_eq_false_iff, decide_eq_false_iff_not, Bool.and_eq_true, Bool.not_eq_false'] at *; omega)) ?_) | (refine z_op ?_ ?_; (focus exact rfl); conv => whnf) | (refine z_opg0 ?_; (conv => whnf); refine And.intro ?_ ?_; (focus exact rfl); conv => whnf) | (refine z_pick ?_ ?_; (focus exact rfl); conv => whnf) | (refine zs_ops ?_ ?_; (focus exact rfl)) | (refine z_nil fun vals => ?_; conv => whnf) | (refine z_call ?_ ?_; (focus exact rfl)) | (refine RC.of (spec_Berth b _ h2) ?_ ?_; (focus exact rfl); conv => whnf) | (refine And.intro ?_ ?_; (focus (first | exact rfl | exact Nat.le_of_ble_eq_true rfl | decide | omega | fail)); conv => whnf) | (refine g_seq ?_) | (refine XS.go ?_) | (refine g_ret ?_; conv => whnf) | (refine r_t ?_; conv => whnf) | (refine r_nil ?_; conv => whnf) | fail)
  (conv => lhs; whnf)
  refine congrArg D.bool ?_
  clear hlt
  rw [drP]
  by_cases h : berI b c.fBerth < 0
  · have h' : ¬ 0 ≤ berI b c.fBerth := by omega
    simp [h, h']
  · simp [h, Int.not_lt.1 h]
def liveP (b : StewBook) (name : ByteArray) (j : Nat) : Bool := (b.fCopies.getD j default).fService.toList == name.toList && !(b.fCopies.getD j default).fEnding
def liveUp (b : StewBook) (name : ByteArray) : Nat → List Int
  | 0 => []
  | i + 1 => if liveP b name i then liveUp b name i ++ [(i : Int)] else liveUp b name i
theorem liveUp_len (b : StewBook) (name : ByteArray) : ∀ i, (liveUp b name i).length ≤ i
  | 0 => Nat.le_refl _
  | i + 1 => by
    have := liveUp_len b name i
    unfold liveUp
    split <;> simp <;> omega
theorem liveUp_lt (b : StewBook) (name : ByteArray) : ∀ {i : Nat} {v : Int}, v ∈ liveUp b name i → 0 ≤ v ∧ v < i
  | 0, v, h => by simp [liveUp] at h
  | i + 1, v, h => by
    unfold liveUp at h
    split at h
    · rcases List.mem_append.1 h with h | h
      · have := liveUp_lt b name h
        omega
      · simp at h
        omega
    · have := liveUp_lt b name h
      omega
set_option maxHeartbeats 8000000 in
theorem spec_Live22 (b : StewBook) (name : ByteArray) (h3 : b.fCopies.length ≤ 1048576) : Rdr Try.prog 100 [b.D, .str name] (.ro 1 ((liveUp b name b.fCopies.length).map (D.int .i64))) := by
  refine Rdr.introF hm [35] rfl c100 (Nat.le_of_ble_eq_true rfl) ?_
  conv => whnf
  repeat' (first | (refine g_op ?_; conv => whnf) | (refine And.intro ?_ ?_; (focus (first | exact rfl | exact Nat.le_of_ble_eq_true rfl | decide | omega | fail)); conv => whnf) | (refine g_seq ?_) | (refine g_ops ?_) | (refine g_nil ?_; conv => whnf) | (refine fun _ => ?_; conv => whnf) | fail)
  refine XS.freezeB 2 rfl ?_
  refine XS.go ?_
  repeat' (first | (refine g_op ?_; conv => whnf) | (refine And.intro ?_ ?_; (focus (first | exact rfl | exact Nat.le_of_ble_eq_true rfl | decide | omega | fail)); conv => whnf) | (refine g_seq ?_) | (refine g_ops ?_) | (refine g_nil ?_; conv => whnf) | fail)
  refine XS.own 5 35 1 rfl fun b0 => ?_
  repeat' (first | (refine g_op ?_; conv => whnf) | (refine And.intro ?_ ?_; (focus (first | exact rfl | exact Nat.le_of_ble_eq_true rfl | decide | omega | fail)); conv => whnf) | (refine g_seq ?_) | (refine XS.go ?_) | (refine g_ops ?_) | (refine g_loop ?_) | (refine g_nil ?_; conv => whnf) | (refine g_block ?_) | fail)
  refine XLc.mkA (α := Nat × Nat) (fun i => i.1 ≤ b.fCopies.length ∧ (liveUp b name i.1).length ≤ i.2) (fun i => b.fCopies.length - i.1) (fun i gs => [.any, .str name, .cref b.D, .any, .nil, .lsl 35 (gs 35) (liveUp b name i.1).length i.2, .int .i64 (i.1 : Int)]) (fun i gs => [(35, .arr 1 ((liveUp b name i.1).map (D.int .i64)) i.2)]) (0, 0) ⟨Nat.zero_le _, Nat.le_refl _⟩ ?_ ?_
  · refine ⟨?_, ?_⟩
    · repeat' (first | exact True.intro | refine And.intro rfl ?_)
    · refine And.intro rfl True.intro
  intro i gs hI
  obtain ⟨i, cp⟩ := i
  obtain ⟨hi0, hi1⟩ := hI
  simp only at hi0 hi1
  dsimp only
  repeat' (first | (refine z_ld1 ?_; first | (refine z_ld rfl rfl rfl rfl (by first | (simp only [List.length_set]; assumption) | assumption | omega) (by first | exact elt_set (by first | assumption | (simp only [List.length_set]; assumption)) | assumption) ?_; conv => whnf) | (refine z_ld0 rfl ?_; conv => whnf)) | (refine z_op ?_ ?_; (focus exact rfl); conv => whnf) | (refine zs_ops ?_ ?_; (focus exact rfl)) | (refine z_nil fun vals => ?_; conv => whnf) | (refine And.intro ?_ ?_; (focus (first | exact rfl | exact Nat.le_of_ble_eq_true rfl | decide | omega | fail)); conv => whnf) | (refine g_seq ?_) | (refine XS.go ?_) | (refine g_cond ?_; conv => whnf) | fail)
  refine Br.mk (fun hb => ?_) (fun hb => ?_)
  · have hlt : i < b.fCopies.length := by simpa using hb
    clear hb
    have hw : IntKind.wrap .i64 ((i : Int) + 1) = ((i + 1 : Nat) : Int) := by rw [wrap_ok (by omega) (by omega)]; rfl
    conv => whnf
    repeat' (first | (refine z_ld1 ?_; first | (refine z_ld rfl rfl rfl rfl (by first | (simp only [List.length_set]; assumption) | assumption | omega) (by first | exact elt_set (by first | assumption | (simp only [List.length_set]; assumption)) | assumption) ?_; conv => whnf) | (refine z_ld0 rfl ?_; conv => whnf)) | (refine z_ld1g ?_; first | (refine z_ldg rfl rfl rfl rfl rfl rfl rfl (by (repeat intro _); exact ⟨(by first | (simp only [List.length_set]; assumption) | assumption | omega), (by first | exact elt_set (by first | assumption | (simp only [List.length_set]; assumption)) | assumption)⟩) rfl rfl rfl rfl ?_; conv => whnf) | (refine z_ld0g ?_; (conv => whnf); refine And.intro ?_ ?_; (focus exact rfl); conv => whnf)) | (refine z_ix1 ?_; first | (refine z_ix rfl rfl rfl rfl rfl ⟨by first | omega | (simp only [decide_eq_true_eq, Bool.not_eq_true', Bool.or_eq_false_iff, decide_eq_false_iff_not, Bool.and_eq_true, Bool.not_eq_false'] at *; omega), by first | omega | (simp only [decide_eq_true_eq, Bool.not_eq_true', Bool.or_eq_false_iff, decide_eq_false_iff_not, Bool.and_eq_true, Bool.not_eq_false'] at *; omega)⟩ ?_; conv => whnf) | (refine z_ix0 rfl rfl ?_; conv => whnf)) | (refine z_ix1g ?_; refine z_ixg rfl rfl rfl rfl rfl rfl rfl (by (repeat intro _); refine ⟨?_, ?_⟩ <;> first | omega | (simp only [decide_eq_true_eq, Bool.not_eq_true', Bool.or_eq_false_iff, decide_eq_false_iff_not, Bool.and_eq_true, Bool.not_eq_false'] at *; omega)) ?_) | (refine z_op ?_ ?_; (focus exact rfl); conv => whnf) | (refine z_opg0 ?_; (conv => whnf); refine And.intro ?_ ?_; (focus exact rfl); conv => whnf) | (refine z_pick ?_ ?_; (focus exact rfl); conv => whnf) | (refine zs_ops ?_ ?_; (focus exact rfl)) | (refine z_nil fun vals => ?_; conv => whnf) | (refine And.intro ?_ ?_; (focus (first | exact rfl | exact Nat.le_of_ble_eq_true rfl | decide | omega | fail)); conv => whnf) | (refine g_seq ?_) | (refine XS.go ?_) | (refine g_cond ?_; conv => whnf) | (refine g_skip ?_; conv => whnf) | (refine g_block ?_) | fail)
    refine Br.mk (fun hb => ?_) (fun hb => ?_)
    · have hp : liveP b name i = true := hb
      have he : liveUp b name (i + 1) = liveUp b name i ++ [(i : Int)] := by rw [liveUp, if_pos hp]
      clear hb
      conv => whnf
      repeat' (first | (refine g_op ?_; conv => whnf) | (refine And.intro ?_ ?_; (focus (first | exact rfl | exact Nat.le_of_ble_eq_true rfl | decide | omega | fail)); conv => whnf) | (refine g_ops ?_) | (refine fun _ => ?_; conv => whnf) | fail)
      refine ⟨by simp, rfl, ?_⟩
      conv => whnf
      refine ⟨rfl, ?_⟩
      conv => whnf
      refine ⟨rfl, rfl, rfl, ?_⟩
      conv => whnf
      have hll := liveUp_len b name i
      refine ⟨?_, Nat.le_of_ble_eq_true rfl, (by decide), fun n' b' c' hn hc => ?_⟩
      · show _ + 1 ≤ 1073741824
        rw [List.length_map]; omega
      have hn : n' = (liveUp b name (i + 1)).length := by
        rw [hn, he, List.length_map, List.length_append]
        rfl
      subst hn
      conv => whnf
      repeat' (first | (refine g_op ?_; conv => whnf) | (refine And.intro ?_ ?_; (focus (first | exact rfl | exact Nat.le_of_ble_eq_true rfl | decide | omega | fail)); conv => whnf) | (refine XS.go ?_) | (refine g_ops ?_) | (refine g_nil ?_; conv => whnf) | fail)
      refine ⟨(i + 1, c'), ⟨hlt, hc⟩, by simp only; omega, ?_, ?_⟩
      · repeat' (first | exact True.intro | refine And.intro (congrArg (D.int .i64) hw) ?_ | refine And.intro rfl ?_)
      · dsimp only
        rw [he, List.map_append]
        exact ⟨rfl, True.intro⟩
    · have hp : liveP b name i = false := hb
      have he : liveUp b name (i + 1) = liveUp b name i := by rw [liveUp, if_neg (by rw [hp]; exact Bool.false_ne_true)]
      clear hb
      conv => whnf
      repeat' (first | (refine g_op ?_; conv => whnf) | (refine And.intro ?_ ?_; (focus (first | exact rfl | exact Nat.le_of_ble_eq_true rfl | decide | omega | fail)); conv => whnf) | (refine XS.go ?_) | (refine g_ops ?_) | (refine g_nil ?_; conv => whnf) | (refine g_skip ?_; conv => whnf) | fail)
      refine ⟨(i + 1, cp), ⟨hlt, by rw [he]; exact hi1⟩, by simp only; omega, ?_, ?_⟩
      · dsimp only
        rw [he]
        repeat' (first | exact True.intro | refine And.intro (congrArg (D.int .i64) hw) ?_ | refine And.intro rfl ?_)
      · dsimp only
        rw [he]
        exact ⟨rfl, True.intro⟩
  have hi : i = b.fCopies.length := by
    have : ¬ i < b.fCopies.length := by simpa using hb
    omega
  subst hi
  clear hb
  conv => whnf
  repeat' (first | (refine g_op ?_; conv => whnf) | (refine And.intro ?_ ?_; (focus (first | exact rfl | exact Nat.le_of_ble_eq_true rfl | decide | omega | fail)); conv => whnf) | (refine g_seq ?_) | (refine XS.go ?_) | (refine g_ops ?_) | (refine g_nil ?_; conv => whnf) | (refine g_ret ?_; conv => whnf) | (refine g_exit ?_; conv => whnf) | (refine r_t ?_; conv => whnf) | (refine r_nil ?_; conv => whnf) | fail)
  refine ⟨⟨rfl, Nat.le_of_eq (by simp)⟩, ?_⟩
  show D.ro 1 ((D.frozs ((liveUp b name b.fCopies.length).map (D.int .i64))).take (liveUp b name b.fCopies.length).length) = _
  rw [D.frozs_map (fun _ => rfl), List.take_of_length_le (by simp)]
end Go.Ab
