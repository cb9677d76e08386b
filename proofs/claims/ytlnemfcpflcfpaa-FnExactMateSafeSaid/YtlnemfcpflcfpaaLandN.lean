/- Steps towards the law: contracts of functions and facts of lists. -/
import Derived.Test.YtlnemfcpflcfpaaLandM
import Derived.Test.YtlnemfcpflcfpaaRows
set_option linter.unusedSimpArgs false
set_option linter.unusedVariables false
namespace Go.Ab
open Go Go.RowKit Go.Proofs
attribute [local irreducible] XC Rdr IntKind.wrap xw xos xqs xr xd
set_option maxRecDepth 100000

def hG (l : List ByteArray) (h : ByteArray) (j : Nat) : Bool := !((l.getD j default).toList == h.toList)
theorem memB_all (h : ByteArray) : ∀ (l : List ByteArray), memB l h = !allN (hG l h) l.length 0
  | [] => rfl
  | x :: l => by
    have ih := memB_all h l
    have e : allN (hG (x :: l) h) l.length 1 = allN (hG l h) l.length 0 := by
      have : ∀ n i, allN (hG (x :: l) h) n (i + 1) = allN (hG l h) n i := by
        intro n
        induction n with
        | zero => intro i; rfl
        | succ n ih => intro i; rw [allN, allN, ih (i + 1)]; rfl
      exact this _ 0
    show (x.toList == h.toList || memB l h) = !((!(x.toList == h.toList)) && allN (hG (x :: l) h) l.length 1)
    rw [ih, e]
    cases (x.toList == h.toList) <;> simp
theorem hM_len {ms : List Mate} (h : ∀ i, (ms.getD i default).fRuns.length ≤ 20) : ∀ {i : Nat}, (hM ms i).length ≤ 20 * i
  | 0 => Nat.zero_le _
  | i + 1 => by
    have h1 := hM_len h (i := i)
    have h2 := h i
    have h3 := hX_len (acc := hM ms i) (xs := (ms.getD i default).fRuns) (k := (ms.getD i default).fRuns.length)
    rw [hM]
    omega
/-- laws.FnExactMateSafe -/
def cf9 : CF := ⟨27, [.t 2],
  (.seq (.ops [⟨some 1, .bx (.t 0), none⟩,
    ⟨some 2, .mv (.k (.bool false)), none⟩])
  (.seq (.ops [⟨some 3, .mv (.k (.int .i64 1048576)), none⟩])
  (.seq (.ops [⟨some 7, .ld 5 true (.t 1), none⟩,
    ⟨some 8, .mv (.t 3), none⟩,
    ⟨some 9, .call 45 [(.t 7), (.t 8)], none⟩,
    ⟨some 3, .mv (.t 9), none⟩])
  (.seq (.seq (.ops [⟨some 10, .mv (.t 3), none⟩,
    ⟨some 11, .bin .lss (.t 10) (.k (.int .i64 0)), none⟩])
  (.cond (.t 11)
  (.seq (.ops [⟨some 2, .mv (.k (.bool true)), none⟩])
  .ret)
  .skip))
  (.seq (.ops [⟨some 12, .ld 5 true (.t 1), none⟩,
    ⟨some 13, .call 47 [(.t 12)], none⟩,
    ⟨some 14, .call 49 [(.t 13)], none⟩,
    ⟨some 4, .mv (.t 14), none⟩])
  (.seq (.ops [⟨some 15, .ld 5 true (.t 1), none⟩,
    ⟨some 16, .call 47 [(.t 15)], none⟩,
    ⟨some 5, .al (.agg [.agg [.int .i64 0, .nil, .nil], .nil, .nil]), none⟩,
    ⟨none, .st 5 (.t 5) (.t 16), none⟩])
  (.seq (.ops [⟨some 17, .ld 5 true (.t 5), none⟩,
    ⟨some 18, .call 50 [(.t 17)], none⟩,
    ⟨some 6, .mv (.t 18), none⟩])
  (.seq (.seq (.ops [⟨some 19, .mv (.t 6), none⟩,
    ⟨some 20, .mv (.t 4), none⟩,
    ⟨some 21, .binb true (.t 19) (.t 20), none⟩])
  (.cond (.t 21)
  (.seq (.ops [⟨some 2, .mv (.k (.bool false)), none⟩])
  .ret)
  .skip))
  (.seq (.seq (.quiet [⟨some 22, .ld 5 true (.t 5), none⟩,
    ⟨some 23, .ld 5 true (.t 1), none⟩,
    ⟨some 24, .call 47 [(.t 23)], none⟩,
    ⟨some 25, .call 40 [(.t 22), (.t 24)], none⟩,
    ⟨some 26, .not (.t 25), none⟩])
  (.cond (.t 26)
  (.seq (.ops [⟨some 2, .mv (.k (.bool false)), none⟩])
  .ret)
  .skip))
  (.seq (.ops [⟨some 2, .mv (.k (.bool true)), none⟩])
  .ret))))))))))⟩
theorem c9 : compileF Try.prog [] 9 = some cf9 := by kernel_rfl
set_option maxHeartbeats 8000000 in
theorem spec_Safe (w : MateWorld) (hz : ∀ i, (w.fLand.fPlaces.getD i default).fWants.length ≤ 1048576) : Rdr Try.prog 49 [w.D] (.bool (safe w)) := by
  refine Rdr.intro' hm c49 (Nat.le_of_ble_eq_true rfl) ?_
  conv => whnf
  repeat' (first | (refine g_op ?_; conv => whnf) | (refine And.intro ?_ ?_; (focus (first | exact rfl | exact Nat.le_of_ble_eq_true rfl | decide | omega | fail)); conv => whnf) | (refine g_seq ?_) | (refine g_ops ?_) | (refine g_nil ?_; conv => whnf) | (refine fun _ => ?_; conv => whnf) | fail)
  refine XS.freezeB 1 rfl ?_
  repeat' (first | (refine z_ld1 ?_; first | (refine z_ld rfl rfl rfl rfl (by first | (simp only [List.length_set]; assumption) | assumption | omega) (by first | exact elt_set (by first | assumption | (simp only [List.length_set]; assumption)) | assumption) ?_; conv => whnf) | (refine z_ld0 rfl ?_; conv => whnf)) | (refine z_op ?_ ?_; (focus exact rfl); conv => whnf) | (refine zs_ops ?_ ?_; (focus exact rfl)) | (refine z_nil fun vals => ?_; conv => whnf) | (refine z_call ?_ ?_; (focus exact rfl)) | (refine RC.of (spec_WorldOk w hz) ?_ ?_; (focus exact rfl); conv => whnf) | (refine And.intro ?_ ?_; (focus (first | exact rfl | exact Nat.le_of_ble_eq_true rfl | decide | omega | fail)); conv => whnf) | (refine g_seq ?_) | (refine XS.go ?_) | (refine g_cond ?_; conv => whnf) | fail)
  refine Br.mk (fun hb => ?_) (fun hb => ?_)
  · have hc : worldOk w = false := by simpa using hb
    conv => whnf
    repeat' (first | (refine g_op ?_; conv => whnf) | (refine And.intro ?_ ?_; (focus (first | exact rfl | exact Nat.le_of_ble_eq_true rfl | decide | omega | fail)); conv => whnf) | (refine g_seq ?_) | (refine XS.go ?_) | (refine g_ops ?_) | (refine g_nil ?_; conv => whnf) | (refine g_ret ?_; conv => whnf) | (refine r_t ?_; conv => whnf) | (refine r_nil ?_; conv => whnf) | fail)
    (conv => lhs; whnf)
    rw [safe, hc]
    rfl
  have hc : worldOk w = true := by simpa using hb
  have hv : safe w = (allN (mF w.fMates) w.fMates.length 0 && true) := by rw [safe, hc]; rfl
  have hl := worldOk_mates hc
  have hr := worldOk_runs hc
  have hml := fun i => hM_len hr (i := i)
  clear hb hc
  conv => whnf
  repeat' (first | (refine g_skip ?_; conv => whnf) | fail)
  refine XS.go ?_
  repeat' (first | (refine g_op ?_; conv => whnf) | (refine And.intro ?_ ?_; (focus (first | exact rfl | exact Nat.le_of_ble_eq_true rfl | decide | omega | fail)); conv => whnf) | (refine g_seq ?_) | (refine g_ops ?_) | (refine g_nil ?_; conv => whnf) | fail)
  refine XS.own 3 67 1 rfl fun b0 => ?_
  refine XS.go ?_
  repeat' (first | (refine g_op ?_; conv => whnf) | (refine And.intro ?_ ?_; (focus (first | exact rfl | exact Nat.le_of_ble_eq_true rfl | decide | omega | fail)); conv => whnf) | (refine g_seq ?_) | (refine XS.go ?_) | (refine g_ops ?_) | (refine g_loop ?_) | (refine g_nil ?_; conv => whnf) | (refine g_block ?_) | fail)
  refine XLc.mkA (α := Nat × Nat) (fun p => p.1 ≤ w.fMates.length ∧ (hM w.fMates p.1).length ≤ p.2 ∧ safe w = (allN (mF w.fMates) (w.fMates.length - p.1) p.1 && true)) (fun p => w.fMates.length - p.1) (fun p gs => [.any, .cref w.D, .any, .lsl 67 (gs 67) (hM w.fMates p.1).length p.2, .int .i64 (p.1 : Int)]) (fun p gs => [(67, .arr 1 ((hM w.fMates p.1).map D.str) p.2)]) (0, 0) ⟨Nat.zero_le _, Nat.le_refl _, hv⟩ ?_ ?_
  · refine ⟨?_, ?_⟩
    · repeat' (first | exact True.intro | refine And.intro rfl ?_)
    · exact ⟨rfl, True.intro⟩
  intro p gsa hI
  obtain ⟨a, ca⟩ := p
  obtain ⟨hia, hca, hNa⟩ := hI
  simp only at hia hca hNa
  dsimp only
  repeat' (first | (refine z_ld1 ?_; first | (refine z_ld rfl rfl rfl rfl (by first | (simp only [List.length_set]; assumption) | assumption | omega) (by first | exact elt_set (by first | assumption | (simp only [List.length_set]; assumption)) | assumption) ?_; conv => whnf) | (refine z_ld0 rfl ?_; conv => whnf)) | (refine z_op ?_ ?_; (focus exact rfl); conv => whnf) | (refine zs_ops ?_ ?_; (focus exact rfl)) | (refine z_nil fun vals => ?_; conv => whnf) | (refine And.intro ?_ ?_; (focus (first | exact rfl | exact Nat.le_of_ble_eq_true rfl | decide | omega | fail)); conv => whnf) | (refine g_seq ?_) | (refine XS.go ?_) | (refine g_cond ?_; conv => whnf) | fail)
  refine Br.mk (fun hb => ?_) (fun hb => ?_)
  · have hlta : a < w.fMates.length := by simpa using hb
    have hwa : IntKind.wrap .i64 ((a : Int) + 1) = ((a + 1 : Nat) : Int) := by rw [wrap_ok (by omega) (by omega)]; rfl
    have hra := hr a
    have hma := hml a
    have hcon : safe w = (allN (chk (hM w.fMates a) (w.fMates.getD a default).fRuns) ((w.fMates.getD a default).fRuns.length - 0) 0 && (allN (mF w.fMates) (w.fMates.length - (a + 1)) (a + 1) && true)) := by
      rw [hNa, allN_step hlta, Bool.and_assoc, Nat.sub_zero]
      rfl
    clear hb hNa
    conv => whnf
    repeat' (first | (refine g_op ?_; conv => whnf) | (refine And.intro ?_ ?_; (focus (first | exact rfl | exact Nat.le_of_ble_eq_true rfl | decide | omega | fail)); conv => whnf) | (refine g_seq ?_) | (refine XS.go ?_) | (refine g_ops ?_) | (refine g_loop ?_) | (refine g_nil ?_; conv => whnf) | (refine g_skip ?_; conv => whnf) | (refine g_block ?_) | fail)
    refine XLc.cut (α := Nat) (β := Unit) 2 (fun cp _ => (hM w.fMates (a + 1)).length ≤ cp ∧ safe w = (allN (mF w.fMates) (w.fMates.length - (a + 1)) (a + 1) && true)) (fun cp gs => [.any, .cref w.D, .any, .lsl 67 (gs 67) (hM w.fMates (a + 1)).length cp, .int .i64 (a : Int)]) (fun cp _ => [(67, .arr 1 ((hM w.fMates (a + 1)).map D.str) cp)]) (fun _ => false = safe w) (fun _ => [.any, .any, .bool false]) ?_ ?_ ?_
    · refine XLc.mkA (α := Nat × Nat) (fun p => p.1 ≤ (w.fMates.getD a default).fRuns.length ∧ (hX (hM w.fMates a) (w.fMates.getD a default).fRuns p.1).length ≤ p.2 ∧ safe w = (allN (chk (hM w.fMates a) (w.fMates.getD a default).fRuns) ((w.fMates.getD a default).fRuns.length - p.1) p.1 && (allN (mF w.fMates) (w.fMates.length - (a + 1)) (a + 1) && true))) (fun p => (w.fMates.getD a default).fRuns.length - p.1) (fun p gs => [.any, .cref w.D, .any, .lsl 67 (gs 67) (hX (hM w.fMates a) (w.fMates.getD a default).fRuns p.1).length p.2, .int .i64 (a : Int), .int .i64 (p.1 : Int)]) (fun p gs => [(67, .arr 1 ((hX (hM w.fMates a) (w.fMates.getD a default).fRuns p.1).map D.str) p.2)]) (0, ca) ⟨Nat.zero_le _, hca, hcon⟩ ?_ ?_
      · refine ⟨?_, ?_⟩
        · repeat' (first | exact True.intro | refine And.intro rfl ?_)
        · exact ⟨rfl, True.intro⟩
      intro p gsk hI
      obtain ⟨k, ck⟩ := p
      obtain ⟨hik, hck, hNk⟩ := hI
      simp only at hik hck hNk
      dsimp only
      repeat' (first | (refine z_ld1 ?_; first | (refine z_ld rfl rfl rfl rfl (by first | (simp only [List.length_set]; assumption) | assumption | omega) (by first | exact elt_set (by first | assumption | (simp only [List.length_set]; assumption)) | assumption) ?_; conv => whnf) | (refine z_ld0 rfl ?_; conv => whnf)) | (refine z_ix1 ?_; first | (refine z_ix rfl rfl rfl rfl rfl ⟨by first | omega | (simp only [decide_eq_true_eq, Bool.not_eq_true', Bool.or_eq_false_iff, decide_eq_false_iff_not, Bool.and_eq_true, Bool.not_eq_false'] at *; omega), by first | omega | (simp only [decide_eq_true_eq, Bool.not_eq_true', Bool.or_eq_false_iff, decide_eq_false_iff_not, Bool.and_eq_true, Bool.not_eq_false'] at *; omega)⟩ ?_; conv => whnf) | (refine z_ix0 rfl rfl ?_; conv => whnf)) | (refine z_op ?_ ?_; (focus exact rfl); conv => whnf) | (refine zs_ops ?_ ?_; (focus exact rfl)) | (refine z_nil fun vals => ?_; conv => whnf) | (refine And.intro ?_ ?_; (focus (first | exact rfl | exact Nat.le_of_ble_eq_true rfl | decide | omega | fail)); conv => whnf) | (refine g_seq ?_) | (refine XS.go ?_) | (refine g_cond ?_; conv => whnf) | fail)
      refine Br.mk (fun hb => ?_) (fun hb => ?_)
      · have hltk : k < (w.fMates.getD a default).fRuns.length := by simpa using hb
        have hltk2 : k < (w.fMates.getD (a : Int).toNat default).fRuns.length := hltk
        have hwk : IntKind.wrap .i64 ((k : Int) + 1) = ((k + 1 : Nat) : Int) := by rw [wrap_ok (by omega) (by omega)]; rfl
        have hs := hNk.trans (by rw [allN_step (f := chk (hM w.fMates a) (w.fMates.getD a default).fRuns) hltk])
        have hc0 := hX_no (acc := hM w.fMates a) (xs := (w.fMates.getD a default).fRuns) (k := k)
        have hc1 := hX_yes (acc := hM w.fMates a) (xs := (w.fMates.getD a default).fRuns) (k := k)
        have hLl := hX_len (acc := hM w.fMates a) (xs := (w.fMates.getD a default).fRuns) (k := k)
        clear hb hNk
        conv => whnf
        repeat' (first | (refine z_ld1 ?_; first | (refine z_ld rfl rfl rfl rfl (by first | (simp only [List.length_set]; assumption) | assumption | omega) (by first | exact elt_set (by first | assumption | (simp only [List.length_set]; assumption)) | assumption) ?_; conv => whnf) | (refine z_ld0 rfl ?_; conv => whnf)) | (refine z_ld1g ?_; first | (refine z_ldg rfl rfl rfl rfl rfl rfl rfl (by (repeat intro _); exact ⟨(by first | (simp only [List.length_set]; assumption) | assumption | omega), (by first | exact elt_set (by first | assumption | (simp only [List.length_set]; assumption)) | assumption)⟩) rfl rfl rfl rfl ?_; conv => whnf) | (refine z_ld0g ?_; (conv => whnf); refine And.intro ?_ ?_; (focus exact rfl); conv => whnf)) | (refine z_st1 ?_; first | (refine z_st rfl rfl rfl (by first | (simp only [List.length_set]; assumption) | assumption | omega) (by first | exact elt_set (by first | assumption | (simp only [List.length_set]; assumption)) | assumption) rfl rfl ?_; conv => whnf) | (refine z_st0 ?_; conv => whnf)) | (refine z_ix1 ?_; first | (refine z_ix rfl rfl rfl rfl rfl ⟨by first | omega | (simp only [decide_eq_true_eq, Bool.not_eq_true', Bool.or_eq_false_iff, decide_eq_false_iff_not, Bool.and_eq_true, Bool.not_eq_false'] at *; omega), by first | omega | (simp only [decide_eq_true_eq, Bool.not_eq_true', Bool.or_eq_false_iff, decide_eq_false_iff_not, Bool.and_eq_true, Bool.not_eq_false'] at *; omega)⟩ ?_; conv => whnf) | (refine z_ix0 rfl rfl ?_; conv => whnf)) | (refine z_op ?_ ?_; (focus exact rfl); conv => whnf) | (refine z_opg0 ?_; (conv => whnf); refine And.intro ?_ ?_; (focus exact rfl); conv => whnf) | (refine z_pick ?_ ?_; (focus exact rfl); conv => whnf) | (refine zs_ops ?_ ?_; (focus exact rfl)) | (refine z_nil fun vals => ?_; conv => whnf) | (refine z_call ?_ ?_; (focus exact rfl)) | (refine z_eff ?_; conv => whnf) | (refine RC.of (spec_Alive _) ?_ ?_; (focus exact rfl); conv => whnf) | (refine And.intro ?_ ?_; (focus (first | exact rfl | exact Nat.le_of_ble_eq_true rfl | decide | omega | fail)); conv => whnf) | (refine g_seq ?_) | (refine XS.go ?_) | (refine g_cond ?_; conv => whnf) | (refine g_skip ?_; conv => whnf) | (refine g_block ?_) | (refine fun _ => ?_; conv => whnf) | fail)
        refine Br.mk (fun h1 => ?_) (fun h1 => ?_)
        · have hn : cnt ((w.fMates.getD a default).fRuns.getD k default) = false := congrArg Bool.not h1
          have he := hc0 hn
          conv => whnf
          repeat' (first | (refine g_op ?_; conv => whnf) | (refine And.intro ?_ ?_; (focus (first | exact rfl | exact Nat.le_of_ble_eq_true rfl | decide | omega | fail)); conv => whnf) | (refine XS.go ?_) | (refine g_ops ?_) | (refine g_nil ?_; conv => whnf) | (refine g_exit ?_; conv => whnf) | fail)
          refine ⟨(k + 1, ck), ⟨by simp only; omega, by simp only; rw [he]; exact hck, ?_⟩, by simp only; omega, ?_, ?_⟩
          · rw [hs]
            unfold chk
            rw [hn]
            rfl
          · repeat' (first | exact True.intro | refine And.intro (congrArg (D.int .i64) hwk) ?_ | refine And.intro rfl ?_ | refine And.intro (congrArg (fun l : List ByteArray => D.lsl 67 (gsk 67) l.length ck) he.symm) ?_)
          · exact ⟨congrArg (fun l : List ByteArray => some (D.arr 1 (l.map D.str) ck)) he.symm, True.intro⟩
        have hn : cnt ((w.fMates.getD a default).fRuns.getD k default) = true := congrArg Bool.not h1
        have he := hc1 hn
        have hcon : safe w = (allN (hG (hX (hM w.fMates a) (w.fMates.getD a default).fRuns k) ((w.fMates.getD a default).fRuns.getD k default).fWant.fHold) ((hX (hM w.fMates a) (w.fMates.getD a default).fRuns k).length - 0) 0 && (allN (chk (hM w.fMates a) (w.fMates.getD a default).fRuns) ((w.fMates.getD a default).fRuns.length - (k + 1)) (k + 1) && (allN (mF w.fMates) (w.fMates.length - (a + 1)) (a + 1) && true))) := by
          rw [hs, Nat.sub_zero, Bool.and_assoc]
          unfold chk
          rw [hn, memB_all]
          simp
        clear h1 hs hc0 hc1
        conv => whnf
        repeat' (first | (refine g_skip ?_; conv => whnf) | fail)
        refine XS.freezeB 6 rfl ?_
        repeat' (first | (refine g_op ?_; conv => whnf) | (refine And.intro ?_ ?_; (focus (first | exact rfl | exact Nat.le_of_ble_eq_true rfl | decide | omega | fail)); conv => whnf) | (refine g_seq ?_) | (refine XS.go ?_) | (refine g_ops ?_) | (refine g_loop ?_) | (refine g_nil ?_; conv => whnf) | (refine g_block ?_) | fail)
        generalize (hX (hM w.fMates a) (w.fMates.getD a default).fRuns k) = L at hck hLl he hcon ⊢
        refine XLc.cut (α := Unit) (β := Unit) 4 (fun _ gs => safe w = ((allN (chk (hM w.fMates a) (w.fMates.getD a default).fRuns) ((w.fMates.getD a default).fRuns.length - (k + 1)) (k + 1) && (allN (mF w.fMates) (w.fMates.length - (a + 1)) (a + 1) && true)))) (fun _ gs => [.any, .cref w.D, .any, .lsl 67 (gs 67) L.length ck, .int .i64 (a : Int), .int .i64 (k : Int), .cref ((w.fMates.getD a default).fRuns.getD k default).D]) (fun _ gs => [(67, .arr 1 (L.map D.str) ck)]) (fun _ => false = safe w) (fun _ => [.any, .any, .bool false]) ?_ ?_ ?_
        · skip
          refine XLc.mkL (α := Nat) (fun i => i ≤ L.length ∧ safe w = (allN (hG L ((w.fMates.getD a default).fRuns.getD k default).fWant.fHold) (L.length - i) i && (allN (chk (hM w.fMates a) (w.fMates.getD a default).fRuns) ((w.fMates.getD a default).fRuns.length - (k + 1)) (k + 1) && (allN (mF w.fMates) (w.fMates.length - (a + 1)) (a + 1) && true)))) (fun i => L.length - i) (fun i gs => [.any, .cref w.D, .any, .lsl 67 (gs 67) L.length ck, .int .i64 (a : Int), .int .i64 (k : Int), .cref ((w.fMates.getD a default).fRuns.getD k default).D, .int .i64 (i : Int)]) (fun i gs => [none, none, none, none, none, none, none, none, none, none, none, none, none, none, none, none, none, none, none, none, none, none, none, none, none, none, none, none, none, none, none, none, none, none, none, none, none, none, none, none, none, none, none, none, none, none, none, none, none, none, none, none, none, none, none, none, none, none, none, none, none, none, none, none, none, none, none, some (.arr 1 (L.map D.str) ck)]) 0 ⟨Nat.zero_le _, hcon⟩ ?_ ?_
          · refine ⟨?_, ?_⟩
            · repeat' (first | exact True.intro | refine And.intro rfl ?_)
            · repeat' (first | exact True.intro | refine And.intro rfl ?_)
          intro i gs hI
          obtain ⟨hi, hN⟩ := hI
          repeat' (first | (refine g_op ?_; conv => whnf) | (refine And.intro ?_ ?_; (focus (first | exact rfl | exact Nat.le_of_ble_eq_true rfl | decide | omega | fail)); conv => whnf) | (refine g_seq ?_) | (refine XS.go ?_) | (refine g_ops ?_) | (refine g_nil ?_; conv => whnf) | (refine g_cond ?_; conv => whnf) | fail)
          refine Br.mk (fun hb => ?_) (fun hb => ?_)
          · have hlt : i < L.length := by simpa using hb
            have hw : IntKind.wrap .i64 ((i : Int) + 1) = ((i + 1 : Nat) : Int) := by rw [wrap_ok (by omega) (by omega)]; rfl
            have hw1 : IntKind.wrap .i64 ((i : Int) - 1) = (i : Int) - 1 := wrap_ok (by omega) (by omega)
            have hbad := fun h => allN_bad (f := hG L ((w.fMates.getD a default).fRuns.getD k default).fWant.fHold) hlt hN h
            have hgood := fun h => allN_good (f := hG L ((w.fMates.getD a default).fRuns.getD k default).fWant.fHold) hlt hN h
            clear hN hb
            have hj0 : i < (L.map D.str).length := by rw [List.length_map]; exact hlt
            have he0 : (L.map D.str).getD i .any = D.str (L.getD i default) := elt_map hlt
            all_goals conv => whnf
            repeat' (first | (refine z_ld1 ?_; first | (refine z_ld rfl rfl rfl rfl (by first | (simp only [List.length_set]; assumption) | assumption | omega) (by first | exact elt_set (by first | assumption | (simp only [List.length_set]; assumption)) | assumption) ?_; conv => whnf) | (refine z_ld0 rfl ?_; conv => whnf)) | (refine z_ix1 ?_; first | (refine z_ix rfl rfl rfl rfl rfl ⟨by first | omega | (simp only [decide_eq_true_eq, Bool.not_eq_true', Bool.or_eq_false_iff, decide_eq_false_iff_not, Bool.and_eq_true, Bool.not_eq_false'] at *; omega), by first | omega | (simp only [decide_eq_true_eq, Bool.not_eq_true', Bool.or_eq_false_iff, decide_eq_false_iff_not, Bool.and_eq_true, Bool.not_eq_false'] at *; omega)⟩ ?_; conv => whnf) | (refine z_ix0 rfl rfl ?_; conv => whnf)) | (refine z_op ?_ ?_; (focus exact rfl); conv => whnf) | (refine zs_quiet ?_ ?_; (focus exact rfl)) | (refine z_nil fun vals => ?_; conv => whnf) | (refine g_op ?_; conv => whnf) | (refine And.intro ?_ ?_; (focus (first | exact rfl | exact Nat.le_of_ble_eq_true rfl | decide | omega | fail)); conv => whnf) | (refine g_seq ?_) | (refine XS.go ?_) | (refine g_ops ?_) | (refine g_nil ?_; conv => whnf) | (refine g_cond ?_; conv => whnf) | (refine g_skip ?_; conv => whnf) | (refine g_ret ?_; conv => whnf) | (refine g_block ?_) | (refine Br.mk (fun hb => ?_) (fun hb => ?_) <;> conv => whnf) | fail)
            all_goals
              first
              | (refine ⟨(), hbad ?_, ⟨?_, True.intro⟩⟩
                 · clear hbad hgood hw hcon he
                   first | (first | (refine (Bool.eq_false_iff.mpr fun h => ?_).symm; simp_all [hG]; done) | (refine Bool.eq_false_iff.mpr fun h => ?_; simp_all [hG]; done) | (simp_all [hG]; done) | (simp_all [hG]; omega) | (refine (Bool.eq_false_iff.mpr fun h => ?_).symm; simp_all [hG]; omega) | (refine Bool.eq_false_iff.mpr fun h => ?_; simp_all [hG]; omega) | (rw [Bool.eq_iff_iff]; constructor <;> intro h <;> simp_all [hG] <;> omega) | fail) | (rcases Nat.eq_zero_or_pos i with h0 | h0 <;> simp_all [hG] <;> omega) | (exact congrArg Bool.not hb) | fail
                 · repeat' (first | exact True.intro | refine And.intro rfl ?_))
              | (conv => lhs; whnf
                 refine congrArg D.bool (hbad ?_)
                 clear hbad hgood hw hcon he
                 first | (first | (refine (Bool.eq_false_iff.mpr fun h => ?_).symm; simp_all [hG]; done) | (refine Bool.eq_false_iff.mpr fun h => ?_; simp_all [hG]; done) | (simp_all [hG]; done) | (simp_all [hG]; omega) | (refine (Bool.eq_false_iff.mpr fun h => ?_).symm; simp_all [hG]; omega) | (refine Bool.eq_false_iff.mpr fun h => ?_; simp_all [hG]; omega) | (rw [Bool.eq_iff_iff]; constructor <;> intro h <;> simp_all [hG] <;> omega) | fail) | (rcases Nat.eq_zero_or_pos i with h0 | h0 <;> simp_all [hG] <;> omega) | (exact congrArg Bool.not hb) | fail)
              | (refine ⟨i + 1, ⟨by omega, ?_⟩, by omega, ?_, ?_⟩
                 · refine hgood ?_
                   clear hbad hgood hw hcon he
                   first | (first | (refine (Bool.eq_false_iff.mpr fun h => ?_).symm; simp_all [hG]; done) | (refine Bool.eq_false_iff.mpr fun h => ?_; simp_all [hG]; done) | (simp_all [hG]; done) | (simp_all [hG]; omega) | (refine (Bool.eq_false_iff.mpr fun h => ?_).symm; simp_all [hG]; omega) | (refine Bool.eq_false_iff.mpr fun h => ?_; simp_all [hG]; omega) | (rw [Bool.eq_iff_iff]; constructor <;> intro h <;> simp_all [hG] <;> omega) | fail) | (rcases Nat.eq_zero_or_pos i with h0 | h0 <;> simp_all [hG] <;> omega) | (exact congrArg Bool.not hb) | fail
                 · repeat' (first | exact True.intro | refine And.intro (congrArg (D.int .i64) hw) ?_ | refine And.intro rfl ?_)
                 · repeat' (first | exact True.intro | refine And.intro rfl ?_))
          have hge : ¬ i < L.length := by simpa using hb
          have hend : safe w = (allN (chk (hM w.fMates a) (w.fMates.getD a default).fRuns) ((w.fMates.getD a default).fRuns.length - (k + 1)) (k + 1) && (allN (mF w.fMates) (w.fMates.length - (a + 1)) (a + 1) && true)) := by rw [hN, allN_end hge, Bool.true_and]
          clear hN
          conv => whnf
          repeat' (first | (refine And.intro ?_ ?_; (focus (first | exact rfl | exact Nat.le_of_ble_eq_true rfl | decide | omega | fail)); conv => whnf) | (refine g_exit ?_; conv => whnf) | fail)
          first | refine ⟨(), hend, ⟨?_, ?_⟩⟩ | refine ⟨rfl, (), hend, ⟨?_, ?_⟩⟩
          · repeat' (first | exact True.intro | refine And.intro rfl ?_)
          · repeat' (first | exact True.intro | refine And.intro rfl ?_)
        · intro _ gs hret
          conv => whnf
          skip
          first
          | (refine ⟨(), hret, ⟨?_, True.intro⟩⟩; repeat' (first | exact True.intro | refine And.intro rfl ?_))
          | ((conv => lhs; whnf); rw [← hret])
          | fail
        intro _ gs hend
        conv => whnf
        repeat' (first | (refine z_ld1 ?_; first | (refine z_ld rfl rfl rfl rfl (by first | (simp only [List.length_set]; assumption) | assumption | omega) (by first | exact elt_set (by first | assumption | (simp only [List.length_set]; assumption)) | assumption) ?_; conv => whnf) | (refine z_ld0 rfl ?_; conv => whnf)) | (refine z_op ?_ ?_; (focus exact rfl); conv => whnf) | (refine zs_ops ?_ ?_; (focus exact rfl)) | (refine z_eff ?_; conv => whnf) | (refine And.intro ?_ ?_; (focus (first | exact rfl | exact Nat.le_of_ble_eq_true rfl | decide | omega | fail)); conv => whnf) | (refine XS.go ?_) | (refine fun _ => ?_; conv => whnf) | fail)
        refine ⟨by simp, rfl, ?_⟩
        conv => whnf
        refine ⟨rfl, ?_⟩
        conv => whnf
        refine ⟨rfl, rfl, rfl, ?_⟩
        conv => whnf
        refine ⟨?_, Nat.le_of_ble_eq_true rfl, (by decide), fun n' b' c' hn' hc' => ?_⟩
        · show _ + 1 ≤ 1073741824
          rw [List.length_map]; omega
        have hn' : n' = L.length + 1 := by rw [hn', List.length_map]; rfl
        subst hn'
        conv => whnf
        repeat' (first | (refine z_op ?_ ?_; (focus exact rfl); conv => whnf) | (refine z_nil fun vals => ?_; conv => whnf) | (refine g_op ?_; conv => whnf) | (refine And.intro ?_ ?_; (focus (first | exact rfl | exact Nat.le_of_ble_eq_true rfl | decide | omega | fail)); conv => whnf) | (refine XS.go ?_) | (refine g_ops ?_) | (refine g_nil ?_; conv => whnf) | fail)
        have hln : L.length + 1 = (hX (hM w.fMates a) (w.fMates.getD a default).fRuns (k + 1)).length := by rw [he]; simp
        have hmp : L.map D.str ++ [D.str ((w.fMates.getD a default).fRuns.getD k default).fWant.fHold] = (hX (hM w.fMates a) (w.fMates.getD a default).fRuns (k + 1)).map D.str := by rw [he, List.map_append]; rfl
        refine ⟨(k + 1, c'), ⟨by simp only; omega, by simp only; omega, hend⟩, by simp only; omega, ?_, ?_⟩
        · repeat' (first | exact True.intro | refine And.intro (congrArg (D.int .i64) hwk) ?_ | refine And.intro rfl ?_ | refine And.intro (congrArg (fun n => D.lsl 67 b' n c') hln) ?_)
        · exact ⟨congrArg (fun l => some (D.arr 1 l c')) hmp, True.intro⟩
      have hgek : ¬ k < (w.fMates.getD a default).fRuns.length := by simpa using hb
      have hend : safe w = ((allN (mF w.fMates) (w.fMates.length - (a + 1)) (a + 1) && true)) := by rw [hNk, allN_end hgek, Bool.true_and]
      obtain rfl : k = (w.fMates.getD a default).fRuns.length := by omega
      clear hNk hb
      conv => whnf
      repeat' (first | (refine And.intro ?_ ?_; (focus (first | exact rfl | exact Nat.le_of_ble_eq_true rfl | decide | omega | fail)); conv => whnf) | (refine g_exit ?_; conv => whnf) | fail)
      first | refine ⟨ck, ⟨hck, hend⟩, ⟨?_, ?_⟩⟩ | refine ⟨rfl, ck, ⟨hck, hend⟩, ⟨?_, ?_⟩⟩
      · repeat' (first | exact True.intro | refine And.intro rfl ?_)
      · exact ⟨rfl, True.intro⟩
    · intro _ gs hret
      conv => whnf
      repeat' (first | (refine And.intro ?_ ?_; (focus (first | exact rfl | exact Nat.le_of_ble_eq_true rfl | decide | omega | fail)); conv => whnf) | (refine r_t ?_; conv => whnf) | (refine r_nil ?_; conv => whnf) | fail)
      first
      | (refine ⟨(), hret, ⟨?_, True.intro⟩⟩; repeat' (first | exact True.intro | refine And.intro rfl ?_))
      | ((conv => lhs; whnf); rw [← hret])
      | fail
    intro cp gs hend
    obtain ⟨hcp, hend⟩ := hend
    conv => whnf
    repeat' (first | (refine g_op ?_; conv => whnf) | (refine And.intro ?_ ?_; (focus (first | exact rfl | exact Nat.le_of_ble_eq_true rfl | decide | omega | fail)); conv => whnf) | (refine XS.go ?_) | (refine g_ops ?_) | (refine g_nil ?_; conv => whnf) | fail)
    refine ⟨(a + 1, cp), ⟨by simp only; omega, hcp, hend⟩, by simp only; omega, ?_, ?_⟩
    · repeat' (first | exact True.intro | refine And.intro (congrArg (D.int .i64) hwa) ?_ | refine And.intro rfl ?_)
    · exact ⟨rfl, True.intro⟩
  have hgea : ¬ a < w.fMates.length := by simpa using hb
  have hend : safe w = true := by rw [hNa, allN_end hgea]; rfl
  conv => whnf
  repeat' (first | (refine g_op ?_; conv => whnf) | (refine And.intro ?_ ?_; (focus (first | exact rfl | exact Nat.le_of_ble_eq_true rfl | decide | omega | fail)); conv => whnf) | (refine g_seq ?_) | (refine XS.go ?_) | (refine g_ops ?_) | (refine g_nil ?_; conv => whnf) | (refine g_ret ?_; conv => whnf) | (refine g_exit ?_; conv => whnf) | (refine r_t ?_; conv => whnf) | (refine r_nil ?_; conv => whnf) | fail)
  (conv => lhs; whnf)
  rw [hend]
set_option maxHeartbeats 4000000 in
theorem law_Safe (x : MateWorld) (hw : x.wf) : Rdr Try.prog 9 [x.D] (.bool true) := by
  refine Rdr.intro' hm c9 (Nat.le_of_ble_eq_true rfl) ?_
  conv => whnf
  repeat' (first | (refine g_op ?_; conv => whnf) | (refine And.intro ?_ ?_; (focus (first | exact rfl | exact Nat.le_of_ble_eq_true rfl | decide | omega | fail)); conv => whnf) | (refine g_seq ?_) | (refine g_ops ?_) | (refine g_nil ?_; conv => whnf) | (refine fun _ => ?_; conv => whnf) | fail)
  refine XS.freezeB 1 rfl ?_
  repeat' (first | (refine g_op ?_; conv => whnf) | (refine And.intro ?_ ?_; (focus (first | exact rfl | exact Nat.le_of_ble_eq_true rfl | decide | omega | fail)); conv => whnf) | (refine g_seq ?_) | (refine XS.go ?_) | (refine g_ops ?_) | (refine g_nil ?_; conv => whnf) | fail)
  refine XCL.ask (sz_MateWorld x _ hw (by decide) (by decide)) (fun d h => ?_)
  obtain ⟨n, rfl, hn⟩ := h
  conv => whnf
  repeat' (first | (refine g_op ?_; conv => whnf) | (refine And.intro ?_ ?_; (focus (first | exact rfl | exact Nat.le_of_ble_eq_true rfl | decide | omega | fail)); conv => whnf) | (refine g_seq ?_) | (refine XS.go ?_) | (refine g_ops ?_) | (refine g_nil ?_; conv => whnf) | (refine g_cond ?_; conv => whnf) | fail)
  refine Br.mk (fun hb => ?_) (fun hb => ?_)
  · conv => whnf
    repeat' (first | (refine g_op ?_; conv => whnf) | (refine And.intro ?_ ?_; (focus (first | exact rfl | exact Nat.le_of_ble_eq_true rfl | decide | omega | fail)); conv => whnf) | (refine g_seq ?_) | (refine XS.go ?_) | (refine g_ops ?_) | (refine g_nil ?_; conv => whnf) | (refine g_ret ?_; conv => whnf) | (refine r_t ?_; conv => whnf) | (refine r_nil ?_; conv => whnf) | fail)
    rfl
  have hs := (hn (Int.not_lt.1 (of_decide_eq_false hb))).2
  have q1 := spec_Safe x hs.fLand.places
  have q2 := impl_Safe x hs.fLand.places
  generalize safe x = r at *
  conv => whnf
  repeat' (first | (refine g_op ?_; conv => whnf) | (refine And.intro ?_ ?_; (focus (first | exact rfl | exact Nat.le_of_ble_eq_true rfl | decide | omega | fail)); conv => whnf) | (refine g_seq ?_) | (refine XS.go ?_) | (refine g_ops ?_) | (refine g_nil ?_; conv => whnf) | (refine Br.f ?_ ?_; (focus (first | assumption | exact rfl)); conv => whnf) | (refine g_cond ?_; conv => whnf) | (refine g_skip ?_; conv => whnf) | (refine g_ret ?_; conv => whnf) | (refine g_quiet ?_) | (refine q_op ?_; conv => whnf) | (refine q_nil ?_; conv => whnf) | (refine r_t ?_; conv => whnf) | (refine r_nil ?_; conv => whnf) | (refine fun _ => ?_; conv => whnf) | (refine Br.f (by simp) ?_; conv => whnf) | (refine XCL.of_rdr (to_MateWorld x hs) ?_; conv => whnf) | (refine XCL.of_rdr (q1) ?_; conv => whnf) | (refine XCL.of_rdr (q2) ?_; conv => whnf) | (refine QC.of_rdr (to_MateWorld x hs) ?_; conv => whnf) | (refine QC.of_rdr (eq_MateWorld x hs) ?_; conv => whnf) | fail)
  rfl
end Go.Ab
