/- Steps towards the law: contracts of functions and facts of lists. -/
import Derived.Test.YtalddljlemppnaaStewR2
import Derived.Test.YtalddljlemppnaaRows
set_option linter.unusedSimpArgs false
set_option linter.unusedVariables false
namespace Go.Ab
open Go Go.RowKit Go.Proofs
attribute [local irreducible] XC Rdr IntKind.wrap xw xos xqs xr xd
set_option maxRecDepth 100000

/-- spec.StewRank -/
def cf37 : CF := ⟨113, [.t 2],
  (.seq (.ops [⟨some 1, .bx (.t 0), none⟩,
    ⟨some 2, .mv (.k (.nil)), none⟩])
  (.seq (.ops [⟨some 11, .bsl (.int .i64 0) 5 [(0, (.k (.int .i64 0))), (1, (.k (.int .i64 0))), (2, (.k (.int .i64 0))), (3, (.k (.int .i64 0))), (4, (.k (.int .i64 0)))], none⟩,
    ⟨some 3, .mv (.t 11), none⟩])
  (.seq (.seq (.ops [⟨some 12, .ld 4 true (.t 1), none⟩,
    ⟨some 13, .call 19 [(.t 12)], none⟩,
    ⟨some 14, .not (.t 13), none⟩])
  (.cond (.t 14)
  (.seq (.ops [⟨some 15, .mv (.t 3), none⟩,
    ⟨some 2, .mv (.t 15), none⟩])
  .ret)
  .skip))
  (.seq (.seq (.ops [⟨some 4, .mv (.k (.int .i64 0)), none⟩])
  (.block 0 (.loop (.seq (.seq (.ops [⟨some 16, .mv (.t 4), none⟩,
    ⟨some 17, .fa 1 1 1 (.t 1), none⟩,
    ⟨some 18, .ld 1 false (.t 17), none⟩,
    ⟨some 19, .lenl (.t 18), none⟩,
    ⟨some 20, .bin .lss (.t 16) (.t 19), none⟩])
  (.cond (.t 20)
  .skip
  (.exit 0)))
  (.seq (.block 1 (.seq (.ops [⟨some 23, .fa 1 1 1 (.t 1), none⟩,
    ⟨some 24, .ld 1 false (.t 23), none⟩,
    ⟨some 25, .mv (.t 4), none⟩,
    ⟨some 26, .ix 13 (.t 24) (.t 25), none⟩,
    ⟨some 27, .ld 13 true (.t 26), none⟩,
    ⟨some 5, .al (.agg [.str ⟨#[]⟩, .int .i64 0, .bool false, .int .i64 0, .int .i64 0, .int .i64 0, .int .i64 0, .int .i64 0, .int .i64 0, .int .i64 0, .int .i64 0, .int .i64 0, .int .i64 0]), none⟩,
    ⟨none, .st 13 (.t 5) (.t 27), none⟩])
  (.seq (.ops [⟨some 28, .ld 4 true (.t 1), none⟩,
    ⟨some 29, .fa 0 1 0 (.t 5), none⟩,
    ⟨some 30, .ld 1 false (.t 29), none⟩,
    ⟨some 31, .call 93 [(.t 28), (.t 30)], none⟩,
    ⟨some 6, .al (.agg [.int .i64 0, .int .i64 0, .int .i64 0, .int .i64 0, .int .i64 0]), none⟩,
    ⟨none, .st 5 (.t 6) (.t 31), none⟩])
  (.seq (.drawn [(⟨some 32, .mv (.t 3), none⟩, false, []),
    (⟨some 33, .mv (.t 3), none⟩, false, []),
    (⟨some 34, .ix 1 (.t 33) (.k (.int .i64 1)), none⟩, false, []),
    (⟨some 35, .ld 1 false (.t 34), none⟩, false, []),
    (⟨some 36, .fa 4 1 4 (.t 6), none⟩, false, []),
    (⟨some 37, .ld 1 false (.t 36), none⟩, false, []),
    (⟨some 38, .bin .add (.t 35) (.t 37), none⟩, false, []),
    (⟨some 39, .ix 1 (.t 32) (.k (.int .i64 1)), none⟩, false, []),
    (⟨none, .st 1 (.t 39) (.t 38), none⟩, true, [])])
  (.seq (.seq (.ops [⟨some 40, .fa 2 1 2 (.t 5), none⟩,
    ⟨some 41, .ld 1 false (.t 40), none⟩])
  (.cond (.t 41)
  (.seq (.ops [⟨some 42, .mv (.t 3), none⟩,
    ⟨some 43, .ix 1 (.t 42) (.k (.int .i64 0)), none⟩,
    ⟨some 44, .ld 1 false (.t 43), none⟩,
    ⟨some 45, .bin .add (.t 44) (.k (.int .i64 1)), none⟩,
    ⟨some 46, .ix 1 (.t 42) (.k (.int .i64 0)), none⟩,
    ⟨none, .st 1 (.t 46) (.t 45), none⟩])
  (.seq (.drawn [(⟨some 47, .mv (.t 3), none⟩, false, []),
    (⟨some 48, .mv (.t 3), none⟩, false, []),
    (⟨some 49, .ix 1 (.t 48) (.k (.int .i64 1)), none⟩, false, []),
    (⟨some 50, .ld 1 false (.t 49), none⟩, false, []),
    (⟨some 51, .fa 0 1 0 (.t 6), none⟩, false, []),
    (⟨some 52, .ld 1 false (.t 51), none⟩, false, []),
    (⟨some 53, .bin .add (.t 50) (.t 52), none⟩, false, []),
    (⟨some 54, .ix 1 (.t 47) (.k (.int .i64 1)), none⟩, false, []),
    (⟨none, .st 1 (.t 54) (.t 53), none⟩, true, [])])
  (.exit 1)))
  .skip))
  (.seq (.ops [⟨some 55, .fa 0 1 0 (.t 6), none⟩,
    ⟨some 56, .ld 1 false (.t 55), none⟩,
    ⟨some 57, .fa 4 1 4 (.t 5), none⟩,
    ⟨some 58, .ld 1 false (.t 57), none⟩,
    ⟨some 59, .bin .sub (.t 56) (.t 58), none⟩,
    ⟨some 7, .mv (.t 59), none⟩])
  (.seq (.seq (.ops [⟨some 60, .mv (.t 7), none⟩,
    ⟨some 61, .bin .lss (.t 60) (.k (.int .i64 0)), none⟩])
  (.cond (.t 61)
  (.ops [⟨some 62, .mv (.t 7), none⟩,
    ⟨some 63, .neg (.t 62), none⟩,
    ⟨some 7, .mv (.t 63), none⟩])
  .skip))
  (.seq (.ops [⟨some 64, .mv (.t 3), none⟩,
    ⟨some 65, .mv (.t 3), none⟩,
    ⟨some 66, .ix 1 (.t 65) (.k (.int .i64 2)), none⟩,
    ⟨some 67, .ld 1 false (.t 66), none⟩,
    ⟨some 68, .mv (.t 7), none⟩,
    ⟨some 69, .bin .add (.t 67) (.t 68), none⟩,
    ⟨some 70, .ix 1 (.t 64) (.k (.int .i64 2)), none⟩,
    ⟨none, .st 1 (.t 70) (.t 69), none⟩])
  (.seq (.ops [⟨some 71, .ld 4 true (.t 1), none⟩,
    ⟨some 72, .fa 0 1 0 (.t 5), none⟩,
    ⟨some 73, .ld 1 false (.t 72), none⟩,
    ⟨some 74, .call 100 [(.t 71), (.t 73)], none⟩,
    ⟨some 8, .mv (.t 74), none⟩])
  (.seq (.ops [⟨some 9, .mv (.k (.int .i64 0)), none⟩])
  (.block 2 (.loop (.seq (.seq (.ops [⟨some 75, .mv (.t 9), none⟩,
    ⟨some 76, .mv (.t 8), none⟩,
    ⟨some 77, .lenl (.t 76), none⟩,
    ⟨some 78, .bin .lss (.t 75) (.t 77), none⟩])
  (.cond (.t 78)
  .skip
  (.exit 2)))
  (.seq (.block 3 (.seq (.decl [⟨some 81, .fa 2 1 2 (.t 1), none⟩,
    ⟨some 82, .ld 1 false (.t 81), none⟩,
    ⟨some 83, .mv (.t 8), none⟩,
    ⟨some 84, .mv (.t 9), none⟩,
    ⟨some 85, .ix 1 (.t 83) (.t 84), none⟩,
    ⟨some 86, .ld 1 false (.t 85), none⟩,
    ⟨some 87, .ix 7 (.t 82) (.t 86), none⟩,
    ⟨some 88, .ld 7 true (.t 87), none⟩] 10 (.agg [.str ⟨#[]⟩, .int .i64 0, .int .i64 0, .int .i64 0, .int .i64 0, .bool false, .str ⟨#[]⟩]) 7 (.t 88))
  (.seq (.seq (.ops [⟨some 89, .fa 3 1 3 (.t 10), none⟩,
    ⟨some 90, .ld 1 false (.t 89), none⟩,
    ⟨some 91, .fa 3 1 3 (.t 5), none⟩,
    ⟨some 92, .ld 1 false (.t 91), none⟩,
    ⟨some 93, .bin .neq (.t 90) (.t 92), none⟩,
    ⟨some 94, .mv (.t 93), none⟩,
    ⟨some 95, .ld 4 true (.t 1), some (94, false)⟩,
    ⟨some 96, .ld 7 true (.t 10), some (94, false)⟩,
    ⟨some 97, .call 101 [(.t 95), (.t 96)], some (94, false)⟩,
    ⟨some 98, .pick (.t 94) (.k (.bool true)) (.t 97), none⟩])
  (.cond (.t 98)
  (.ops [⟨some 99, .mv (.t 3), none⟩,
    ⟨some 100, .ix 1 (.t 99) (.k (.int .i64 3)), none⟩,
    ⟨some 101, .ld 1 false (.t 100), none⟩,
    ⟨some 102, .bin .add (.t 101) (.k (.int .i64 1)), none⟩,
    ⟨some 103, .ix 1 (.t 99) (.k (.int .i64 3)), none⟩,
    ⟨none, .st 1 (.t 103) (.t 102), none⟩])
  .skip))
  (.seq (.ops [⟨some 104, .fa 4 1 4 (.t 10), none⟩,
    ⟨some 105, .ld 1 false (.t 104), none⟩,
    ⟨some 106, .bin .neq (.t 105) (.k (.int .i64 3)), none⟩])
  (.cond (.t 106)
  (.ops [⟨some 107, .mv (.t 3), none⟩,
    ⟨some 108, .ix 1 (.t 107) (.k (.int .i64 4)), none⟩,
    ⟨some 109, .ld 1 false (.t 108), none⟩,
    ⟨some 110, .bin .add (.t 109) (.k (.int .i64 1)), none⟩,
    ⟨some 111, .ix 1 (.t 107) (.k (.int .i64 4)), none⟩,
    ⟨none, .st 1 (.t 111) (.t 110), none⟩])
  .skip)))))
  (.ops [⟨some 79, .mv (.t 9), none⟩,
    ⟨some 80, .bin .add (.t 79) (.k (.int .i64 1)), none⟩,
    ⟨some 9, .mv (.t 80), none⟩])))))))))))))))
  (.ops [⟨some 21, .mv (.t 4), none⟩,
    ⟨some 22, .bin .add (.t 21) (.k (.int .i64 1)), none⟩,
    ⟨some 4, .mv (.t 22), none⟩]))))))
  (.seq (.ops [⟨some 112, .mv (.t 3), none⟩,
    ⟨some 2, .mv (.t 112), none⟩])
  .ret)))))⟩
theorem c37 : compileF Try.prog [] 37 = some cf37 := by kernel_rfl
theorem arr5 {a b c d e a' b' c' d' e' : Int} (h0 : a = a') (h1 : b = b') (h2 : c = c') (h3 : d = d') (h4 : e = e') : some (Go.Ab.D.arr 1 [.int .i64 a, .int .i64 b, .int .i64 c, .int .i64 d, .int .i64 e] 5) = some (Go.Ab.D.arr 1 [.int .i64 a', .int .i64 b', .int .i64 c', .int .i64 d', .int .i64 e'] 5) := by rw [h0, h1, h2, h3, h4]
theorem cnt_bd (b : StewBook) (h3 : b.fCopies.length ≤ 200) {i : Nat} (hi : i < b.fServices.length) : 0 ≤ (cntOf b (sv b i).fName).fLive ∧ (cntOf b (sv b i).fName).fLive ≤ 200 ∧ 0 ≤ (cntOf b (sv b i).fName).fEnding ∧ (cntOf b (sv b i).fName).fEnding ≤ 200 := by
  obtain ⟨h1, h2⟩ := cnt_of b (by omega) hi
  have q1 := sumN_bd (f := fun j => b01 (isC b i j && !(cp b j).fEnding)) (M := 1) (n := b.fCopies.length) (fun i _ => b01_bd _)
  have q2 := sumN_bd (f := fun j => b01 (isC b i j && (cp b j).fEnding)) (M := 1) (n := b.fCopies.length) (fun i _ => b01_bd _)
  rw [← h1] at q1
  rw [← h2] at q2
  omega
theorem sums_bd {b : StewBook} (hv : valid b = true) {i : Nat} (hi : i ≤ b.fServices.length) : (0 ≤ sumN (g0 b) i ∧ sumN (g0 b) i ≤ 8) ∧ (0 ≤ sumN (g1 b) i ∧ sumN (g1 b) i ≤ 3200) ∧ (0 ≤ sumN (g2 b) i ∧ sumN (g2 b) i ≤ 2400) ∧ (0 ≤ sumN (g3 b) i ∧ sumN (g3 b) i ≤ 1600) ∧ (0 ≤ sumN (g4 b) i ∧ sumN (g4 b) i ≤ 1600) := by
  obtain ⟨v1, v2, _⟩ := valid_parts hv
  have q0 := sumN_bd (f := g0 b) (M := 1) (n := i) (fun k _ => b01_bd _)
  have q1 := sumN_bd (f := g1 b) (M := 400) (n := i) (fun k hk => by
    have := cnt_bd b v2 (i := k) (by omega)
    unfold g1
    split <;> omega)
  have q2 := sumN_bd (f := g2 b) (M := 300) (n := i) (fun k hk => by
    have := cnt_bd b v2 (i := k) (by omega)
    have hw := valid_want hv (i := k) (by omega)
    unfold g2 absI
    split
    · omega
    · split <;> omega)
  have ll : ∀ k, ((lv b k).length : Int) ≤ 200 := fun k => by
    have := liveUp_len b (sv b k).fName b.fCopies.length
    show ((liveUp b (sv b k).fName b.fCopies.length).length : Int) ≤ 200
    omega
  have q3 := sumN_bd (f := g3 b) (M := 200) (n := i) (fun k hk => by
    have h := ll k
    have := sumN_bd (f := k3 b k) (M := 1) (n := (lv b k).length) (fun k _ => b01_bd _)
    unfold g3
    split <;> omega)
  have q4 := sumN_bd (f := g4 b) (M := 200) (n := i) (fun k hk => by
    have h := ll k
    have := sumN_bd (f := k4 b k) (M := 1) (n := (lv b k).length) (fun k _ => b01_bd _)
    unfold g4
    split <;> omega)
  omega
def rankD (b : StewBook) (i : Nat) : List Go.Ab.D := [.int .i64 (sumN (g0 b) i), .int .i64 (sumN (g1 b) i), .int .i64 (sumN (g2 b) i), .int .i64 (sumN (g3 b) i), .int .i64 (sumN (g4 b) i)]
set_option maxHeartbeats 8000000 in
theorem spec_Rank (b : StewBook) (h1 : b.fServices.length ≤ 1048576) (h2 : b.fBerths.length ≤ 1048576) (h3 : b.fCopies.length ≤ 1048576) : Rdr Try.prog 37 [b.D] (.ro 1 ((rankL b).map (D.int .i64))) := by
  refine Rdr.introF hm [11] rfl c37 (Nat.le_of_ble_eq_true rfl) ?_
  have hV := spec_Valid b h1 h2 h3
  conv => whnf
  repeat' (first | (refine g_op ?_; conv => whnf) | (refine And.intro ?_ ?_; (focus (first | exact rfl | exact Nat.le_of_ble_eq_true rfl | decide | omega | fail)); conv => whnf) | (refine g_seq ?_) | (refine g_ops ?_) | (refine g_nil ?_; conv => whnf) | (refine fun _ => ?_; conv => whnf) | fail)
  refine XS.freezeB 1 rfl ?_
  cases hv : valid b with
  | false =>
    rw [hv] at hV
    have e : rankL b = [0, 0, 0, 0, 0] := by rw [rankL, if_neg (by rw [hv]; exact Bool.false_ne_true)]
    rw [e]
    repeat' (first | (refine z_ld1 ?_; first | (refine z_ld rfl rfl rfl rfl (by first | (simp only [List.length_set]; assumption) | assumption | omega) (by first | exact elt_set (by first | assumption | (simp only [List.length_set]; assumption)) | assumption) ?_; conv => whnf) | (refine z_ld0 rfl ?_; conv => whnf)) | (refine z_op ?_ ?_; (focus exact rfl); conv => whnf) | (refine zs_ops ?_ ?_; (focus exact rfl)) | (refine z_nil fun vals => ?_; conv => whnf) | (refine z_call ?_ ?_; (focus exact rfl)) | (refine RC.of (hV) ?_ ?_; (focus exact rfl); conv => whnf) | (refine g_op ?_; conv => whnf) | (refine And.intro ?_ ?_; (focus (first | exact rfl | exact Nat.le_of_ble_eq_true rfl | decide | omega | fail)); conv => whnf) | (refine g_seq ?_) | (refine XS.go ?_) | (refine g_ops ?_) | (refine g_nil ?_; conv => whnf) | (refine Br.t ?_ ?_; (focus (first | assumption | exact rfl)); conv => whnf) | (refine g_cond ?_; conv => whnf) | (refine g_ret ?_; conv => whnf) | (refine r_t ?_; conv => whnf) | (refine r_nil ?_; conv => whnf) | (refine fun _ => ?_; conv => whnf) | fail)
    exact ⟨⟨rfl, Nat.le_refl _⟩, rfl⟩
  | true =>
    rw [hv] at hV
    obtain ⟨v1, v2, _, _, _⟩ := valid_parts hv
    repeat' (first | (refine z_ld1 ?_; first | (refine z_ld rfl rfl rfl rfl (by first | (simp only [List.length_set]; assumption) | assumption | omega) (by first | exact elt_set (by first | assumption | (simp only [List.length_set]; assumption)) | assumption) ?_; conv => whnf) | (refine z_ld0 rfl ?_; conv => whnf)) | (refine z_op ?_ ?_; (focus exact rfl); conv => whnf) | (refine zs_ops ?_ ?_; (focus exact rfl)) | (refine z_nil fun vals => ?_; conv => whnf) | (refine z_call ?_ ?_; (focus exact rfl)) | (refine RC.of (hV) ?_ ?_; (focus exact rfl); conv => whnf) | (refine g_op ?_; conv => whnf) | (refine And.intro ?_ ?_; (focus (first | exact rfl | exact Nat.le_of_ble_eq_true rfl | decide | omega | fail)); conv => whnf) | (refine g_seq ?_) | (refine XS.go ?_) | (refine g_ops ?_) | (refine g_loop ?_) | (refine g_nil ?_; conv => whnf) | (refine Br.f ?_ ?_; (focus (first | assumption | exact rfl)); conv => whnf) | (refine g_cond ?_; conv => whnf) | (refine g_skip ?_; conv => whnf) | (refine g_block ?_) | (refine fun _ => ?_; conv => whnf) | fail)
    refine XLc.mkA (α := Nat) (fun i => i ≤ b.fServices.length) (fun i => b.fServices.length - i) (fun i gs => [.any, .cref b.D, .nil, .lsl 11 (gs 11) 5 5, .int .i64 (i : Int)]) (fun i gs => [(11, .arr 1 [.int .i64 (sumN (g0 b) i), .int .i64 (sumN (g1 b) i), .int .i64 (sumN (g2 b) i), .int .i64 (sumN (g3 b) i), .int .i64 (sumN (g4 b) i)] 5)]) 0 (Nat.zero_le _) ?_ ?_
    · refine ⟨?_, ?_⟩
      · repeat' (first | exact True.intro | refine And.intro rfl ?_)
      · refine And.intro rfl True.intro
    intro i gs hi
    repeat' (first | (refine z_ld1 ?_; first | (refine z_ld rfl rfl rfl rfl (by first | (simp only [List.length_set]; assumption) | assumption | omega) (by first | exact elt_set (by first | assumption | (simp only [List.length_set]; assumption)) | assumption) ?_; conv => whnf) | (refine z_ld0 rfl ?_; conv => whnf)) | (refine z_op ?_ ?_; (focus exact rfl); conv => whnf) | (refine zs_ops ?_ ?_; (focus exact rfl)) | (refine z_nil fun vals => ?_; conv => whnf) | (refine And.intro ?_ ?_; (focus (first | exact rfl | exact Nat.le_of_ble_eq_true rfl | decide | omega | fail)); conv => whnf) | (refine g_seq ?_) | (refine XS.go ?_) | (refine g_cond ?_; conv => whnf) | fail)
    refine Br.mk (fun hb => ?_) (fun hb => ?_)
    · have hlt : i < b.fServices.length := by simpa using hb
      have hw : IntKind.wrap .i64 ((i : Int) + 1) = ((i + 1 : Nat) : Int) := by rw [wrap_ok (by omega) (by omega)]; rfl
      clear hb hV
      have hc := spec_count b (sv b i).fName h1 h3
      have cb := cnt_bd b v2 hlt
      have sb := sums_bd hv (i := i) hi
      have hw10 := valid_want hv hlt
      have E0 : sumN (g0 b) (i + 1) = sumN (g0 b) i + g0 b i := rfl
      have E1 : sumN (g1 b) (i + 1) = sumN (g1 b) i + g1 b i := rfl
      have E2 : sumN (g2 b) (i + 1) = sumN (g2 b) i + g2 b i := rfl
      have E3 : sumN (g3 b) (i + 1) = sumN (g3 b) i + g3 b i := rfl
      have E4 : sumN (g4 b) (i + 1) = sumN (g4 b) i + g4 b i := rfl
      rw [g0] at E0
      rw [g1] at E1
      rw [g2] at E2
      rw [g3] at E3
      rw [g4] at E4
      generalize cntOf b (sv b i).fName = n at *
      generalize sumN (g0 b) i = a0 at *
      generalize sumN (g1 b) i = a1 at *
      generalize sumN (g2 b) i = a2 at *
      generalize sumN (g3 b) i = a3 at *
      generalize sumN (g4 b) i = a4 at *
      conv => whnf
      repeat' (first | ((refine And.intro True.intro ?_; conv => whnf)) | (refine z_ld1 ?_; first | (refine z_ld rfl rfl rfl rfl (by first | (simp only [List.length_set]; assumption) | assumption | omega) (by first | exact elt_set (by first | assumption | (simp only [List.length_set]; assumption)) | assumption) ?_; conv => whnf) | (refine z_ld0 rfl ?_; conv => whnf)) | (refine z_st1 ?_; first | (refine z_st rfl rfl rfl (by first | (simp only [List.length_set]; assumption) | assumption | omega) (by first | exact elt_set (by first | assumption | (simp only [List.length_set]; assumption)) | assumption) rfl rfl ?_; conv => whnf) | (refine z_st0 ?_; conv => whnf)) | (refine z_ix1 ?_; first | (refine z_ix rfl rfl rfl rfl rfl ⟨by first | omega | (simp only [decide_eq_true_eq, Bool.not_eq_true', Bool.or_eq_false_iff, decide_eq_false_iff_not, Bool.and_eq_true, Bool.not_eq_false'] at *; omega), by first | omega | (simp only [decide_eq_true_eq, Bool.not_eq_true', Bool.or_eq_false_iff, decide_eq_false_iff_not, Bool.and_eq_true, Bool.not_eq_false'] at *; omega)⟩ ?_; conv => whnf) | (refine z_ix0 rfl rfl ?_; conv => whnf)) | (refine z_op ?_ ?_; (focus exact rfl); conv => whnf) | (refine zs_ops ?_ ?_; (focus exact rfl)) | (refine z_nil fun vals => ?_; conv => whnf) | (refine z_call ?_ ?_; (focus exact rfl)) | (refine z_eff ?_; conv => whnf) | (refine RC.of (hc) ?_ ?_; (focus exact rfl); conv => whnf) | (refine And.intro ?_ ?_; (focus (first | exact rfl | exact Nat.le_of_ble_eq_true rfl | decide | omega | fail)); conv => whnf) | (refine g_seq ?_) | (refine XS.go ?_) | (refine g_cond ?_; conv => whnf) | (refine g_skip ?_; conv => whnf) | (refine g_block ?_) | (refine g_drawn ?_) | (refine d_p ?_; conv => whnf) | (refine d_e ?_; conv => whnf) | (refine d_nil ?_; conv => whnf) | (refine fun _ => ?_; conv => whnf) | fail)
      refine Br.mk (fun hb => ?_) (fun hb => ?_)
      · have hg : (sv b i).fGone = true := hb
        rw [hg] at E0
        rw [if_pos hg] at E1 E2 E3 E4
        clear hb
        conv => whnf
        repeat' (first | ((refine And.intro True.intro ?_; conv => whnf)) | (refine z_ld1 ?_; first | (refine z_ld rfl rfl rfl rfl (by first | (simp only [List.length_set]; assumption) | assumption | omega) (by first | exact elt_set (by first | assumption | (simp only [List.length_set]; assumption)) | assumption) ?_; conv => whnf) | (refine z_ld0 rfl ?_; conv => whnf)) | (refine z_st1 ?_; first | (refine z_st rfl rfl rfl (by first | (simp only [List.length_set]; assumption) | assumption | omega) (by first | exact elt_set (by first | assumption | (simp only [List.length_set]; assumption)) | assumption) rfl rfl ?_; conv => whnf) | (refine z_st0 ?_; conv => whnf)) | (refine z_ix1 ?_; first | (refine z_ix rfl rfl rfl rfl rfl ⟨by first | omega | (simp only [decide_eq_true_eq, Bool.not_eq_true', Bool.or_eq_false_iff, decide_eq_false_iff_not, Bool.and_eq_true, Bool.not_eq_false'] at *; omega), by first | omega | (simp only [decide_eq_true_eq, Bool.not_eq_true', Bool.or_eq_false_iff, decide_eq_false_iff_not, Bool.and_eq_true, Bool.not_eq_false'] at *; omega)⟩ ?_; conv => whnf) | (refine z_ix0 rfl rfl ?_; conv => whnf)) | (refine z_op ?_ ?_; (focus exact rfl); conv => whnf) | (refine zs_ops ?_ ?_; (focus exact rfl)) | (refine z_nil fun vals => ?_; conv => whnf) | (refine g_op ?_; conv => whnf) | (refine And.intro ?_ ?_; (focus (first | exact rfl | exact Nat.le_of_ble_eq_true rfl | decide | omega | fail)); conv => whnf) | (refine g_seq ?_) | (refine XS.go ?_) | (refine g_ops ?_) | (refine g_nil ?_; conv => whnf) | (refine g_exit ?_; conv => whnf) | (refine g_drawn ?_) | (refine d_p ?_; conv => whnf) | (refine d_e ?_; conv => whnf) | (refine d_nil ?_; conv => whnf) | fail)
        have W0 : IntKind.wrap .i64 (a0 + 1) = a0 + 1 := wrap_ok (by omega) (by omega)
        have W1 : IntKind.wrap .i64 (a1 + n.fEnding) = a1 + n.fEnding := wrap_ok (by omega) (by omega)
        have W2 : IntKind.wrap .i64 (IntKind.wrap .i64 (a1 + n.fEnding) + n.fLive) = a1 + n.fEnding + n.fLive := by rw [W1]; exact wrap_ok (by omega) (by omega)
        refine ⟨i + 1, hlt, by omega, ?_, ?_⟩
        · repeat' (first | exact True.intro | refine And.intro (congrArg (D.int .i64) hw) ?_ | refine And.intro rfl ?_)
        · exact ⟨arr5 (by rw [W0, E0]; rfl) (by rw [W2, E1]; omega) (by rw [E2]; omega) (by rw [E3]; omega) (by rw [E4]; omega), True.intro⟩
      · have hg : (sv b i).fGone = false := hb
        rw [hg] at E0
        rw [if_neg (by rw [hg]; exact Bool.false_ne_true)] at E1 E2 E3 E4
        clear hb
        conv => whnf
        repeat' (first | (refine z_ld1 ?_; first | (refine z_ld rfl rfl rfl rfl (by first | (simp only [List.length_set]; assumption) | assumption | omega) (by first | exact elt_set (by first | assumption | (simp only [List.length_set]; assumption)) | assumption) ?_; conv => whnf) | (refine z_ld0 rfl ?_; conv => whnf)) | (refine z_op ?_ ?_; (focus exact rfl); conv => whnf) | (refine zs_ops ?_ ?_; (focus exact rfl)) | (refine z_nil fun vals => ?_; conv => whnf) | (refine g_op ?_; conv => whnf) | (refine And.intro ?_ ?_; (focus (first | exact rfl | exact Nat.le_of_ble_eq_true rfl | decide | omega | fail)); conv => whnf) | (refine g_seq ?_) | (refine XS.go ?_) | (refine g_ops ?_) | (refine g_nil ?_; conv => whnf) | (refine g_cond ?_; conv => whnf) | (refine g_skip ?_; conv => whnf) | fail)
        have W1 : IntKind.wrap .i64 (a1 + n.fEnding) = a1 + n.fEnding := wrap_ok (by omega) (by omega)
        have W2 : IntKind.wrap .i64 (n.fLive - (sv b i).fWant) = n.fLive - (sv b i).fWant := wrap_ok (by omega) (by omega)
        have hL : Rdr Try.prog 100 [b.D, .str (sv b i).fName] (.ro 1 ((lv b i).map (D.int .i64))) := spec_Live22 b (sv b i).fName h3
        have hll : (lv b i).length ≤ 200 := by
          have := liveUp_len b (sv b i).fName b.fCopies.length
          show (liveUp b (sv b i).fName b.fCopies.length).length ≤ 200
          omega
        have hlv : ∀ k, k < (lv b i).length → 0 ≤ (lv b i).getD k default ∧ (lv b i).getD k default < b.fCopies.length := fun k hk => liveUp_lt b (sv b i).fName (i := b.fCopies.length) (v := (lv b i).getD k default) (by
          show (lv b i).getD k default ∈ lv b i
          simp [hk])
        refine Br.mk (fun hx => ?_) (fun hx => ?_)
        · skip
          have A2 : IntKind.wrap .i64 (a2 + IntKind.wrap .i64 (0 - IntKind.wrap .i64 (n.fLive - (sv b i).fWant))) = a2 + absI (n.fLive - (sv b i).fWant) := by
            have hx : IntKind.wrap .i64 (n.fLive - (sv b i).fWant) < 0 := of_decide_eq_true hx
            rw [W2] at hx ⊢
            unfold absI
            rw [if_pos hx, wrap_ok (n := 0 - (n.fLive - (sv b i).fWant)) (by omega) (by omega), wrap_ok (by omega) (by omega)]
            omega
          clear hx
          conv => whnf
          repeat' (first | (refine z_ld1 ?_; first | (refine z_ld rfl rfl rfl rfl (by first | (simp only [List.length_set]; assumption) | assumption | omega) (by first | exact elt_set (by first | assumption | (simp only [List.length_set]; assumption)) | assumption) ?_; conv => whnf) | (refine z_ld0 rfl ?_; conv => whnf)) | (refine z_st1 ?_; first | (refine z_st rfl rfl rfl (by first | (simp only [List.length_set]; assumption) | assumption | omega) (by first | exact elt_set (by first | assumption | (simp only [List.length_set]; assumption)) | assumption) rfl rfl ?_; conv => whnf) | (refine z_st0 ?_; conv => whnf)) | (refine z_ix1 ?_; first | (refine z_ix rfl rfl rfl rfl rfl ⟨by first | omega | (simp only [decide_eq_true_eq, Bool.not_eq_true', Bool.or_eq_false_iff, decide_eq_false_iff_not, Bool.and_eq_true, Bool.not_eq_false'] at *; omega), by first | omega | (simp only [decide_eq_true_eq, Bool.not_eq_true', Bool.or_eq_false_iff, decide_eq_false_iff_not, Bool.and_eq_true, Bool.not_eq_false'] at *; omega)⟩ ?_; conv => whnf) | (refine z_ix0 rfl rfl ?_; conv => whnf)) | (refine z_op ?_ ?_; (focus exact rfl); conv => whnf) | (refine zs_ops ?_ ?_; (focus exact rfl)) | (refine z_nil fun vals => ?_; conv => whnf) | (refine z_call ?_ ?_; (focus exact rfl)) | (refine RC.of (hL) ?_ ?_; (focus exact rfl); conv => whnf) | (refine g_op ?_; conv => whnf) | (refine And.intro ?_ ?_; (focus (first | exact rfl | exact Nat.le_of_ble_eq_true rfl | decide | omega | fail)); conv => whnf) | (refine g_seq ?_) | (refine XS.go ?_) | (refine g_ops ?_) | (refine g_loop ?_) | (refine g_nil ?_; conv => whnf) | (refine g_block ?_) | fail)
          refine XLc.mkA (α := Nat) (fun k => k ≤ (lv b i).length) (fun k => (lv b i).length - k) (fun k gs => [.any, .cref b.D, .nil, .lsl 11 (gs 11) 5 5, .int .i64 (i : Int), .lref 5 (gs 5) [] 0, .any, .any, .ro 1 ((lv b i).map (D.int .i64)), .int .i64 (k : Int)]) (fun k gs => [(11, .arr 1 [.int .i64 a0, .int .i64 (a1 + n.fEnding), .int .i64 (a2 + absI (n.fLive - (sv b i).fWant)), .int .i64 (a3 + sumN (k3 b i) k), .int .i64 (a4 + sumN (k4 b i) k)] 5), (5, (sv b i).D)]) 0 (Nat.zero_le _) ?_ ?_
          · refine ⟨?_, ?_⟩
            · repeat' (first | exact True.intro | refine And.intro rfl ?_)
            · exact ⟨arr5 rfl W1 A2 (Int.add_zero _).symm (Int.add_zero _).symm, rfl, True.intro⟩
          intro k gs2 hk0
          repeat' (first | (refine g_op ?_; conv => whnf) | (refine And.intro ?_ ?_; (focus (first | exact rfl | exact Nat.le_of_ble_eq_true rfl | decide | omega | fail)); conv => whnf) | (refine g_seq ?_) | (refine XS.go ?_) | (refine g_ops ?_) | (refine g_nil ?_; conv => whnf) | (refine g_cond ?_; conv => whnf) | fail)
          refine Br.mk (fun hb => ?_) (fun hb => ?_)
          · have hk : k < (lv b i).length := by simpa using hb
            have wk : IntKind.wrap .i64 ((k : Int) + 1) = ((k + 1 : Nat) : Int) := by rw [wrap_ok (by omega) (by omega)]; rfl
            have hv0 : 0 ≤ (lv b i).getD (k : Int).toNat default ∧ (lv b i).getD (k : Int).toNat default < b.fCopies.length := hlv k hk
            have B3 : sumN (k3 b i) (k + 1) = sumN (k3 b i) k + k3 b i k := rfl
            have B4 : sumN (k4 b i) (k + 1) = sumN (k4 b i) k + k4 b i k := rfl
            have s3 := sumN_bd (f := k3 b i) (M := 1) (n := k) (fun k _ => b01_bd _)
            have s4 := sumN_bd (f := k4 b i) (M := 1) (n := k) (fun k _ => b01_bd _)
            clear hb
            conv => whnf
            repeat' (first | (refine z_ld1 ?_; first | (refine z_ld rfl rfl rfl rfl (by first | (simp only [List.length_set]; assumption) | assumption | omega) (by first | exact elt_set (by first | assumption | (simp only [List.length_set]; assumption)) | assumption) ?_; conv => whnf) | (refine z_ld0 rfl ?_; conv => whnf)) | (refine z_ld1g ?_; first | (refine z_ldg rfl rfl rfl rfl rfl rfl rfl (by (repeat intro _); exact ⟨(by first | (simp only [List.length_set]; assumption) | assumption | omega), (by first | exact elt_set (by first | assumption | (simp only [List.length_set]; assumption)) | assumption)⟩) rfl rfl rfl rfl ?_; conv => whnf) | (refine z_ld0g ?_; (conv => whnf); refine And.intro ?_ ?_; (focus exact rfl); conv => whnf)) | (refine z_ix1 ?_; first | (refine z_ix rfl rfl rfl rfl rfl ⟨by first | omega | (simp only [decide_eq_true_eq, Bool.not_eq_true', Bool.or_eq_false_iff, decide_eq_false_iff_not, Bool.and_eq_true, Bool.not_eq_false'] at *; omega), by first | omega | (simp only [decide_eq_true_eq, Bool.not_eq_true', Bool.or_eq_false_iff, decide_eq_false_iff_not, Bool.and_eq_true, Bool.not_eq_false'] at *; omega)⟩ ?_; conv => whnf) | (refine z_ix0 rfl rfl ?_; conv => whnf)) | (refine z_op ?_ ?_; (focus exact rfl); conv => whnf) | (refine z_pick ?_ ?_; (focus exact rfl); conv => whnf) | (refine zs_ops ?_ ?_; (focus exact rfl)) | (refine zs_decl ?_) | (refine z_nil fun vals => ?_; conv => whnf) | (refine z_callg0 ?_; (conv => whnf); refine And.intro ?_ ?_; (focus exact rfl)) | (refine RC.of (spec_Drains b _ h2) ?_ ?_; (focus exact rfl); conv => whnf) | (refine And.intro ?_ ?_; (focus (first | exact rfl | exact Nat.le_of_ble_eq_true rfl | decide | omega | fail)); conv => whnf) | (refine g_seq ?_) | (refine XS.go ?_) | (refine g_cond ?_; conv => whnf) | (refine g_skip ?_; conv => whnf) | (refine g_block ?_) | (refine fun _ => ?_; conv => whnf) | fail)
            refine Br.mk (fun h3' => ?_) (fun h3' => ?_)
            · have q3 : k3 b i k = 1 := congrArg b01 h3'
              clear h3'
              rw [q3] at B3
              conv => whnf
              repeat' (first | (refine z_ld1 ?_; first | (refine z_ld rfl rfl rfl rfl (by first | (simp only [List.length_set]; assumption) | assumption | omega) (by first | exact elt_set (by first | assumption | (simp only [List.length_set]; assumption)) | assumption) ?_; conv => whnf) | (refine z_ld0 rfl ?_; conv => whnf)) | (refine z_st1 ?_; first | (refine z_st rfl rfl rfl (by first | (simp only [List.length_set]; assumption) | assumption | omega) (by first | exact elt_set (by first | assumption | (simp only [List.length_set]; assumption)) | assumption) rfl rfl ?_; conv => whnf) | (refine z_st0 ?_; conv => whnf)) | (refine z_ix1 ?_; first | (refine z_ix rfl rfl rfl rfl rfl ⟨by first | omega | (simp only [decide_eq_true_eq, Bool.not_eq_true', Bool.or_eq_false_iff, decide_eq_false_iff_not, Bool.and_eq_true, Bool.not_eq_false'] at *; omega), by first | omega | (simp only [decide_eq_true_eq, Bool.not_eq_true', Bool.or_eq_false_iff, decide_eq_false_iff_not, Bool.and_eq_true, Bool.not_eq_false'] at *; omega)⟩ ?_; conv => whnf) | (refine z_ix0 rfl rfl ?_; conv => whnf)) | (refine z_op ?_ ?_; (focus exact rfl); conv => whnf) | (refine zs_ops ?_ ?_; (focus exact rfl)) | (refine z_nil fun vals => ?_; conv => whnf) | (refine And.intro ?_ ?_; (focus (first | exact rfl | exact Nat.le_of_ble_eq_true rfl | decide | omega | fail)); conv => whnf) | (refine g_seq ?_) | (refine XS.go ?_) | (refine g_cond ?_; conv => whnf) | fail)
              refine Br.mk (fun h4' => ?_) (fun h4' => ?_)
              · have q4 : k4 b i k = 1 := congrArg b01 h4'
                clear h4'
                rw [q4] at B4
                conv => whnf
                repeat' (first | (refine z_ld1 ?_; first | (refine z_ld rfl rfl rfl rfl (by first | (simp only [List.length_set]; assumption) | assumption | omega) (by first | exact elt_set (by first | assumption | (simp only [List.length_set]; assumption)) | assumption) ?_; conv => whnf) | (refine z_ld0 rfl ?_; conv => whnf)) | (refine z_st1 ?_; first | (refine z_st rfl rfl rfl (by first | (simp only [List.length_set]; assumption) | assumption | omega) (by first | exact elt_set (by first | assumption | (simp only [List.length_set]; assumption)) | assumption) rfl rfl ?_; conv => whnf) | (refine z_st0 ?_; conv => whnf)) | (refine z_ix1 ?_; first | (refine z_ix rfl rfl rfl rfl rfl ⟨by first | omega | (simp only [decide_eq_true_eq, Bool.not_eq_true', Bool.or_eq_false_iff, decide_eq_false_iff_not, Bool.and_eq_true, Bool.not_eq_false'] at *; omega), by first | omega | (simp only [decide_eq_true_eq, Bool.not_eq_true', Bool.or_eq_false_iff, decide_eq_false_iff_not, Bool.and_eq_true, Bool.not_eq_false'] at *; omega)⟩ ?_; conv => whnf) | (refine z_ix0 rfl rfl ?_; conv => whnf)) | (refine z_op ?_ ?_; (focus exact rfl); conv => whnf) | (refine zs_ops ?_ ?_; (focus exact rfl)) | (refine z_nil fun vals => ?_; conv => whnf) | (refine g_op ?_; conv => whnf) | (refine And.intro ?_ ?_; (focus (first | exact rfl | exact Nat.le_of_ble_eq_true rfl | decide | omega | fail)); conv => whnf) | (refine XS.go ?_) | (refine g_ops ?_) | (refine g_nil ?_; conv => whnf) | fail)
                refine ⟨k + 1, hk, by omega, ?_, ?_⟩
                · repeat' (first | exact True.intro | refine And.intro (congrArg (D.int .i64) wk) ?_ | refine And.intro rfl ?_)
                · exact ⟨arr5 rfl rfl rfl (by rw [B3, wrap_ok (by omega) (by omega)]; omega) (by rw [B4, wrap_ok (by omega) (by omega)]; omega), rfl, True.intro⟩
              · have q4 : k4 b i k = 0 := congrArg b01 h4'
                clear h4'
                rw [q4] at B4
                conv => whnf
                repeat' (first | (refine g_op ?_; conv => whnf) | (refine And.intro ?_ ?_; (focus (first | exact rfl | exact Nat.le_of_ble_eq_true rfl | decide | omega | fail)); conv => whnf) | (refine XS.go ?_) | (refine g_ops ?_) | (refine g_nil ?_; conv => whnf) | (refine g_skip ?_; conv => whnf) | fail)
                refine ⟨k + 1, hk, by omega, ?_, ?_⟩
                · repeat' (first | exact True.intro | refine And.intro (congrArg (D.int .i64) wk) ?_ | refine And.intro rfl ?_)
                · exact ⟨arr5 rfl rfl rfl (by rw [B3, wrap_ok (by omega) (by omega)]; omega) (by rw [B4]; omega), rfl, True.intro⟩
            · have q3 : k3 b i k = 0 := congrArg b01 h3'
              clear h3'
              rw [q3] at B3
              conv => whnf
              repeat' (first | (refine z_ld1 ?_; first | (refine z_ld rfl rfl rfl rfl (by first | (simp only [List.length_set]; assumption) | assumption | omega) (by first | exact elt_set (by first | assumption | (simp only [List.length_set]; assumption)) | assumption) ?_; conv => whnf) | (refine z_ld0 rfl ?_; conv => whnf)) | (refine z_op ?_ ?_; (focus exact rfl); conv => whnf) | (refine zs_ops ?_ ?_; (focus exact rfl)) | (refine z_nil fun vals => ?_; conv => whnf) | (refine And.intro ?_ ?_; (focus (first | exact rfl | exact Nat.le_of_ble_eq_true rfl | decide | omega | fail)); conv => whnf) | (refine g_seq ?_) | (refine XS.go ?_) | (refine g_cond ?_; conv => whnf) | (refine g_skip ?_; conv => whnf) | fail)
              refine Br.mk (fun h4' => ?_) (fun h4' => ?_)
              · have q4 : k4 b i k = 1 := congrArg b01 h4'
                clear h4'
                rw [q4] at B4
                conv => whnf
                repeat' (first | (refine z_ld1 ?_; first | (refine z_ld rfl rfl rfl rfl (by first | (simp only [List.length_set]; assumption) | assumption | omega) (by first | exact elt_set (by first | assumption | (simp only [List.length_set]; assumption)) | assumption) ?_; conv => whnf) | (refine z_ld0 rfl ?_; conv => whnf)) | (refine z_st1 ?_; first | (refine z_st rfl rfl rfl (by first | (simp only [List.length_set]; assumption) | assumption | omega) (by first | exact elt_set (by first | assumption | (simp only [List.length_set]; assumption)) | assumption) rfl rfl ?_; conv => whnf) | (refine z_st0 ?_; conv => whnf)) | (refine z_ix1 ?_; first | (refine z_ix rfl rfl rfl rfl rfl ⟨by first | omega | (simp only [decide_eq_true_eq, Bool.not_eq_true', Bool.or_eq_false_iff, decide_eq_false_iff_not, Bool.and_eq_true, Bool.not_eq_false'] at *; omega), by first | omega | (simp only [decide_eq_true_eq, Bool.not_eq_true', Bool.or_eq_false_iff, decide_eq_false_iff_not, Bool.and_eq_true, Bool.not_eq_false'] at *; omega)⟩ ?_; conv => whnf) | (refine z_ix0 rfl rfl ?_; conv => whnf)) | (refine z_op ?_ ?_; (focus exact rfl); conv => whnf) | (refine zs_ops ?_ ?_; (focus exact rfl)) | (refine z_nil fun vals => ?_; conv => whnf) | (refine g_op ?_; conv => whnf) | (refine And.intro ?_ ?_; (focus (first | exact rfl | exact Nat.le_of_ble_eq_true rfl | decide | omega | fail)); conv => whnf) | (refine XS.go ?_) | (refine g_ops ?_) | (refine g_nil ?_; conv => whnf) | fail)
                refine ⟨k + 1, hk, by omega, ?_, ?_⟩
                · repeat' (first | exact True.intro | refine And.intro (congrArg (D.int .i64) wk) ?_ | refine And.intro rfl ?_)
                · exact ⟨arr5 rfl rfl rfl (by rw [B3]; omega) (by rw [B4, wrap_ok (by omega) (by omega)]; omega), rfl, True.intro⟩
              · have q4 : k4 b i k = 0 := congrArg b01 h4'
                clear h4'
                rw [q4] at B4
                conv => whnf
                repeat' (first | (refine g_op ?_; conv => whnf) | (refine And.intro ?_ ?_; (focus (first | exact rfl | exact Nat.le_of_ble_eq_true rfl | decide | omega | fail)); conv => whnf) | (refine XS.go ?_) | (refine g_ops ?_) | (refine g_nil ?_; conv => whnf) | (refine g_skip ?_; conv => whnf) | fail)
                refine ⟨k + 1, hk, by omega, ?_, ?_⟩
                · repeat' (first | exact True.intro | refine And.intro (congrArg (D.int .i64) wk) ?_ | refine And.intro rfl ?_)
                · exact ⟨arr5 rfl rfl rfl (by rw [B3]; omega) (by rw [B4]; omega), rfl, True.intro⟩
          have hke : k = (lv b i).length := by
            have : ¬ k < (lv b i).length := by simpa using hb
            omega
          subst hke
          clear hb
          conv => whnf
          repeat' (first | (refine g_op ?_; conv => whnf) | (refine And.intro ?_ ?_; (focus (first | exact rfl | exact Nat.le_of_ble_eq_true rfl | decide | omega | fail)); conv => whnf) | (refine XS.go ?_) | (refine g_ops ?_) | (refine g_nil ?_; conv => whnf) | (refine g_exit ?_; conv => whnf) | fail)
          refine ⟨i + 1, hlt, by omega, ?_, ?_⟩
          · repeat' (first | exact True.intro | refine And.intro (congrArg (D.int .i64) hw) ?_ | refine And.intro rfl ?_)
          · exact ⟨arr5 (by rw [E0]; exact (Int.add_zero _).symm) (by rw [E1]; omega) (by rw [E2]) (by rw [E3]) (by rw [E4]), True.intro⟩
        · skip
          have A2 : IntKind.wrap .i64 (a2 + IntKind.wrap .i64 (n.fLive - (sv b i).fWant)) = a2 + absI (n.fLive - (sv b i).fWant) := by
            have hx : ¬ IntKind.wrap .i64 (n.fLive - (sv b i).fWant) < 0 := of_decide_eq_false hx
            rw [W2] at hx ⊢
            unfold absI
            rw [if_neg hx, wrap_ok (by omega) (by omega)]
          clear hx
          conv => whnf
          repeat' (first | (refine z_ld1 ?_; first | (refine z_ld rfl rfl rfl rfl (by first | (simp only [List.length_set]; assumption) | assumption | omega) (by first | exact elt_set (by first | assumption | (simp only [List.length_set]; assumption)) | assumption) ?_; conv => whnf) | (refine z_ld0 rfl ?_; conv => whnf)) | (refine z_st1 ?_; first | (refine z_st rfl rfl rfl (by first | (simp only [List.length_set]; assumption) | assumption | omega) (by first | exact elt_set (by first | assumption | (simp only [List.length_set]; assumption)) | assumption) rfl rfl ?_; conv => whnf) | (refine z_st0 ?_; conv => whnf)) | (refine z_ix1 ?_; first | (refine z_ix rfl rfl rfl rfl rfl ⟨by first | omega | (simp only [decide_eq_true_eq, Bool.not_eq_true', Bool.or_eq_false_iff, decide_eq_false_iff_not, Bool.and_eq_true, Bool.not_eq_false'] at *; omega), by first | omega | (simp only [decide_eq_true_eq, Bool.not_eq_true', Bool.or_eq_false_iff, decide_eq_false_iff_not, Bool.and_eq_true, Bool.not_eq_false'] at *; omega)⟩ ?_; conv => whnf) | (refine z_ix0 rfl rfl ?_; conv => whnf)) | (refine z_op ?_ ?_; (focus exact rfl); conv => whnf) | (refine zs_ops ?_ ?_; (focus exact rfl)) | (refine z_nil fun vals => ?_; conv => whnf) | (refine z_call ?_ ?_; (focus exact rfl)) | (refine RC.of (hL) ?_ ?_; (focus exact rfl); conv => whnf) | (refine g_op ?_; conv => whnf) | (refine And.intro ?_ ?_; (focus (first | exact rfl | exact Nat.le_of_ble_eq_true rfl | decide | omega | fail)); conv => whnf) | (refine g_seq ?_) | (refine XS.go ?_) | (refine g_ops ?_) | (refine g_loop ?_) | (refine g_nil ?_; conv => whnf) | (refine g_skip ?_; conv => whnf) | (refine g_block ?_) | fail)
          refine XLc.mkA (α := Nat) (fun k => k ≤ (lv b i).length) (fun k => (lv b i).length - k) (fun k gs => [.any, .cref b.D, .nil, .lsl 11 (gs 11) 5 5, .int .i64 (i : Int), .lref 5 (gs 5) [] 0, .any, .any, .ro 1 ((lv b i).map (D.int .i64)), .int .i64 (k : Int)]) (fun k gs => [(11, .arr 1 [.int .i64 a0, .int .i64 (a1 + n.fEnding), .int .i64 (a2 + absI (n.fLive - (sv b i).fWant)), .int .i64 (a3 + sumN (k3 b i) k), .int .i64 (a4 + sumN (k4 b i) k)] 5), (5, (sv b i).D)]) 0 (Nat.zero_le _) ?_ ?_
          · refine ⟨?_, ?_⟩
            · repeat' (first | exact True.intro | refine And.intro rfl ?_)
            · exact ⟨arr5 rfl W1 A2 (Int.add_zero _).symm (Int.add_zero _).symm, rfl, True.intro⟩
          intro k gs2 hk0
          repeat' (first | (refine g_op ?_; conv => whnf) | (refine And.intro ?_ ?_; (focus (first | exact rfl | exact Nat.le_of_ble_eq_true rfl | decide | omega | fail)); conv => whnf) | (refine g_seq ?_) | (refine XS.go ?_) | (refine g_ops ?_) | (refine g_nil ?_; conv => whnf) | (refine g_cond ?_; conv => whnf) | fail)
          refine Br.mk (fun hb => ?_) (fun hb => ?_)
          · have hk : k < (lv b i).length := by simpa using hb
            have wk : IntKind.wrap .i64 ((k : Int) + 1) = ((k + 1 : Nat) : Int) := by rw [wrap_ok (by omega) (by omega)]; rfl
            have hv0 : 0 ≤ (lv b i).getD (k : Int).toNat default ∧ (lv b i).getD (k : Int).toNat default < b.fCopies.length := hlv k hk
            have B3 : sumN (k3 b i) (k + 1) = sumN (k3 b i) k + k3 b i k := rfl
            have B4 : sumN (k4 b i) (k + 1) = sumN (k4 b i) k + k4 b i k := rfl
            have s3 := sumN_bd (f := k3 b i) (M := 1) (n := k) (fun k _ => b01_bd _)
            have s4 := sumN_bd (f := k4 b i) (M := 1) (n := k) (fun k _ => b01_bd _)
            clear hb
            conv => whnf
            repeat' (first | (refine z_ld1 ?_; first | (refine z_ld rfl rfl rfl rfl (by first | (simp only [List.length_set]; assumption) | assumption | omega) (by first | exact elt_set (by first | assumption | (simp only [List.length_set]; assumption)) | assumption) ?_; conv => whnf) | (refine z_ld0 rfl ?_; conv => whnf)) | (refine z_ld1g ?_; first | (refine z_ldg rfl rfl rfl rfl rfl rfl rfl (by (repeat intro _); exact ⟨(by first | (simp only [List.length_set]; assumption) | assumption | omega), (by first | exact elt_set (by first | assumption | (simp only [List.length_set]; assumption)) | assumption)⟩) rfl rfl rfl rfl ?_; conv => whnf) | (refine z_ld0g ?_; (conv => whnf); refine And.intro ?_ ?_; (focus exact rfl); conv => whnf)) | (refine z_ix1 ?_; first | (refine z_ix rfl rfl rfl rfl rfl ⟨by first | omega | (simp only [decide_eq_true_eq, Bool.not_eq_true', Bool.or_eq_false_iff, decide_eq_false_iff_not, Bool.and_eq_true, Bool.not_eq_false'] at *; omega), by first | omega | (simp only [decide_eq_true_eq, Bool.not_eq_true', Bool.or_eq_false_iff, decide_eq_false_iff_not, Bool.and_eq_true, Bool.not_eq_false'] at *; omega)⟩ ?_; conv => whnf) | (refine z_ix0 rfl rfl ?_; conv => whnf)) | (refine z_op ?_ ?_; (focus exact rfl); conv => whnf) | (refine z_pick ?_ ?_; (focus exact rfl); conv => whnf) | (refine zs_ops ?_ ?_; (focus exact rfl)) | (refine zs_decl ?_) | (refine z_nil fun vals => ?_; conv => whnf) | (refine z_callg0 ?_; (conv => whnf); refine And.intro ?_ ?_; (focus exact rfl)) | (refine RC.of (spec_Drains b _ h2) ?_ ?_; (focus exact rfl); conv => whnf) | (refine And.intro ?_ ?_; (focus (first | exact rfl | exact Nat.le_of_ble_eq_true rfl | decide | omega | fail)); conv => whnf) | (refine g_seq ?_) | (refine XS.go ?_) | (refine g_cond ?_; conv => whnf) | (refine g_skip ?_; conv => whnf) | (refine g_block ?_) | (refine fun _ => ?_; conv => whnf) | fail)
            refine Br.mk (fun h3' => ?_) (fun h3' => ?_)
            · have q3 : k3 b i k = 1 := congrArg b01 h3'
              clear h3'
              rw [q3] at B3
              conv => whnf
              repeat' (first | (refine z_ld1 ?_; first | (refine z_ld rfl rfl rfl rfl (by first | (simp only [List.length_set]; assumption) | assumption | omega) (by first | exact elt_set (by first | assumption | (simp only [List.length_set]; assumption)) | assumption) ?_; conv => whnf) | (refine z_ld0 rfl ?_; conv => whnf)) | (refine z_st1 ?_; first | (refine z_st rfl rfl rfl (by first | (simp only [List.length_set]; assumption) | assumption | omega) (by first | exact elt_set (by first | assumption | (simp only [List.length_set]; assumption)) | assumption) rfl rfl ?_; conv => whnf) | (refine z_st0 ?_; conv => whnf)) | (refine z_ix1 ?_; first | (refine z_ix rfl rfl rfl rfl rfl ⟨by first | omega | (simp only [decide_eq_true_eq, Bool.not_eq_true', Bool.or_eq_false_iff, decide_eq_false_iff_not, Bool.and_eq_true, Bool.not_eq_false'] at *; omega), by first | omega | (simp only [decide_eq_true_eq, Bool.not_eq_true', Bool.or_eq_false_iff, decide_eq_false_iff_not, Bool.and_eq_true, Bool.not_eq_false'] at *; omega)⟩ ?_; conv => whnf) | (refine z_ix0 rfl rfl ?_; conv => whnf)) | (refine z_op ?_ ?_; (focus exact rfl); conv => whnf) | (refine zs_ops ?_ ?_; (focus exact rfl)) | (refine z_nil fun vals => ?_; conv => whnf) | (refine And.intro ?_ ?_; (focus (first | exact rfl | exact Nat.le_of_ble_eq_true rfl | decide | omega | fail)); conv => whnf) | (refine g_seq ?_) | (refine XS.go ?_) | (refine g_cond ?_; conv => whnf) | fail)
              refine Br.mk (fun h4' => ?_) (fun h4' => ?_)
              · have q4 : k4 b i k = 1 := congrArg b01 h4'
                clear h4'
                rw [q4] at B4
                conv => whnf
                repeat' (first | (refine z_ld1 ?_; first | (refine z_ld rfl rfl rfl rfl (by first | (simp only [List.length_set]; assumption) | assumption | omega) (by first | exact elt_set (by first | assumption | (simp only [List.length_set]; assumption)) | assumption) ?_; conv => whnf) | (refine z_ld0 rfl ?_; conv => whnf)) | (refine z_st1 ?_; first | (refine z_st rfl rfl rfl (by first | (simp only [List.length_set]; assumption) | assumption | omega) (by first | exact elt_set (by first | assumption | (simp only [List.length_set]; assumption)) | assumption) rfl rfl ?_; conv => whnf) | (refine z_st0 ?_; conv => whnf)) | (refine z_ix1 ?_; first | (refine z_ix rfl rfl rfl rfl rfl ⟨by first | omega | (simp only [decide_eq_true_eq, Bool.not_eq_true', Bool.or_eq_false_iff, decide_eq_false_iff_not, Bool.and_eq_true, Bool.not_eq_false'] at *; omega), by first | omega | (simp only [decide_eq_true_eq, Bool.not_eq_true', Bool.or_eq_false_iff, decide_eq_false_iff_not, Bool.and_eq_true, Bool.not_eq_false'] at *; omega)⟩ ?_; conv => whnf) | (refine z_ix0 rfl rfl ?_; conv => whnf)) | (refine z_op ?_ ?_; (focus exact rfl); conv => whnf) | (refine zs_ops ?_ ?_; (focus exact rfl)) | (refine z_nil fun vals => ?_; conv => whnf) | (refine g_op ?_; conv => whnf) | (refine And.intro ?_ ?_; (focus (first | exact rfl | exact Nat.le_of_ble_eq_true rfl | decide | omega | fail)); conv => whnf) | (refine XS.go ?_) | (refine g_ops ?_) | (refine g_nil ?_; conv => whnf) | fail)
                refine ⟨k + 1, hk, by omega, ?_, ?_⟩
                · repeat' (first | exact True.intro | refine And.intro (congrArg (D.int .i64) wk) ?_ | refine And.intro rfl ?_)
                · exact ⟨arr5 rfl rfl rfl (by rw [B3, wrap_ok (by omega) (by omega)]; omega) (by rw [B4, wrap_ok (by omega) (by omega)]; omega), rfl, True.intro⟩
              · have q4 : k4 b i k = 0 := congrArg b01 h4'
                clear h4'
                rw [q4] at B4
                conv => whnf
                repeat' (first | (refine g_op ?_; conv => whnf) | (refine And.intro ?_ ?_; (focus (first | exact rfl | exact Nat.le_of_ble_eq_true rfl | decide | omega | fail)); conv => whnf) | (refine XS.go ?_) | (refine g_ops ?_) | (refine g_nil ?_; conv => whnf) | (refine g_skip ?_; conv => whnf) | fail)
                refine ⟨k + 1, hk, by omega, ?_, ?_⟩
                · repeat' (first | exact True.intro | refine And.intro (congrArg (D.int .i64) wk) ?_ | refine And.intro rfl ?_)
                · exact ⟨arr5 rfl rfl rfl (by rw [B3, wrap_ok (by omega) (by omega)]; omega) (by rw [B4]; omega), rfl, True.intro⟩
            · have q3 : k3 b i k = 0 := congrArg b01 h3'
              clear h3'
              rw [q3] at B3
              conv => whnf
              repeat' (first | (refine z_ld1 ?_; first | (refine z_ld rfl rfl rfl rfl (by first | (simp only [List.length_set]; assumption) | assumption | omega) (by first | exact elt_set (by first | assumption | (simp only [List.length_set]; assumption)) | assumption) ?_; conv => whnf) | (refine z_ld0 rfl ?_; conv => whnf)) | (refine z_op ?_ ?_; (focus exact rfl); conv => whnf) | (refine zs_ops ?_ ?_; (focus exact rfl)) | (refine z_nil fun vals => ?_; conv => whnf) | (refine And.intro ?_ ?_; (focus (first | exact rfl | exact Nat.le_of_ble_eq_true rfl | decide | omega | fail)); conv => whnf) | (refine g_seq ?_) | (refine XS.go ?_) | (refine g_cond ?_; conv => whnf) | (refine g_skip ?_; conv => whnf) | fail)
              refine Br.mk (fun h4' => ?_) (fun h4' => ?_)
              · have q4 : k4 b i k = 1 := congrArg b01 h4'
                clear h4'
                rw [q4] at B4
                conv => whnf
                repeat' (first | (refine z_ld1 ?_; first | (refine z_ld rfl rfl rfl rfl (by first | (simp only [List.length_set]; assumption) | assumption | omega) (by first | exact elt_set (by first | assumption | (simp only [List.length_set]; assumption)) | assumption) ?_; conv => whnf) | (refine z_ld0 rfl ?_; conv => whnf)) | (refine z_st1 ?_; first | (refine z_st rfl rfl rfl (by first | (simp only [List.length_set]; assumption) | assumption | omega) (by first | exact elt_set (by first | assumption | (simp only [List.length_set]; assumption)) | assumption) rfl rfl ?_; conv => whnf) | (refine z_st0 ?_; conv => whnf)) | (refine z_ix1 ?_; first | (refine z_ix rfl rfl rfl rfl rfl ⟨by first | omega | (simp only [decide_eq_true_eq, Bool.not_eq_true', Bool.or_eq_false_iff, decide_eq_false_iff_not, Bool.and_eq_true, Bool.not_eq_false'] at *; omega), by first | omega | (simp only [decide_eq_true_eq, Bool.not_eq_true', Bool.or_eq_false_iff, decide_eq_false_iff_not, Bool.and_eq_true, Bool.not_eq_false'] at *; omega)⟩ ?_; conv => whnf) | (refine z_ix0 rfl rfl ?_; conv => whnf)) | (refine z_op ?_ ?_; (focus exact rfl); conv => whnf) | (refine zs_ops ?_ ?_; (focus exact rfl)) | (refine z_nil fun vals => ?_; conv => whnf) | (refine g_op ?_; conv => whnf) | (refine And.intro ?_ ?_; (focus (first | exact rfl | exact Nat.le_of_ble_eq_true rfl | decide | omega | fail)); conv => whnf) | (refine XS.go ?_) | (refine g_ops ?_) | (refine g_nil ?_; conv => whnf) | fail)
                refine ⟨k + 1, hk, by omega, ?_, ?_⟩
                · repeat' (first | exact True.intro | refine And.intro (congrArg (D.int .i64) wk) ?_ | refine And.intro rfl ?_)
                · exact ⟨arr5 rfl rfl rfl (by rw [B3]; omega) (by rw [B4, wrap_ok (by omega) (by omega)]; omega), rfl, True.intro⟩
              · have q4 : k4 b i k = 0 := congrArg b01 h4'
                clear h4'
                rw [q4] at B4
                conv => whnf
                repeat' (first | (refine g_op ?_; conv => whnf) | (refine And.intro ?_ ?_; (focus (first | exact rfl | exact Nat.le_of_ble_eq_true rfl | decide | omega | fail)); conv => whnf) | (refine XS.go ?_) | (refine g_ops ?_) | (refine g_nil ?_; conv => whnf) | (refine g_skip ?_; conv => whnf) | fail)
                refine ⟨k + 1, hk, by omega, ?_, ?_⟩
                · repeat' (first | exact True.intro | refine And.intro (congrArg (D.int .i64) wk) ?_ | refine And.intro rfl ?_)
                · exact ⟨arr5 rfl rfl rfl (by rw [B3]; omega) (by rw [B4]; omega), rfl, True.intro⟩
          have hke : k = (lv b i).length := by
            have : ¬ k < (lv b i).length := by simpa using hb
            omega
          subst hke
          clear hb
          conv => whnf
          repeat' (first | (refine g_op ?_; conv => whnf) | (refine And.intro ?_ ?_; (focus (first | exact rfl | exact Nat.le_of_ble_eq_true rfl | decide | omega | fail)); conv => whnf) | (refine XS.go ?_) | (refine g_ops ?_) | (refine g_nil ?_; conv => whnf) | (refine g_exit ?_; conv => whnf) | fail)
          refine ⟨i + 1, hlt, by omega, ?_, ?_⟩
          · repeat' (first | exact True.intro | refine And.intro (congrArg (D.int .i64) hw) ?_ | refine And.intro rfl ?_)
          · exact ⟨arr5 (by rw [E0]; exact (Int.add_zero _).symm) (by rw [E1]; omega) (by rw [E2]) (by rw [E3]) (by rw [E4]), True.intro⟩
    have hi : i = b.fServices.length := by
      have : ¬ i < b.fServices.length := by simpa using hb
      omega
    subst hi
    clear hb
    have e : rankL b = rankN b b.fServices.length := by rw [rankL, if_pos hv]
    rw [e]
    conv => whnf
    repeat' (first | (refine g_op ?_; conv => whnf) | (refine And.intro ?_ ?_; (focus (first | exact rfl | exact Nat.le_of_ble_eq_true rfl | decide | omega | fail)); conv => whnf) | (refine g_seq ?_) | (refine XS.go ?_) | (refine g_ops ?_) | (refine g_nil ?_; conv => whnf) | (refine g_ret ?_; conv => whnf) | (refine g_exit ?_; conv => whnf) | (refine r_t ?_; conv => whnf) | (refine r_nil ?_; conv => whnf) | fail)
    exact ⟨⟨rfl, Nat.le_refl _⟩, rfl⟩
end Go.Ab
