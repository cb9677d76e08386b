/- Steps towards the law: the machine, contracts of functions and facts of lists. -/
import Derived.Test.YtagleaabhljkfaaMateA
import Derived.Test.YtagleaabhljkfaaRows
set_option linter.unusedSimpArgs false
set_option linter.unusedVariables false
namespace Go.Ab
open Go Go.RowKit Go.Proofs
attribute [local irreducible] XC Rdr IntKind.wrap xw xos xqs xr xd
set_option maxRecDepth 100000
set_option maxHeartbeats 16000000
def cf19 : CF := ⟨62,[.t 2],(.seq (.ops [Ok 2 (.bool false)]) (.seq (.seq (.ops [Om 5 0,Og 6 5,Oo 7 (.bin .gtr (.t 6) (.k (.int .i64 10)))]) (.cond (.t 7) (.seq (.ops [Ok 2 (.bool false)]) .ret) .skip)) (.seq (.seq (.ops [Ok 3 (.int .i64 0)]) (.block 0 (.loop (.seq (.seq (.ops [Om 8 3,Om 9 0,Og 10 9,Ob 11 .lss 8 10]) (.cond (.t 11) .skip (.exit 0))) (.seq (.block 1 (.seq (.seq (.quiet [Om 14 0,Om 15 3,Ox 16 7 14 15,Od 17 7 16,Oc 18 62 [.t 17],Oo 19 (.not (.t 18)),Om 20 19,⟨some 21,.mv (.t 3),some (20,false)⟩,⟨some 22,.bin .gtr (.t 21) (.k (.int .i64 0)),some (20,false)⟩,⟨some 23,.mv (.t 22),some (20,false)⟩,⟨some 24,.mv (.t 0),some (23,true)⟩,⟨some 25,.mv (.t 3),some (23,true)⟩,⟨some 26,.bin .sub (.t 25) (.k (.int .i64 1)),some (23,true)⟩,⟨some 27,.ix 7 (.t 24) (.t 26),some (23,true)⟩,⟨some 28,.fa 0 1 0 (.t 27),some (23,true)⟩,⟨some 29,.ld 1 false (.t 28),some (23,true)⟩,⟨some 30,.mv (.t 0),some (23,true)⟩,⟨some 31,.mv (.t 3),some (23,true)⟩,⟨some 32,.ix 7 (.t 30) (.t 31),some (23,true)⟩,⟨some 33,.fa 0 1 0 (.t 32),some (23,true)⟩,⟨some 34,.ld 1 false (.t 33),some (23,true)⟩,⟨some 35,.bin .geq (.t 29) (.t 34),some (23,true)⟩,⟨some 36,.pick (.t 23) (.t 35) (.k (.bool false)),some (20,false)⟩,Oo 37 (.pick (.t 20) (.k (.bool true)) (.t 36))]) (.cond (.t 37) (.seq (.ops [Ok 2 (.bool false)]) .ret) .skip)) (.seq (.ops [Ok 4 (.int .i64 0)]) (.block 2 (.loop (.seq (.seq (.ops [Om 38 4,Om 39 3,Ob 40 .lss 38 39]) (.cond (.t 40) .skip (.exit 2))) (.seq (.block 3 (.seq (.quiet [Om 43 0,Om 44 3,Ox 45 7 43 44,Of 46 2 45,Ol 47 46,Oo 48 (.bin .neq (.t 47) (.k (.str ⟨#[]⟩))),Om 49 48,⟨some 50,.mv (.t 0),some (49,true)⟩,⟨some 51,.mv (.t 4),some (49,true)⟩,⟨some 52,.ix 7 (.t 50) (.t 51),some (49,true)⟩,⟨some 53,.fa 2 1 2 (.t 52),some (49,true)⟩,⟨some 54,.ld 1 false (.t 53),some (49,true)⟩,⟨some 55,.mv (.t 0),some (49,true)⟩,⟨some 56,.mv (.t 3),some (49,true)⟩,⟨some 57,.ix 7 (.t 55) (.t 56),some (49,true)⟩,⟨some 58,.fa 2 1 2 (.t 57),some (49,true)⟩,⟨some 59,.ld 1 false (.t 58),some (49,true)⟩,⟨some 60,.bin .eql (.t 54) (.t 59),some (49,true)⟩,Oo 61 (.pick (.t 49) (.t 60) (.k (.bool false)))]) (.cond (.t 61) (.seq (.ops [Ok 2 (.bool false)]) .ret) .skip))) (.ops [Om 41 4,Oi 42 41,Om 4 42])))))))) (.ops [Om 12 3,Oi 13 12,Om 3 13])))))) (.seq (.ops [Ok 2 (.bool true)]) .ret))))⟩
theorem c19 : compileF Try.prog [] 19 = some cf19 := by kernel_rfl
def cf21 : CF := ⟨50,[.t 2],(.seq (.ops [Ok 2 (.bool false)]) (.seq (.seq (.ops [Om 6 0,Og 7 6,Oo 8 (.bin .gtr (.t 7) (.k (.int .i64 10)))]) (.cond (.t 8) (.seq (.ops [Ok 2 (.bool false)]) .ret) .skip)) (.seq (.ops [Oo 9 (.mm),Om 3 9]) (.seq (.seq (.ops [Om 10 0,Og 11 10,Ok 12 (.int .i64 0)]) (.block 0 (.loop (.seq (.ops [Ob 13 .lss 12 11]) (.seq (.cond (.t 13) .skip (.exit 0)) (.seq (.block 1 (.seq (.ops [Om 14 12,Ox 15 7 10 12,Od 16 7 15,Oo 5 (.al (.agg [.str ⟨#[]⟩,.int .i64 0,.str ⟨#[]⟩,.int .i64 0,.int .i64 0,.int .i64 0,.int .i64 0])),Om 4 14,Os 7 5 16]) (.seq (.seq (.quiet [Od 17 7 5,Oc 18 63 [.t 17],Oo 19 (.not (.t 18)),Om 20 19,⟨some 21,.mv (.t 4),some (20,false)⟩,⟨some 22,.bin .gtr (.t 21) (.k (.int .i64 0)),some (20,false)⟩,⟨some 23,.mv (.t 22),some (20,false)⟩,⟨some 24,.fa 0 1 0 (.t 5),some (23,true)⟩,⟨some 25,.ld 1 false (.t 24),some (23,true)⟩,⟨some 26,.mv (.t 0),some (23,true)⟩,⟨some 27,.mv (.t 4),some (23,true)⟩,⟨some 28,.bin .sub (.t 27) (.k (.int .i64 1)),some (23,true)⟩,⟨some 29,.ix 7 (.t 26) (.t 28),some (23,true)⟩,⟨some 30,.fa 0 1 0 (.t 29),some (23,true)⟩,⟨some 31,.ld 1 false (.t 30),some (23,true)⟩,⟨some 32,.bin .leq (.t 25) (.t 31),some (23,true)⟩,⟨some 33,.pick (.t 23) (.t 32) (.k (.bool false)),some (20,false)⟩,Oo 34 (.pick (.t 20) (.k (.bool true)) (.t 33)),Om 35 34,⟨some 36,.fa 2 1 2 (.t 5),some (35,false)⟩,⟨some 37,.ld 1 false (.t 36),some (35,false)⟩,⟨some 38,.bin .neq (.t 37) (.k (.str ⟨#[]⟩)),some (35,false)⟩,⟨some 39,.mv (.t 38),some (35,false)⟩,⟨some 40,.mv (.t 3),some (39,true)⟩,⟨some 41,.fa 2 1 2 (.t 5),some (39,true)⟩,⟨some 42,.ld 1 false (.t 41),some (39,true)⟩,⟨some 43,.lk (.t 40) (.t 42),some (39,true)⟩,⟨some 44,.pick (.t 39) (.t 43) (.k (.bool false)),some (35,false)⟩,Oo 45 (.pick (.t 35) (.k (.bool true)) (.t 44))]) (.cond (.t 45) (.seq (.ops [Ok 2 (.bool false)]) .ret) .skip)) (.ops [Om 46 3,Of 47 2 5,Ol 48 47,⟨none,.mu (.t 46) (.t 48) (.k (.bool true)),none⟩])))) (.ops [Oi 49 12,Om 12 49]))))))) (.seq (.ops [Ok 2 (.bool true)]) .ret)))))⟩
theorem c21 : compileF Try.prog [] 21 = some cf21 := by kernel_rfl
def kval (k : ByteArray) : List (ByteArray × Bool) → Option Bool
 | [] => none
 | (a, v) :: l => if k == a then some v else kval k l
def kput (k : ByteArray) (v : Bool) : List (ByteArray × Bool) → List (ByteArray × Bool)
 | [] => [(k, v)]
 | (a, x) :: l => if k == a then (k, v) :: l else (a, x) :: kput k v l
theorem kfind_val {k : ByteArray} : ∀ {l : List (ByteArray × Bool)} {j : Nat}, (kfind k l j).map (·.2) = kval k l
 | [], _ => rfl
 | (a, v) :: l, j => by
  unfold kfind kval
  split
  ·rfl
  ·exact kfind_val
theorem kfind_put {k : ByteArray} {v : Bool} : ∀ {l : List (ByteArray × Bool)} {j : Nat}, (match kfind k l j with
  | some (i, _) => l.set (i - j) (k, v)
  | none => l ++ [(k, v)]) = kput k v l
 | [], _ => rfl
 | (a, x) :: l, j => by
  unfold kfind kput
  by_cases h : (k == a) = true
  ·simp [h]
  ·simp only [h]
   have ih := kfind_put (k := k) (v := v) (l := l) (j := j + 1)
   cases hq : kfind k l (j + 1) with
   | none => rw [hq] at ih; simp at ih ⊢; exact ih
   | some p =>
    obtain ⟨i, y⟩ := p
    rw [hq] at ih
    obtain ⟨b, h1, _⟩ := kfind_spec hq
    have e : i - j = (i - (j + 1)) + 1 := by omega
    simp only at ih
    show ((a, x) :: l).set (i - j) (k, v) = _
    rw [e, List.set_cons_succ, ih]
    rfl
theorem kset_put (l : List (ByteArray × Bool)) (k : ByteArray) (v : Bool) : kset l k v = kput k v l := by
 have := kfind_put (k := k) (v := v) (l := l) (j := 0)
 unfold kset
 cases hq : kfind k l 0 with
 | none => rw [hq] at this; exact this
 | some p => obtain ⟨i, y⟩ := p; rw [hq] at this; simpa using this
theorem kval_put {k h : ByteArray} {v : Bool} : ∀ {l : List (ByteArray × Bool)}, kval h (kput k v l) = if h == k then some v else kval h l
 | [] => rfl
 | (a, x) :: l => by
  unfold kput
  by_cases hk : (k == a) = true
  ·rw [if_pos hk]
   have e : k = a := (Go.MapKept.bytes_beq _ _).1 hk
   subst e
   unfold kval
   by_cases hh : (h == k) = true
   ·simp [hh]
   ·simp [hh]
  ·rw [if_neg hk]
   unfold kval
   by_cases ha : (h == a) = true
   ·have e : h = a := (Go.MapKept.bytes_beq _ _).1 ha
    subst e
    have hne : ¬ (h == k) = true := fun q => hk ((Go.MapKept.bytes_beq _ _).2 ((Go.MapKept.bytes_beq _ _).1 q).symm)
    simp [ha, hne]
   ·rw [if_neg ha, if_neg ha]
    exact kval_put
theorem kget_set (l : List (ByteArray × Bool)) (k h : ByteArray) : kget (kset l k true) h = ((h == k) || kget l h) := by
 unfold kget
 rw [kset_put, kfind_val, kfind_val, kval_put]
 cases hq : (h == k) <;> simp
theorem bytes_toList (a b : ByteArray) : (a == b) = (a.toList == b.toList) := by
 exact beq_toListBytes a b
def mpU (xs : List MateWant) : Nat → List (ByteArray × Bool)
 | 0 => []
 | i + 1 => kset (mpU xs i) (xs.getD i default).fHold true
theorem allN_last {f : Nat → Bool} : ∀ {k i : Nat}, allN f (k + 1) i = (allN f k i && f (i + k))
 | 0, i => by simp [allN]
 | k + 1, i => by
  rw [allN, allN_last (k := k) (i := i + 1), allN]
  rw [show i + 1 + k = i + (k + 1) by omega, Bool.and_assoc]
theorem kget_mpU (xs : List MateWant) (h : ByteArray) : ∀ m, kget (mpU xs m) h = !allN (fun k => !((xs.getD k default).fHold.toList == h.toList)) m 0
 | 0 => rfl
 | m + 1 => by
  rw [mpU, kget_set, kget_mpU xs h m, allN_last, bytes_toList, Nat.zero_add, beq_cm h.toList]
  cases allN (fun k => !((xs.getD k default).fHold.toList == h.toList)) m 0 <;> simp
def nodup (xs : List MateWant) (i : Nat) : Bool := allN (fun k => !((xs.getD k default).fHold.toList == (xs.getD i default).fHold.toList)) i 0
def wS (xs : List MateWant) (i : Nat) : Bool := wantOk (xs.getD i default) && !(decide ((i : Int) > 0) && !Op.bytesLess (xs.getD (pr i) default).fCopy.toList (xs.getD i default).fCopy.toList)
def wF (xs : List MateWant) (i : Nat) : Bool := wS xs i && (((xs.getD i default).fHold.toList == (ByteArray.mk #[]).toList) || nodup xs i)
def wantsOk (xs : List MateWant) : Bool := !decide ((xs.length : Int) > 10) && (allN (wF xs) xs.length 0 && true)
def dF (xs : List MateWant) (i k : Nat) : Bool := !(!((xs.getD i default).fHold.toList == (ByteArray.mk #[]).toList) && ((xs.getD k default).fHold.toList == (xs.getD i default).fHold.toList))
theorem allN_true : ∀ {k i : Nat}, allN (fun _ => true) k i = true
 | 0, _ => rfl
 | k + 1, i => by rw [allN, allN_true]; rfl
theorem dF_all (xs : List MateWant) (i : Nat) : allN (dF xs i) i 0 = (((xs.getD i default).fHold.toList == (ByteArray.mk #[]).toList) || nodup xs i) := by
 unfold nodup
 cases hq : ((xs.getD i default).fHold.toList == (ByteArray.mk #[]).toList) with
 | true =>
  rw [allN_congr (g := fun _ => true) (fun j _ _ => by unfold dF; rw [hq]; rfl), allN_true]
  rfl
 | false =>
  rw [Bool.false_or]
  exact allN_congr fun j _ _ => by unfold dF; rw [hq]; rfl
theorem impl_WantsOk (xs : List MateWant) : Rdr Try.prog 21 [.ro 7 (xs.map MateWant.D)] (.bool (wantsOk xs)) := by
 refine Rdr.intro' hm c21 (Nat.le_of_ble_eq_true rfl) ?_
 conv => whnf
 repeat' (first | (refine g_op ?_; conv => whnf) | (refine And.intro ?_ ?_; (focus exact au0); conv => whnf) | (refine g_seq ?_) | (refine XS.go ?_) | (refine g_ops ?_) | ((first | refine g_nil ?_ | refine g_cond ?_); conv => whnf) | fail)
 rw [mlen]
 refine Br.mk (fun hb => ?_) (fun hb => ?_)
 ·conv => whnf
  repeat' (first | (refine g_op ?_; conv => whnf) | (refine And.intro ?_ ?_; (focus exact au0); conv => whnf) | (refine g_seq ?_) | (refine XS.go ?_) | (refine g_ops ?_) | ((first | refine g_nil ?_ | refine g_ret ?_ | refine r_t ?_ | refine r_nil ?_); conv => whnf) | fail)
  (conv => lhs; whnf)
  rw [wantsOk, hb]
  rfl
 have hv : wantsOk xs = (allN (wF xs) xs.length 0 && true) := by rw [wantsOk, hb]; rfl
 have hl : xs.length ≤ 10 := by simp at hb; omega
 clear hb
 conv => whnf
 repeat' (first | (refine g_op ?_; conv => whnf) | (refine And.intro ?_ ?_; (focus exact au0); conv => whnf) | (refine g_seq ?_) | (refine XS.go ?_) | (refine g_ops ?_) | (refine g_loop ?_) | ((first | refine g_nil ?_ | refine g_skip ?_); conv => whnf) | (refine g_block ?_) | (refine fun _ => ?_; conv => whnf) | fail)
 refine XLc.mkL (α := Nat) (fun i => i ≤ xs.length ∧ wantsOk xs = (allN (wF xs) (xs.length - i) i && true)) (fun i => xs.length - i) (fun i gs => [.ro 7 (xs.map MateWant.D), .any, .any, .lmp 9 (gs 9), .any, .any, .any, .any, .any, .any, .ro 7 (xs.map MateWant.D), .int .i64 ((xs.map MateWant.D).length : Int), .int .i64 (i : Int)]) (fun i gs => [none, none, none, none, none, none, none, none, none, some (.mp (mpU xs i))]) 0 ⟨Nat.zero_le _, hv⟩ ?_ ?_
 ·refine ⟨?_, ?_⟩
  ·repeat' (first | exact True.intro | refine And.intro rfl ?_)
  ·repeat' (first | exact True.intro | refine And.intro rfl ?_)
 intro i gs hI
 obtain ⟨hi, hN⟩ := hI
 repeat' (first | (refine g_op ?_; conv => whnf) | (refine And.intro ?_ ?_; (focus exact au0); conv => whnf) | (refine g_seq ?_) | (refine XS.go ?_) | (refine g_ops ?_) | ((first | refine g_nil ?_ | refine g_cond ?_); conv => whnf) | fail)
 refine Br.mk (fun hb => ?_) (fun hb => ?_)
 ·have hlt : i < xs.length := by simpa using hb
  have hw : IntKind.wrap .i64 ((i : Int) + 1) = ((i + 1 : Nat) : Int) := by rw [wrap_ok (by omega) (by omega)]; rfl
  have hw1 : IntKind.wrap .i64 ((i : Int) - 1) = (i : Int) - 1 := wrap_ok (by omega) (by omega)
  have hbad := fun h => allN_bad (f := wF xs) hlt hN h
  have hgood := fun h => allN_good (f := wF xs) hlt hN h
  clear hN hb
  have hk : kget (mpU xs i) (xs.getD (i : Int).toNat default).fHold = !nodup xs i := kget_mpU xs _ i
  have hmp : kset (mpU xs i) (xs.getD (i : Int).toNat default).fHold true = mpU xs (i + 1) := rfl
  all_goals conv => whnf
  repeat' (first | (refine z_ld1 ?_; first | (refine z_ld rfl rfl rfl rfl au1 au2 ?_; conv => whnf) | (refine z_ld0 rfl ?_; conv => whnf)) | (refine z_ld1g ?_; first | (refine z_ldg rfl rfl rfl rfl rfl rfl rfl (by (repeat intro _); exact ⟨au1, au2⟩) rfl rfl rfl rfl ?_; conv => whnf) | (refine z_ld0g ?_; (conv => whnf); refine And.intro ?_ ?_; (focus exact rfl); conv => whnf)) | (refine z_st1 ?_; first | (refine z_st rfl rfl rfl au1 au2 rfl rfl ?_; conv => whnf) | (refine z_st0 ?_; conv => whnf)) | (refine z_ix1 ?_; first | (refine z_ix rfl rfl rfl rfl rfl ⟨by first | omega | (simp only [decide_eq_true_eq, Bool.not_eq_true', Bool.or_eq_false_iff, decide_eq_false_iff_not, Bool.and_eq_true, Bool.not_eq_false'] at *; omega), by first | omega | (simp only [decide_eq_true_eq, Bool.not_eq_true', Bool.or_eq_false_iff, decide_eq_false_iff_not, Bool.and_eq_true, Bool.not_eq_false'] at *; omega)⟩ ?_; conv => whnf) | (refine z_ix0 rfl rfl ?_; conv => whnf)) | (refine z_ix1g ?_; refine z_ixg rfl rfl rfl rfl rfl rfl rfl (by (repeat intro _); refine ⟨?_, ?_⟩ <;> first | omega | (simp only [decide_eq_true_eq, Bool.not_eq_true', Bool.or_eq_false_iff, decide_eq_false_iff_not, Bool.and_eq_true, Bool.not_eq_false'] at *; omega)) ?_) | (refine z_op ?_ ?_; (focus exact rfl); conv => whnf) | (refine z_opg0 ?_; (conv => whnf); refine And.intro ?_ ?_; (focus exact rfl); conv => whnf) | (refine z_pick ?_ ?_; (focus exact rfl); conv => whnf) | (refine z_pickg ?_; (conv => whnf); refine And.intro ?_ ?_; (focus exact rfl); conv => whnf) | (refine zs_ops ?_ ?_; (focus exact rfl)) | (refine zs_quiet ?_ ?_; (focus exact rfl)) | (refine z_nil fun vals => ?_; conv => whnf) | (refine z_call ?_ ?_; (focus exact rfl)) | (refine z_eff ?_; conv => whnf) | (refine RC.of (impl_mWantOk _) ?_ ?_; (focus exact rfl); conv => whnf) | (refine g_op ?_; conv => whnf) | (refine And.intro ?_ ?_; (focus exact au0); conv => whnf) | (refine g_seq ?_) | (refine XS.go ?_) | (refine g_ops ?_) | ((first | refine g_nil ?_ | refine g_cond ?_ | refine g_skip ?_ | refine g_ret ?_); conv => whnf) | (refine g_block ?_) | ((first | refine r_t ?_ | refine r_nil ?_ | refine fun _ => ?_); conv => whnf) | (refine Br.mk (fun hb => ?_) (fun hb => ?_) <;> conv => whnf) | fail)
  all_goals
   first
   |(refine ⟨(), hbad ?_, ⟨?_, True.intro⟩⟩
     ·clear hbad hgood hw hmp
      first | (first | (refine (Bool.eq_false_iff.mpr fun h => ?_).symm; simp_all [wF, wS, pr, le_eq]; done) | (refine Bool.eq_false_iff.mpr fun h => ?_; simp_all [wF, wS, pr, le_eq]; done) | (simp_all [wF, wS, pr, le_eq]; done) | (simp_all [wF, wS, pr, le_eq]; omega) | (refine (Bool.eq_false_iff.mpr fun h => ?_).symm; simp_all [wF, wS, pr, le_eq]; omega) | (refine Bool.eq_false_iff.mpr fun h => ?_; simp_all [wF, wS, pr, le_eq]; omega) | (rw [Bool.eq_iff_iff]; constructor <;> intro h <;> simp_all [wF, wS, pr, le_eq] <;> omega) | fail) | (rcases Nat.eq_zero_or_pos i with h0 | h0 <;> simp_all [wF, wS, pr, le_eq] <;> omega) | (rcases Nat.eq_zero_or_pos i with h0 | h0 <;> by_cases hq : (xs.getD i default).fHold.toList = [] <;> first | (simp_all [wF, wS, pr, le_eq]; done) | (refine Bool.eq_false_iff.mpr fun h => ?_; simp_all [wF, wS, pr, le_eq]; done) | fail) | fail
     ·repeat' (first | exact True.intro | refine And.intro rfl ?_))
   |(conv => lhs; whnf
     refine congrArg D.bool (hbad ?_)
     clear hbad hgood hw hmp
     first | (first | (refine (Bool.eq_false_iff.mpr fun h => ?_).symm; simp_all [wF, wS, pr, le_eq]; done) | (refine Bool.eq_false_iff.mpr fun h => ?_; simp_all [wF, wS, pr, le_eq]; done) | (simp_all [wF, wS, pr, le_eq]; done) | (simp_all [wF, wS, pr, le_eq]; omega) | (refine (Bool.eq_false_iff.mpr fun h => ?_).symm; simp_all [wF, wS, pr, le_eq]; omega) | (refine Bool.eq_false_iff.mpr fun h => ?_; simp_all [wF, wS, pr, le_eq]; omega) | (rw [Bool.eq_iff_iff]; constructor <;> intro h <;> simp_all [wF, wS, pr, le_eq] <;> omega) | fail) | (rcases Nat.eq_zero_or_pos i with h0 | h0 <;> simp_all [wF, wS, pr, le_eq] <;> omega) | (rcases Nat.eq_zero_or_pos i with h0 | h0 <;> by_cases hq : (xs.getD i default).fHold.toList = [] <;> first | (simp_all [wF, wS, pr, le_eq]; done) | (refine Bool.eq_false_iff.mpr fun h => ?_; simp_all [wF, wS, pr, le_eq]; done) | fail) | fail)
   |(refine ⟨i + 1, ⟨by omega, ?_⟩, by omega, ?_, ?_⟩
     ·refine hgood ?_
      clear hbad hgood hw hmp
      first | (first | (refine (Bool.eq_false_iff.mpr fun h => ?_).symm; simp_all [wF, wS, pr, le_eq]; done) | (refine Bool.eq_false_iff.mpr fun h => ?_; simp_all [wF, wS, pr, le_eq]; done) | (simp_all [wF, wS, pr, le_eq]; done) | (simp_all [wF, wS, pr, le_eq]; omega) | (refine (Bool.eq_false_iff.mpr fun h => ?_).symm; simp_all [wF, wS, pr, le_eq]; omega) | (refine Bool.eq_false_iff.mpr fun h => ?_; simp_all [wF, wS, pr, le_eq]; omega) | (rw [Bool.eq_iff_iff]; constructor <;> intro h <;> simp_all [wF, wS, pr, le_eq] <;> omega) | fail) | (rcases Nat.eq_zero_or_pos i with h0 | h0 <;> simp_all [wF, wS, pr, le_eq] <;> omega) | (rcases Nat.eq_zero_or_pos i with h0 | h0 <;> by_cases hq : (xs.getD i default).fHold.toList = [] <;> first | (simp_all [wF, wS, pr, le_eq]; done) | (refine Bool.eq_false_iff.mpr fun h => ?_; simp_all [wF, wS, pr, le_eq]; done) | fail) | fail
     ·repeat' (first | exact True.intro | refine And.intro (congrArg (D.int .i64) hw) ?_ | refine And.intro rfl ?_)
     ·repeat' (first | exact True.intro | refine And.intro rfl ?_))
 have hge : ¬ i < xs.length := by simpa using hb
 have hend : wantsOk xs = true := by rw [hN, allN_end hge, Bool.true_and]
 clear hN
 conv => whnf
 repeat' (first | (refine g_op ?_; conv => whnf) | (refine And.intro ?_ ?_; (focus exact au0); conv => whnf) | (refine g_seq ?_) | (refine XS.go ?_) | (refine g_ops ?_) | ((first | refine g_nil ?_ | refine g_ret ?_ | refine g_exit ?_ | refine r_t ?_ | refine r_nil ?_); conv => whnf) | fail)
 (conv => lhs; whnf)
 rw [hend]
theorem spec_WantsOk (xs : List MateWant) : Rdr Try.prog 19 [.ro 7 (xs.map MateWant.D)] (.bool (wantsOk xs)) := by
 refine Rdr.intro' hm c19 (Nat.le_of_ble_eq_true rfl) ?_
 conv => whnf
 repeat' (first | (refine g_op ?_; conv => whnf) | (refine And.intro ?_ ?_; (focus exact au0); conv => whnf) | (refine g_seq ?_) | (refine XS.go ?_) | (refine g_ops ?_) | ((first | refine g_nil ?_ | refine g_cond ?_); conv => whnf) | fail)
 rw [mlen]
 refine Br.mk (fun hb => ?_) (fun hb => ?_)
 ·conv => whnf
  repeat' (first | (refine g_op ?_; conv => whnf) | (refine And.intro ?_ ?_; (focus exact au0); conv => whnf) | (refine g_seq ?_) | (refine XS.go ?_) | (refine g_ops ?_) | ((first | refine g_nil ?_ | refine g_ret ?_ | refine r_t ?_ | refine r_nil ?_); conv => whnf) | fail)
  (conv => lhs; whnf)
  rw [wantsOk, hb]
  rfl
 have hv : wantsOk xs = (allN (wF xs) xs.length 0 && true) := by rw [wantsOk, hb]; rfl
 have hl : xs.length ≤ 10 := by simp at hb; omega
 clear hb
 conv => whnf
 repeat' (first | (refine g_op ?_; conv => whnf) | (refine And.intro ?_ ?_; (focus exact au0); conv => whnf) | (refine g_seq ?_) | (refine XS.go ?_) | (refine g_ops ?_) | (refine g_loop ?_) | ((first | refine g_nil ?_ | refine g_skip ?_); conv => whnf) | (refine g_block ?_) | fail)
 refine XLc.mkL (α := Nat) (fun i => i ≤ xs.length ∧ wantsOk xs = (allN (wF xs) (xs.length - i) i && true)) (fun i => xs.length - i) (fun i gs => [.ro 7 (xs.map MateWant.D), .any, .any, .int .i64 (i : Int)]) (fun i gs => []) 0 ⟨Nat.zero_le _, hv⟩ ?_ ?_
 ·refine ⟨?_, ?_⟩
  ·repeat' (first | exact True.intro | refine And.intro rfl ?_)
  ·repeat' (first | exact True.intro | refine And.intro rfl ?_)
 intro j gs0 hI
 obtain ⟨hi0, hN0⟩ := hI
 repeat' (first | (refine g_op ?_; conv => whnf) | (refine And.intro ?_ ?_; (focus exact au0); conv => whnf) | (refine g_seq ?_) | (refine XS.go ?_) | (refine g_ops ?_) | ((first | refine g_nil ?_ | refine g_cond ?_); conv => whnf) | fail)
 refine Br.mk (fun hb => ?_) (fun hb => ?_)
 ·have hlt0 : j < xs.length := by simpa using hb
  have hwj : IntKind.wrap .i64 ((j : Int) + 1) = ((j + 1 : Nat) : Int) := by rw [wrap_ok (by omega) (by omega)]; rfl
  have hw1 : IntKind.wrap .i64 ((j : Int) - 1) = (j : Int) - 1 := wrap_ok (by omega) (by omega)
  have hbad := fun h => allN_bad (f := wF xs) hlt0 hN0 h
  have hgood := fun h => allN_good (f := wF xs) hlt0 hN0 h
  clear hb
  conv => whnf
  repeat' (first | (refine z_ld1 ?_; first | (refine z_ld rfl rfl rfl rfl au1 au2 ?_; conv => whnf) | (refine z_ld0 rfl ?_; conv => whnf)) | (refine z_ld1g ?_; first | (refine z_ldg rfl rfl rfl rfl rfl rfl rfl (by (repeat intro _); exact ⟨au1, au2⟩) rfl rfl rfl rfl ?_; conv => whnf) | (refine z_ld0g ?_; (conv => whnf); refine And.intro ?_ ?_; (focus exact rfl); conv => whnf)) | (refine z_ix1 ?_; first | (refine z_ix rfl rfl rfl rfl rfl ⟨by first | omega | (simp only [decide_eq_true_eq, Bool.not_eq_true', Bool.or_eq_false_iff, decide_eq_false_iff_not, Bool.and_eq_true, Bool.not_eq_false'] at *; omega), by first | omega | (simp only [decide_eq_true_eq, Bool.not_eq_true', Bool.or_eq_false_iff, decide_eq_false_iff_not, Bool.and_eq_true, Bool.not_eq_false'] at *; omega)⟩ ?_; conv => whnf) | (refine z_ix0 rfl rfl ?_; conv => whnf)) | (refine z_ix1g ?_; refine z_ixg rfl rfl rfl rfl rfl rfl rfl (by (repeat intro _); refine ⟨?_, ?_⟩ <;> first | omega | (simp only [decide_eq_true_eq, Bool.not_eq_true', Bool.or_eq_false_iff, decide_eq_false_iff_not, Bool.and_eq_true, Bool.not_eq_false'] at *; omega)) ?_) | (refine z_op ?_ ?_; (focus exact rfl); conv => whnf) | (refine z_opg0 ?_; (conv => whnf); refine And.intro ?_ ?_; (focus exact rfl); conv => whnf) | (refine z_pick ?_ ?_; (focus exact rfl); conv => whnf) | (refine z_pickg ?_; (conv => whnf); refine And.intro ?_ ?_; (focus exact rfl); conv => whnf) | (refine zs_quiet ?_ ?_; (focus exact rfl)) | (refine z_nil fun vals => ?_; conv => whnf) | (refine z_call ?_ ?_; (focus exact rfl)) | (refine RC.of (spec_WantOk _) ?_ ?_; (focus exact rfl); conv => whnf) | (refine And.intro ?_ ?_; (focus exact au0); conv => whnf) | (refine g_seq ?_) | (refine XS.go ?_) | ((first | refine g_cond ?_ | refine g_skip ?_); conv => whnf) | (refine g_block ?_) | fail)
  refine Br.mk (fun hb => ?_) (fun hb => ?_)
  ·conv => whnf
   repeat' (first | (refine g_op ?_; conv => whnf) | (refine And.intro ?_ ?_; (focus exact au0); conv => whnf) | (refine g_seq ?_) | (refine XS.go ?_) | (refine g_ops ?_) | ((first | refine g_nil ?_ | refine g_ret ?_ | refine r_t ?_ | refine r_nil ?_); conv => whnf) | fail)
   (conv => lhs; whnf)
   refine congrArg D.bool (hbad ?_)
   clear hbad hgood hN0 hwj
   first | (refine (Bool.eq_false_iff.mpr fun h => ?_).symm; simp_all [wF, wS, pr]; done) | (refine Bool.eq_false_iff.mpr fun h => ?_; simp_all [wF, wS, pr]; done) | (simp_all [wF, wS, pr]; done) | (simp_all [wF, wS, pr]; omega) | (refine (Bool.eq_false_iff.mpr fun h => ?_).symm; simp_all [wF, wS, pr]; omega) | (refine Bool.eq_false_iff.mpr fun h => ?_; simp_all [wF, wS, pr]; omega) | (rw [Bool.eq_iff_iff]; constructor <;> intro h <;> simp_all [wF, wS, pr] <;> omega) | fail
  have hS : wS xs j = true := by
   clear hbad hgood hN0 hwj
   first | (rcases Nat.eq_zero_or_pos j with h0 | h0 <;> simp_all [wS, pr]; done) | (simp_all [wS, pr]; done)
  have hcon : wantsOk xs = (allN (dF xs j) (j - 0) 0 && (allN (wF xs) (xs.length - (j + 1)) (j + 1) && true)) := by
   rw [hN0, allN_step hlt0, Nat.sub_zero, dF_all]
   simp [wF, hS]
  clear hb hbad hgood hN0
  conv => whnf
  repeat' (first | (refine g_op ?_; conv => whnf) | (refine And.intro ?_ ?_; (focus exact au0); conv => whnf) | (refine g_seq ?_) | (refine XS.go ?_) | (refine g_ops ?_) | (refine g_loop ?_) | ((first | refine g_nil ?_ | refine g_skip ?_); conv => whnf) | (refine g_block ?_) | fail)
  refine XLc.mkL (α := Nat) (fun i => i ≤ j ∧ wantsOk xs = (allN (dF xs j) (j - i) i && (allN (wF xs) (xs.length - (j + 1)) (j + 1) && true))) (fun i => j - i) (fun i gs => [.ro 7 (xs.map MateWant.D), .any, .any, .int .i64 (j : Int), .int .i64 (i : Int)]) (fun i gs => []) 0 ⟨Nat.zero_le _, hcon⟩ ?_ ?_
  ·refine ⟨?_, ?_⟩
   ·repeat' (first | exact True.intro | refine And.intro rfl ?_)
   ·repeat' (first | exact True.intro | refine And.intro rfl ?_)
  intro i gs hI
  obtain ⟨hi, hN⟩ := hI
  repeat' (first | (refine g_op ?_; conv => whnf) | (refine And.intro ?_ ?_; (focus exact au0); conv => whnf) | (refine g_seq ?_) | (refine XS.go ?_) | (refine g_ops ?_) | ((first | refine g_nil ?_ | refine g_cond ?_); conv => whnf) | fail)
  refine Br.mk (fun hb => ?_) (fun hb => ?_)
  ·have hlt : i < j := by simpa using hb
   have hw : IntKind.wrap .i64 ((i : Int) + 1) = ((i + 1 : Nat) : Int) := by rw [wrap_ok (by omega) (by omega)]; rfl
   have hw1 : IntKind.wrap .i64 ((i : Int) - 1) = (i : Int) - 1 := wrap_ok (by omega) (by omega)
   have hbad := fun h => allN_bad (f := dF xs j) hlt hN h
   have hgood := fun h => allN_good (f := dF xs j) hlt hN h
   clear hN hb
   all_goals conv => whnf
   repeat' (first | (refine z_ld1 ?_; first | (refine z_ld rfl rfl rfl rfl au1 au2 ?_; conv => whnf) | (refine z_ld0 rfl ?_; conv => whnf)) | (refine z_ld1g ?_; first | (refine z_ldg rfl rfl rfl rfl rfl rfl rfl (by (repeat intro _); exact ⟨au1, au2⟩) rfl rfl rfl rfl ?_; conv => whnf) | (refine z_ld0g ?_; (conv => whnf); refine And.intro ?_ ?_; (focus exact rfl); conv => whnf)) | (refine z_ix1 ?_; first | (refine z_ix rfl rfl rfl rfl rfl ⟨by first | omega | (simp only [decide_eq_true_eq, Bool.not_eq_true', Bool.or_eq_false_iff, decide_eq_false_iff_not, Bool.and_eq_true, Bool.not_eq_false'] at *; omega), by first | omega | (simp only [decide_eq_true_eq, Bool.not_eq_true', Bool.or_eq_false_iff, decide_eq_false_iff_not, Bool.and_eq_true, Bool.not_eq_false'] at *; omega)⟩ ?_; conv => whnf) | (refine z_ix0 rfl rfl ?_; conv => whnf)) | (refine z_ix1g ?_; refine z_ixg rfl rfl rfl rfl rfl rfl rfl (by (repeat intro _); refine ⟨?_, ?_⟩ <;> first | omega | (simp only [decide_eq_true_eq, Bool.not_eq_true', Bool.or_eq_false_iff, decide_eq_false_iff_not, Bool.and_eq_true, Bool.not_eq_false'] at *; omega)) ?_) | (refine z_op ?_ ?_; (focus exact rfl); conv => whnf) | (refine z_opg0 ?_; (conv => whnf); refine And.intro ?_ ?_; (focus exact rfl); conv => whnf) | (refine z_pick ?_ ?_; (focus exact rfl); conv => whnf) | (refine zs_quiet ?_ ?_; (focus exact rfl)) | ((first | refine z_nil fun vals => ?_ | refine g_op ?_); conv => whnf) | (refine And.intro ?_ ?_; (focus exact au0); conv => whnf) | (refine g_seq ?_) | (refine XS.go ?_) | (refine g_ops ?_) | ((first | refine g_nil ?_ | refine g_cond ?_ | refine g_skip ?_ | refine g_ret ?_); conv => whnf) | (refine g_block ?_) | ((first | refine r_t ?_ | refine r_nil ?_); conv => whnf) | (refine Br.mk (fun hb => ?_) (fun hb => ?_) <;> conv => whnf) | fail)
   all_goals
    first
    |(refine ⟨(), hbad ?_, ⟨?_, True.intro⟩⟩
      ·clear hbad hgood hw hcon hS hwj
       first | (first | (refine (Bool.eq_false_iff.mpr fun h => ?_).symm; simp_all [dF]; done) | (refine Bool.eq_false_iff.mpr fun h => ?_; simp_all [dF]; done) | (simp_all [dF]; done) | (simp_all [dF]; omega) | (refine (Bool.eq_false_iff.mpr fun h => ?_).symm; simp_all [dF]; omega) | (refine Bool.eq_false_iff.mpr fun h => ?_; simp_all [dF]; omega) | (rw [Bool.eq_iff_iff]; constructor <;> intro h <;> simp_all [dF] <;> omega) | fail) | (rcases Nat.eq_zero_or_pos i with h0 | h0 <;> simp_all [dF] <;> omega) | (by_cases hq : (xs.getD j default).fHold.toList = [] <;> first | (simp_all [dF]; done) | (refine Bool.eq_false_iff.mpr fun h => ?_; simp_all [dF]; done) | fail) | fail
      ·repeat' (first | exact True.intro | refine And.intro rfl ?_))
    |(conv => lhs; whnf
      refine congrArg D.bool (hbad ?_)
      clear hbad hgood hw hcon hS hwj
      first | (first | (refine (Bool.eq_false_iff.mpr fun h => ?_).symm; simp_all [dF]; done) | (refine Bool.eq_false_iff.mpr fun h => ?_; simp_all [dF]; done) | (simp_all [dF]; done) | (simp_all [dF]; omega) | (refine (Bool.eq_false_iff.mpr fun h => ?_).symm; simp_all [dF]; omega) | (refine Bool.eq_false_iff.mpr fun h => ?_; simp_all [dF]; omega) | (rw [Bool.eq_iff_iff]; constructor <;> intro h <;> simp_all [dF] <;> omega) | fail) | (rcases Nat.eq_zero_or_pos i with h0 | h0 <;> simp_all [dF] <;> omega) | (by_cases hq : (xs.getD j default).fHold.toList = [] <;> first | (simp_all [dF]; done) | (refine Bool.eq_false_iff.mpr fun h => ?_; simp_all [dF]; done) | fail) | fail)
    |(refine ⟨i + 1, ⟨by omega, ?_⟩, by omega, ?_, ?_⟩
      ·refine hgood ?_
       clear hbad hgood hw hcon hS hwj
       first | (first | (refine (Bool.eq_false_iff.mpr fun h => ?_).symm; simp_all [dF]; done) | (refine Bool.eq_false_iff.mpr fun h => ?_; simp_all [dF]; done) | (simp_all [dF]; done) | (simp_all [dF]; omega) | (refine (Bool.eq_false_iff.mpr fun h => ?_).symm; simp_all [dF]; omega) | (refine Bool.eq_false_iff.mpr fun h => ?_; simp_all [dF]; omega) | (rw [Bool.eq_iff_iff]; constructor <;> intro h <;> simp_all [dF] <;> omega) | fail) | (rcases Nat.eq_zero_or_pos i with h0 | h0 <;> simp_all [dF] <;> omega) | (by_cases hq : (xs.getD j default).fHold.toList = [] <;> first | (simp_all [dF]; done) | (refine Bool.eq_false_iff.mpr fun h => ?_; simp_all [dF]; done) | fail) | fail
      ·repeat' (first | exact True.intro | refine And.intro (congrArg (D.int .i64) hw) ?_ | refine And.intro rfl ?_)
      ·repeat' (first | exact True.intro | refine And.intro rfl ?_))
  have hge : ¬ i < j := by simpa using hb
  have hend : wantsOk xs = (allN (wF xs) (xs.length - (j + 1)) (j + 1) && true) := by rw [hN, allN_end hge, Bool.true_and]
  clear hN
  conv => whnf
  repeat' (first | (refine g_op ?_; conv => whnf) | (refine And.intro ?_ ?_; (focus exact au0); conv => whnf) | (refine XS.go ?_) | (refine g_ops ?_) | ((first | refine g_nil ?_ | refine g_exit ?_); conv => whnf) | fail)
  refine ⟨j + 1, ⟨by omega, hend⟩, by omega, ?_, ?_⟩
  ·repeat' (first | exact True.intro | refine And.intro (congrArg (D.int .i64) hwj) ?_ | refine And.intro rfl ?_)
  ·repeat' (first | exact True.intro | refine And.intro rfl ?_)
 have hge : ¬ j < xs.length := by simpa using hb
 have hend : wantsOk xs = true := by rw [hN0, allN_end hge]; rfl
 conv => whnf
 repeat' (first | (refine g_op ?_; conv => whnf) | (refine And.intro ?_ ?_; (focus exact au0); conv => whnf) | (refine g_seq ?_) | (refine XS.go ?_) | (refine g_ops ?_) | ((first | refine g_nil ?_ | refine g_ret ?_ | refine g_exit ?_ | refine r_t ?_ | refine r_nil ?_); conv => whnf) | fail)
 (conv => lhs; whnf)
 rw [hend]
end Go.Ab
