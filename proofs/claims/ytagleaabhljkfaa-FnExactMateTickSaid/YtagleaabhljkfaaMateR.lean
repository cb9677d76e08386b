/- Steps towards the law: the machine, contracts of functions and facts of lists. -/
import Derived.Test.YtagleaabhljkfaaMateY
import Derived.Test.YtagleaabhljkfaaRows
set_option linter.unusedSimpArgs false
set_option linter.unusedVariables false
namespace Go.Ab
open Go Go.RowKit Go.Proofs
attribute [local irreducible] XC Rdr IntKind.wrap xw xos xqs xr xd
set_option maxRecDepth 100000
set_option maxHeartbeats 16000000
def cf87 : CF := ⟨64,[.t 4],(.seq (.ops [Ok 4 (.int .i64 0)]) (.seq (.seq (.ops [Ok 5 (.int .i64 0)]) (.block 0 (.loop (.seq (.seq (.ops [Om 6 5,Om 7 0,Og 8 7,Ob 9 .lss 6 8]) (.cond (.t 9) .skip (.exit 0))) (.seq (.block 1 (.seq (.ops [Om 12 0,Om 13 5,Om 14 1,Oc 15 77 [.t 14],Ox 16 7 12 13,Of 17 0 16,Os 1 17 15]) (.seq (.ops [Om 18 1,Oi 19 18,Om 1 19]) (.seq (.ops [Om 20 0,Om 21 5,Om 22 1,Ox 23 7 20 21,Of 24 1 23,Os 1 24 22]) (.seq (.ops [Om 25 1,Oi 26 25,Om 1 26]) (.seq (.ops [Om 27 0,Om 28 5,Om 29 1,Oc 30 77 [.t 29],Ox 31 7 27 28,Of 32 2 31,Os 1 32 30]) (.seq (.ops [Om 33 1,Oi 34 33,Om 1 34]) (.seq (.ops [Om 35 0,Om 36 5,Om 37 1,Ox 38 7 35 36,Of 39 3 38,Os 1 39 37]) (.seq (.ops [Om 40 1,Oi 41 40,Om 1 41]) (.seq (.ops [Om 42 0,Om 43 5,Om 44 1,Ox 45 7 42 43,Of 46 4 45,Os 1 46 44]) (.seq (.ops [Om 47 1,Oi 48 47,Om 1 48]) (.seq (.ops [Om 49 0,Om 50 5,Om 51 1,Ox 52 7 49 50,Of 53 5 52,Os 1 53 51]) (.seq (.ops [Om 54 1,Oi 55 54,Om 1 55]) (.seq (.ops [Om 56 0,Om 57 5,Om 58 1,Ox 59 7 56 57,Of 60 6 59,Os 1 60 58]) (.ops [Om 61 1,Oi 62 61,Om 1 62]))))))))))))))) (.ops [Om 10 5,Oi 11 10,Om 5 11])))))) (.seq (.ops [Om 63 1,Om 4 63]) .ret)))⟩
theorem c87 : compileF Try.prog [] 87 = some cf87 := by kernel_rfl
def cf89 : CF := ⟨78,[.t 4],(.seq (.ops [Ok 4 (.int .i64 0)]) (.seq (.seq (.ops [Ok 5 (.int .i64 0)]) (.block 0 (.loop (.seq (.seq (.ops [Om 6 5,Om 7 0,Og 8 7,Ob 9 .lss 6 8]) (.cond (.t 9) .skip (.exit 0))) (.seq (.block 1 (.seq (.seq (.quiet [Om 12 0,Om 13 5,Ox 14 7 12 13,Of 15 0 14,Ol 16 15,Om 17 1,Oc 18 77 [.t 17],Ob 19 .neq 16 18]) (.cond (.t 19) (.seq (.ops [Ok 4 (.int .i64 (-1))]) .ret) .skip)) (.seq (.ops [Om 20 1,Oi 21 20,Om 1 21]) (.seq (.seq (.ops [Om 22 0,Om 23 5,Ox 24 7 22 23,Of 25 1 24,Ol 26 25,Om 27 1,Ob 28 .neq 26 27]) (.cond (.t 28) (.seq (.ops [Ok 4 (.int .i64 (-1))]) .ret) .skip)) (.seq (.ops [Om 29 1,Oi 30 29,Om 1 30]) (.seq (.seq (.quiet [Om 31 0,Om 32 5,Ox 33 7 31 32,Of 34 2 33,Ol 35 34,Om 36 1,Oc 37 77 [.t 36],Ob 38 .neq 35 37]) (.cond (.t 38) (.seq (.ops [Ok 4 (.int .i64 (-1))]) .ret) .skip)) (.seq (.ops [Om 39 1,Oi 40 39,Om 1 40]) (.seq (.seq (.ops [Om 41 0,Om 42 5,Ox 43 7 41 42,Of 44 3 43,Ol 45 44,Om 46 1,Ob 47 .neq 45 46]) (.cond (.t 47) (.seq (.ops [Ok 4 (.int .i64 (-1))]) .ret) .skip)) (.seq (.ops [Om 48 1,Oi 49 48,Om 1 49]) (.seq (.seq (.ops [Om 50 0,Om 51 5,Ox 52 7 50 51,Of 53 4 52,Ol 54 53,Om 55 1,Ob 56 .neq 54 55]) (.cond (.t 56) (.seq (.ops [Ok 4 (.int .i64 (-1))]) .ret) .skip)) (.seq (.ops [Om 57 1,Oi 58 57,Om 1 58]) (.seq (.seq (.ops [Om 59 0,Om 60 5,Ox 61 7 59 60,Of 62 5 61,Ol 63 62,Om 64 1,Ob 65 .neq 63 64]) (.cond (.t 65) (.seq (.ops [Ok 4 (.int .i64 (-1))]) .ret) .skip)) (.seq (.ops [Om 66 1,Oi 67 66,Om 1 67]) (.seq (.seq (.ops [Om 68 0,Om 69 5,Ox 70 7 68 69,Of 71 6 70,Ol 72 71,Om 73 1,Ob 74 .neq 72 73]) (.cond (.t 74) (.seq (.ops [Ok 4 (.int .i64 (-1))]) .ret) .skip)) (.ops [Om 75 1,Oi 76 75,Om 1 76]))))))))))))))) (.ops [Om 10 5,Oi 11 10,Om 5 11])))))) (.seq (.ops [Om 77 1,Om 4 77]) .ret)))⟩
theorem c89 : compileF Try.prog [] 89 = some cf89 := by kernel_rfl
def cf88 : CF := ⟨43,[.t 4],(.seq (.ops [Ok 4 (.int .i64 0)]) (.seq (.seq (.ops [Ok 5 (.int .i64 0)]) (.block 0 (.loop (.seq (.seq (.ops [Om 6 5,Om 7 0,Og 8 7,Ob 9 .lss 6 8]) (.cond (.t 9) .skip (.exit 0))) (.seq (.block 1 (.seq (.ops [Om 12 0,Om 13 5,Om 14 1,Oc 15 77 [.t 14],Ox 16 4 12 13,Of 17 0 16,Os 1 17 15]) (.seq (.ops [Om 18 1,Oi 19 18,Om 1 19]) (.seq (.ops [Om 20 0,Om 21 5,Om 22 1,Oc 23 77 [.t 22],Ox 24 4 20 21,Of 25 1 24,Os 1 25 23]) (.seq (.ops [Om 26 1,Oi 27 26,Om 1 27]) (.seq (.ops [Om 28 0,Om 29 5,Om 30 1,Ox 31 4 28 29,Of 32 2 31,Os 1 32 30]) (.seq (.ops [Om 33 1,Oi 34 33,Om 1 34]) (.seq (.ops [Om 35 0,Om 36 5,Om 37 1,Ox 38 4 35 36,Of 39 3 38,Os 1 39 37]) (.ops [Om 40 1,Oi 41 40,Om 1 41]))))))))) (.ops [Om 10 5,Oi 11 10,Om 5 11])))))) (.seq (.ops [Om 42 1,Om 4 42]) .ret)))⟩
theorem c88 : compileF Try.prog [] 88 = some cf88 := by kernel_rfl
def cf90 : CF := ⟨51,[.t 4],(.seq (.ops [Ok 4 (.int .i64 0)]) (.seq (.seq (.ops [Ok 5 (.int .i64 0)]) (.block 0 (.loop (.seq (.seq (.ops [Om 6 5,Om 7 0,Og 8 7,Ob 9 .lss 6 8]) (.cond (.t 9) .skip (.exit 0))) (.seq (.block 1 (.seq (.seq (.quiet [Om 12 0,Om 13 5,Ox 14 4 12 13,Of 15 0 14,Ol 16 15,Om 17 1,Oc 18 77 [.t 17],Ob 19 .neq 16 18]) (.cond (.t 19) (.seq (.ops [Ok 4 (.int .i64 (-1))]) .ret) .skip)) (.seq (.ops [Om 20 1,Oi 21 20,Om 1 21]) (.seq (.seq (.quiet [Om 22 0,Om 23 5,Ox 24 4 22 23,Of 25 1 24,Ol 26 25,Om 27 1,Oc 28 77 [.t 27],Ob 29 .neq 26 28]) (.cond (.t 29) (.seq (.ops [Ok 4 (.int .i64 (-1))]) .ret) .skip)) (.seq (.ops [Om 30 1,Oi 31 30,Om 1 31]) (.seq (.seq (.ops [Om 32 0,Om 33 5,Ox 34 4 32 33,Of 35 2 34,Ol 36 35,Om 37 1,Ob 38 .neq 36 37]) (.cond (.t 38) (.seq (.ops [Ok 4 (.int .i64 (-1))]) .ret) .skip)) (.seq (.ops [Om 39 1,Oi 40 39,Om 1 40]) (.seq (.seq (.ops [Om 41 0,Om 42 5,Ox 43 4 41 42,Of 44 3 43,Ol 45 44,Om 46 1,Ob 47 .neq 45 46]) (.cond (.t 47) (.seq (.ops [Ok 4 (.int .i64 (-1))]) .ret) .skip)) (.ops [Om 48 1,Oi 49 48,Om 1 49]))))))))) (.ops [Om 10 5,Oi 11 10,Om 5 11])))))) (.seq (.ops [Om 50 1,Om 4 50]) .ret)))⟩
theorem c90 : compileF Try.prog [] 90 = some cf90 := by kernel_rfl
def mk_MateWant (x : MateWant) (k : Int) : MateWant := { x with fCopy := mtext k, fVersion := (k + 1), fHold := mtext ((k + 1) + 1), fPull := (((k + 1) + 1) + 1), fStart := ((((k + 1) + 1) + 1) + 1), fDies := (((((k + 1) + 1) + 1) + 1) + 1), fGrace := ((((((k + 1) + 1) + 1) + 1) + 1) + 1) }
theorem mark_MateWantS (xs : List MateWant) (b0 c0 : Nat) (k : Int) (hk : 1 ≤ k) (hl : xs.length ≤ 1048576) (hB : k + (7 * xs.length : Nat) ≤ 50000000) : XC Try.prog 87 [.lsl 0 b0 xs.length c0, .int .i64 k] [(0, b0, .arr 7 (xs.map MateWant.D) c0)] (fun d ls => d = .int .i64 (k + (7 * xs.length : Nat)) ∧ ls = [(0, b0, .arr 7 ((mkS mk_MateWant 7 xs k).map MateWant.D) c0)]) := by
 refine XC.intro' hm [0] rfl c87 (Nat.le_of_ble_eq_true rfl) ?_
 conv => whnf
 repeat' (first | (refine g_op ?_; conv => whnf) | (refine And.intro ?_ ?_; (focus exact au0); conv => whnf) | (refine g_seq ?_) | (refine XS.go ?_) | (refine g_ops ?_) | (refine g_loop ?_) | (refine g_nil ?_; conv => whnf) | (refine g_block ?_) | fail)
 refine XLc.mkG (α := Nat) (fun i gs => i ≤ xs.length ∧ gs 0 = b0) (fun i => xs.length - i) (fun i gs => [.lsl 0 (gs 0) xs.length c0, .int .i64 (k + (7 * i : Nat)), .any, .any, .any, .int .i64 (i : Int)]) (fun i gs => [(0, .arr 7 ((mkP mk_MateWant 7 xs k i).map MateWant.D) c0)]) 0 ⟨Nat.zero_le _, rfl⟩ ?_ ?_
 ·refine ⟨?_, ?_⟩
  ·repeat' (first | exact True.intro | refine And.intro rfl ?_ | refine And.intro (congrArg (D.int .i64) (by simp)) ?_)
  ·exact And.intro (by rw [mkP_zero]; rfl) True.intro
 intro i gs hI
 obtain ⟨hi0, hg⟩ := hI
 subst hg
 repeat' (first | (refine g_op ?_; conv => whnf) | (refine And.intro ?_ ?_; (focus exact au0); conv => whnf) | (refine g_seq ?_) | (refine XS.go ?_) | (refine g_ops ?_) | ((first | refine g_nil ?_ | refine g_cond ?_); conv => whnf) | fail)
 refine Br.mk (fun hb => ?_) (fun hb => ?_)
 ·have hlt : i < xs.length := by simpa using hb
  have hj0 : i < ((mkP mk_MateWant 7 xs k i).map MateWant.D).length := by rw [List.length_map, mkP_len]; exact hlt
  have he0 : ((mkP mk_MateWant 7 xs k i).map MateWant.D).getD i .any = (xs.getD i default).D := by
   rw [elt_map (by rw [mkP_len]; exact hlt), mkP_get _ hlt]
  have hfin : ∀ d, d = (mk_MateWant (xs.getD i default) (k + (7 * i : Nat))).D → ((mkP mk_MateWant 7 xs k i).map MateWant.D).set i d = (mkP mk_MateWant 7 xs k (i + 1)).map MateWant.D := fun d h => by
   rw [h, ← mkP_set default hlt, List.map_set]
  have hKe : k + (7 * (i + 1) : Nat) = k + (7 * i : Nat) + 7 := by omega
  have hK0 : 1 ≤ k + (7 * i : Nat) := by omega
  have hK1 : k + (7 * i : Nat) + 7 ≤ 50000000 := by omega
  generalize hK : k + (7 * i : Nat) = K at hfin hK0 hK1 hKe ⊢
  have hw1 : IntKind.wrap .i64 (K + 1) = (K + 1) := wrap_ok (by omega) (by omega)
  have hw2 : IntKind.wrap .i64 ((K + 1) + 1) = ((K + 1) + 1) := wrap_ok (by omega) (by omega)
  have hw3 : IntKind.wrap .i64 (((K + 1) + 1) + 1) = (((K + 1) + 1) + 1) := wrap_ok (by omega) (by omega)
  have hw4 : IntKind.wrap .i64 ((((K + 1) + 1) + 1) + 1) = ((((K + 1) + 1) + 1) + 1) := wrap_ok (by omega) (by omega)
  have hw5 : IntKind.wrap .i64 (((((K + 1) + 1) + 1) + 1) + 1) = (((((K + 1) + 1) + 1) + 1) + 1) := wrap_ok (by omega) (by omega)
  have hw6 : IntKind.wrap .i64 ((((((K + 1) + 1) + 1) + 1) + 1) + 1) = ((((((K + 1) + 1) + 1) + 1) + 1) + 1) := wrap_ok (by omega) (by omega)
  have hw7 : IntKind.wrap .i64 (((((((K + 1) + 1) + 1) + 1) + 1) + 1) + 1) = (((((((K + 1) + 1) + 1) + 1) + 1) + 1) + 1) := wrap_ok (by omega) (by omega)
  have ht0 := mark_text K (by first | omega | (simp only [hw1, hw2, hw3, hw4, hw5, hw6, hw7]; omega)) (by first | omega | (simp only [hw1, hw2, hw3, hw4, hw5, hw6, hw7]; omega))
  have ht2 := mark_text (IntKind.wrap .i64 ((IntKind.wrap .i64 (K + 1)) + 1)) (by first | omega | (simp only [hw1, hw2, hw3, hw4, hw5, hw6, hw7]; omega)) (by first | omega | (simp only [hw1, hw2, hw3, hw4, hw5, hw6, hw7]; omega))
  conv => whnf
  repeat' (first | (refine z_st1 ?_; first | (refine z_st rfl rfl rfl au1 au2 rfl rfl ?_; conv => whnf) | (refine z_st0 ?_; conv => whnf)) | (refine z_ix1 ?_; first | (refine z_ix rfl rfl rfl rfl rfl ⟨by first | omega | (simp only [decide_eq_true_eq, Bool.not_eq_true', Bool.or_eq_false_iff, decide_eq_false_iff_not, Bool.and_eq_true, Bool.not_eq_false'] at *; omega), by first | omega | (simp only [decide_eq_true_eq, Bool.not_eq_true', Bool.or_eq_false_iff, decide_eq_false_iff_not, Bool.and_eq_true, Bool.not_eq_false'] at *; omega)⟩ ?_; conv => whnf) | (refine z_ix0 rfl rfl ?_; conv => whnf)) | (refine z_op ?_ ?_; (focus exact rfl); conv => whnf) | (refine zs_ops ?_ ?_; (focus exact rfl)) | (refine z_nil fun vals => ?_; conv => whnf) | (refine z_call ?_ ?_; (focus exact rfl)) | (refine RC.of (ht0) ?_ ?_; (focus exact rfl); conv => whnf) | (refine RC.of (ht2) ?_ ?_; (focus exact rfl); conv => whnf) | (refine g_op ?_; conv => whnf) | (refine And.intro ?_ ?_; (focus exact au0); conv => whnf) | (refine g_seq ?_) | (refine XS.go ?_) | (refine g_ops ?_) | ((first | refine g_nil ?_ | refine g_skip ?_); conv => whnf) | (refine g_block ?_) | fail)
  have hw : IntKind.wrap .i64 ((i : Int) + 1) = ((i + 1 : Nat) : Int) := by rw [wrap_ok (by omega) (by omega)]; rfl
  refine ⟨i + 1, ⟨by omega, rfl⟩, by omega, ?_, ?_⟩
  ·repeat' (first | exact True.intro | refine And.intro (congrArg (D.int .i64) hw) ?_ | refine And.intro rfl ?_ | refine And.intro (congrArg (D.int .i64) (by simp only [hw1, hw2, hw3, hw4, hw5, hw6, hw7]; omega)) ?_)
  ·refine And.intro ?_ True.intro
   refine congrArg (fun l => some (D.arr 7 l c0)) ?_
   simp only [List.set_set]
   exact hfin _ (by simp only [hw1, hw2, hw3, hw4, hw5, hw6, hw7]; rfl)
 have hi : i = xs.length := by
  have : ¬ i < xs.length := by simpa using hb
  omega
 subst hi
 rw [mkP_all]
 conv => whnf
 repeat' (first | (refine g_op ?_; conv => whnf) | (refine And.intro ?_ ?_; (focus exact au0); conv => whnf) | (refine g_seq ?_) | (refine XS.go ?_) | (refine g_ops ?_) | ((first | refine g_nil ?_ | refine g_ret ?_ | refine g_exit ?_ | refine r_t ?_ | refine r_nil ?_); conv => whnf) | fail)
 first | exact ⟨rfl, rfl⟩ | exact rfl
theorem held_MateWantS (xs : List MateWant) (k : Int) (hk : 1 ≤ k) (hl : xs.length ≤ 1048576) (hB : k + (7 * xs.length : Nat) ≤ 50000000) : Rdr Try.prog 89 [.ro 7 ((mkS mk_MateWant 7 xs k).map MateWant.D), .int .i64 k] (.int .i64 (k + (7 * xs.length : Nat))) := by
 have hml : (mkS mk_MateWant 7 xs k).length = xs.length := mkS_len
 refine Rdr.intro' hm c89 (Nat.le_of_ble_eq_true rfl) ?_
 conv => whnf
 repeat' (first | (refine g_op ?_; conv => whnf) | (refine And.intro ?_ ?_; (focus exact au0); conv => whnf) | (refine g_seq ?_) | (refine XS.go ?_) | (refine g_ops ?_) | (refine g_loop ?_) | (refine g_nil ?_; conv => whnf) | (refine g_block ?_) | fail)
 refine XLc.mkA (α := Nat) (fun i => i ≤ xs.length) (fun i => xs.length - i) (fun i gs => [.ro 7 ((mkS mk_MateWant 7 xs k).map MateWant.D), .int .i64 (k + (7 * i : Nat)), .any, .any, .any, .int .i64 (i : Int)]) (fun i gs => []) 0 (Nat.zero_le _) ?_ ?_
 ·refine ⟨?_, True.intro⟩
  ·repeat' (first | exact True.intro | refine And.intro rfl ?_ | refine And.intro (congrArg (D.int .i64) (by simp)) ?_)
 intro i gs hi0
 repeat' (first | (refine g_op ?_; conv => whnf) | (refine And.intro ?_ ?_; (focus exact au0); conv => whnf) | (refine g_seq ?_) | (refine XS.go ?_) | (refine g_ops ?_) | ((first | refine g_nil ?_ | refine g_cond ?_); conv => whnf) | fail)
 refine Br.mk (fun hb => ?_) (fun hb => ?_)
 ·have hlt : i < xs.length := by simpa [mkS_len] using hb
  have hel : (mkS mk_MateWant 7 xs k).getD i default = mk_MateWant (xs.getD i default) (k + (7 * i : Nat)) := mkS_get default hlt
  have hlt' : i < (mkS mk_MateWant 7 xs k).length := by rw [hml]; exact hlt
  have hKe : k + (7 * (i + 1) : Nat) = k + (7 * i : Nat) + 7 := by omega
  have hK0 : 1 ≤ k + (7 * i : Nat) := by omega
  have hK1 : k + (7 * i : Nat) + 7 ≤ 50000000 := by omega
  generalize hK : k + (7 * i : Nat) = K at hel hK0 hK1 hKe ⊢
  have hw1 : IntKind.wrap .i64 (K + 1) = (K + 1) := wrap_ok (by omega) (by omega)
  have hw2 : IntKind.wrap .i64 ((K + 1) + 1) = ((K + 1) + 1) := wrap_ok (by omega) (by omega)
  have hw3 : IntKind.wrap .i64 (((K + 1) + 1) + 1) = (((K + 1) + 1) + 1) := wrap_ok (by omega) (by omega)
  have hw4 : IntKind.wrap .i64 ((((K + 1) + 1) + 1) + 1) = ((((K + 1) + 1) + 1) + 1) := wrap_ok (by omega) (by omega)
  have hw5 : IntKind.wrap .i64 (((((K + 1) + 1) + 1) + 1) + 1) = (((((K + 1) + 1) + 1) + 1) + 1) := wrap_ok (by omega) (by omega)
  have hw6 : IntKind.wrap .i64 ((((((K + 1) + 1) + 1) + 1) + 1) + 1) = ((((((K + 1) + 1) + 1) + 1) + 1) + 1) := wrap_ok (by omega) (by omega)
  have hw7 : IntKind.wrap .i64 (((((((K + 1) + 1) + 1) + 1) + 1) + 1) + 1) = (((((((K + 1) + 1) + 1) + 1) + 1) + 1) + 1) := wrap_ok (by omega) (by omega)
  have ht0 := mark_text K (by first | omega | (simp only [hw1, hw2, hw3, hw4, hw5, hw6, hw7]; omega)) (by first | omega | (simp only [hw1, hw2, hw3, hw4, hw5, hw6, hw7]; omega))
  have ht2 := mark_text (IntKind.wrap .i64 ((IntKind.wrap .i64 (K + 1)) + 1)) (by first | omega | (simp only [hw1, hw2, hw3, hw4, hw5, hw6, hw7]; omega)) (by first | omega | (simp only [hw1, hw2, hw3, hw4, hw5, hw6, hw7]; omega))
  conv => whnf
  repeat' (first | (refine z_ld1 ?_; first | (refine z_ld rfl rfl rfl rfl au1 au2 ?_; conv => whnf) | (refine z_ld0 rfl ?_; conv => whnf)) | (refine z_ix1 ?_; first | (refine z_ix rfl rfl rfl rfl rfl ⟨by first | omega | (simp only [decide_eq_true_eq, Bool.not_eq_true', Bool.or_eq_false_iff, decide_eq_false_iff_not, Bool.and_eq_true, Bool.not_eq_false'] at *; omega), by first | omega | (simp only [decide_eq_true_eq, Bool.not_eq_true', Bool.or_eq_false_iff, decide_eq_false_iff_not, Bool.and_eq_true, Bool.not_eq_false'] at *; omega)⟩ ?_; conv => whnf) | (refine z_ix0 rfl rfl ?_; conv => whnf)) | (refine z_op ?_ ?_; (focus exact rfl); conv => whnf) | (refine zs_ops ?_ ?_; (focus exact rfl)) | (refine zs_quiet ?_ ?_; (focus exact rfl)) | (refine z_nil fun vals => ?_; conv => whnf) | (refine z_call ?_ ?_; (focus exact rfl)) | (refine RC.of (ht0) ?_ ?_; (focus exact rfl); conv => whnf) | (refine RC.of (ht2) ?_ ?_; (focus exact rfl); conv => whnf) | (refine g_op ?_; conv => whnf) | (refine And.intro ?_ ?_; (focus exact au0); conv => whnf) | (refine g_seq ?_) | (refine XS.go ?_) | (refine g_ops ?_) | ((first | refine g_nil ?_ | refine g_cond ?_ | refine g_skip ?_); conv => whnf) | (refine g_block ?_) | (refine Br.f (by simp only [Int.toNat_natCast, hel, hw1, hw2, hw3, hw4, hw5, hw6, hw7, mk_MateWant] <;> simp) ?_; conv => whnf) | fail)
  have hw : IntKind.wrap .i64 ((i : Int) + 1) = ((i + 1 : Nat) : Int) := by rw [wrap_ok (by omega) (by omega)]; rfl
  refine ⟨i + 1, by omega, by omega, ?_, True.intro⟩
  ·repeat' (first | exact True.intro | refine And.intro (congrArg (D.int .i64) hw) ?_ | refine And.intro rfl ?_ | refine And.intro (congrArg (D.int .i64) (by simp only [hw1, hw2, hw3, hw4, hw5, hw6, hw7]; omega)) ?_)
 have hi : i = xs.length := by
  have : ¬ i < xs.length := by simpa [mkS_len] using hb
  omega
 subst hi
 conv => whnf
 repeat' (first | (refine g_op ?_; conv => whnf) | (refine And.intro ?_ ?_; (focus exact au0); conv => whnf) | (refine g_seq ?_) | (refine XS.go ?_) | (refine g_ops ?_) | ((first | refine g_nil ?_ | refine g_ret ?_ | refine g_exit ?_ | refine r_t ?_ | refine r_nil ?_); conv => whnf) | fail)
 rfl
def mk_MateAsk (x : MateAsk) (k : Int) : MateAsk := { x with fHold := mtext k, fCopy := mtext (k + 1), fFirst := ((k + 1) + 1), fAt := (((k + 1) + 1) + 1) }
theorem mark_MateAskS (xs : List MateAsk) (b0 c0 : Nat) (k : Int) (hk : 1 ≤ k) (hl : xs.length ≤ 1048576) (hB : k + (4 * xs.length : Nat) ≤ 50000000) : XC Try.prog 88 [.lsl 0 b0 xs.length c0, .int .i64 k] [(0, b0, .arr 4 (xs.map MateAsk.D) c0)] (fun d ls => d = .int .i64 (k + (4 * xs.length : Nat)) ∧ ls = [(0, b0, .arr 4 ((mkS mk_MateAsk 4 xs k).map MateAsk.D) c0)]) := by
 refine XC.intro' hm [0] rfl c88 (Nat.le_of_ble_eq_true rfl) ?_
 conv => whnf
 repeat' (first | (refine g_op ?_; conv => whnf) | (refine And.intro ?_ ?_; (focus exact au0); conv => whnf) | (refine g_seq ?_) | (refine XS.go ?_) | (refine g_ops ?_) | (refine g_loop ?_) | (refine g_nil ?_; conv => whnf) | (refine g_block ?_) | fail)
 refine XLc.mkG (α := Nat) (fun i gs => i ≤ xs.length ∧ gs 0 = b0) (fun i => xs.length - i) (fun i gs => [.lsl 0 (gs 0) xs.length c0, .int .i64 (k + (4 * i : Nat)), .any, .any, .any, .int .i64 (i : Int)]) (fun i gs => [(0, .arr 4 ((mkP mk_MateAsk 4 xs k i).map MateAsk.D) c0)]) 0 ⟨Nat.zero_le _, rfl⟩ ?_ ?_
 ·refine ⟨?_, ?_⟩
  ·repeat' (first | exact True.intro | refine And.intro rfl ?_ | refine And.intro (congrArg (D.int .i64) (by simp)) ?_)
  ·exact And.intro (by rw [mkP_zero]; rfl) True.intro
 intro i gs hI
 obtain ⟨hi0, hg⟩ := hI
 subst hg
 repeat' (first | (refine g_op ?_; conv => whnf) | (refine And.intro ?_ ?_; (focus exact au0); conv => whnf) | (refine g_seq ?_) | (refine XS.go ?_) | (refine g_ops ?_) | ((first | refine g_nil ?_ | refine g_cond ?_); conv => whnf) | fail)
 refine Br.mk (fun hb => ?_) (fun hb => ?_)
 ·have hlt : i < xs.length := by simpa using hb
  have hj0 : i < ((mkP mk_MateAsk 4 xs k i).map MateAsk.D).length := by rw [List.length_map, mkP_len]; exact hlt
  have he0 : ((mkP mk_MateAsk 4 xs k i).map MateAsk.D).getD i .any = (xs.getD i default).D := by
   rw [elt_map (by rw [mkP_len]; exact hlt), mkP_get _ hlt]
  have hfin : ∀ d, d = (mk_MateAsk (xs.getD i default) (k + (4 * i : Nat))).D → ((mkP mk_MateAsk 4 xs k i).map MateAsk.D).set i d = (mkP mk_MateAsk 4 xs k (i + 1)).map MateAsk.D := fun d h => by
   rw [h, ← mkP_set default hlt, List.map_set]
  have hKe : k + (4 * (i + 1) : Nat) = k + (4 * i : Nat) + 4 := by omega
  have hK0 : 1 ≤ k + (4 * i : Nat) := by omega
  have hK1 : k + (4 * i : Nat) + 4 ≤ 50000000 := by omega
  generalize hK : k + (4 * i : Nat) = K at hfin hK0 hK1 hKe ⊢
  have hw1 : IntKind.wrap .i64 (K + 1) = (K + 1) := wrap_ok (by omega) (by omega)
  have hw2 : IntKind.wrap .i64 ((K + 1) + 1) = ((K + 1) + 1) := wrap_ok (by omega) (by omega)
  have hw3 : IntKind.wrap .i64 (((K + 1) + 1) + 1) = (((K + 1) + 1) + 1) := wrap_ok (by omega) (by omega)
  have hw4 : IntKind.wrap .i64 ((((K + 1) + 1) + 1) + 1) = ((((K + 1) + 1) + 1) + 1) := wrap_ok (by omega) (by omega)
  have ht0 := mark_text K (by first | omega | (simp only [hw1, hw2, hw3, hw4]; omega)) (by first | omega | (simp only [hw1, hw2, hw3, hw4]; omega))
  have ht1 := mark_text (IntKind.wrap .i64 (K + 1)) (by first | omega | (simp only [hw1, hw2, hw3, hw4]; omega)) (by first | omega | (simp only [hw1, hw2, hw3, hw4]; omega))
  conv => whnf
  repeat' (first | (refine z_st1 ?_; first | (refine z_st rfl rfl rfl au1 au2 rfl rfl ?_; conv => whnf) | (refine z_st0 ?_; conv => whnf)) | (refine z_ix1 ?_; first | (refine z_ix rfl rfl rfl rfl rfl ⟨by first | omega | (simp only [decide_eq_true_eq, Bool.not_eq_true', Bool.or_eq_false_iff, decide_eq_false_iff_not, Bool.and_eq_true, Bool.not_eq_false'] at *; omega), by first | omega | (simp only [decide_eq_true_eq, Bool.not_eq_true', Bool.or_eq_false_iff, decide_eq_false_iff_not, Bool.and_eq_true, Bool.not_eq_false'] at *; omega)⟩ ?_; conv => whnf) | (refine z_ix0 rfl rfl ?_; conv => whnf)) | (refine z_op ?_ ?_; (focus exact rfl); conv => whnf) | (refine zs_ops ?_ ?_; (focus exact rfl)) | (refine z_nil fun vals => ?_; conv => whnf) | (refine z_call ?_ ?_; (focus exact rfl)) | (refine RC.of (ht0) ?_ ?_; (focus exact rfl); conv => whnf) | (refine RC.of (ht1) ?_ ?_; (focus exact rfl); conv => whnf) | (refine g_op ?_; conv => whnf) | (refine And.intro ?_ ?_; (focus exact au0); conv => whnf) | (refine g_seq ?_) | (refine XS.go ?_) | (refine g_ops ?_) | ((first | refine g_nil ?_ | refine g_skip ?_); conv => whnf) | (refine g_block ?_) | fail)
  have hw : IntKind.wrap .i64 ((i : Int) + 1) = ((i + 1 : Nat) : Int) := by rw [wrap_ok (by omega) (by omega)]; rfl
  refine ⟨i + 1, ⟨by omega, rfl⟩, by omega, ?_, ?_⟩
  ·repeat' (first | exact True.intro | refine And.intro (congrArg (D.int .i64) hw) ?_ | refine And.intro rfl ?_ | refine And.intro (congrArg (D.int .i64) (by simp only [hw1, hw2, hw3, hw4]; omega)) ?_)
  ·refine And.intro ?_ True.intro
   refine congrArg (fun l => some (D.arr 4 l c0)) ?_
   simp only [List.set_set]
   exact hfin _ (by simp only [hw1, hw2, hw3, hw4]; rfl)
 have hi : i = xs.length := by
  have : ¬ i < xs.length := by simpa using hb
  omega
 subst hi
 rw [mkP_all]
 conv => whnf
 repeat' (first | (refine g_op ?_; conv => whnf) | (refine And.intro ?_ ?_; (focus exact au0); conv => whnf) | (refine g_seq ?_) | (refine XS.go ?_) | (refine g_ops ?_) | ((first | refine g_nil ?_ | refine g_ret ?_ | refine g_exit ?_ | refine r_t ?_ | refine r_nil ?_); conv => whnf) | fail)
 first | exact ⟨rfl, rfl⟩ | exact rfl
theorem held_MateAskS (xs : List MateAsk) (k : Int) (hk : 1 ≤ k) (hl : xs.length ≤ 1048576) (hB : k + (4 * xs.length : Nat) ≤ 50000000) : Rdr Try.prog 90 [.ro 4 ((mkS mk_MateAsk 4 xs k).map MateAsk.D), .int .i64 k] (.int .i64 (k + (4 * xs.length : Nat))) := by
 have hml : (mkS mk_MateAsk 4 xs k).length = xs.length := mkS_len
 refine Rdr.intro' hm c90 (Nat.le_of_ble_eq_true rfl) ?_
 conv => whnf
 repeat' (first | (refine g_op ?_; conv => whnf) | (refine And.intro ?_ ?_; (focus exact au0); conv => whnf) | (refine g_seq ?_) | (refine XS.go ?_) | (refine g_ops ?_) | (refine g_loop ?_) | (refine g_nil ?_; conv => whnf) | (refine g_block ?_) | fail)
 refine XLc.mkA (α := Nat) (fun i => i ≤ xs.length) (fun i => xs.length - i) (fun i gs => [.ro 4 ((mkS mk_MateAsk 4 xs k).map MateAsk.D), .int .i64 (k + (4 * i : Nat)), .any, .any, .any, .int .i64 (i : Int)]) (fun i gs => []) 0 (Nat.zero_le _) ?_ ?_
 ·refine ⟨?_, True.intro⟩
  ·repeat' (first | exact True.intro | refine And.intro rfl ?_ | refine And.intro (congrArg (D.int .i64) (by simp)) ?_)
 intro i gs hi0
 repeat' (first | (refine g_op ?_; conv => whnf) | (refine And.intro ?_ ?_; (focus exact au0); conv => whnf) | (refine g_seq ?_) | (refine XS.go ?_) | (refine g_ops ?_) | ((first | refine g_nil ?_ | refine g_cond ?_); conv => whnf) | fail)
 refine Br.mk (fun hb => ?_) (fun hb => ?_)
 ·have hlt : i < xs.length := by simpa [mkS_len] using hb
  have hel : (mkS mk_MateAsk 4 xs k).getD i default = mk_MateAsk (xs.getD i default) (k + (4 * i : Nat)) := mkS_get default hlt
  have hlt' : i < (mkS mk_MateAsk 4 xs k).length := by rw [hml]; exact hlt
  have hKe : k + (4 * (i + 1) : Nat) = k + (4 * i : Nat) + 4 := by omega
  have hK0 : 1 ≤ k + (4 * i : Nat) := by omega
  have hK1 : k + (4 * i : Nat) + 4 ≤ 50000000 := by omega
  generalize hK : k + (4 * i : Nat) = K at hel hK0 hK1 hKe ⊢
  have hw1 : IntKind.wrap .i64 (K + 1) = (K + 1) := wrap_ok (by omega) (by omega)
  have hw2 : IntKind.wrap .i64 ((K + 1) + 1) = ((K + 1) + 1) := wrap_ok (by omega) (by omega)
  have hw3 : IntKind.wrap .i64 (((K + 1) + 1) + 1) = (((K + 1) + 1) + 1) := wrap_ok (by omega) (by omega)
  have hw4 : IntKind.wrap .i64 ((((K + 1) + 1) + 1) + 1) = ((((K + 1) + 1) + 1) + 1) := wrap_ok (by omega) (by omega)
  have ht0 := mark_text K (by first | omega | (simp only [hw1, hw2, hw3, hw4]; omega)) (by first | omega | (simp only [hw1, hw2, hw3, hw4]; omega))
  have ht1 := mark_text (IntKind.wrap .i64 (K + 1)) (by first | omega | (simp only [hw1, hw2, hw3, hw4]; omega)) (by first | omega | (simp only [hw1, hw2, hw3, hw4]; omega))
  conv => whnf
  repeat' (first | (refine z_ld1 ?_; first | (refine z_ld rfl rfl rfl rfl au1 au2 ?_; conv => whnf) | (refine z_ld0 rfl ?_; conv => whnf)) | (refine z_ix1 ?_; first | (refine z_ix rfl rfl rfl rfl rfl ⟨by first | omega | (simp only [decide_eq_true_eq, Bool.not_eq_true', Bool.or_eq_false_iff, decide_eq_false_iff_not, Bool.and_eq_true, Bool.not_eq_false'] at *; omega), by first | omega | (simp only [decide_eq_true_eq, Bool.not_eq_true', Bool.or_eq_false_iff, decide_eq_false_iff_not, Bool.and_eq_true, Bool.not_eq_false'] at *; omega)⟩ ?_; conv => whnf) | (refine z_ix0 rfl rfl ?_; conv => whnf)) | (refine z_op ?_ ?_; (focus exact rfl); conv => whnf) | (refine zs_ops ?_ ?_; (focus exact rfl)) | (refine zs_quiet ?_ ?_; (focus exact rfl)) | (refine z_nil fun vals => ?_; conv => whnf) | (refine z_call ?_ ?_; (focus exact rfl)) | (refine RC.of (ht0) ?_ ?_; (focus exact rfl); conv => whnf) | (refine RC.of (ht1) ?_ ?_; (focus exact rfl); conv => whnf) | (refine g_op ?_; conv => whnf) | (refine And.intro ?_ ?_; (focus exact au0); conv => whnf) | (refine g_seq ?_) | (refine XS.go ?_) | (refine g_ops ?_) | ((first | refine g_nil ?_ | refine g_cond ?_ | refine g_skip ?_); conv => whnf) | (refine g_block ?_) | (refine Br.f (by simp only [Int.toNat_natCast, hel, hw1, hw2, hw3, hw4, mk_MateAsk] <;> simp) ?_; conv => whnf) | fail)
  have hw : IntKind.wrap .i64 ((i : Int) + 1) = ((i + 1 : Nat) : Int) := by rw [wrap_ok (by omega) (by omega)]; rfl
  refine ⟨i + 1, by omega, by omega, ?_, True.intro⟩
  ·repeat' (first | exact True.intro | refine And.intro (congrArg (D.int .i64) hw) ?_ | refine And.intro rfl ?_ | refine And.intro (congrArg (D.int .i64) (by simp only [hw1, hw2, hw3, hw4]; omega)) ?_)
 have hi : i = xs.length := by
  have : ¬ i < xs.length := by simpa [mkS_len] using hb
  omega
 subst hi
 conv => whnf
 repeat' (first | (refine g_op ?_; conv => whnf) | (refine And.intro ?_ ?_; (focus exact au0); conv => whnf) | (refine g_seq ?_) | (refine XS.go ?_) | (refine g_ops ?_) | ((first | refine g_nil ?_ | refine g_ret ?_ | refine g_exit ?_ | refine r_t ?_ | refine r_nil ?_); conv => whnf) | fail)
 rfl
theorem Bor.rowM {α : Type} {st : St} {s b n c es : Nat} {F : α → D} {xs : List α} {cp : Nat} (hl : st.lc s = some (.arr es (xs.map F) cp)) (hb : st.gen s = b) (hn : n = xs.length) (hf : ∀ x, (F x).froz = F x) : Bor st (.lsl s b n c) (.ro es (xs.map F)) := by
 have hn' : n = (xs.map F).length := by rw [List.length_map]; exact hn
 have h := Bor.row (c := c) hl hb hn'
 rw [D.frozs_map hf] at h
 exact h
theorem HolL.ren {U : Nat → Prop} {w : World} : ∀ {ls ls2 : List Loan} {F : List Nat}, ls2.map (·.2) = ls.map (·.2) → HolL U w ls F → HolL U w ls2 F
 | [], [], F, _, h => h
 | l :: ls, l2 :: ls2, F, e, h => by
  simp only [List.map_cons, List.cons.injEq] at e
  obtain ⟨F1, F2, h1, h2, h3⟩ := h
  exact ⟨F1, F2, h1, by rw [e.1]; exact h2, HolL.ren e.2 h3⟩
 | [], _ :: _, _, e, _ => by simp at e
 | _ :: _, [], _, e, _ => by simp at e
theorem HolL.snil {U : Nat → Prop} {w : World} (s b es : Nat) : ∀ {ls : List Loan} {F : List Nat}, HolL U w ls F → HolL U w ((s, b, .arr es [] 0) :: ls) F
 | _, F, h => ⟨[], F, rfl, .inl ⟨rfl, rfl, rfl⟩, h⟩
/-- A contract under other names. -/
theorem XC.ren {P : Program} {f : FuncId} {ds ds2 : List D} {ls ls2 : List Loan} {K K2 : D → List Loan → Prop} (h : XC P f ds ls K)
  (hd : ∀ U w vs, RelT U w ds2 vs → RelT U w ds vs) (hl : ls.map (·.2) = ls2.map (·.2))
  (hk : ∀ d l, K d l → ∃ d2 l2, K2 d2 l2 ∧ (∀ U w F, HolL U w l F → HolL U w l2 F) ∧ ∀ U w v, RelV U w d v → RelV U w d2 v) : XC P f ds2 ls2 K2 := by
 unfold XC at h ⊢
 refine ⟨h.1, fun U w vs F hU hH hn hF hT => (h.2 U w vs F hU (hH.ren hl) hn hF (hd _ _ _ hT)).mono fun e w' ⟨v, d, l, U', F', h1, h2, h3, h4, h5, h6, h7, h8, h9⟩ => ?_⟩
 obtain ⟨d2, l2, k1, k2, k3⟩ := hk d l h9
 exact ⟨v, d2, l2, U', F', h1, k2 _ _ _ h2, h3, h4, k3 _ _ _ h5, h6, h7, h8, k1⟩
theorem nil_ro {U : Nat → Prop} {w : World} {es : Nat} {cs : List Value} (h : RelC U w .nil cs) : RelC U w (.ro es []) cs := by
 simp only [RelC] at h ⊢
 obtain ⟨a, rfl⟩ := h
 exact ⟨a, 0, rfl, Nat.le_refl _, .inl trivial⟩
theorem nil_lsl {U : Nat → Prop} {w : World} {s b : Nat} {cs : List Value} (h : RelC U w .nil cs) : RelC U w (.lsl s b 0 0) cs := by
 simp only [RelC] at h ⊢
 obtain ⟨a, rfl⟩ := h
 exact ⟨a, rfl, Nat.le_refl _, fun h => absurd rfl h⟩
theorem RelF.imp {U : Nat → Prop} {w : World} {d d' : D} {ds ds' : List D} (h1 : ∀ cs, RelC U w d cs → RelC U w d' cs) (h2 : ∀ cs, RelF U w ds cs → RelF U w ds' cs) (cs : List Value) (h : RelF U w (d :: ds) cs) : RelF U w (d' :: ds') cs := by
 simp only [RelF] at h ⊢
 obtain ⟨c1, c2, e, q1, q2⟩ := h
 exact ⟨c1, c2, e, h1 _ q1, h2 _ q2⟩
theorem RelV.aggImp {U : Nat → Prop} {w : World} {fs fs' : List D} (h : ∀ cs, RelF U w fs cs → RelF U w fs' cs) (v : Value) (hv : RelV U w (.agg fs) v) : RelV U w (.agg fs') v := by
 obtain ⟨cs, e, q⟩ := hv
 exact ⟨cs, e, h _ q⟩
/-- An answer under a wider reading. -/
theorem Rdr.imp {P : Program} {f : FuncId} {ds : List D} {d d2 : D} (h : Rdr P f ds d) (hd : ∀ U w v, RelV U w d v → RelV U w d2 v) : Rdr P f ds d2 := by
 unfold Rdr at h ⊢
 exact ⟨h.1, fun U w vs hU hT => (h.2 U w vs hU hT).mono fun e w' ⟨v, h1, h2, h3⟩ => ⟨v, h1, hd _ _ _ h2, h3⟩⟩
theorem HolL.app {U : Nat → Prop} {w : World} {ls2 : List Loan} (h2 : HolL U w ls2 []) : ∀ {ls : List Loan} {F : List Nat}, HolL U w ls F → HolL U w (ls ++ ls2) F
 | [], F, h => by
  have h : F = [] := h
  subst h
  exact h2
 | l :: ls, F, ⟨F1, F2, e, h, hs⟩ => ⟨F1, F2, e, h, HolL.app h2 hs⟩
end Go.Ab
