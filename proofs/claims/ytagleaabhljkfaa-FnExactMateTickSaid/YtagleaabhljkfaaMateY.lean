/- Steps towards the law: the machine, contracts of functions and facts of lists. -/
import Derived.Test.YtagleaabhljkfaaMateW
import Derived.Test.YtagleaabhljkfaaRows
set_option linter.unusedSimpArgs false
set_option linter.unusedVariables false
namespace Go.Ab
open Go Go.RowKit Go.Proofs
attribute [local irreducible] XC Rdr IntKind.wrap xw xos xqs xr xd
set_option maxRecDepth 100000
set_option maxHeartbeats 16000000
def cf33 : CF := ⟨99,[.t 4],(.seq (.ops [Ok 4 (.int .i64 0)]) (.seq (.seq (.ops [Ok 5 (.int .i64 0)]) (.block 0 (.loop (.seq (.seq (.ops [Om 6 5,Om 7 0,Og 8 7,Ob 9 .lss 6 8]) (.cond (.t 9) .skip (.exit 0))) (.seq (.block 1 (.seq (.ops [Om 12 0,Om 13 5,Om 14 1,Oc 15 77 [.t 14],Ox 16 11 12 13,Oo 17 (.fa 0 7 0 (.t 16)),Of 18 0 17,Os 1 18 15]) (.seq (.ops [Om 19 1,Oi 20 19,Om 1 20]) (.seq (.ops [Om 21 0,Om 22 5,Om 23 1,Ox 24 11 21 22,Oo 25 (.fa 0 7 0 (.t 24)),Of 26 1 25,Os 1 26 23]) (.seq (.ops [Om 27 1,Oi 28 27,Om 1 28]) (.seq (.ops [Om 29 0,Om 30 5,Om 31 1,Oc 32 77 [.t 31],Ox 33 11 29 30,Oo 34 (.fa 0 7 0 (.t 33)),Of 35 2 34,Os 1 35 32]) (.seq (.ops [Om 36 1,Oi 37 36,Om 1 37]) (.seq (.ops [Om 38 0,Om 39 5,Om 40 1,Ox 41 11 38 39,Oo 42 (.fa 0 7 0 (.t 41)),Of 43 3 42,Os 1 43 40]) (.seq (.ops [Om 44 1,Oi 45 44,Om 1 45]) (.seq (.ops [Om 46 0,Om 47 5,Om 48 1,Ox 49 11 46 47,Oo 50 (.fa 0 7 0 (.t 49)),Of 51 4 50,Os 1 51 48]) (.seq (.ops [Om 52 1,Oi 53 52,Om 1 53]) (.seq (.ops [Om 54 0,Om 55 5,Om 56 1,Ox 57 11 54 55,Oo 58 (.fa 0 7 0 (.t 57)),Of 59 5 58,Os 1 59 56]) (.seq (.ops [Om 60 1,Oi 61 60,Om 1 61]) (.seq (.ops [Om 62 0,Om 63 5,Om 64 1,Ox 65 11 62 63,Oo 66 (.fa 0 7 0 (.t 65)),Of 67 6 66,Os 1 67 64]) (.seq (.ops [Om 68 1,Oi 69 68,Om 1 69]) (.seq (.ops [Om 70 0,Om 71 5,Om 72 1,Ox 73 11 70 71,Oo 74 (.fa 7 1 1 (.t 73)),Os 1 74 72]) (.seq (.ops [Om 75 1,Oi 76 75,Om 1 76]) (.seq (.ops [Om 77 0,Om 78 5,Om 79 1,Ox 80 11 77 78,Oo 81 (.fa 8 1 2 (.t 80)),Os 1 81 79]) (.seq (.ops [Om 82 1,Oi 83 82,Om 1 83]) (.seq (.ops [Om 84 0,Om 85 5,Om 86 1,Ox 87 11 84 85,Oo 88 (.fa 9 1 3 (.t 87)),Os 1 88 86]) (.seq (.ops [Om 89 1,Oi 90 89,Om 1 90]) (.seq (.ops [Om 91 0,Om 92 5,Om 93 1,Ox 94 11 91 92,Oo 95 (.fa 10 1 4 (.t 94)),Os 1 95 93]) (.ops [Om 96 1,Oi 97 96,Om 1 97]))))))))))))))))))))))) (.ops [Om 10 5,Oi 11 10,Om 5 11])))))) (.seq (.ops [Om 98 1,Om 4 98]) .ret)))⟩
theorem c33 : compileF Try.prog [] 33 = some cf33 := by kernel_rfl
def cf34 : CF := ⟨121,[.t 4],(.seq (.ops [Ok 4 (.int .i64 0)]) (.seq (.seq (.ops [Ok 5 (.int .i64 0)]) (.block 0 (.loop (.seq (.seq (.ops [Om 6 5,Om 7 0,Og 8 7,Ob 9 .lss 6 8]) (.cond (.t 9) .skip (.exit 0))) (.seq (.block 1 (.seq (.seq (.quiet [Om 12 0,Om 13 5,Ox 14 11 12 13,Oo 15 (.fa 0 7 0 (.t 14)),Of 16 0 15,Ol 17 16,Om 18 1,Oc 19 77 [.t 18],Ob 20 .neq 17 19]) (.cond (.t 20) (.seq (.ops [Ok 4 (.int .i64 (-1))]) .ret) .skip)) (.seq (.ops [Om 21 1,Oi 22 21,Om 1 22]) (.seq (.seq (.ops [Om 23 0,Om 24 5,Ox 25 11 23 24,Oo 26 (.fa 0 7 0 (.t 25)),Of 27 1 26,Ol 28 27,Om 29 1,Ob 30 .neq 28 29]) (.cond (.t 30) (.seq (.ops [Ok 4 (.int .i64 (-1))]) .ret) .skip)) (.seq (.ops [Om 31 1,Oi 32 31,Om 1 32]) (.seq (.seq (.quiet [Om 33 0,Om 34 5,Ox 35 11 33 34,Oo 36 (.fa 0 7 0 (.t 35)),Of 37 2 36,Ol 38 37,Om 39 1,Oc 40 77 [.t 39],Ob 41 .neq 38 40]) (.cond (.t 41) (.seq (.ops [Ok 4 (.int .i64 (-1))]) .ret) .skip)) (.seq (.ops [Om 42 1,Oi 43 42,Om 1 43]) (.seq (.seq (.ops [Om 44 0,Om 45 5,Ox 46 11 44 45,Oo 47 (.fa 0 7 0 (.t 46)),Of 48 3 47,Ol 49 48,Om 50 1,Ob 51 .neq 49 50]) (.cond (.t 51) (.seq (.ops [Ok 4 (.int .i64 (-1))]) .ret) .skip)) (.seq (.ops [Om 52 1,Oi 53 52,Om 1 53]) (.seq (.seq (.ops [Om 54 0,Om 55 5,Ox 56 11 54 55,Oo 57 (.fa 0 7 0 (.t 56)),Of 58 4 57,Ol 59 58,Om 60 1,Ob 61 .neq 59 60]) (.cond (.t 61) (.seq (.ops [Ok 4 (.int .i64 (-1))]) .ret) .skip)) (.seq (.ops [Om 62 1,Oi 63 62,Om 1 63]) (.seq (.seq (.ops [Om 64 0,Om 65 5,Ox 66 11 64 65,Oo 67 (.fa 0 7 0 (.t 66)),Of 68 5 67,Ol 69 68,Om 70 1,Ob 71 .neq 69 70]) (.cond (.t 71) (.seq (.ops [Ok 4 (.int .i64 (-1))]) .ret) .skip)) (.seq (.ops [Om 72 1,Oi 73 72,Om 1 73]) (.seq (.seq (.ops [Om 74 0,Om 75 5,Ox 76 11 74 75,Oo 77 (.fa 0 7 0 (.t 76)),Of 78 6 77,Ol 79 78,Om 80 1,Ob 81 .neq 79 80]) (.cond (.t 81) (.seq (.ops [Ok 4 (.int .i64 (-1))]) .ret) .skip)) (.seq (.ops [Om 82 1,Oi 83 82,Om 1 83]) (.seq (.seq (.ops [Om 84 0,Om 85 5,Ox 86 11 84 85,Oo 87 (.fa 7 1 1 (.t 86)),Ol 88 87,Om 89 1,Ob 90 .neq 88 89]) (.cond (.t 90) (.seq (.ops [Ok 4 (.int .i64 (-1))]) .ret) .skip)) (.seq (.ops [Om 91 1,Oi 92 91,Om 1 92]) (.seq (.seq (.ops [Om 93 0,Om 94 5,Ox 95 11 93 94,Oo 96 (.fa 8 1 2 (.t 95)),Ol 97 96,Om 98 1,Ob 99 .neq 97 98]) (.cond (.t 99) (.seq (.ops [Ok 4 (.int .i64 (-1))]) .ret) .skip)) (.seq (.ops [Om 100 1,Oi 101 100,Om 1 101]) (.seq (.seq (.ops [Om 102 0,Om 103 5,Ox 104 11 102 103,Oo 105 (.fa 9 1 3 (.t 104)),Ol 106 105,Om 107 1,Ob 108 .neq 106 107]) (.cond (.t 108) (.seq (.ops [Ok 4 (.int .i64 (-1))]) .ret) .skip)) (.seq (.ops [Om 109 1,Oi 110 109,Om 1 110]) (.seq (.seq (.ops [Om 111 0,Om 112 5,Ox 113 11 111 112,Oo 114 (.fa 10 1 4 (.t 113)),Ol 115 114,Om 116 1,Ob 117 .neq 115 116]) (.cond (.t 117) (.seq (.ops [Ok 4 (.int .i64 (-1))]) .ret) .skip)) (.ops [Om 118 1,Oi 119 118,Om 1 119]))))))))))))))))))))))) (.ops [Om 10 5,Oi 11 10,Om 5 11])))))) (.seq (.ops [Om 120 1,Om 4 120]) .ret)))⟩
theorem c34 : compileF Try.prog [] 34 = some cf34 := by kernel_rfl
def mk_MateRun (x : MateRun) (k : Int) : MateRun := { x with fWant := { x.fWant with fCopy := mtext k, fVersion := (k + 1), fHold := mtext ((k + 1) + 1), fPull := (((k + 1) + 1) + 1), fStart := ((((k + 1) + 1) + 1) + 1), fDies := (((((k + 1) + 1) + 1) + 1) + 1), fGrace := ((((((k + 1) + 1) + 1) + 1) + 1) + 1) }, fState := (((((((k + 1) + 1) + 1) + 1) + 1) + 1) + 1), fLeft := ((((((((k + 1) + 1) + 1) + 1) + 1) + 1) + 1) + 1), fFalls := (((((((((k + 1) + 1) + 1) + 1) + 1) + 1) + 1) + 1) + 1), fUntil := ((((((((((k + 1) + 1) + 1) + 1) + 1) + 1) + 1) + 1) + 1) + 1) }
theorem mark_MateRunS (xs : List MateRun) (b0 c0 : Nat) (k : Int) (hk : 1 ≤ k) (hl : xs.length ≤ 1048576) (hB : k + (11 * xs.length : Nat) ≤ 50000000) : XC Try.prog 33 [.lsl 0 b0 xs.length c0, .int .i64 k] [(0, b0, .arr 11 (xs.map MateRun.D) c0)] (fun d ls => d = .int .i64 (k + (11 * xs.length : Nat)) ∧ ls = [(0, b0, .arr 11 ((mkS mk_MateRun 11 xs k).map MateRun.D) c0)]) := by
 refine XC.intro' hm [0] rfl c33 (Nat.le_of_ble_eq_true rfl) ?_
 conv => whnf
 repeat' (first | (refine g_op ?_; conv => whnf) | (refine And.intro ?_ ?_; (focus exact au0); conv => whnf) | (refine g_seq ?_) | (refine XS.go ?_) | (refine g_ops ?_) | (refine g_loop ?_) | (refine g_nil ?_; conv => whnf) | (refine g_block ?_) | fail)
 refine XLc.mkG (α := Nat) (fun i gs => i ≤ xs.length ∧ gs 0 = b0) (fun i => xs.length - i) (fun i gs => [.lsl 0 (gs 0) xs.length c0, .int .i64 (k + (11 * i : Nat)), .any, .any, .any, .int .i64 (i : Int)]) (fun i gs => [(0, .arr 11 ((mkP mk_MateRun 11 xs k i).map MateRun.D) c0)]) 0 ⟨Nat.zero_le _, rfl⟩ ?_ ?_
 ·refine ⟨?_, ?_⟩
  ·repeat' (first | exact True.intro | refine And.intro rfl ?_ | refine And.intro (congrArg (D.int .i64) (by simp)) ?_)
  ·exact And.intro (by rw [mkP_zero]; rfl) True.intro
 intro i gs hI
 obtain ⟨hi0, hg⟩ := hI
 subst hg
 repeat' (first | (refine g_op ?_; conv => whnf) | (refine And.intro ?_ ?_; (focus exact au0); conv => whnf) | (refine g_seq ?_) | (refine XS.go ?_) | (refine g_ops ?_) | ((first | refine g_nil ?_ | refine g_cond ?_); conv => whnf) | fail)
 refine Br.mk (fun hb => ?_) (fun hb => ?_)
 ·have hlt : i < xs.length := by simpa using hb
  have hj0 : i < ((mkP mk_MateRun 11 xs k i).map MateRun.D).length := by rw [List.length_map, mkP_len]; exact hlt
  have he0 : ((mkP mk_MateRun 11 xs k i).map MateRun.D).getD i .any = (xs.getD i default).D := by
   rw [elt_map (by rw [mkP_len]; exact hlt), mkP_get _ hlt]
  have hfin : ∀ d, d = (mk_MateRun (xs.getD i default) (k + (11 * i : Nat))).D → ((mkP mk_MateRun 11 xs k i).map MateRun.D).set i d = (mkP mk_MateRun 11 xs k (i + 1)).map MateRun.D := fun d h => by
   rw [h, ← mkP_set default hlt, List.map_set]
  have hKe : k + (11 * (i + 1) : Nat) = k + (11 * i : Nat) + 11 := by omega
  have hK0 : 1 ≤ k + (11 * i : Nat) := by omega
  have hK1 : k + (11 * i : Nat) + 11 ≤ 50000000 := by omega
  generalize hK : k + (11 * i : Nat) = K at hfin hK0 hK1 hKe ⊢
  have hw1 : IntKind.wrap .i64 (K + 1) = (K + 1) := wrap_ok (by omega) (by omega)
  have hw2 : IntKind.wrap .i64 ((K + 1) + 1) = ((K + 1) + 1) := wrap_ok (by omega) (by omega)
  have hw3 : IntKind.wrap .i64 (((K + 1) + 1) + 1) = (((K + 1) + 1) + 1) := wrap_ok (by omega) (by omega)
  have hw4 : IntKind.wrap .i64 ((((K + 1) + 1) + 1) + 1) = ((((K + 1) + 1) + 1) + 1) := wrap_ok (by omega) (by omega)
  have hw5 : IntKind.wrap .i64 (((((K + 1) + 1) + 1) + 1) + 1) = (((((K + 1) + 1) + 1) + 1) + 1) := wrap_ok (by omega) (by omega)
  have hw6 : IntKind.wrap .i64 ((((((K + 1) + 1) + 1) + 1) + 1) + 1) = ((((((K + 1) + 1) + 1) + 1) + 1) + 1) := wrap_ok (by omega) (by omega)
  have hw7 : IntKind.wrap .i64 (((((((K + 1) + 1) + 1) + 1) + 1) + 1) + 1) = (((((((K + 1) + 1) + 1) + 1) + 1) + 1) + 1) := wrap_ok (by omega) (by omega)
  have hw8 : IntKind.wrap .i64 ((((((((K + 1) + 1) + 1) + 1) + 1) + 1) + 1) + 1) = ((((((((K + 1) + 1) + 1) + 1) + 1) + 1) + 1) + 1) := wrap_ok (by omega) (by omega)
  have hw9 : IntKind.wrap .i64 (((((((((K + 1) + 1) + 1) + 1) + 1) + 1) + 1) + 1) + 1) = (((((((((K + 1) + 1) + 1) + 1) + 1) + 1) + 1) + 1) + 1) := wrap_ok (by omega) (by omega)
  have hw10 : IntKind.wrap .i64 ((((((((((K + 1) + 1) + 1) + 1) + 1) + 1) + 1) + 1) + 1) + 1) = ((((((((((K + 1) + 1) + 1) + 1) + 1) + 1) + 1) + 1) + 1) + 1) := wrap_ok (by omega) (by omega)
  have hw11 : IntKind.wrap .i64 (((((((((((K + 1) + 1) + 1) + 1) + 1) + 1) + 1) + 1) + 1) + 1) + 1) = (((((((((((K + 1) + 1) + 1) + 1) + 1) + 1) + 1) + 1) + 1) + 1) + 1) := wrap_ok (by omega) (by omega)
  have ht0 := mark_text K (by first | omega | (simp only [hw1, hw2, hw3, hw4, hw5, hw6, hw7, hw8, hw9, hw10, hw11]; omega)) (by first | omega | (simp only [hw1, hw2, hw3, hw4, hw5, hw6, hw7, hw8, hw9, hw10, hw11]; omega))
  have ht2 := mark_text (IntKind.wrap .i64 ((IntKind.wrap .i64 (K + 1)) + 1)) (by first | omega | (simp only [hw1, hw2, hw3, hw4, hw5, hw6, hw7, hw8, hw9, hw10, hw11]; omega)) (by first | omega | (simp only [hw1, hw2, hw3, hw4, hw5, hw6, hw7, hw8, hw9, hw10, hw11]; omega))
  conv => whnf
  repeat' (first | (refine z_st1 ?_; first | (refine z_st rfl rfl rfl au1 au2 rfl rfl ?_; conv => whnf) | (refine z_st0 ?_; conv => whnf)) | (refine z_ix1 ?_; first | (refine z_ix rfl rfl rfl rfl rfl ⟨by first | omega | (simp only [decide_eq_true_eq, Bool.not_eq_true', Bool.or_eq_false_iff, decide_eq_false_iff_not, Bool.and_eq_true, Bool.not_eq_false'] at *; omega), by first | omega | (simp only [decide_eq_true_eq, Bool.not_eq_true', Bool.or_eq_false_iff, decide_eq_false_iff_not, Bool.and_eq_true, Bool.not_eq_false'] at *; omega)⟩ ?_; conv => whnf) | (refine z_ix0 rfl rfl ?_; conv => whnf)) | (refine z_op ?_ ?_; (focus exact rfl); conv => whnf) | (refine zs_ops ?_ ?_; (focus exact rfl)) | (refine z_nil fun vals => ?_; conv => whnf) | (refine z_call ?_ ?_; (focus exact rfl)) | (refine RC.of (ht0) ?_ ?_; (focus exact rfl); conv => whnf) | (refine RC.of (ht2) ?_ ?_; (focus exact rfl); conv => whnf) | (refine g_op ?_; conv => whnf) | (refine And.intro ?_ ?_; (focus exact au0); conv => whnf) | (refine g_seq ?_) | (refine XS.go ?_) | (refine g_ops ?_) | ((first | refine g_nil ?_ | refine g_skip ?_); conv => whnf) | (refine g_block ?_) | fail)
  have hw : IntKind.wrap .i64 ((i : Int) + 1) = ((i + 1 : Nat) : Int) := by rw [wrap_ok (by omega) (by omega)]; rfl
  refine ⟨i + 1, ⟨by omega, rfl⟩, by omega, ?_, ?_⟩
  ·repeat' (first | exact True.intro | refine And.intro (congrArg (D.int .i64) hw) ?_ | refine And.intro rfl ?_ | refine And.intro (congrArg (D.int .i64) (by simp only [hw1, hw2, hw3, hw4, hw5, hw6, hw7, hw8, hw9, hw10, hw11]; omega)) ?_)
  ·refine And.intro ?_ True.intro
   refine congrArg (fun l => some (D.arr 11 l c0)) ?_
   simp only [List.set_set]
   exact hfin _ (by simp only [hw1, hw2, hw3, hw4, hw5, hw6, hw7, hw8, hw9, hw10, hw11]; rfl)
 have hi : i = xs.length := by
  have : ¬ i < xs.length := by simpa using hb
  omega
 subst hi
 rw [mkP_all]
 conv => whnf
 repeat' (first | (refine g_op ?_; conv => whnf) | (refine And.intro ?_ ?_; (focus exact au0); conv => whnf) | (refine g_seq ?_) | (refine XS.go ?_) | (refine g_ops ?_) | ((first | refine g_nil ?_ | refine g_ret ?_ | refine g_exit ?_ | refine r_t ?_ | refine r_nil ?_); conv => whnf) | fail)
 first | exact ⟨rfl, rfl⟩ | exact rfl
theorem held_MateRunS (xs : List MateRun) (k : Int) (hk : 1 ≤ k) (hl : xs.length ≤ 1048576) (hB : k + (11 * xs.length : Nat) ≤ 50000000) : Rdr Try.prog 34 [.ro 11 ((mkS mk_MateRun 11 xs k).map MateRun.D), .int .i64 k] (.int .i64 (k + (11 * xs.length : Nat))) := by
 have hml : (mkS mk_MateRun 11 xs k).length = xs.length := mkS_len
 refine Rdr.intro' hm c34 (Nat.le_of_ble_eq_true rfl) ?_
 conv => whnf
 repeat' (first | (refine g_op ?_; conv => whnf) | (refine And.intro ?_ ?_; (focus exact au0); conv => whnf) | (refine g_seq ?_) | (refine XS.go ?_) | (refine g_ops ?_) | (refine g_loop ?_) | (refine g_nil ?_; conv => whnf) | (refine g_block ?_) | fail)
 refine XLc.mkA (α := Nat) (fun i => i ≤ xs.length) (fun i => xs.length - i) (fun i gs => [.ro 11 ((mkS mk_MateRun 11 xs k).map MateRun.D), .int .i64 (k + (11 * i : Nat)), .any, .any, .any, .int .i64 (i : Int)]) (fun i gs => []) 0 (Nat.zero_le _) ?_ ?_
 ·refine ⟨?_, True.intro⟩
  ·repeat' (first | exact True.intro | refine And.intro rfl ?_ | refine And.intro (congrArg (D.int .i64) (by simp)) ?_)
 intro i gs hi0
 repeat' (first | (refine g_op ?_; conv => whnf) | (refine And.intro ?_ ?_; (focus exact au0); conv => whnf) | (refine g_seq ?_) | (refine XS.go ?_) | (refine g_ops ?_) | ((first | refine g_nil ?_ | refine g_cond ?_); conv => whnf) | fail)
 refine Br.mk (fun hb => ?_) (fun hb => ?_)
 ·have hlt : i < xs.length := by simpa [mkS_len] using hb
  have hel : (mkS mk_MateRun 11 xs k).getD i default = mk_MateRun (xs.getD i default) (k + (11 * i : Nat)) := mkS_get default hlt
  have hlt' : i < (mkS mk_MateRun 11 xs k).length := by rw [hml]; exact hlt
  have hKe : k + (11 * (i + 1) : Nat) = k + (11 * i : Nat) + 11 := by omega
  have hK0 : 1 ≤ k + (11 * i : Nat) := by omega
  have hK1 : k + (11 * i : Nat) + 11 ≤ 50000000 := by omega
  generalize hK : k + (11 * i : Nat) = K at hel hK0 hK1 hKe ⊢
  have hw1 : IntKind.wrap .i64 (K + 1) = (K + 1) := wrap_ok (by omega) (by omega)
  have hw2 : IntKind.wrap .i64 ((K + 1) + 1) = ((K + 1) + 1) := wrap_ok (by omega) (by omega)
  have hw3 : IntKind.wrap .i64 (((K + 1) + 1) + 1) = (((K + 1) + 1) + 1) := wrap_ok (by omega) (by omega)
  have hw4 : IntKind.wrap .i64 ((((K + 1) + 1) + 1) + 1) = ((((K + 1) + 1) + 1) + 1) := wrap_ok (by omega) (by omega)
  have hw5 : IntKind.wrap .i64 (((((K + 1) + 1) + 1) + 1) + 1) = (((((K + 1) + 1) + 1) + 1) + 1) := wrap_ok (by omega) (by omega)
  have hw6 : IntKind.wrap .i64 ((((((K + 1) + 1) + 1) + 1) + 1) + 1) = ((((((K + 1) + 1) + 1) + 1) + 1) + 1) := wrap_ok (by omega) (by omega)
  have hw7 : IntKind.wrap .i64 (((((((K + 1) + 1) + 1) + 1) + 1) + 1) + 1) = (((((((K + 1) + 1) + 1) + 1) + 1) + 1) + 1) := wrap_ok (by omega) (by omega)
  have hw8 : IntKind.wrap .i64 ((((((((K + 1) + 1) + 1) + 1) + 1) + 1) + 1) + 1) = ((((((((K + 1) + 1) + 1) + 1) + 1) + 1) + 1) + 1) := wrap_ok (by omega) (by omega)
  have hw9 : IntKind.wrap .i64 (((((((((K + 1) + 1) + 1) + 1) + 1) + 1) + 1) + 1) + 1) = (((((((((K + 1) + 1) + 1) + 1) + 1) + 1) + 1) + 1) + 1) := wrap_ok (by omega) (by omega)
  have hw10 : IntKind.wrap .i64 ((((((((((K + 1) + 1) + 1) + 1) + 1) + 1) + 1) + 1) + 1) + 1) = ((((((((((K + 1) + 1) + 1) + 1) + 1) + 1) + 1) + 1) + 1) + 1) := wrap_ok (by omega) (by omega)
  have hw11 : IntKind.wrap .i64 (((((((((((K + 1) + 1) + 1) + 1) + 1) + 1) + 1) + 1) + 1) + 1) + 1) = (((((((((((K + 1) + 1) + 1) + 1) + 1) + 1) + 1) + 1) + 1) + 1) + 1) := wrap_ok (by omega) (by omega)
  have ht0 := mark_text K (by first | omega | (simp only [hw1, hw2, hw3, hw4, hw5, hw6, hw7, hw8, hw9, hw10, hw11]; omega)) (by first | omega | (simp only [hw1, hw2, hw3, hw4, hw5, hw6, hw7, hw8, hw9, hw10, hw11]; omega))
  have ht2 := mark_text (IntKind.wrap .i64 ((IntKind.wrap .i64 (K + 1)) + 1)) (by first | omega | (simp only [hw1, hw2, hw3, hw4, hw5, hw6, hw7, hw8, hw9, hw10, hw11]; omega)) (by first | omega | (simp only [hw1, hw2, hw3, hw4, hw5, hw6, hw7, hw8, hw9, hw10, hw11]; omega))
  conv => whnf
  repeat' (first | (refine z_ld1 ?_; first | (refine z_ld rfl rfl rfl rfl au1 au2 ?_; conv => whnf) | (refine z_ld0 rfl ?_; conv => whnf)) | (refine z_ix1 ?_; first | (refine z_ix rfl rfl rfl rfl rfl ⟨by first | omega | (simp only [decide_eq_true_eq, Bool.not_eq_true', Bool.or_eq_false_iff, decide_eq_false_iff_not, Bool.and_eq_true, Bool.not_eq_false'] at *; omega), by first | omega | (simp only [decide_eq_true_eq, Bool.not_eq_true', Bool.or_eq_false_iff, decide_eq_false_iff_not, Bool.and_eq_true, Bool.not_eq_false'] at *; omega)⟩ ?_; conv => whnf) | (refine z_ix0 rfl rfl ?_; conv => whnf)) | (refine z_op ?_ ?_; (focus exact rfl); conv => whnf) | (refine zs_ops ?_ ?_; (focus exact rfl)) | (refine zs_quiet ?_ ?_; (focus exact rfl)) | (refine z_nil fun vals => ?_; conv => whnf) | (refine z_call ?_ ?_; (focus exact rfl)) | (refine RC.of (ht0) ?_ ?_; (focus exact rfl); conv => whnf) | (refine RC.of (ht2) ?_ ?_; (focus exact rfl); conv => whnf) | (refine g_op ?_; conv => whnf) | (refine And.intro ?_ ?_; (focus exact au0); conv => whnf) | (refine g_seq ?_) | (refine XS.go ?_) | (refine g_ops ?_) | ((first | refine g_nil ?_ | refine g_cond ?_ | refine g_skip ?_); conv => whnf) | (refine g_block ?_) | (refine Br.f (by simp only [Int.toNat_natCast, hel, hw1, hw2, hw3, hw4, hw5, hw6, hw7, hw8, hw9, hw10, hw11, mk_MateRun] <;> simp) ?_; conv => whnf) | fail)
  have hw : IntKind.wrap .i64 ((i : Int) + 1) = ((i + 1 : Nat) : Int) := by rw [wrap_ok (by omega) (by omega)]; rfl
  refine ⟨i + 1, by omega, by omega, ?_, True.intro⟩
  ·repeat' (first | exact True.intro | refine And.intro (congrArg (D.int .i64) hw) ?_ | refine And.intro rfl ?_ | refine And.intro (congrArg (D.int .i64) (by simp only [hw1, hw2, hw3, hw4, hw5, hw6, hw7, hw8, hw9, hw10, hw11]; omega)) ?_)
 have hi : i = xs.length := by
  have : ¬ i < xs.length := by simpa [mkS_len] using hb
  omega
 subst hi
 conv => whnf
 repeat' (first | (refine g_op ?_; conv => whnf) | (refine And.intro ?_ ?_; (focus exact au0); conv => whnf) | (refine g_seq ?_) | (refine XS.go ?_) | (refine g_ops ?_) | ((first | refine g_nil ?_ | refine g_ret ?_ | refine g_exit ?_ | refine r_t ?_ | refine r_nil ?_); conv => whnf) | fail)
 rfl
end Go.Ab
