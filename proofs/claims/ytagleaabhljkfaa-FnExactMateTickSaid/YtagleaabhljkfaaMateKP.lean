/- Steps towards the law: the machine, contracts of functions and facts of lists. -/
import Derived.Test.YtagleaabhljkfaaMateKO
import Derived.Test.YtagleaabhljkfaaMateTF
import Derived.Test.YtagleaabhljkfaaRows
set_option linter.unusedSimpArgs false
set_option linter.unusedVariables false
namespace Go.Ab
open Go Go.RowKit Go.Proofs
attribute [local irreducible] XC Rdr IntKind.wrap xw xos xqs xr xd
set_option maxRecDepth 100000
set_option maxHeartbeats 16000000
def cf42 : CF := ⟨65,[.t 4],(.seq (.ops [Ok 4 (.int .i64 0)]) (.seq (.seq (.ops [Ok 5 (.int .i64 0)]) (.block 0 (.loop (.seq (.seq (.ops [Om 6 5,Om 7 0,Og 8 7,Ob 9 .lss 6 8]) (.cond (.t 9) .skip (.exit 0))) (.seq (.block 1 (.seq (.ops [Om 12 0,Om 13 5,Om 14 1,Ox 15 7 12 13,Of 16 0 15,Os 1 16 14]) (.seq (.ops [Om 17 1,Oi 18 17,Om 1 18]) (.seq (.ops [Om 19 0,Om 20 5,Om 21 1,Oc 22 77 [.t 21],Ox 23 7 19 20,Of 24 1 23,Os 1 24 22]) (.seq (.ops [Om 25 1,Oi 26 25,Om 1 26]) (.seq (.ops [Om 27 0,Om 28 5,Om 29 1,Ox 30 7 27 28,Of 31 2 30,Os 1 31 29]) (.seq (.ops [Om 32 1,Oi 33 32,Om 1 33]) (.seq (.ops [Om 34 0,Om 35 5,Ox 36 7 34 35,Of 37 3 36,Ol 38 37,Om 39 1,Oc 40 87 [.t 38,.t 39],Om 1 40]) (.seq (.ops [Om 41 0,Om 42 5,Om 43 1,Oc 44 77 [.t 43],Ox 45 7 41 42,Of 46 4 45,Os 1 46 44]) (.seq (.ops [Om 47 1,Oi 48 47,Om 1 48]) (.seq (.ops [Om 49 0,Om 50 5,Om 51 1,Oc 52 77 [.t 51],Ox 53 7 49 50,Of 54 5 53,Os 1 54 52]) (.seq (.ops [Om 55 1,Oi 56 55,Om 1 56]) (.seq (.ops [Om 57 0,Om 58 5,Om 59 1,Ox 60 7 57 58,Of 61 6 60,Os 1 61 59]) (.ops [Om 62 1,Oi 63 62,Om 1 63])))))))))))))) (.ops [Om 10 5,Oi 11 10,Om 5 11])))))) (.seq (.ops [Om 64 1,Om 4 64]) .ret)))⟩
theorem c42 : compileF Try.prog [] 42 = some cf42 := by kernel_rfl
def cf44 : CF := ⟨79,[.t 4],(.seq (.ops [Ok 4 (.int .i64 0)]) (.seq (.seq (.ops [Ok 5 (.int .i64 0)]) (.block 0 (.loop (.seq (.seq (.ops [Om 6 5,Om 7 0,Og 8 7,Ob 9 .lss 6 8]) (.cond (.t 9) .skip (.exit 0))) (.seq (.block 1 (.seq (.seq (.ops [Om 12 0,Om 13 5,Ox 14 7 12 13,Of 15 0 14,Ol 16 15,Om 17 1,Ob 18 .neq 16 17]) (.cond (.t 18) (.seq (.ops [Ok 4 (.int .i64 (-1))]) .ret) .skip)) (.seq (.ops [Om 19 1,Oi 20 19,Om 1 20]) (.seq (.seq (.quiet [Om 21 0,Om 22 5,Ox 23 7 21 22,Of 24 1 23,Ol 25 24,Om 26 1,Oc 27 77 [.t 26],Ob 28 .neq 25 27]) (.cond (.t 28) (.seq (.ops [Ok 4 (.int .i64 (-1))]) .ret) .skip)) (.seq (.ops [Om 29 1,Oi 30 29,Om 1 30]) (.seq (.seq (.ops [Om 31 0,Om 32 5,Ox 33 7 31 32,Of 34 2 33,Ol 35 34,Om 36 1,Ob 37 .neq 35 36]) (.cond (.t 37) (.seq (.ops [Ok 4 (.int .i64 (-1))]) .ret) .skip)) (.seq (.ops [Om 38 1,Oi 39 38,Om 1 39]) (.seq (.ops [Om 40 0,Om 41 5,Ox 42 7 40 41,Of 43 3 42,Ol 44 43,Om 45 1,Oc 46 89 [.t 44,.t 45],Om 1 46]) (.seq (.seq (.ops [Om 47 1,Oo 48 (.bin .lss (.t 47) (.k (.int .i64 0)))]) (.cond (.t 48) (.seq (.ops [Ok 4 (.int .i64 (-1))]) .ret) .skip)) (.seq (.seq (.quiet [Om 49 0,Om 50 5,Ox 51 7 49 50,Of 52 4 51,Ol 53 52,Om 54 1,Oc 55 77 [.t 54],Ob 56 .neq 53 55]) (.cond (.t 56) (.seq (.ops [Ok 4 (.int .i64 (-1))]) .ret) .skip)) (.seq (.ops [Om 57 1,Oi 58 57,Om 1 58]) (.seq (.seq (.quiet [Om 59 0,Om 60 5,Ox 61 7 59 60,Of 62 5 61,Ol 63 62,Om 64 1,Oc 65 77 [.t 64],Ob 66 .neq 63 65]) (.cond (.t 66) (.seq (.ops [Ok 4 (.int .i64 (-1))]) .ret) .skip)) (.seq (.ops [Om 67 1,Oi 68 67,Om 1 68]) (.seq (.seq (.ops [Om 69 0,Om 70 5,Ox 71 7 69 70,Of 72 6 71,Ol 73 72,Om 74 1,Ob 75 .neq 73 74]) (.cond (.t 75) (.seq (.ops [Ok 4 (.int .i64 (-1))]) .ret) .skip)) (.ops [Om 76 1,Oi 77 76,Om 1 77]))))))))))))))) (.ops [Om 10 5,Oi 11 10,Om 5 11])))))) (.seq (.ops [Om 78 1,Om 4 78]) .ret)))⟩
theorem c44 : compileF Try.prog [] 44 = some cf44 := by kernel_rfl
def cf40 : CF := ⟨27,[.t 4],(.seq (.ops [Ok 4 (.bool false)]) (.seq (.seq (.ops [Om 6 0,Og 7 6,Om 8 1,Og 9 8,Ob 10 .neq 7 9]) (.cond (.t 10) (.seq (.ops [Ok 4 (.bool false)]) .ret) .skip)) (.seq (.seq (.ops [Ok 5 (.int .i64 0)]) (.block 0 (.loop (.seq (.seq (.ops [Om 11 5,Om 12 0,Og 13 12,Ob 14 .lss 11 13]) (.cond (.t 14) .skip (.exit 0))) (.seq (.block 1 (.seq (.quiet [Om 17 0,Om 18 5,Ox 19 7 17 18,Od 20 7 19,Om 21 1,Om 22 5,Ox 23 7 21 22,Od 24 7 23,Oc 25 58 [.t 20,.t 24],Oo 26 (.not (.t 25))]) (.cond (.t 26) (.seq (.ops [Ok 4 (.bool false)]) .ret) .skip))) (.ops [Om 15 5,Oi 16 15,Om 5 16])))))) (.seq (.ops [Ok 4 (.bool true)]) .ret))))⟩
theorem c40 : compileF Try.prog [] 40 = some cf40 := by kernel_rfl
def cf38 : CF := ⟨18,[.c 4 9 true,.t 5],(.seq (.ops [Oo 2 (.bx (.t 0)),Oo 4 (.al (.agg [.str ⟨#[]⟩,.bool false,.int .i64 0,.bool false,.int .i64 0,.nil,.nil,.nil,.nil])),Ok 5 (.nil)]) (.seq (.seq (.ops [Od 8 9 2,Oc 9 46 [.t 8],Oo 10 (.not (.t 9))]) (.cond (.t 10) (.seq (.ops [Oo 11 (.bld (.agg [.str ⟨#[]⟩,.bool false,.int .i64 0,.bool false,.int .i64 0,.nil,.nil,.nil,.nil]) []),Os 9 4 11,Ok 5 (.nil)]) .ret) .skip)) (.seq (.ops [Od 12 9 2,Oc 13 84 [.t 12],Oo 6 (.al (.agg [.str ⟨#[]⟩,.bool false,.int .i64 0,.bool false,.int .i64 0,.nil,.nil,.nil,.nil])),Os 9 6 13]) (.seq (.ops [Om 14 1,Oc 15 85 [.t 6,.t 14],Om 7 15]) (.seq (.ops [Od 16 9 6,Om 17 7,Os 9 4 16,Om 5 17]) .ret)))))⟩
theorem c38 : compileF Try.prog [] 38 = some cf38 := by kernel_rfl
def cf8 : CF := ⟨117,[.t 4],(.seq (.ops [Oo 2 (.bx (.t 0)),Ok 4 (.bool false)]) (.seq (.ops [Ok 5 (.int .i64 1048576)]) (.seq (.ops [Od 16 9 2,Om 17 5,Oc 18 35 [.t 16,.t 17],Om 5 18]) (.seq (.seq (.ops [Om 19 5,Oo 20 (.bin .lss (.t 19) (.k (.int .i64 0)))]) (.cond (.t 20) (.seq (.ops [Ok 4 (.bool true)]) .ret) .skip)) (.seq (.ops [Od 22 9 2,Oc 23 37 [.t 22],Om 24 1,Oc 25 36 [.t 23,.t 24],Om 21 25,Oo 26 (.ext (.t 21) 0),Oo 27 (.ext (.t 21) 1),Oo 6 (.al (.agg [.str ⟨#[]⟩,.bool false,.int .i64 0,.bool false,.int .i64 0,.nil,.nil,.nil,.nil])),Os 9 6 26,Om 7 27]) (.seq (.ops [Od 28 9 2,Oc 29 37 [.t 28],Oo 8 (.al (.agg [.str ⟨#[]⟩,.bool false,.int .i64 0,.bool false,.int .i64 0,.nil,.nil,.nil,.nil])),Os 9 8 29]) (.seq (.ops [Od 31 9 8,Om 32 1,Oc 33 38 [.t 31,.t 32],Om 30 33,Oo 34 (.ext (.t 30) 0),Oo 35 (.ext (.t 30) 1),Oo 9 (.al (.agg [.str ⟨#[]⟩,.bool false,.int .i64 0,.bool false,.int .i64 0,.nil,.nil,.nil,.nil])),Os 9 9 34,Om 10 35]) (.seq (.seq (.ops [Od 36 9 9,Od 37 9 6,Oc 38 39 [.t 36,.t 37],Oo 39 (.not (.t 38)),Om 40 39,⟨some 41,.mv (.t 10),some (40,false)⟩,⟨some 42,.mv (.t 7),some (40,false)⟩,⟨some 43,.call 40 [.t 41,.t 42],some (40,false)⟩,⟨some 44,.not (.t 43),some (40,false)⟩,Oo 45 (.pick (.t 40) (.k (.bool true)) (.t 44))]) (.cond (.t 45) (.seq (.ops [Ok 4 (.bool false)]) .ret) .skip)) (.seq (.seq (.quiet [Od 46 9 8,Od 47 9 2,Oc 48 37 [.t 47],Oc 49 39 [.t 46,.t 48],Oo 50 (.not (.t 49))]) (.cond (.t 50) (.seq (.ops [Ok 4 (.bool false)]) .ret) .skip)) (.seq (.ops [Ok 11 (.int .i64 1)]) (.seq (.ops [Od 51 9 8,Om 52 11,Oc 53 41 [.t 51,.t 52],Om 11 53]) (.seq (.seq (.ops [Om 54 11,Oo 55 (.bin .lss (.t 54) (.k (.int .i64 0))),Om 56 55,⟨some 57,.ld 9 true (.t 9),some (56,false)⟩,⟨some 58,.ld 9 true (.t 6),some (56,false)⟩,⟨some 59,.call 39 [.t 57,.t 58],some (56,false)⟩,⟨some 60,.not (.t 59),some (56,false)⟩,Oo 61 (.pick (.t 56) (.k (.bool true)) (.t 60)),Om 62 61,⟨some 63,.mv (.t 10),some (62,false)⟩,⟨some 64,.mv (.t 7),some (62,false)⟩,⟨some 65,.call 40 [.t 63,.t 64],some (62,false)⟩,⟨some 66,.not (.t 65),some (62,false)⟩,Oo 67 (.pick (.t 62) (.k (.bool true)) (.t 66))]) (.cond (.t 67) (.seq (.ops [Ok 4 (.bool false)]) .ret) .skip)) (.seq (.ops [Ok 12 (.int .i64 1)]) (.seq (.ops [Od 68 9 9,Om 69 12,Oc 70 41 [.t 68,.t 69],Om 12 70]) (.seq (.ops [Om 71 10,Om 72 12,Oc 73 42 [.t 71,.t 72],Om 12 73]) (.seq (.ops [Ok 13 (.int .i64 1)]) (.seq (.ops [Od 74 9 9,Om 75 13,Oc 76 43 [.t 74,.t 75],Om 13 76]) (.seq (.seq (.ops [Om 77 13,Oo 78 (.bin .lss (.t 77) (.k (.int .i64 0)))]) (.cond (.t 78) (.seq (.ops [Ok 4 (.bool false)]) .ret) .skip)) (.seq (.ops [Om 79 10,Om 80 13,Oc 81 44 [.t 79,.t 80],Om 13 81]) (.seq (.seq (.ops [Om 82 13,Oo 83 (.bin .lss (.t 82) (.k (.int .i64 0)))]) (.cond (.t 83) (.seq (.ops [Ok 4 (.bool false)]) .ret) .skip)) (.seq (.seq (.ops [Om 84 13,Om 85 12,Ob 86 .neq 84 85]) (.cond (.t 86) (.seq (.ops [Ok 4 (.bool false)]) .ret) .skip)) (.seq (.ops [Od 88 9 2,Oc 89 37 [.t 88],Om 90 1,Oc 91 38 [.t 89,.t 90],Om 87 91,Oo 92 (.ext (.t 87) 0),Oo 93 (.ext (.t 87) 1),Oo 14 (.al (.agg [.str ⟨#[]⟩,.bool false,.int .i64 0,.bool false,.int .i64 0,.nil,.nil,.nil,.nil])),Os 9 14 92,Om 15 93]) (.seq (.seq (.ops [Od 94 9 14,Od 95 9 6,Oc 96 39 [.t 94,.t 95],Oo 97 (.not (.t 96)),Om 98 97,⟨some 99,.mv (.t 15),some (98,false)⟩,⟨some 100,.mv (.t 7),some (98,false)⟩,⟨some 101,.call 40 [.t 99,.t 100],some (98,false)⟩,⟨some 102,.not (.t 101),some (98,false)⟩,Oo 103 (.pick (.t 98) (.k (.bool true)) (.t 102))]) (.cond (.t 103) (.seq (.ops [Ok 4 (.bool false)]) .ret) .skip)) (.seq (.ops [Ok 13 (.int .i64 1)]) (.seq (.ops [Od 104 9 9,Om 105 13,Oc 106 43 [.t 104,.t 105],Om 13 106]) (.seq (.seq (.ops [Om 107 13,Oo 108 (.bin .lss (.t 107) (.k (.int .i64 0)))]) (.cond (.t 108) (.seq (.ops [Ok 4 (.bool false)]) .ret) .skip)) (.seq (.ops [Om 109 10,Om 110 13,Oc 111 44 [.t 109,.t 110],Om 13 111]) (.seq (.seq (.ops [Om 112 13,Oo 113 (.bin .lss (.t 112) (.k (.int .i64 0)))]) (.cond (.t 113) (.seq (.ops [Ok 4 (.bool false)]) .ret) .skip)) (.seq (.seq (.ops [Om 114 13,Om 115 12,Ob 116 .neq 114 115]) (.cond (.t 116) (.seq (.ops [Ok 4 (.bool false)]) .ret) .skip)) (.seq (.ops [Ok 4 (.bool true)]) .ret))))))))))))))))))))))))))))))⟩
theorem c8 : compileF Try.prog [] 8 = some cf8 := by kernel_rfl
theorem cMW (k : Int) : Rdr Try.prog 87 [.nil, .int .i64 k] (.int .i64 k) := by
 refine Rdr.intro' hm c87 (Nat.le_of_ble_eq_true rfl) ?_
 conv => whnf
 repeat' (first | (refine g_op ?_; conv => whnf) | (refine And.intro ?_ ?_; (focus exact au0); conv => whnf) | (refine g_seq ?_) | (refine XS.go ?_) | (refine g_ops ?_) | (refine g_loop ?_) | (refine g_nil ?_; conv => whnf) | (refine g_block ?_) | fail)
 refine XLc.mkA (α := Unit) (fun _ => True) (fun _ => 0) (fun i gs => [.nil, .int .i64 k, .any, .any, .any, .int .i64 0]) (fun i gs => []) () True.intro ⟨?_, True.intro⟩ ?_
 ·repeat' (first | exact True.intro | refine And.intro rfl ?_)
 intro i gs hI
 repeat' (first | (refine g_op ?_; conv => whnf) | (refine And.intro ?_ ?_; (focus exact au0); conv => whnf) | (refine g_seq ?_) | (refine XS.go ?_) | (refine g_ops ?_) | (refine g_nil ?_; conv => whnf) | (refine Br.f ?_ ?_; (focus (first | assumption | exact rfl)); conv => whnf) | ((first | refine g_cond ?_ | refine g_ret ?_ | refine g_exit ?_ | refine r_t ?_ | refine r_nil ?_); conv => whnf) | fail)
 rfl
theorem cHW (k : Int) : Rdr Try.prog 89 [.nil, .int .i64 k] (.int .i64 k) := by
 refine Rdr.intro' hm c89 (Nat.le_of_ble_eq_true rfl) ?_
 conv => whnf
 repeat' (first | (refine g_op ?_; conv => whnf) | (refine And.intro ?_ ?_; (focus exact au0); conv => whnf) | (refine g_seq ?_) | (refine XS.go ?_) | (refine g_ops ?_) | (refine g_loop ?_) | (refine g_nil ?_; conv => whnf) | (refine g_block ?_) | fail)
 refine XLc.mkA (α := Unit) (fun _ => True) (fun _ => 0) (fun i gs => [.nil, .int .i64 k, .any, .any, .any, .int .i64 0]) (fun i gs => []) () True.intro ⟨?_, True.intro⟩ ?_
 ·repeat' (first | exact True.intro | refine And.intro rfl ?_)
 intro i gs hI
 repeat' (first | (refine g_op ?_; conv => whnf) | (refine And.intro ?_ ?_; (focus exact au0); conv => whnf) | (refine g_seq ?_) | (refine XS.go ?_) | (refine g_ops ?_) | (refine g_nil ?_; conv => whnf) | (refine Br.f ?_ ?_; (focus (first | assumption | exact rfl)); conv => whnf) | ((first | refine g_cond ?_ | refine g_ret ?_ | refine g_exit ?_ | refine r_t ?_ | refine r_nil ?_); conv => whnf) | fail)
 rfl
def mk_MateParcel (x : MateParcel) (k : Int) : MateParcel := { x with fKind := k, fBerth := mtext (k + 1), fSeen := ((k + 1) + 1), fHold := mtext (((k + 1) + 1) + 1), fCopy := mtext ((((k + 1) + 1) + 1) + 1), fAt := (((((k + 1) + 1) + 1) + 1) + 1) }
theorem mark_MateParcelS (xs : List MateParcel) (b0 c0 : Nat) (k : Int) (hk : 1 ≤ k) (hl : xs.length ≤ 1048576) (hB : k + (6 * xs.length : Nat) ≤ 50000000) : XC Try.prog 42 [.lsl 0 b0 xs.length c0, .int .i64 k] [(0, b0, .arr 7 (xs.map MateParcel.N) c0)] (fun d ls => d = .int .i64 (k + (6 * xs.length : Nat)) ∧ ls = [(0, b0, .arr 7 ((mkS mk_MateParcel 6 xs k).map MateParcel.N) c0)]) := by
 refine XC.intro' hm [0] rfl c42 (Nat.le_of_ble_eq_true rfl) ?_
 conv => whnf
 repeat' (first | (refine g_op ?_; conv => whnf) | (refine And.intro ?_ ?_; (focus exact au0); conv => whnf) | (refine g_seq ?_) | (refine XS.go ?_) | (refine g_ops ?_) | (refine g_loop ?_) | (refine g_nil ?_; conv => whnf) | (refine g_block ?_) | fail)
 refine XLc.mkG (α := Nat) (fun i gs => i ≤ xs.length ∧ gs 0 = b0) (fun i => xs.length - i) (fun i gs => [.lsl 0 (gs 0) xs.length c0, .int .i64 (k + (6 * i : Nat)), .any, .any, .any, .int .i64 (i : Int)]) (fun i gs => [(0, .arr 7 ((mkP mk_MateParcel 6 xs k i).map MateParcel.N) c0)]) 0 ⟨Nat.zero_le _, rfl⟩ ?_ ?_
 ·refine ⟨?_, ?_⟩
  ·repeat' (first | exact True.intro | refine And.intro rfl ?_ | refine And.intro (congrArg (D.int .i64) (by simp)) ?_)
  ·exact And.intro (by rw [mkP_zero]; rfl) True.intro
 intro i gs hI
 obtain ⟨hi0, hg⟩ := hI
 subst hg
 repeat' (first | (refine g_op ?_; conv => whnf) | (refine And.intro ?_ ?_; (focus exact au0); conv => whnf) | (refine g_seq ?_) | (refine XS.go ?_) | (refine g_ops ?_) | ((first | refine g_nil ?_ | refine g_cond ?_); conv => whnf) | fail)
 refine Br.mk (fun hb => ?_) (fun hb => ?_)
 ·have hlt : i < xs.length := by simpa using hb
  have hj0 : i < ((mkP mk_MateParcel 6 xs k i).map MateParcel.N).length := by rw [List.length_map, mkP_len]; exact hlt
  have he0 : ((mkP mk_MateParcel 6 xs k i).map MateParcel.N).getD i .any = (xs.getD i default).N := by
   rw [elt_map (by rw [mkP_len]; exact hlt), mkP_get _ hlt]
  have hfin : ∀ d, d = (mk_MateParcel (xs.getD i default) (k + (6 * i : Nat))).N → ((mkP mk_MateParcel 6 xs k i).map MateParcel.N).set i d = (mkP mk_MateParcel 6 xs k (i + 1)).map MateParcel.N := fun d h => by
   rw [h, ← mkP_set default hlt, List.map_set]
  have hKe : k + (6 * (i + 1) : Nat) = k + (6 * i : Nat) + 6 := by omega
  have hK0 : 1 ≤ k + (6 * i : Nat) := by omega
  have hK1 : k + (6 * i : Nat) + 6 ≤ 50000000 := by omega
  generalize hK : k + (6 * i : Nat) = K at hfin hK0 hK1 hKe ⊢
  have hw1 : IntKind.wrap .i64 (K + 1) = (K + 1) := wrap_ok (by omega) (by omega)
  have hw2 : IntKind.wrap .i64 ((K + 1) + 1) = ((K + 1) + 1) := wrap_ok (by omega) (by omega)
  have hw3 : IntKind.wrap .i64 (((K + 1) + 1) + 1) = (((K + 1) + 1) + 1) := wrap_ok (by omega) (by omega)
  have hw4 : IntKind.wrap .i64 ((((K + 1) + 1) + 1) + 1) = ((((K + 1) + 1) + 1) + 1) := wrap_ok (by omega) (by omega)
  have hw5 : IntKind.wrap .i64 (((((K + 1) + 1) + 1) + 1) + 1) = (((((K + 1) + 1) + 1) + 1) + 1) := wrap_ok (by omega) (by omega)
  have hw6 : IntKind.wrap .i64 ((((((K + 1) + 1) + 1) + 1) + 1) + 1) = ((((((K + 1) + 1) + 1) + 1) + 1) + 1) := wrap_ok (by omega) (by omega)
  have ht1 := mark_text (IntKind.wrap .i64 (K + 1)) (by first | omega | (simp only [hw1, hw2, hw3, hw4, hw5, hw6]; omega)) (by first | omega | (simp only [hw1, hw2, hw3, hw4, hw5, hw6]; omega))
  have ht3 := mark_text (IntKind.wrap .i64 ((IntKind.wrap .i64 ((IntKind.wrap .i64 (K + 1)) + 1)) + 1)) (by first | omega | (simp only [hw1, hw2, hw3, hw4, hw5, hw6]; omega)) (by first | omega | (simp only [hw1, hw2, hw3, hw4, hw5, hw6]; omega))
  have ht4 := mark_text (IntKind.wrap .i64 ((IntKind.wrap .i64 ((IntKind.wrap .i64 ((IntKind.wrap .i64 (K + 1)) + 1)) + 1)) + 1)) (by first | omega | (simp only [hw1, hw2, hw3, hw4, hw5, hw6]; omega)) (by first | omega | (simp only [hw1, hw2, hw3, hw4, hw5, hw6]; omega))
  conv => whnf
  repeat' (first | (refine z_ld1 ?_; first | (refine z_ld rfl rfl rfl rfl au1 au2 ?_; conv => whnf) | (refine z_ld0 rfl ?_; conv => whnf)) | (refine z_st1 ?_; first | (refine z_st rfl rfl rfl au1 au2 rfl rfl ?_; conv => whnf) | (refine z_st0 ?_; conv => whnf)) | (refine z_ix1 ?_; first | (refine z_ix rfl rfl rfl rfl rfl ⟨by first | omega | (simp only [decide_eq_true_eq, Bool.not_eq_true', Bool.or_eq_false_iff, decide_eq_false_iff_not, Bool.and_eq_true, Bool.not_eq_false'] at *; omega), by first | omega | (simp only [decide_eq_true_eq, Bool.not_eq_true', Bool.or_eq_false_iff, decide_eq_false_iff_not, Bool.and_eq_true, Bool.not_eq_false'] at *; omega)⟩ ?_; conv => whnf) | (refine z_ix0 rfl rfl ?_; conv => whnf)) | (refine z_op ?_ ?_; (focus exact rfl); conv => whnf) | (refine zs_ops ?_ ?_; (focus exact rfl)) | (refine z_nil fun vals => ?_; conv => whnf) | (refine z_call ?_ ?_; (focus exact rfl)) | (refine RC.of (ht1) ?_ ?_; (focus exact rfl); conv => whnf) | (refine RC.of (ht3) ?_ ?_; (focus exact rfl); conv => whnf) | (refine RC.of (ht4) ?_ ?_; (focus exact rfl); conv => whnf) | (refine RC.of (cMW _) ?_ ?_; (focus exact rfl); conv => whnf) | (refine g_op ?_; conv => whnf) | (refine And.intro ?_ ?_; (focus exact au0); conv => whnf) | (refine g_seq ?_) | (refine XS.go ?_) | (refine g_ops ?_) | ((first | refine g_nil ?_ | refine g_skip ?_); conv => whnf) | (refine g_block ?_) | fail)
  have hw : IntKind.wrap .i64 ((i : Int) + 1) = ((i + 1 : Nat) : Int) := by rw [wrap_ok (by omega) (by omega)]; rfl
  refine ⟨i + 1, ⟨by omega, rfl⟩, by omega, ?_, ?_⟩
  ·repeat' (first | exact True.intro | refine And.intro (congrArg (D.int .i64) hw) ?_ | refine And.intro rfl ?_ | refine And.intro (congrArg (D.int .i64) (by simp only [hw1, hw2, hw3, hw4, hw5, hw6]; omega)) ?_)
  ·refine And.intro ?_ True.intro
   refine congrArg (fun l => some (D.arr 7 l c0)) ?_
   simp only [List.set_set]
   exact hfin _ (by simp only [hw1, hw2, hw3, hw4, hw5, hw6]; rfl)
 have hi : i = xs.length := by
  have : ¬ i < xs.length := by simpa using hb
  omega
 subst hi
 rw [mkP_all]
 conv => whnf
 repeat' (first | (refine g_op ?_; conv => whnf) | (refine And.intro ?_ ?_; (focus exact au0); conv => whnf) | (refine g_seq ?_) | (refine XS.go ?_) | (refine g_ops ?_) | ((first | refine g_nil ?_ | refine g_ret ?_ | refine g_exit ?_ | refine r_t ?_ | refine r_nil ?_); conv => whnf) | fail)
 first | exact ⟨rfl, rfl⟩ | exact rfl
theorem held_MateParcelS (xs : List MateParcel) (k : Int) (hk : 1 ≤ k) (hl : xs.length ≤ 1048576) (hB : k + (6 * xs.length : Nat) ≤ 50000000) : Rdr Try.prog 44 [.ro 7 ((mkS mk_MateParcel 6 xs k).map MateParcel.N), .int .i64 k] (.int .i64 (k + (6 * xs.length : Nat))) := by
 have hml : (mkS mk_MateParcel 6 xs k).length = xs.length := mkS_len
 refine Rdr.intro' hm c44 (Nat.le_of_ble_eq_true rfl) ?_
 conv => whnf
 repeat' (first | (refine g_op ?_; conv => whnf) | (refine And.intro ?_ ?_; (focus exact au0); conv => whnf) | (refine g_seq ?_) | (refine XS.go ?_) | (refine g_ops ?_) | (refine g_loop ?_) | (refine g_nil ?_; conv => whnf) | (refine g_block ?_) | fail)
 refine XLc.mkA (α := Nat) (fun i => i ≤ xs.length) (fun i => xs.length - i) (fun i gs => [.ro 7 ((mkS mk_MateParcel 6 xs k).map MateParcel.N), .int .i64 (k + (6 * i : Nat)), .any, .any, .any, .int .i64 (i : Int)]) (fun i gs => []) 0 (Nat.zero_le _) ?_ ?_
 ·refine ⟨?_, True.intro⟩
  ·repeat' (first | exact True.intro | refine And.intro rfl ?_ | refine And.intro (congrArg (D.int .i64) (by simp)) ?_)
 intro i gs hi0
 repeat' (first | (refine g_op ?_; conv => whnf) | (refine And.intro ?_ ?_; (focus exact au0); conv => whnf) | (refine g_seq ?_) | (refine XS.go ?_) | (refine g_ops ?_) | ((first | refine g_nil ?_ | refine g_cond ?_); conv => whnf) | fail)
 refine Br.mk (fun hb => ?_) (fun hb => ?_)
 ·have hlt : i < xs.length := by simpa [mkS_len] using hb
  have hel : (mkS mk_MateParcel 6 xs k).getD i default = mk_MateParcel (xs.getD i default) (k + (6 * i : Nat)) := mkS_get default hlt
  have hlt' : i < (mkS mk_MateParcel 6 xs k).length := by rw [hml]; exact hlt
  have hKe : k + (6 * (i + 1) : Nat) = k + (6 * i : Nat) + 6 := by omega
  have hK0 : 1 ≤ k + (6 * i : Nat) := by omega
  have hK1 : k + (6 * i : Nat) + 6 ≤ 50000000 := by omega
  generalize hK : k + (6 * i : Nat) = K at hel hK0 hK1 hKe ⊢
  have hw1 : IntKind.wrap .i64 (K + 1) = (K + 1) := wrap_ok (by omega) (by omega)
  have hw2 : IntKind.wrap .i64 ((K + 1) + 1) = ((K + 1) + 1) := wrap_ok (by omega) (by omega)
  have hw3 : IntKind.wrap .i64 (((K + 1) + 1) + 1) = (((K + 1) + 1) + 1) := wrap_ok (by omega) (by omega)
  have hw4 : IntKind.wrap .i64 ((((K + 1) + 1) + 1) + 1) = ((((K + 1) + 1) + 1) + 1) := wrap_ok (by omega) (by omega)
  have hw5 : IntKind.wrap .i64 (((((K + 1) + 1) + 1) + 1) + 1) = (((((K + 1) + 1) + 1) + 1) + 1) := wrap_ok (by omega) (by omega)
  have hw6 : IntKind.wrap .i64 ((((((K + 1) + 1) + 1) + 1) + 1) + 1) = ((((((K + 1) + 1) + 1) + 1) + 1) + 1) := wrap_ok (by omega) (by omega)
  have ht1 := mark_text (IntKind.wrap .i64 (K + 1)) (by first | omega | (simp only [hw1, hw2, hw3, hw4, hw5, hw6]; omega)) (by first | omega | (simp only [hw1, hw2, hw3, hw4, hw5, hw6]; omega))
  have ht3 := mark_text (IntKind.wrap .i64 ((IntKind.wrap .i64 ((IntKind.wrap .i64 (K + 1)) + 1)) + 1)) (by first | omega | (simp only [hw1, hw2, hw3, hw4, hw5, hw6]; omega)) (by first | omega | (simp only [hw1, hw2, hw3, hw4, hw5, hw6]; omega))
  have ht4 := mark_text (IntKind.wrap .i64 ((IntKind.wrap .i64 ((IntKind.wrap .i64 ((IntKind.wrap .i64 (K + 1)) + 1)) + 1)) + 1)) (by first | omega | (simp only [hw1, hw2, hw3, hw4, hw5, hw6]; omega)) (by first | omega | (simp only [hw1, hw2, hw3, hw4, hw5, hw6]; omega))
  conv => whnf
  repeat' (first | (refine z_ld1 ?_; first | (refine z_ld rfl rfl rfl rfl au1 au2 ?_; conv => whnf) | (refine z_ld0 rfl ?_; conv => whnf)) | (refine z_ix1 ?_; first | (refine z_ix rfl rfl rfl rfl rfl ⟨by first | omega | (simp only [decide_eq_true_eq, Bool.not_eq_true', Bool.or_eq_false_iff, decide_eq_false_iff_not, Bool.and_eq_true, Bool.not_eq_false'] at *; omega), by first | omega | (simp only [decide_eq_true_eq, Bool.not_eq_true', Bool.or_eq_false_iff, decide_eq_false_iff_not, Bool.and_eq_true, Bool.not_eq_false'] at *; omega)⟩ ?_; conv => whnf) | (refine z_ix0 rfl rfl ?_; conv => whnf)) | (refine z_op ?_ ?_; (focus exact rfl); conv => whnf) | (refine zs_ops ?_ ?_; (focus exact rfl)) | (refine zs_quiet ?_ ?_; (focus exact rfl)) | (refine z_nil fun vals => ?_; conv => whnf) | (refine z_call ?_ ?_; (focus exact rfl)) | (refine RC.of (ht1) ?_ ?_; (focus exact rfl); conv => whnf) | (refine RC.of (ht3) ?_ ?_; (focus exact rfl); conv => whnf) | (refine RC.of (ht4) ?_ ?_; (focus exact rfl); conv => whnf) | (refine RC.of (cHW _) ?_ ?_; (focus exact rfl); conv => whnf) | (refine g_op ?_; conv => whnf) | (refine And.intro ?_ ?_; (focus exact au0); conv => whnf) | (refine g_seq ?_) | (refine XS.go ?_) | (refine g_ops ?_) | ((first | refine g_nil ?_ | refine g_cond ?_ | refine g_skip ?_); conv => whnf) | (refine g_block ?_) | (refine Br.f (by exact decide_eq_false (by first | omega | (simp only [hw1, hw2, hw3]; omega))) ?_; conv => whnf) | (refine Br.f (by simp only [Int.toNat_natCast, hel, hw1, hw2, hw3, hw4, hw5, hw6, mk_MateParcel] <;> simp) ?_; conv => whnf) | fail)
  have hw : IntKind.wrap .i64 ((i : Int) + 1) = ((i + 1 : Nat) : Int) := by rw [wrap_ok (by omega) (by omega)]; rfl
  refine ⟨i + 1, by omega, by omega, ?_, True.intro⟩
  ·repeat' (first | exact True.intro | refine And.intro (congrArg (D.int .i64) hw) ?_ | refine And.intro rfl ?_ | refine And.intro (congrArg (D.int .i64) (by simp only [hw1, hw2, hw3, hw4, hw5, hw6]; omega)) ?_)
 have hi : i = xs.length := by
  have : ¬ i < xs.length := by simpa [mkS_len] using hb
  omega
 subst hi
 conv => whnf
 repeat' (first | (refine g_op ?_; conv => whnf) | (refine And.intro ?_ ?_; (focus exact au0); conv => whnf) | (refine g_seq ?_) | (refine XS.go ?_) | (refine g_ops ?_) | ((first | refine g_nil ?_ | refine g_ret ?_ | refine g_exit ?_ | refine r_t ?_ | refine r_nil ?_); conv => whnf) | fail)
 rfl
theorem markx_MateParcelS (s : Nat) (xs : List MateParcel) (b0 c0 : Nat) (k : Int) (hk : 1 ≤ k) (hl : xs.length ≤ 1048576) (hB : k + (6 * xs.length : Nat) ≤ 50000000) : XC Try.prog 42 [.lsl s b0 xs.length c0, .int .i64 k] [(s, b0, .arr 7 (xs.map MateParcel.N) c0)] (fun d ls => d = .int .i64 (k + (6 * xs.length : Nat)) ∧ ls = [(s, b0, .arr 7 ((mkS mk_MateParcel 6 xs k).map MateParcel.N) c0)]) := by
 refine (mark_MateParcelS xs b0 c0 k hk hl hB).ren (fun _ _ _ h => h) rfl (fun d ls ⟨h1, h2⟩ => ?_)
 subst h1 h2
 exact ⟨_, _, ⟨rfl, rfl⟩, fun _ _ _ h => HolL.ren rfl h, fun _ _ _ h => h⟩
/-! ### Equal parcels -/
theorem Rdr.pre {P : Program} {f : FuncId} {ds ds2 : List Go.Ab.D} {d : Go.Ab.D} (h : Rdr P f ds d) (hd : ∀ U w vs, RelT U w ds2 vs → RelT U w ds vs) : Rdr P f ds2 d := by
 unfold Rdr at h ⊢
 exact ⟨h.1, fun U w vs hU hT => h.2 U w vs hU (hd _ _ _ hT)⟩
theorem parN_D (x : MateParcel) (U : Nat → Prop) (w : World) (v : Value) (h : RelV U w x.N v) : RelV U w ({ x with fWants := [] } : MateParcel).D v :=
 RelV.aggImp (RelF.imp (fun _ h => h) (RelF.imp (fun _ h => h) (RelF.imp (fun _ h => h) (RelF.imp (fun _ h => nil_ro h) (RelF.imp (fun _ h => h) (RelF.imp (fun _ h => h) (RelF.imp (fun _ h => h) (fun _ h => h)))))))) v h
theorem eq_ParcelN (x : MateParcel) : Rdr Try.prog 58 [x.N, x.N] (.bool true) := by
 refine Rdr.pre (eq_MateParcel { x with fWants := [] } ?_) fun U w vs h => ?_
 ·constructor <;> exact ⟨Nat.zero_le _, fun y hy => absurd hy List.not_mem_nil⟩
 ·obtain ⟨v, r, e, h1, v2, r2, e2, h2, h3⟩ := h
  exact ⟨v, r, e, parN_D x U w v h1, v2, r2, e2, parN_D x U w v2 h2, h3⟩
theorem eq_ParcelNS (l : List MateParcel) (hl : l.length ≤ 1048576) : Rdr Try.prog 40 [.ro 7 (l.map MateParcel.N), .ro 7 (l.map MateParcel.N)] (.bool true) :=
 eqS_rdr hm c40 (by decide) (by rw [List.length_map]; exact Nat.le_trans hl (by decide)) (fun d hd => by obtain ⟨x, hx, rfl⟩ := List.mem_map.1 hd; exact ⟨_, rfl, rfl, eq_ParcelN x⟩)
/-! ### What a tick answers -/
def tickR (m : Mate) (rate : Int) : Mate × List MateParcel :=
 if validM m = true then (if inR rate 1 4 = true then (if decide (IntKind.wrap .i64 (m.fClock + rate) > 1000000) = true then (tickC m rate, []) else if m.fUp = true then ((asksR (tickY m rate)).1, outs (asksR (tickY m rate))) else (tickX m rate, [])) else (m, [])) else (default, [])
theorem tick_cases {C : Mate × List MateParcel → Prop} (m : Mate) (rate : Int) (h0 : validM m = false → C (default, [])) (h1 : validM m = true → inR rate 1 4 = false → C (m, []))
  (h2 : validM m = true → inR rate 1 4 = true → decide (IntKind.wrap .i64 (m.fClock + rate) > 1000000) = true → C (tickC m rate, []))
  (h3 : validM m = true → inR rate 1 4 = true → decide (IntKind.wrap .i64 (m.fClock + rate) > 1000000) = false → m.fUp = false → C (tickX m rate, []))
  (h4 : validM m = true → inR rate 1 4 = true → decide (IntKind.wrap .i64 (m.fClock + rate) > 1000000) = false → m.fUp = true → C ((asksR (tickY m rate)).1, outs (asksR (tickY m rate)))) : C (tickR m rate) := by
 unfold tickR
 cases hv : validM m with
 | false => rw [if_neg Bool.false_ne_true]; exact h0 hv
 | true =>
  rw [if_pos rfl]
  cases hr : inR rate 1 4 with
  | false => rw [if_neg Bool.false_ne_true]; exact h1 hv hr
  | true =>
   rw [if_pos rfl]
   cases hk : decide (IntKind.wrap .i64 (m.fClock + rate) > 1000000) with
   | true => rw [if_pos rfl]; exact h2 hv hr hk
   | false =>
    rw [if_neg Bool.false_ne_true]
    cases hu : m.fUp with
    | false => rw [if_neg Bool.false_ne_true]; exact h3 hv hr hk hu
    | true => rw [if_pos rfl]; exact h4 hv hr hk hu
theorem small_of {m x : Mate} (hs : m.small) (hw : x.fWants = m.fWants ∨ x.fWants = []) (hr : x.fRuns.length ≤ 1048576) (ha : x.fAsks.length ≤ 1048576) (hg : x.fGives.length ≤ 1048576) : x.small := by
 refine ⟨?_, ⟨hr, fun _ _ => ⟨⟨⟩⟩⟩, ⟨ha, fun _ _ => ⟨⟩⟩, ⟨hg, fun _ _ => ⟨⟩⟩⟩
 rcases hw with h | h
 ·rw [h]; exact hs.fWants
 ·rw [h]; exact ⟨Nat.zero_le _, fun y hy => absurd hy List.not_mem_nil⟩
theorem tickY_wants (m : Mate) (rate : Int) : (tickY m rate).fWants = m.fWants := by
 unfold tickY
 split <;> rfl
theorem tickC_eq {m : Mate} (rate : Int) (hv : validM m = true) : tickC m rate = { fName := m.fName, fUp := false, fClock := 1000000, fKnown := false, fSeen := 0, fWants := [], fRuns := fallL true m.fRuns m.fRuns.length, fAsks := [], fGives := [] } := by
 unfold tickC
 simp [fallR, hv]
theorem tick_ok (m : Mate) (rate : Int) (hs : m.small) : (tickR m rate).1.small ∧ (tickR m rate).2.length ≤ 1048576 := by
 refine tick_cases (C := fun R => R.1.small ∧ R.2.length ≤ 1048576) m rate (fun _ => ⟨?_, Nat.zero_le _⟩) (fun _ _ => ⟨hs, Nat.zero_le _⟩) (fun hv _ _ => ⟨?_, Nat.zero_le _⟩) (fun hv _ _ _ => ⟨?_, Nat.zero_le _⟩) (fun hv _ _ _ => ?_)
 ·constructor <;> exact ⟨Nat.zero_le _, fun y hy => absurd hy List.not_mem_nil⟩
 ·rw [tickC_eq rate hv]
  have := (TK.valid hv).r
  exact small_of hs (.inr rfl) (Nat.le_trans fallL_len (by omega)) (Nat.zero_le _) (Nat.zero_le _)
 ·have h := (TK.valid hv).tickX rate
  have h1 := h.r
  have h2 := h.a
  have h3 := h.g
  exact small_of hs (.inl rfl) (by show (tickX m rate).fRuns.length ≤ _; omega) (by show (tickX m rate).fAsks.length ≤ _; omega) (by show (tickX m rate).fGives.length ≤ _; omega)
 ·have h := (TK.valid hv).tickY rate
  have h1 := h.r
  have h2 := h.a
  have h3 := h.g
  have h4 := askL_len (tickY m rate) (Nat.le_refl (tickY m rate).fRuns.length)
  refine ⟨small_of hs (.inl (tickY_wants m rate)) (by show (tickY m rate).fRuns.length ≤ _; omega) (by show (askL _ _).asks.length ≤ _; omega) (by show (tickY m rate).fGives.length ≤ _; omega), ?_⟩
  show (outs _).length ≤ _
  unfold outs
  rw [List.length_append, List.length_append, List.length_map]
  show (askL (tickY m rate) (tickY m rate).fRuns.length).out.length + (tickY m rate).fGives.length + 1 ≤ _
  omega
theorem tup_ro {U : Nat → Prop} {w : World} {v : Value} {d d2 : Go.Ab.D} (hd : ∀ v, RelW U w d v → RelW U w d2 v) (h : RelV U w (.tup [d, .nil]) v) : RelV U w (.tup [d2, .ro 7 (([] : List MateParcel).map MateParcel.N)]) v := by
 obtain ⟨vs, e, v1, r, e1, h1, v2, r2, e2, h2, h3⟩ := h
 exact ⟨vs, e, v1, r, e1, hd _ h1, v2, r2, e2, nil_ro h2, h3⟩
theorem tup_own {U : Nat → Prop} {w : World} {v : Value} {d d2 : Go.Ab.D} (s : Nat) (hd : ∀ v, RelW U w d v → RelW U w d2 v) (h : RelV U w (.tup [d, .nil]) v) : RelV U w (.tup [d2, .lsl s 0 ([] : List MateParcel).length 0]) v := by
 obtain ⟨vs, e, v1, r, e1, h1, v2, r2, e2, h2, h3⟩ := h
 exact ⟨vs, e, v1, r, e1, hd _ h1, v2, r2, e2, (show RelC U w (.lsl s 0 0 0) [v2] from nil_lsl h2), h3⟩
theorem spec_Tick (m : Mate) (rate : Int) (hs : m.small) : Rdr Try.prog 36 [m.D, .int .i64 rate] (.tup [(tickR m rate).1.D, .ro 7 ((tickR m rate).2.map MateParcel.N)]) := by
 refine tick_cases (C := fun R => Rdr Try.prog 36 [m.D, .int .i64 rate] (.tup [R.1.D, .ro 7 (R.2.map MateParcel.N)])) m rate (fun hv => ?_) (fun hv hr => ?_) (fun hv hr hk => ?_) (fun hv hr hk hu => ?_) (fun hv hr hk hu => ?_)
 ·exact (spec_Tick0 m rate hv).imp fun U w v h => tup_ro (d := mateZ) (fun v h => mateZ_ro U w v h) h
 ·exact (spec_Tick1 m rate ((TK.valid hv).len (by decide) (by decide)) hv hr).imp fun U w v h => tup_ro (fun v h => h) h
 ·exact (spec_Tick2 m rate hs ((TK.valid hv).len (by decide) (by decide)) hv hr hk).imp fun U w v h => tup_ro (fun v h => h) h
 ·exact (spec_Tick3 m rate ((TK.valid hv).len (by decide) (by decide)) hv hr hk hu).imp fun U w v h => tup_ro (fun v h => h) h
 ·have k0 := TK.valid hv
  have kY := k0.tickY rate
  have h1 := kY.r
  have h2 := kY.a
  have h4 := askL_len (tickY m rate) (Nat.le_refl (tickY m rate).fRuns.length)
  refine spec_Tick4 m rate (k0.len (by decide) (by decide)) ((k0.tickX rate).len (by decide) (by decide)) (kY.len (by decide) (by decide)) (by omega) ?_ (by show (askL _ _).out.length ≤ _; omega) hv hr hk hu
  exact ⟨(kY.len (by decide) (by decide)).w, (kY.len (by decide) (by decide)).r, ⟨by show (askL _ _).asks.length ≤ _; omega, True.intro⟩, (kY.len (by decide) (by decide)).g⟩
/-! ### The program's tick -/
def TO (R : Mate × List MateParcel) (s1 s2 s3 s4 s5 : Nat) (d : Go.Ab.D) (ls : List Loan) : Prop := ∃ b1 b2 b3 b4 b5 c1 c2 c3 c4 c5, d = .tup [R.1.O s1 s2 s3 s4 b1 b2 b3 b4 c1 c2 c3 c4, .lsl s5 b5 R.2.length c5] ∧ ls = R.1.L s1 s2 s3 s4 b1 b2 b3 b4 c1 c2 c3 c4 ++ [(s5, b5, .arr 7 (R.2.map MateParcel.N) c5)]
theorem XC.namesT {f : FuncId} {ds : List Go.Ab.D} {R : Mate × List MateParcel} {s1 s2 s3 s4 s5 : Nat} (t1 t2 t3 t4 t5 : Nat) (h : XC Try.prog f ds [] (TO R s1 s2 s3 s4 s5)) : XC Try.prog f ds [] (TO R t1 t2 t3 t4 t5) := by
 refine h.ren (fun _ _ _ h => h) rfl (fun d ls ⟨d1, d2, d3, d4, d5, e1, e2, e3, e4, e5, h1, h2⟩ => ?_)
 subst h1 h2
 exact ⟨_, _, ⟨d1, d2, d3, d4, d5, e1, e2, e3, e4, e5, rfl, rfl⟩, fun _ _ _ h => HolL.ren rfl h, fun _ _ _ h => h⟩
theorem XC.nilT {f : FuncId} {ds : List Go.Ab.D} {R : Mate} {s1 s2 s3 s4 : Nat} (s5 : Nat) (h : XC Try.prog f ds [] (fun d ls => ∃ d1 d2 d3 d4 e1 e2 e3 e4, d = .tup [R.O s1 s2 s3 s4 d1 d2 d3 d4 e1 e2 e3 e4, .nil] ∧ ls = R.L s1 s2 s3 s4 d1 d2 d3 d4 e1 e2 e3 e4)) : XC Try.prog f ds [] (TO (R, []) s1 s2 s3 s4 s5) := by
 refine h.ren (fun _ _ _ h => h) rfl (fun d ls ⟨d1, d2, d3, d4, e1, e2, e3, e4, h1, h2⟩ => ?_)
 subst h1 h2
 exact ⟨_, _, ⟨d1, d2, d3, d4, 0, e1, e2, e3, e4, 0, rfl, rfl⟩, fun U w F h => HolL.app (show HolL U w [(s5, 0, .arr 7 [] 0)] [] from .snil _ _ _ rfl) h, fun _ _ _ h => tup_own s5 (fun v h => h) h⟩
theorem impl_TickX (m : Mate) (rate : Int) (hs : m.small) : XC Try.prog 38 [m.D, .int .i64 rate] [] (TO (tickR m rate) 41 42 43 44 46) := by
 have hq := impl_MateValid m
 refine tick_cases (C := fun R => XC Try.prog 38 [m.D, .int .i64 rate] [] (TO R 41 42 43 44 46)) m rate (fun hv => ?_) (fun hv hr => ?_) (fun hv hr hk => ?_) (fun hv hr hk hu => ?_) (fun hv hr hk hu => ?_)
 ·rw [hv] at hq
  have h : XC Try.prog 38 [m.D, .int .i64 rate] [] (fun d ls => d = .tup [mateZ, .nil] ∧ ls = []) := by
   refine XC.intro' hm [] rfl c38 (Nat.le_of_ble_eq_true rfl) ?_
   conv => whnf
   repeat' (first | (refine g_op ?_; conv => whnf) | (refine And.intro ?_ ?_; (focus exact au0); conv => whnf) | (refine g_seq ?_) | (refine XS.go ?_) | (refine g_ops ?_) | (refine g_nil ?_; conv => whnf) | (refine Br.t ?_ ?_; (focus (first | assumption | exact rfl)); conv => whnf) | ((first | refine g_cond ?_ | refine g_ret ?_ | refine r_t ?_ | refine r_c ?_ | refine r_nil ?_ | refine fun _ => ?_ | refine XCL.of_rdr (hq) ?_); conv => whnf) | fail)
   first | done | exact ⟨rfl, rfl⟩ | exact rfl
  refine h.ren (fun _ _ _ h => h) rfl (fun d l ⟨h1, h2⟩ => ?_)
  subst h1 h2
  refine ⟨_, _, ⟨0, 0, 0, 0, 0, 0, 0, 0, 0, 0, rfl, rfl⟩, fun U w F h => ?_, fun U w v h => tup_own (d := mateZ) 46 (fun v h => mateZ_own _ _ _ _ U w v h) h⟩
  have h : F = [] := h
  subst h
  exact HolL.app (show HolL U w [(46, 0, .arr 7 [] 0)] [] from .snil _ _ _ rfl) (mateZ_hol _ _ _ _ U w)
 ·rw [hv] at hq
  refine XC.namesT 41 42 43 44 46 (s1 := 31) (s2 := 32) (s3 := 33) (s4 := 34) (s5 := 46) (XC.nilT 46 ?_)
  have hT := fun b d1 d2 d3 d4 e1 e2 e3 e4 => impl_tick1 m rate b d1 d2 d3 d4 e1 e2 e3 e4 hr
  refine XC.intro' hm [31, 32, 33, 34] rfl c38 (Nat.le_of_ble_eq_true rfl) ?_
  conv => whnf
  repeat' (first | (refine g_op ?_; conv => whnf) | (refine And.intro ?_ ?_; (focus exact au0); conv => whnf) | (refine g_seq ?_) | (refine XS.go ?_) | (refine g_ops ?_) | (refine g_nil ?_; conv => whnf) | (refine Br.f ?_ ?_; (focus (first | assumption | exact rfl)); conv => whnf) | ((first | refine g_cond ?_ | refine g_skip ?_ | refine fun _ => ?_ | refine XCL.of_rdr (hq) ?_); conv => whnf) | fail)
  refine XCL.of_XC (ls := []) True.intro ((impl_CloneF m hs).mono fun d ls h => ?_)
  obtain ⟨d1, d2, d3, d4, e1, e2, e3, e4, rfl, rfl⟩ := h
  conv => whnf
  repeat' (first | (refine g_op ?_; conv => whnf) | (refine And.intro ?_ ?_; (focus exact au0); conv => whnf) | (refine g_seq ?_) | (refine XS.go ?_) | (refine g_ops ?_) | ((first | refine g_nil ?_ | refine fun _ => ?_); conv => whnf) | fail)
  refine XCL.of_XC (ls := (6, _, m.O 31 32 33 34 d1 d2 d3 d4 e1 e2 e3 e4) :: m.L 31 32 33 34 d1 d2 d3 d4 e1 e2 e3 e4) ⟨rfl, rfl, rfl, rfl, rfl, rfl, rfl, rfl, rfl, rfl, rfl, rfl, rfl, rfl, rfl, True.intro⟩ ((hT _ d1 d2 d3 d4 e1 e2 e3 e4).mono fun d ls h => ?_)
  obtain ⟨rfl, rfl⟩ := h
  conv => whnf
  repeat' (first | (refine g_op ?_; conv => whnf) | (refine And.intro ?_ ?_; (focus exact au0); conv => whnf) | (refine g_seq ?_) | (refine XS.go ?_) | (refine g_ops ?_) | ((first | refine g_nil ?_ | refine g_ret ?_ | refine r_t ?_ | refine r_c ?_ | refine r_nil ?_); conv => whnf) | fail)
  exact ⟨d1, d2, d3, d4, e1, e2, e3, e4, rfl, rfl⟩
 ·rw [hv] at hq
  have hl : m.fRuns.length ≤ 1048576 := by have := (TK.valid hv).r; omega
  have hT := fun b d1 d2 d3 d4 e1 e2 e3 e4 => impl_tick2 m rate b d1 d2 d3 d4 e1 e2 e3 e4 hr hl hk
  rw [tickC_eq rate hv]
  refine XC.namesT 41 42 43 44 46 (s1 := 51) (s2 := 47) (s3 := 53) (s4 := 54) (s5 := 46) (XC.nilT 46 ?_)
  have h : XC Try.prog 38 [m.D, .int .i64 rate] [] (fun d ls => ∃ bb cc, d = .tup [fallF { m with fClock := 1000000 } bb (fallL true m.fRuns m.fRuns.length).length cc 47, .nil] ∧ ls = [(47, bb, .arr 11 ((fallL true m.fRuns m.fRuns.length).map MateRun.D) cc)]) := by
   generalize fallL true m.fRuns m.fRuns.length = L at hT ⊢
   refine XC.intro' hm [47] rfl c38 (Nat.le_of_ble_eq_true rfl) ?_
   conv => whnf
   repeat' (first | (refine g_op ?_; conv => whnf) | (refine And.intro ?_ ?_; (focus exact au0); conv => whnf) | (refine g_seq ?_) | (refine XS.go ?_) | (refine g_ops ?_) | (refine g_nil ?_; conv => whnf) | (refine Br.f ?_ ?_; (focus (first | assumption | exact rfl)); conv => whnf) | ((first | refine g_cond ?_ | refine g_skip ?_ | refine fun _ => ?_ | refine XCL.of_rdr (hq) ?_); conv => whnf) | fail)
   refine XCL.of_XC (ls := []) True.intro ((impl_CloneF m hs).mono fun d ls h => ?_)
   obtain ⟨d1, d2, d3, d4, e1, e2, e3, e4, rfl, rfl⟩ := h
   conv => whnf
   repeat' (first | (refine g_op ?_; conv => whnf) | (refine And.intro ?_ ?_; (focus exact au0); conv => whnf) | (refine g_seq ?_) | (refine XS.go ?_) | (refine g_ops ?_) | ((first | refine g_nil ?_ | refine fun _ => ?_); conv => whnf) | fail)
   refine XCL.of_XC (ls := (6, _, m.O 31 32 33 34 d1 d2 d3 d4 e1 e2 e3 e4) :: m.L 31 32 33 34 d1 d2 d3 d4 e1 e2 e3 e4) ⟨rfl, rfl, rfl, rfl, rfl, rfl, rfl, rfl, rfl, rfl, rfl, rfl, rfl, rfl, rfl, True.intro⟩ ((hT _ d1 d2 d3 d4 e1 e2 e3 e4).mono fun d ls h => ?_)
   obtain ⟨rfl, bb, cc, rfl⟩ := h
   conv => whnf
   repeat' (first | (refine g_op ?_; conv => whnf) | (refine And.intro ?_ ?_; (focus exact au0); conv => whnf) | (refine g_seq ?_) | (refine XS.go ?_) | (refine g_ops ?_) | ((first | refine g_nil ?_ | refine g_ret ?_ | refine r_t ?_ | refine r_c ?_ | refine r_nil ?_); conv => whnf) | fail)
   exact ⟨bb, cc, rfl, rfl⟩
  refine h.ren (fun _ _ _ h => h) rfl (fun d l ⟨bb, cc, h1, h2⟩ => ?_)
  subst h1 h2
  refine ⟨_, _, ⟨0, bb, 0, 0, 0, cc, 0, 0, rfl, rfl⟩, fun U w F h => ?_, fun U w v h => ?_⟩
  ·obtain ⟨F1, F2, h1, h2, h3⟩ := h
   exact .snil _ _ _ ⟨F1, F2, h1, h2, .snil _ _ _ (.snil _ _ _ h3)⟩
  ·obtain ⟨vs, e, v1, r, e1, h1, v2, r2, e2, h2, h3⟩ := h
   refine ⟨vs, e, v1, r, e1, ?_, v2, r2, e2, h2, h3⟩
   exact RelV.aggImp (RelF.imp (fun _ h => h) (RelF.imp (fun _ h => h) (RelF.imp (fun _ h => h) (RelF.imp (fun _ h => h) (RelF.imp (fun _ h => h) (RelF.imp (fun _ h => nil_lsl h) (RelF.imp (fun _ h => h) (RelF.imp (fun _ h => nil_lsl h) (RelF.imp (fun _ h => nil_lsl h) (fun _ h => h)))))))))) _ h1
 ·rw [hv] at hq
  refine XC.namesT 41 42 43 44 46 (s1 := 31) (s2 := 32) (s3 := 33) (s4 := 34) (s5 := 46) (XC.nilT 46 ?_)
  have hl : m.fRuns.length ≤ 1048576 := by have := (TK.valid hv).r; omega
  have hT := fun b d1 d2 d3 d4 e1 e2 e3 e4 => impl_tick3 m rate b d1 d2 d3 d4 e1 e2 e3 e4 hr hl hk hu
  generalize tickX m rate = X at hT ⊢
  refine XC.intro' hm [31, 32, 33, 34] rfl c38 (Nat.le_of_ble_eq_true rfl) ?_
  conv => whnf
  repeat' (first | (refine g_op ?_; conv => whnf) | (refine And.intro ?_ ?_; (focus exact au0); conv => whnf) | (refine g_seq ?_) | (refine XS.go ?_) | (refine g_ops ?_) | (refine g_nil ?_; conv => whnf) | (refine Br.f ?_ ?_; (focus (first | assumption | exact rfl)); conv => whnf) | ((first | refine g_cond ?_ | refine g_skip ?_ | refine fun _ => ?_ | refine XCL.of_rdr (hq) ?_); conv => whnf) | fail)
  refine XCL.of_XC (ls := []) True.intro ((impl_CloneF m hs).mono fun d ls h => ?_)
  obtain ⟨d1, d2, d3, d4, e1, e2, e3, e4, rfl, rfl⟩ := h
  conv => whnf
  repeat' (first | (refine g_op ?_; conv => whnf) | (refine And.intro ?_ ?_; (focus exact au0); conv => whnf) | (refine g_seq ?_) | (refine XS.go ?_) | (refine g_ops ?_) | ((first | refine g_nil ?_ | refine fun _ => ?_); conv => whnf) | fail)
  refine XCL.of_XC (ls := (6, _, m.O 31 32 33 34 d1 d2 d3 d4 e1 e2 e3 e4) :: m.L 31 32 33 34 d1 d2 d3 d4 e1 e2 e3 e4) ⟨rfl, rfl, rfl, rfl, rfl, rfl, rfl, rfl, rfl, rfl, rfl, rfl, rfl, rfl, rfl, True.intro⟩ ((hT _ d1 d2 d3 d4 e1 e2 e3 e4).mono fun d ls h => ?_)
  obtain ⟨rfl, q2, r2, rfl⟩ := h
  conv => whnf
  repeat' (first | (refine g_op ?_; conv => whnf) | (refine And.intro ?_ ?_; (focus exact au0); conv => whnf) | (refine g_seq ?_) | (refine XS.go ?_) | (refine g_ops ?_) | ((first | refine g_nil ?_ | refine g_ret ?_ | refine r_t ?_ | refine r_c ?_ | refine r_nil ?_); conv => whnf) | fail)
  exact ⟨d1, q2, d3, d4, e1, r2, e3, e4, rfl, rfl⟩
 ·rw [hv] at hq
  refine XC.namesT 41 42 43 44 46 (s1 := 31) (s2 := 45) (s3 := 33) (s4 := 34) (s5 := 246) ?_
  have hT := fun b d1 d2 d3 d4 e1 e2 e3 e4 => impl_tick4 m rate b d1 d2 d3 d4 e1 e2 e3 e4 hr (TK.valid hv) hk hu
  generalize outs (asksR (tickY m rate)) = P at hT ⊢
  generalize (asksR (tickY m rate)).1 = X at hT ⊢
  refine XC.intro' hm [31, 45, 33, 34, 246] rfl c38 (Nat.le_of_ble_eq_true rfl) ?_
  conv => whnf
  repeat' (first | (refine g_op ?_; conv => whnf) | (refine And.intro ?_ ?_; (focus exact au0); conv => whnf) | (refine g_seq ?_) | (refine XS.go ?_) | (refine g_ops ?_) | (refine g_nil ?_; conv => whnf) | (refine Br.f ?_ ?_; (focus (first | assumption | exact rfl)); conv => whnf) | ((first | refine g_cond ?_ | refine g_skip ?_ | refine fun _ => ?_ | refine XCL.of_rdr (hq) ?_); conv => whnf) | fail)
  refine XCL.of_XC (ls := []) True.intro ((impl_CloneF m hs).mono fun d ls h => ?_)
  obtain ⟨d1, d2, d3, d4, e1, e2, e3, e4, rfl, rfl⟩ := h
  conv => whnf
  repeat' (first | (refine g_op ?_; conv => whnf) | (refine And.intro ?_ ?_; (focus exact au0); conv => whnf) | (refine g_seq ?_) | (refine XS.go ?_) | (refine g_ops ?_) | ((first | refine g_nil ?_ | refine fun _ => ?_); conv => whnf) | fail)
  refine XCL.of_XC (ls := (6, _, m.O 31 32 33 34 d1 d2 d3 d4 e1 e2 e3 e4) :: m.L 31 32 33 34 d1 d2 d3 d4 e1 e2 e3 e4) ⟨rfl, rfl, rfl, rfl, rfl, rfl, rfl, rfl, rfl, rfl, rfl, rfl, rfl, rfl, rfl, True.intro⟩ ((hT _ d1 d2 d3 d4 e1 e2 e3 e4).mono fun d ls h => ?_)
  obtain ⟨bp, cp, q2, q3, q4, r2, r3, r4, rfl, rfl⟩ := h
  conv => whnf
  repeat' (first | (refine g_op ?_; conv => whnf) | (refine And.intro ?_ ?_; (focus exact au0); conv => whnf) | (refine g_seq ?_) | (refine XS.go ?_) | (refine g_ops ?_) | ((first | refine g_nil ?_ | refine g_ret ?_ | refine r_t ?_ | refine r_c ?_ | refine r_nil ?_); conv => whnf) | fail)
  exact ⟨d1, q2, q3, q4, bp, e1, r2, r3, r4, cp, rfl, rfl⟩
end Go.Ab
