/- Steps towards the law: the machine, contracts of functions and facts of lists. -/
import Derived.Test.YtagleaabhljkfaaMateD
import Derived.Test.YtagleaabhljkfaaRows
set_option linter.unusedSimpArgs false
set_option linter.unusedVariables false
namespace Go.Ab
open Go Go.RowKit Go.Proofs
attribute [local irreducible] XC Rdr IntKind.wrap xw xos xqs xr xd
set_option maxRecDepth 100000
set_option maxHeartbeats 16000000
def cf75 : CF := ⟨16,[.c 4 11 true],(.seq (.ops [Oo 2 (.bx (.t 0)),Oo 4 (.al (.agg [.agg [.str ⟨#[]⟩,.int .i64 0,.str ⟨#[]⟩,.int .i64 0,.int .i64 0,.int .i64 0,.int .i64 0],.int .i64 0,.int .i64 0,.int .i64 0,.int .i64 0]))]) (.seq (.ops [Oo 5 (.fa 7 1 1 (.t 2)),⟨none,.st 1 (.t 5) (.k (.int .i64 2)),none⟩]) (.seq (.ops [Oo 6 (.fa 8 1 2 (.t 2)),⟨none,.st 1 (.t 6) (.k (.int .i64 0)),none⟩]) (.seq (.seq (.ops [Od 7 11 2,Om 8 1,Oc 9 76 [.t 7,.t 8]]) (.cond (.t 9) (.seq (.ops [Oo 10 (.fa 7 1 1 (.t 2)),⟨none,.st 1 (.t 10) (.k (.int .i64 3)),none⟩]) (.ops [Oo 11 (.fa 0 7 0 (.t 2)),Of 12 4 11,Ol 13 12,Oo 14 (.fa 8 1 2 (.t 2)),Os 1 14 13])) .skip)) (.seq (.ops [Od 15 11 2,Os 11 4 15]) .ret)))))⟩
theorem c75 : compileF Try.prog [] 75 = some cf75 := by kernel_rfl
def cf73 : CF := ⟨24,[.c 4 11 true],(.seq (.ops [Oo 2 (.bx (.t 0)),Oo 4 (.al (.agg [.agg [.str ⟨#[]⟩,.int .i64 0,.str ⟨#[]⟩,.int .i64 0,.int .i64 0,.int .i64 0,.int .i64 0],.int .i64 0,.int .i64 0,.int .i64 0,.int .i64 0]))]) (.seq (.seq (.ops [Oo 5 (.fa 0 7 0 (.t 2)),Of 6 2 5,Ol 7 6,Oo 8 (.bin .eql (.t 7) (.k (.str ⟨#[]⟩))),Om 9 8,⟨some 10,.fa 10 1 4 (.t 2),some (9,false)⟩,⟨some 11,.ld 1 false (.t 10),some (9,false)⟩,⟨some 12,.mv (.t 1),some (9,false)⟩,⟨some 13,.bin .add (.t 12) (.k (.int .i64 4)),some (9,false)⟩,⟨some 14,.bin .geq (.t 11) (.t 13),some (9,false)⟩,Oo 15 (.pick (.t 9) (.k (.bool true)) (.t 14))]) (.cond (.t 15) (.ops [Oo 16 (.fa 0 7 0 (.t 2)),Of 17 4 16,Ol 18 17,Oo 19 (.fa 7 1 1 (.t 2)),⟨none,.st 1 (.t 19) (.k (.int .i64 3)),none⟩,Oo 20 (.fa 8 1 2 (.t 2)),Os 1 20 18]) (.ops [Oo 21 (.fa 7 1 1 (.t 2)),⟨none,.st 1 (.t 21) (.k (.int .i64 2)),none⟩,Oo 22 (.fa 8 1 2 (.t 2)),⟨none,.st 1 (.t 22) (.k (.int .i64 0)),none⟩]))) (.seq (.ops [Od 23 11 2,Os 11 4 23]) .ret)))⟩
theorem c73 : compileF Try.prog [] 73 = some cf73 := by kernel_rfl
def cf74 : CF := ⟨29,[.c 2 11 true],(.seq (.ops [Oo 1 (.bx (.t 0)),Oo 2 (.al (.agg [.agg [.str ⟨#[]⟩,.int .i64 0,.str ⟨#[]⟩,.int .i64 0,.int .i64 0,.int .i64 0,.int .i64 0],.int .i64 0,.int .i64 0,.int .i64 0,.int .i64 0]))]) (.seq (.seq (.ops [Oo 4 (.fa 9 1 3 (.t 1)),Ol 5 4,Oo 6 (.bin .lss (.t 5) (.k (.int .i64 1000)))]) (.cond (.t 6) (.ops [Oo 7 (.fa 9 1 3 (.t 1)),Ol 8 7,Oi 9 8,Oo 10 (.fa 9 1 3 (.t 1)),Os 1 10 9]) .skip)) (.seq (.ops [Oo 11 (.fa 7 1 1 (.t 1)),⟨none,.st 1 (.t 11) (.k (.int .i64 5)),none⟩]) (.seq (.ops [Oo 12 (.fa 8 1 2 (.t 1)),⟨none,.st 1 (.t 12) (.k (.int .i64 1)),none⟩]) (.seq (.seq (.ops [Ok 3 (.int .i64 0)]) (.block 0 (.loop (.seq (.seq (.ops [Om 13 3,Oo 14 (.fa 9 1 3 (.t 1)),Ol 15 14,Ob 16 .lss 13 15,Om 17 16,⟨some 18,.fa 8 1 2 (.t 1),some (17,true)⟩,⟨some 19,.ld 1 false (.t 18),some (17,true)⟩,⟨some 20,.bin .lss (.t 19) (.k (.int .i64 16)),some (17,true)⟩,Oo 21 (.pick (.t 17) (.t 20) (.k (.bool false)))]) (.cond (.t 21) .skip (.exit 0))) (.seq (.block 1 (.ops [Oo 24 (.fa 8 1 2 (.t 1)),Ol 25 24,Oo 26 (.bin .mul (.k (.int .i64 2)) (.t 25)),Oo 27 (.fa 8 1 2 (.t 1)),Os 1 27 26])) (.ops [Om 22 3,Oi 23 22,Om 3 23])))))) (.seq (.ops [Od 28 11 1,Os 11 2 28]) .ret))))))⟩
theorem c74 : compileF Try.prog [] 74 = some cf74 := by kernel_rfl
def beginR (r : MateRun) (c : Int) : MateRun := if leased r c = true then { r with fState := 3, fLeft := r.fWant.fStart } else { r with fState := 2, fLeft := 0 }
theorem spec_Begin (r : MateRun) (c : Int) : Rdr Try.prog 75 [r.D, .int .i64 c] (beginR r c).D := by
 have hq := spec_Leased { r with fState := 2, fLeft := 0 } c
 have e : leased { r with fState := 2, fLeft := 0 } c = leased r c := rfl
 rw [e] at hq
 refine Rdr.intro' hm c75 (Nat.le_of_ble_eq_true rfl) ?_
 conv => whnf
 repeat' (first | (refine g_op ?_; conv => whnf) | (refine And.intro ?_ ?_; (focus exact au0); conv => whnf) | (refine g_seq ?_) | (refine XS.go ?_) | (refine g_ops ?_) | ((first | refine g_nil ?_ | refine g_cond ?_ | refine fun _ => ?_ | refine XCL.of_rdr (hq) ?_); conv => whnf) | fail)
 refine Br.mk (fun hb => ?_) (fun hb => ?_)
 ·rw [beginR, if_pos hb]
  conv => whnf
  repeat' (first | (refine g_op ?_; conv => whnf) | (refine And.intro ?_ ?_; (focus exact au0); conv => whnf) | (refine g_seq ?_) | (refine XS.go ?_) | (refine g_ops ?_) | ((first | refine g_nil ?_ | refine g_ret ?_ | refine r_c ?_ | refine r_nil ?_); conv => whnf) | fail)
  rfl
 ·rw [beginR, if_neg (by rw [hb]; exact Bool.false_ne_true)]
  conv => whnf
  repeat' (first | (refine g_op ?_; conv => whnf) | (refine And.intro ?_ ?_; (focus exact au0); conv => whnf) | (refine g_seq ?_) | (refine XS.go ?_) | (refine g_ops ?_) | ((first | refine g_nil ?_ | refine g_skip ?_ | refine g_ret ?_ | refine r_c ?_ | refine r_nil ?_); conv => whnf) | fail)
  rfl
theorem impl_Begin (r : MateRun) (c : Int) : Rdr Try.prog 73 [r.D, .int .i64 c] (beginR r c).D := by
 refine Rdr.intro' hm c73 (Nat.le_of_ble_eq_true rfl) ?_
 conv => whnf
 repeat' (first | (refine z_ld1 ?_; first | (refine z_ld rfl rfl rfl rfl au1 au2 ?_; conv => whnf) | (refine z_ld0 rfl ?_; conv => whnf)) | (refine z_ld1g ?_; first | (refine z_ldg rfl rfl rfl rfl rfl rfl rfl (by (repeat intro _); exact ⟨au1, au2⟩) rfl rfl rfl rfl ?_; conv => whnf) | (refine z_ld0g ?_; (conv => whnf); refine And.intro ?_ ?_; (focus exact rfl); conv => whnf)) | (refine z_op ?_ ?_; (focus exact rfl); conv => whnf) | (refine z_opg0 ?_; (conv => whnf); refine And.intro ?_ ?_; (focus exact rfl); conv => whnf) | (refine z_pick ?_ ?_; (focus exact rfl); conv => whnf) | (refine zs_ops ?_ ?_; (focus exact rfl)) | ((first | refine z_nil fun vals => ?_ | refine g_op ?_); conv => whnf) | (refine And.intro ?_ ?_; (focus exact au0); conv => whnf) | (refine g_seq ?_) | (refine XS.go ?_) | (refine g_ops ?_) | ((first | refine g_nil ?_ | refine g_cond ?_ | refine fun _ => ?_); conv => whnf) | fail)
 refine Br.mk (fun hb => ?_) (fun hb => ?_)
 ·rw [beginR, if_pos (show leased r c = true by rw [← hb]; rfl)]
  conv => whnf
  repeat' (first | (refine z_ld1 ?_; first | (refine z_ld rfl rfl rfl rfl au1 au2 ?_; conv => whnf) | (refine z_ld0 rfl ?_; conv => whnf)) | (refine z_st1 ?_; first | (refine z_st rfl rfl rfl au1 au2 rfl rfl ?_; conv => whnf) | (refine z_st0 ?_; conv => whnf)) | (refine z_op ?_ ?_; (focus exact rfl); conv => whnf) | (refine zs_ops ?_ ?_; (focus exact rfl)) | (refine z_nil fun vals => ?_; conv => whnf) | (refine And.intro ?_ ?_; (focus exact au0); conv => whnf) | (refine g_seq ?_) | (refine XS.go ?_) | ((first | refine g_ret ?_ | refine r_c ?_ | refine r_nil ?_); conv => whnf) | fail)
  rfl
 ·rw [beginR, if_neg (by rw [show leased r c = false by rw [← hb]; rfl]; exact Bool.false_ne_true)]
  conv => whnf
  repeat' (first | (refine z_ld1 ?_; first | (refine z_ld rfl rfl rfl rfl au1 au2 ?_; conv => whnf) | (refine z_ld0 rfl ?_; conv => whnf)) | (refine z_st1 ?_; first | (refine z_st rfl rfl rfl au1 au2 rfl rfl ?_; conv => whnf) | (refine z_st0 ?_; conv => whnf)) | (refine z_op ?_ ?_; (focus exact rfl); conv => whnf) | (refine zs_ops ?_ ?_; (focus exact rfl)) | (refine z_nil fun vals => ?_; conv => whnf) | (refine And.intro ?_ ?_; (focus exact au0); conv => whnf) | (refine g_seq ?_) | (refine XS.go ?_) | ((first | refine g_ret ?_ | refine r_c ?_ | refine r_nil ?_); conv => whnf) | fail)
  rfl
def bo (f : Int) : Int := if f < 0 then 1 else if f < 4 then 2 ^ f.toNat else 16
def fallsR (r : MateRun) : Int := if r.fFalls < 1000 then IntKind.wrap .i64 (r.fFalls + 1) else r.fFalls
def diesR (r : MateRun) : MateRun := { r with fFalls := fallsR r, fState := 5, fLeft := bo (fallsR r) }
theorem spec_Dies (r : MateRun) : Rdr Try.prog 74 [r.D] (diesR r).D := by
 refine Rdr.intro' hm c74 (Nat.le_of_ble_eq_true rfl) ?_
 conv => whnf
 repeat' (first | (refine z_ld1 ?_; first | (refine z_ld rfl rfl rfl rfl au1 au2 ?_; conv => whnf) | (refine z_ld0 rfl ?_; conv => whnf)) | (refine z_op ?_ ?_; (focus exact rfl); conv => whnf) | (refine zs_ops ?_ ?_; (focus exact rfl)) | ((first | refine z_nil fun vals => ?_ | refine g_op ?_); conv => whnf) | (refine And.intro ?_ ?_; (focus exact au0); conv => whnf) | (refine g_seq ?_) | (refine XS.go ?_) | (refine g_ops ?_) | ((first | refine g_nil ?_ | refine g_cond ?_ | refine fun _ => ?_); conv => whnf) | fail)
 refine Br.mk (fun hb => ?_) (fun hb => ?_)
 ·have hF : fallsR r = IntKind.wrap .i64 (r.fFalls + 1) := if_pos (of_decide_eq_true hb)
  clear hb
  conv => whnf
  repeat' (first | (refine z_ld1 ?_; first | (refine z_ld rfl rfl rfl rfl au1 au2 ?_; conv => whnf) | (refine z_ld0 rfl ?_; conv => whnf)) | (refine z_st1 ?_; first | (refine z_st rfl rfl rfl au1 au2 rfl rfl ?_; conv => whnf) | (refine z_st0 ?_; conv => whnf)) | (refine z_op ?_ ?_; (focus exact rfl); conv => whnf) | (refine zs_ops ?_ ?_; (focus exact rfl)) | ((first | refine z_nil fun vals => ?_ | refine g_op ?_); conv => whnf) | (refine And.intro ?_ ?_; (focus exact au0); conv => whnf) | (refine g_seq ?_) | (refine XS.go ?_) | (refine g_ops ?_) | (refine g_loop ?_) | (refine g_nil ?_; conv => whnf) | (refine g_block ?_) | fail)
  refine XLc.mkA (α := Nat) (fun i => i ≤ 4 ∧ (i = 0 ∨ (i : Int) ≤ IntKind.wrap .i64 (r.fFalls + 1))) (fun i => 4 - i) (fun i gs => [.any, .lref 1 (gs 1) [] 0, .lref 2 (gs 2) [] 0, .int .i64 (i : Int)]) (fun i gs => [(1, .agg [r.fWant.D, .int .i64 5, .int .i64 ((2 ^ i : Nat) : Int), .int .i64 (IntKind.wrap .i64 (r.fFalls + 1)), .int .i64 r.fUntil]), (2, (default : MateRun).D)]) 0 ⟨by omega, .inl rfl⟩ ?_ ?_
  ·refine ⟨?_, ?_⟩
   ·repeat' (first | exact True.intro | refine And.intro rfl ?_)
   ·exact ⟨rfl, rfl, True.intro⟩
  intro i gs hI
  obtain ⟨hi0, hi1⟩ := hI
  repeat' (first | (refine z_ld1 ?_; first | (refine z_ld rfl rfl rfl rfl au1 au2 ?_; conv => whnf) | (refine z_ld0 rfl ?_; conv => whnf)) | (refine z_ld1g ?_; first | (refine z_ldg rfl rfl rfl rfl rfl rfl rfl (by (repeat intro _); exact ⟨au1, au2⟩) rfl rfl rfl rfl ?_; conv => whnf) | (refine z_ld0g ?_; (conv => whnf); refine And.intro ?_ ?_; (focus exact rfl); conv => whnf)) | (refine z_op ?_ ?_; (focus exact rfl); conv => whnf) | (refine z_opg0 ?_; (conv => whnf); refine And.intro ?_ ?_; (focus exact rfl); conv => whnf) | (refine z_pick ?_ ?_; (focus exact rfl); conv => whnf) | (refine zs_ops ?_ ?_; (focus exact rfl)) | (refine z_nil fun vals => ?_; conv => whnf) | (refine And.intro ?_ ?_; (focus exact au0); conv => whnf) | (refine g_seq ?_) | (refine XS.go ?_) | (refine g_cond ?_; conv => whnf) | fail)
  refine Br.mk (fun hb => ?_) (fun hb => ?_)
  ·have hb2 : (i : Int) < IntKind.wrap .i64 (r.fFalls + 1) ∧ ((2 ^ i : Nat) : Int) < 16 := by simpa using hb
   have hi4 : i < 4 := by
    rcases Nat.lt_or_ge i 4 with h | h
    ·exact h
    ·have : i = 4 := by omega
     subst this
     omega
   clear hb
   conv => whnf
   repeat' (first | (refine z_ld1 ?_; first | (refine z_ld rfl rfl rfl rfl au1 au2 ?_; conv => whnf) | (refine z_ld0 rfl ?_; conv => whnf)) | (refine z_st1 ?_; first | (refine z_st rfl rfl rfl au1 au2 rfl rfl ?_; conv => whnf) | (refine z_st0 ?_; conv => whnf)) | (refine z_op ?_ ?_; (focus exact rfl); conv => whnf) | (refine zs_ops ?_ ?_; (focus exact rfl)) | ((first | refine z_nil fun vals => ?_ | refine g_op ?_); conv => whnf) | (refine And.intro ?_ ?_; (focus exact au0); conv => whnf) | (refine g_seq ?_) | (refine XS.go ?_) | (refine g_ops ?_) | ((first | refine g_nil ?_ | refine g_skip ?_); conv => whnf) | (refine g_block ?_) | fail)
   have hw : IntKind.wrap .i64 ((i : Int) + 1) = ((i + 1 : Nat) : Int) := by rw [wrap_ok (by omega) (by omega)]; rfl
   have hd : IntKind.wrap .i64 (2 * ((2 ^ i : Nat) : Int)) = ((2 ^ (i + 1) : Nat) : Int) := by
    rw [Nat.pow_succ]
    have hb3 := hb2.2
    generalize 2 ^ i = n at hb3 ⊢
    rw [wrap_ok (by omega) (by omega)]
    omega
   refine ⟨i + 1, ⟨by omega, .inr (by omega)⟩, by omega, ?_, ?_⟩
   ·repeat' (first | exact True.intro | refine And.intro (congrArg (D.int .i64) hw) ?_ | refine And.intro rfl ?_)
   ·refine ⟨?_, rfl, True.intro⟩
    exact congrArg (fun n => some (D.agg [r.fWant.D, .int .i64 5, .int .i64 n, .int .i64 (IntKind.wrap .i64 (r.fFalls + 1)), .int .i64 r.fUntil])) hd
  have hb2 : (IntKind.wrap .i64 (r.fFalls + 1)) ≤ (i : Int) ∨ (16 : Int) ≤ ((2 ^ i : Nat) : Int) := by
   rcases Int.lt_or_le (i : Int) (IntKind.wrap .i64 (r.fFalls + 1)) with h | h
   ·right
    simp [h] at hb
    exact_mod_cast hb
   ·exact .inl h
  have hbo : bo (fallsR r) = ((2 ^ i : Nat) : Int) := by
   rw [hF]
   unfold bo
   generalize (IntKind.wrap .i64 (r.fFalls + 1)) = F at hi1 hb2 ⊢
   have h5 : i = 0 ∨ i = 1 ∨ i = 2 ∨ i = 3 ∨ i = 4 := by omega
   rcases h5 with rfl | rfl | rfl | rfl | rfl
   ·by_cases h : F < 0
    ·rw [if_pos h]; rfl
    ·have : F = 0 := by omega
     subst this; rfl
   ·have : F = 1 := by omega
    subst this; rfl
   ·have : F = 2 := by omega
    subst this; rfl
   ·have : F = 3 := by omega
    subst this; rfl
   ·rw [if_neg (by omega), if_neg (by omega)]; rfl
  have e : (diesR r).D = .agg [r.fWant.D, .int .i64 5, .int .i64 ((2 ^ i : Nat) : Int), .int .i64 (IntKind.wrap .i64 (r.fFalls + 1)), .int .i64 r.fUntil] := by
   rw [← hbo, ← hF]; rfl
  rw [e]
  conv => whnf
  repeat' (first | (refine z_ld1 ?_; first | (refine z_ld rfl rfl rfl rfl au1 au2 ?_; conv => whnf) | (refine z_ld0 rfl ?_; conv => whnf)) | (refine z_st1 ?_; first | (refine z_st rfl rfl rfl au1 au2 rfl rfl ?_; conv => whnf) | (refine z_st0 ?_; conv => whnf)) | (refine zs_ops ?_ ?_; (focus exact rfl)) | (refine z_nil fun vals => ?_; conv => whnf) | (refine And.intro ?_ ?_; (focus exact au0); conv => whnf) | (refine g_seq ?_) | (refine XS.go ?_) | ((first | refine g_ret ?_ | refine g_exit ?_ | refine r_c ?_ | refine r_nil ?_); conv => whnf) | fail)
  rfl
 ·have hF : fallsR r = r.fFalls := if_neg (of_decide_eq_false hb)
  clear hb
  conv => whnf
  repeat' (first | (refine z_st1 ?_; first | (refine z_st rfl rfl rfl au1 au2 rfl rfl ?_; conv => whnf) | (refine z_st0 ?_; conv => whnf)) | (refine z_op ?_ ?_; (focus exact rfl); conv => whnf) | (refine zs_ops ?_ ?_; (focus exact rfl)) | ((first | refine z_nil fun vals => ?_ | refine g_op ?_); conv => whnf) | (refine And.intro ?_ ?_; (focus exact au0); conv => whnf) | (refine g_seq ?_) | (refine XS.go ?_) | (refine g_ops ?_) | (refine g_loop ?_) | ((first | refine g_nil ?_ | refine g_skip ?_); conv => whnf) | (refine g_block ?_) | fail)
  refine XLc.mkA (α := Nat) (fun i => i ≤ 4 ∧ (i = 0 ∨ (i : Int) ≤ r.fFalls)) (fun i => 4 - i) (fun i gs => [.any, .lref 1 (gs 1) [] 0, .lref 2 (gs 2) [] 0, .int .i64 (i : Int)]) (fun i gs => [(1, .agg [r.fWant.D, .int .i64 5, .int .i64 ((2 ^ i : Nat) : Int), .int .i64 (r.fFalls), .int .i64 r.fUntil]), (2, (default : MateRun).D)]) 0 ⟨by omega, .inl rfl⟩ ?_ ?_
  ·refine ⟨?_, ?_⟩
   ·repeat' (first | exact True.intro | refine And.intro rfl ?_)
   ·exact ⟨rfl, rfl, True.intro⟩
  intro i gs hI
  obtain ⟨hi0, hi1⟩ := hI
  repeat' (first | (refine z_ld1 ?_; first | (refine z_ld rfl rfl rfl rfl au1 au2 ?_; conv => whnf) | (refine z_ld0 rfl ?_; conv => whnf)) | (refine z_ld1g ?_; first | (refine z_ldg rfl rfl rfl rfl rfl rfl rfl (by (repeat intro _); exact ⟨au1, au2⟩) rfl rfl rfl rfl ?_; conv => whnf) | (refine z_ld0g ?_; (conv => whnf); refine And.intro ?_ ?_; (focus exact rfl); conv => whnf)) | (refine z_op ?_ ?_; (focus exact rfl); conv => whnf) | (refine z_opg0 ?_; (conv => whnf); refine And.intro ?_ ?_; (focus exact rfl); conv => whnf) | (refine z_pick ?_ ?_; (focus exact rfl); conv => whnf) | (refine zs_ops ?_ ?_; (focus exact rfl)) | (refine z_nil fun vals => ?_; conv => whnf) | (refine And.intro ?_ ?_; (focus exact au0); conv => whnf) | (refine g_seq ?_) | (refine XS.go ?_) | (refine g_cond ?_; conv => whnf) | fail)
  refine Br.mk (fun hb => ?_) (fun hb => ?_)
  ·have hb2 : (i : Int) < r.fFalls ∧ ((2 ^ i : Nat) : Int) < 16 := by simpa using hb
   have hi4 : i < 4 := by
    rcases Nat.lt_or_ge i 4 with h | h
    ·exact h
    ·have : i = 4 := by omega
     subst this
     omega
   clear hb
   conv => whnf
   repeat' (first | (refine z_ld1 ?_; first | (refine z_ld rfl rfl rfl rfl au1 au2 ?_; conv => whnf) | (refine z_ld0 rfl ?_; conv => whnf)) | (refine z_st1 ?_; first | (refine z_st rfl rfl rfl au1 au2 rfl rfl ?_; conv => whnf) | (refine z_st0 ?_; conv => whnf)) | (refine z_op ?_ ?_; (focus exact rfl); conv => whnf) | (refine zs_ops ?_ ?_; (focus exact rfl)) | ((first | refine z_nil fun vals => ?_ | refine g_op ?_); conv => whnf) | (refine And.intro ?_ ?_; (focus exact au0); conv => whnf) | (refine g_seq ?_) | (refine XS.go ?_) | (refine g_ops ?_) | ((first | refine g_nil ?_ | refine g_skip ?_); conv => whnf) | (refine g_block ?_) | fail)
   have hw : IntKind.wrap .i64 ((i : Int) + 1) = ((i + 1 : Nat) : Int) := by rw [wrap_ok (by omega) (by omega)]; rfl
   have hd : IntKind.wrap .i64 (2 * ((2 ^ i : Nat) : Int)) = ((2 ^ (i + 1) : Nat) : Int) := by
    rw [Nat.pow_succ]
    have hb3 := hb2.2
    generalize 2 ^ i = n at hb3 ⊢
    rw [wrap_ok (by omega) (by omega)]
    omega
   refine ⟨i + 1, ⟨by omega, .inr (by omega)⟩, by omega, ?_, ?_⟩
   ·repeat' (first | exact True.intro | refine And.intro (congrArg (D.int .i64) hw) ?_ | refine And.intro rfl ?_)
   ·refine ⟨?_, rfl, True.intro⟩
    exact congrArg (fun n => some (D.agg [r.fWant.D, .int .i64 5, .int .i64 n, .int .i64 (r.fFalls), .int .i64 r.fUntil])) hd
  have hb2 : (r.fFalls) ≤ (i : Int) ∨ (16 : Int) ≤ ((2 ^ i : Nat) : Int) := by
   rcases Int.lt_or_le (i : Int) (r.fFalls) with h | h
   ·right
    simp [h] at hb
    exact_mod_cast hb
   ·exact .inl h
  have hbo : bo (fallsR r) = ((2 ^ i : Nat) : Int) := by
   rw [hF]
   unfold bo
   generalize (r.fFalls) = F at hi1 hb2 ⊢
   have h5 : i = 0 ∨ i = 1 ∨ i = 2 ∨ i = 3 ∨ i = 4 := by omega
   rcases h5 with rfl | rfl | rfl | rfl | rfl
   ·by_cases h : F < 0
    ·rw [if_pos h]; rfl
    ·have : F = 0 := by omega
     subst this; rfl
   ·have : F = 1 := by omega
    subst this; rfl
   ·have : F = 2 := by omega
    subst this; rfl
   ·have : F = 3 := by omega
    subst this; rfl
   ·rw [if_neg (by omega), if_neg (by omega)]; rfl
  have e : (diesR r).D = .agg [r.fWant.D, .int .i64 5, .int .i64 ((2 ^ i : Nat) : Int), .int .i64 (r.fFalls), .int .i64 r.fUntil] := by
   rw [← hbo, ← hF]; rfl
  rw [e]
  conv => whnf
  repeat' (first | (refine z_ld1 ?_; first | (refine z_ld rfl rfl rfl rfl au1 au2 ?_; conv => whnf) | (refine z_ld0 rfl ?_; conv => whnf)) | (refine z_st1 ?_; first | (refine z_st rfl rfl rfl au1 au2 rfl rfl ?_; conv => whnf) | (refine z_st0 ?_; conv => whnf)) | (refine zs_ops ?_ ?_; (focus exact rfl)) | (refine z_nil fun vals => ?_; conv => whnf) | (refine And.intro ?_ ?_; (focus exact au0); conv => whnf) | (refine g_seq ?_) | (refine XS.go ?_) | ((first | refine g_ret ?_ | refine g_exit ?_ | refine r_c ?_ | refine r_nil ?_); conv => whnf) | fail)
  rfl
end Go.Ab
