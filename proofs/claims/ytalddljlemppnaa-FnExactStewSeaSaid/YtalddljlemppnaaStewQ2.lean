/- Steps towards the law: the machine, contracts of functions and facts of lists. -/
import Derived.Test.YtalddljlemppnaaStewQ1
import Derived.Test.YtalddljlemppnaaRows
set_option linter.unusedSimpArgs false
set_option linter.unusedVariables false
namespace Go.Ab
open Go Go.RowKit Go.Proofs
attribute [local irreducible] XC Rdr IntKind.wrap xw xos xqs xr xd
set_option maxRecDepth 100000
set_option maxHeartbeats 16000000
def cf78 : CF := ⟨31,[.t 4],(.seq (.ops [Ok 4 (.nilp)]) (.seq (.seq (.ops [Om 6 0,On 7 6,Of 8 1 7,Ol 9 8,Og 10 9,Ok 11 (.int .i64 0)]) (.block 0 (.loop (.seq (.ops [Ob 12 .lss 11 10]) (.seq (.cond (.t 12) .skip (.exit 0)) (.seq (.block 1 (.seq (.ops [Om 13 11,Om 5 13]) (.seq (.ops [Om 14 0,On 15 14,Of 16 1 15,Ol 17 16,Om 18 5,Ox 19 13 17 18,Of 20 0 19,Ol 21 20,Om 22 1,Ob 23 .eql 21 22]) (.cond (.t 23) (.seq (.ops [Om 24 0,On 25 24,Of 26 1 25,Ol 27 26,Om 28 5,Ox 29 13 27 28,Om 4 29]) .ret) .skip)))) (.ops [Oi 30 11,Om 11 30]))))))) (.seq (.ops [Ok 4 (.nilp)]) .ret)))⟩
theorem c78 : compileF Try.prog [] 78 = some cf78 := by kernel_rfl
def cf79 : CF := ⟨31,[.t 4],(.seq (.ops [Ok 4 (.nilp)]) (.seq (.seq (.ops [Om 6 0,On 7 6,Of 8 3 7,Ol 9 8,Og 10 9,Ok 11 (.int .i64 0)]) (.block 0 (.loop (.seq (.ops [Ob 12 .lss 11 10]) (.seq (.cond (.t 12) .skip (.exit 0)) (.seq (.block 1 (.seq (.ops [Om 13 11,Om 5 13]) (.seq (.ops [Om 14 0,On 15 14,Of 16 3 15,Ol 17 16,Om 18 5,Ox 19 2 17 18,Of 20 0 19,Ol 21 20,Om 22 1,Ob 23 .eql 21 22]) (.cond (.t 23) (.seq (.ops [Om 24 0,On 25 24,Of 26 3 25,Ol 27 26,Om 28 5,Ox 29 2 27 28,Om 4 29]) .ret) .skip)))) (.ops [Oi 30 11,Om 11 30]))))))) (.seq (.ops [Ok 4 (.nilp)]) .ret)))⟩
theorem c79 : compileF Try.prog [] 79 = some cf79 := by kernel_rfl
def cf129 : CF := ⟨22,[.t 4],(.seq (.ops [Oo 2 (.bx (.t 0)),Ok 4 (.int .i64 0)]) (.seq (.seq (.ops [Ok 5 (.int .i64 0)]) (.block 0 (.loop (.seq (.seq (.ops [Om 6 5,Of 7 1 2,Ol 8 7,Og 9 8,Ob 10 .lss 6 9]) (.cond (.t 10) .skip (.exit 0))) (.seq (.block 1 (.seq (.ops [Of 13 1 2,Ol 14 13,Om 15 5,Ox 16 13 14 15,Of 17 0 16,Ol 18 17,Om 19 1,Ob 20 .eql 18 19]) (.cond (.t 20) (.seq (.ops [Om 21 5,Om 4 21]) .ret) .skip))) (.ops [Om 11 5,Oi 12 11,Om 5 12])))))) (.seq (.ops [Ok 4 (.int .i64 (-1))]) .ret)))⟩
theorem c129 : compileF Try.prog [] 129 = some cf129 := by kernel_rfl
def cf138 : CF := ⟨22,[.t 4],(.seq (.ops [Oo 2 (.bx (.t 0)),Ok 4 (.int .i64 0)]) (.seq (.seq (.ops [Ok 5 (.int .i64 0)]) (.block 0 (.loop (.seq (.seq (.ops [Om 6 5,Of 7 3 2,Ol 8 7,Og 9 8,Ob 10 .lss 6 9]) (.cond (.t 10) .skip (.exit 0))) (.seq (.block 1 (.seq (.ops [Of 13 3 2,Ol 14 13,Om 15 5,Ox 16 2 14 15,Of 17 0 16,Ol 18 17,Om 19 1,Ob 20 .eql 18 19]) (.cond (.t 20) (.seq (.ops [Om 21 5,Om 4 21]) .ret) .skip))) (.ops [Om 11 5,Oi 12 11,Om 5 12])))))) (.seq (.ops [Ok 4 (.int .i64 (-1))]) .ret)))⟩
theorem c138 : compileF Try.prog [] 138 = some cf138 := by kernel_rfl
def cf73 : CF := ⟨56,[.t 4],(.seq (.ops [Oo 2 (.bx (.t 0)),Oo 3 (.bx (.t 1)),Ok 4 (.bool false)]) (.seq (.ops [Od 6 4 2,Of 7 0 3,Ol 8 7,Oc 9 129 [.t 6,.t 8],Om 5 9]) (.seq (.seq (.quiet [Om 10 5,Oo 11 (.bin .lss (.t 10) (.k (.int .i64 0))),Om 12 11,⟨some 13,.fa 1 1 1 (.t 3),some (12,false)⟩,⟨some 14,.ld 1 false (.t 13),some (12,false)⟩,⟨some 15,.fa 1 1 1 (.t 2),some (12,false)⟩,⟨some 16,.ld 1 false (.t 15),some (12,false)⟩,⟨some 17,.mv (.t 5),some (12,false)⟩,⟨some 18,.ix 13 (.t 16) (.t 17),some (12,false)⟩,⟨some 19,.fa 7 1 7 (.t 18),some (12,false)⟩,⟨some 20,.ld 1 false (.t 19),some (12,false)⟩,⟨some 21,.bin .sub (.t 20) (.k (.int .i64 1)),some (12,false)⟩,⟨some 22,.call 70 [.t 14,(.k (.int .i64 1)),.t 21],some (12,false)⟩,⟨some 23,.not (.t 22),some (12,false)⟩,Oo 24 (.pick (.t 12) (.k (.bool true)) (.t 23)),Om 25 24,⟨some 26,.fa 2 1 2 (.t 3),some (25,false)⟩,⟨some 27,.ld 1 false (.t 26),some (25,false)⟩,⟨some 28,.fa 0 1 0 (.t 2),some (25,false)⟩,⟨some 29,.ld 1 false (.t 28),some (25,false)⟩,⟨some 30,.call 70 [.t 27,(.k (.int .i64 1)),.t 29],some (25,false)⟩,⟨some 31,.not (.t 30),some (25,false)⟩,Oo 32 (.pick (.t 25) (.k (.bool true)) (.t 31)),Om 33 32,⟨some 34,.fa 3 1 3 (.t 3),some (33,false)⟩,⟨some 35,.ld 1 false (.t 34),some (33,false)⟩,⟨some 36,.call 70 [.t 35,(.k (.int .i64 1)),(.k (.int .i64 1000000))],some (33,false)⟩,⟨some 37,.not (.t 36),some (33,false)⟩,Oo 38 (.pick (.t 33) (.k (.bool true)) (.t 37)),Om 39 38,⟨some 40,.fa 4 1 4 (.t 3),some (39,false)⟩,⟨some 41,.ld 1 false (.t 40),some (39,false)⟩,⟨some 42,.call 70 [.t 41,(.k (.int .i64 1)),(.k (.int .i64 4))],some (39,false)⟩,⟨some 43,.not (.t 42),some (39,false)⟩,Oo 44 (.pick (.t 39) (.k (.bool true)) (.t 43))]) (.cond (.t 44) (.seq (.ops [Ok 4 (.bool false)]) .ret) .skip)) (.seq (.seq (.ops [Of 45 4 3,Ol 46 45,Oo 47 (.bin .eql (.t 46) (.k (.int .i64 1)))]) (.cond (.t 47) (.seq (.ops [Of 48 6 3,Ol 49 48,Oo 50 (.bin .eql (.t 49) (.k (.str ⟨#[]⟩))),Om 4 50]) .ret) .skip)) (.seq (.ops [Od 51 4 2,Of 52 6 3,Ol 53 52,Oc 54 138 [.t 51,.t 53],Oo 55 (.bin .geq (.t 54) (.k (.int .i64 0))),Om 4 55]) .ret)))))⟩
theorem c73 : compileF Try.prog [] 73 = some cf73 := by kernel_rfl
def cf74 : CF := ⟨24,[.t 4],(.seq (.ops [Oo 2 (.bx (.t 0)),Oo 3 (.bx (.t 1)),Ok 4 (.bool false)]) (.seq (.ops [Of 5 0 2,Ol 6 5,Of 7 0 3,Ol 8 7,Ob 9 .lss 6 8,Om 10 9,⟨some 11,.fa 0 1 0 (.t 2),some (10,false)⟩,⟨some 12,.ld 1 false (.t 11),some (10,false)⟩,⟨some 13,.fa 0 1 0 (.t 3),some (10,false)⟩,⟨some 14,.ld 1 false (.t 13),some (10,false)⟩,⟨some 15,.bin .eql (.t 12) (.t 14),some (10,false)⟩,⟨some 16,.mv (.t 15),some (10,false)⟩,⟨some 17,.fa 1 1 1 (.t 2),some (16,true)⟩,⟨some 18,.ld 1 false (.t 17),some (16,true)⟩,⟨some 19,.fa 1 1 1 (.t 3),some (16,true)⟩,⟨some 20,.ld 1 false (.t 19),some (16,true)⟩,⟨some 21,.bin .lss (.t 18) (.t 20),some (16,true)⟩,⟨some 22,.pick (.t 16) (.t 21) (.k (.bool false)),some (10,false)⟩,Oo 23 (.pick (.t 10) (.k (.bool true)) (.t 22)),Om 4 23]) .ret))⟩
theorem c74 : compileF Try.prog [] 74 = some cf74 := by kernel_rfl
def svcF (b : StewBook) (name : ByteArray) (i : Nat) : Bool := (b.fServices.getD i default).fName.toList == name.toList
def berF (b : StewBook) (name : ByteArray) (i : Nat) : Bool := (b.fBerths.getD i default).fName.toList == name.toList
def svcI (b : StewBook) (name : ByteArray) : Int := idxN (svcF b name) b.fServices.length 0
def berI (b : StewBook) (name : ByteArray) : Int := idxN (berF b name) b.fBerths.length 0
theorem impl_service (b : StewBook) (name : ByteArray) (hl : b.fServices.length ≤ 1048576) : Rdr Try.prog 78 [.cref b.D, .str name] (ptrAt StewService.D default b.fServices (svcI b name)) := by
 refine Rdr.intro' hm c78 (Nat.le_of_ble_eq_true rfl) ?_
 conv => whnf
 repeat' (first | (refine z_ld1 ?_; first | (refine z_ld rfl rfl rfl rfl au1 au2 ?_; conv => whnf) | (refine z_ld0 rfl ?_; conv => whnf)) | (refine z_op ?_ ?_; (focus exact rfl); conv => whnf) | (refine zs_ops ?_ ?_; (focus exact rfl)) | ((first | refine z_nil fun vals => ?_ | refine g_op ?_); conv => whnf) | (refine And.intro ?_ ?_; (focus exact au0); conv => whnf) | (refine g_seq ?_) | (refine XS.go ?_) | (refine g_ops ?_) | (refine g_loop ?_) | (refine g_nil ?_; conv => whnf) | (refine g_block ?_) | fail)
 refine XLc.mkL (α := Nat) (fun i => i ≤ b.fServices.length ∧ svcI b name = idxN (svcF b name) (b.fServices.length - i) i) (fun i => b.fServices.length - i) (fun i gs => [.cref b.D, .str name, .any, .any, .any, .any, .any, .any, .any, .any, .int .i64 ((b.fServices.map StewService.D).length : Int), .int .i64 (i : Int)]) (fun i gs => []) 0 ⟨Nat.zero_le _, rfl⟩ ?_ ?_
 ·refine ⟨?_, ?_⟩
  ·repeat' (first | exact True.intro | refine And.intro rfl ?_)
  ·repeat' (first | exact True.intro | refine And.intro rfl ?_)
 intro i gs hI
 obtain ⟨hi, hN⟩ := hI
 repeat' (first | (refine g_op ?_; conv => whnf) | (refine And.intro ?_ ?_; (focus exact au0); conv => whnf) | (refine g_seq ?_) | (refine XS.go ?_) | (refine g_ops ?_) | ((first | refine g_nil ?_ | refine g_cond ?_); conv => whnf) | fail)
 refine Br.mk (fun hb => ?_) (fun hb => ?_)
 ·have hlt : i < b.fServices.length := by simpa using hb
  have hw : IntKind.wrap .i64 ((i : Int) + 1) = ((i + 1 : Nat) : Int) := by rw [wrap_ok (by omega) (by omega)]; rfl
  have hit := fun h => idxN_hit (f := svcF b name) hlt hN h
  have miss := fun h => idxN_miss (f := svcF b name) hlt hN h
  clear hN hb
  conv => whnf
  repeat' (first | (refine z_ld1 ?_; first | (refine z_ld rfl rfl rfl rfl au1 au2 ?_; conv => whnf) | (refine z_ld0 rfl ?_; conv => whnf)) | (refine z_ix1 ?_; first | (refine z_ix rfl rfl rfl rfl rfl ⟨by first | omega | (simp only [decide_eq_true_eq, Bool.not_eq_true', Bool.or_eq_false_iff, decide_eq_false_iff_not, Bool.and_eq_true, Bool.not_eq_false'] at *; omega), by first | omega | (simp only [decide_eq_true_eq, Bool.not_eq_true', Bool.or_eq_false_iff, decide_eq_false_iff_not, Bool.and_eq_true, Bool.not_eq_false'] at *; omega)⟩ ?_; conv => whnf) | (refine z_ix0 rfl rfl ?_; conv => whnf)) | (refine z_op ?_ ?_; (focus exact rfl); conv => whnf) | (refine zs_ops ?_ ?_; (focus exact rfl)) | ((first | refine z_nil fun vals => ?_ | refine g_op ?_); conv => whnf) | (refine And.intro ?_ ?_; (focus exact au0); conv => whnf) | (refine g_seq ?_) | (refine XS.go ?_) | (refine g_ops ?_) | ((first | refine g_nil ?_ | refine g_cond ?_ | refine g_skip ?_ | refine g_ret ?_); conv => whnf) | (refine g_block ?_) | ((first | refine r_t ?_ | refine r_nil ?_); conv => whnf) | (refine Br.mk (fun hb => ?_) (fun hb => ?_) <;> conv => whnf) | fail)
  all_goals
   first
   | ((conv => lhs; whnf); first | (rw [hit hb]; done) | (rw [hit hb]; rfl) | fail)
   |(refine ⟨i + 1, ⟨by omega, miss hb⟩, by omega, ?_, ?_⟩
     ·repeat' (first | exact True.intro | refine And.intro (congrArg (D.int .i64) hw) ?_ | refine And.intro rfl ?_)
     ·repeat' (first | exact True.intro | refine And.intro rfl ?_))
 have hge : ¬ i < b.fServices.length := by simpa using hb
 have hend : svcI b name = -1 := by rw [hN, idxN_end hge]
 clear hN
 conv => whnf
 repeat' (first | (refine g_op ?_; conv => whnf) | (refine And.intro ?_ ?_; (focus exact au0); conv => whnf) | (refine g_seq ?_) | (refine XS.go ?_) | (refine g_ops ?_) | ((first | refine g_nil ?_ | refine g_ret ?_ | refine g_exit ?_ | refine r_t ?_ | refine r_nil ?_); conv => whnf) | fail)
 ((conv => lhs; whnf); first | (rw [hend]; done) | (rw [hend]; rfl))
theorem impl_berth (b : StewBook) (name : ByteArray) (hl : b.fBerths.length ≤ 1048576) : Rdr Try.prog 79 [.cref b.D, .str name] (ptrAt StewBerth.D default b.fBerths (berI b name)) := by
 refine Rdr.intro' hm c79 (Nat.le_of_ble_eq_true rfl) ?_
 conv => whnf
 repeat' (first | (refine z_ld1 ?_; first | (refine z_ld rfl rfl rfl rfl au1 au2 ?_; conv => whnf) | (refine z_ld0 rfl ?_; conv => whnf)) | (refine z_op ?_ ?_; (focus exact rfl); conv => whnf) | (refine zs_ops ?_ ?_; (focus exact rfl)) | ((first | refine z_nil fun vals => ?_ | refine g_op ?_); conv => whnf) | (refine And.intro ?_ ?_; (focus exact au0); conv => whnf) | (refine g_seq ?_) | (refine XS.go ?_) | (refine g_ops ?_) | (refine g_loop ?_) | (refine g_nil ?_; conv => whnf) | (refine g_block ?_) | fail)
 refine XLc.mkL (α := Nat) (fun i => i ≤ b.fBerths.length ∧ berI b name = idxN (berF b name) (b.fBerths.length - i) i) (fun i => b.fBerths.length - i) (fun i gs => [.cref b.D, .str name, .any, .any, .any, .any, .any, .any, .any, .any, .int .i64 ((b.fBerths.map StewBerth.D).length : Int), .int .i64 (i : Int)]) (fun i gs => []) 0 ⟨Nat.zero_le _, rfl⟩ ?_ ?_
 ·refine ⟨?_, ?_⟩
  ·repeat' (first | exact True.intro | refine And.intro rfl ?_)
  ·repeat' (first | exact True.intro | refine And.intro rfl ?_)
 intro i gs hI
 obtain ⟨hi, hN⟩ := hI
 repeat' (first | (refine g_op ?_; conv => whnf) | (refine And.intro ?_ ?_; (focus exact au0); conv => whnf) | (refine g_seq ?_) | (refine XS.go ?_) | (refine g_ops ?_) | ((first | refine g_nil ?_ | refine g_cond ?_); conv => whnf) | fail)
 refine Br.mk (fun hb => ?_) (fun hb => ?_)
 ·have hlt : i < b.fBerths.length := by simpa using hb
  have hw : IntKind.wrap .i64 ((i : Int) + 1) = ((i + 1 : Nat) : Int) := by rw [wrap_ok (by omega) (by omega)]; rfl
  have hit := fun h => idxN_hit (f := berF b name) hlt hN h
  have miss := fun h => idxN_miss (f := berF b name) hlt hN h
  clear hN hb
  conv => whnf
  repeat' (first | (refine z_ld1 ?_; first | (refine z_ld rfl rfl rfl rfl au1 au2 ?_; conv => whnf) | (refine z_ld0 rfl ?_; conv => whnf)) | (refine z_ix1 ?_; first | (refine z_ix rfl rfl rfl rfl rfl ⟨by first | omega | (simp only [decide_eq_true_eq, Bool.not_eq_true', Bool.or_eq_false_iff, decide_eq_false_iff_not, Bool.and_eq_true, Bool.not_eq_false'] at *; omega), by first | omega | (simp only [decide_eq_true_eq, Bool.not_eq_true', Bool.or_eq_false_iff, decide_eq_false_iff_not, Bool.and_eq_true, Bool.not_eq_false'] at *; omega)⟩ ?_; conv => whnf) | (refine z_ix0 rfl rfl ?_; conv => whnf)) | (refine z_op ?_ ?_; (focus exact rfl); conv => whnf) | (refine zs_ops ?_ ?_; (focus exact rfl)) | ((first | refine z_nil fun vals => ?_ | refine g_op ?_); conv => whnf) | (refine And.intro ?_ ?_; (focus exact au0); conv => whnf) | (refine g_seq ?_) | (refine XS.go ?_) | (refine g_ops ?_) | ((first | refine g_nil ?_ | refine g_cond ?_ | refine g_skip ?_ | refine g_ret ?_); conv => whnf) | (refine g_block ?_) | ((first | refine r_t ?_ | refine r_nil ?_); conv => whnf) | (refine Br.mk (fun hb => ?_) (fun hb => ?_) <;> conv => whnf) | fail)
  all_goals
   first
   | ((conv => lhs; whnf); first | (rw [hit hb]; done) | (rw [hit hb]; rfl) | fail)
   |(refine ⟨i + 1, ⟨by omega, miss hb⟩, by omega, ?_, ?_⟩
     ·repeat' (first | exact True.intro | refine And.intro (congrArg (D.int .i64) hw) ?_ | refine And.intro rfl ?_)
     ·repeat' (first | exact True.intro | refine And.intro rfl ?_))
 have hge : ¬ i < b.fBerths.length := by simpa using hb
 have hend : berI b name = -1 := by rw [hN, idxN_end hge]
 clear hN
 conv => whnf
 repeat' (first | (refine g_op ?_; conv => whnf) | (refine And.intro ?_ ?_; (focus exact au0); conv => whnf) | (refine g_seq ?_) | (refine XS.go ?_) | (refine g_ops ?_) | ((first | refine g_nil ?_ | refine g_ret ?_ | refine g_exit ?_ | refine r_t ?_ | refine r_nil ?_); conv => whnf) | fail)
 ((conv => lhs; whnf); first | (rw [hend]; done) | (rw [hend]; rfl))
theorem spec_Service (b : StewBook) (name : ByteArray) (hl : b.fServices.length ≤ 1048576) : Rdr Try.prog 129 [b.D, .str name] (.int .i64 (svcI b name)) := by
 refine Rdr.intro' hm c129 (Nat.le_of_ble_eq_true rfl) ?_
 conv => whnf
 repeat' (first | (refine g_op ?_; conv => whnf) | (refine And.intro ?_ ?_; (focus exact au0); conv => whnf) | (refine g_seq ?_) | (refine g_ops ?_) | ((first | refine g_nil ?_ | refine fun _ => ?_); conv => whnf) | fail)
 refine XS.freezeB 2 rfl ?_
 repeat' (first | (refine g_op ?_; conv => whnf) | (refine And.intro ?_ ?_; (focus exact au0); conv => whnf) | (refine g_seq ?_) | (refine XS.go ?_) | (refine g_ops ?_) | (refine g_loop ?_) | (refine g_nil ?_; conv => whnf) | (refine g_block ?_) | fail)
 refine XLc.mkL (α := Nat) (fun i => i ≤ b.fServices.length ∧ svcI b name = idxN (svcF b name) (b.fServices.length - i) i) (fun i => b.fServices.length - i) (fun i gs => [.any, .str name, .cref b.D, .any, .any, .int .i64 (i : Int)]) (fun i gs => []) 0 ⟨Nat.zero_le _, rfl⟩ ?_ ?_
 ·refine ⟨?_, ?_⟩
  ·repeat' (first | exact True.intro | refine And.intro rfl ?_)
  ·repeat' (first | exact True.intro | refine And.intro rfl ?_)
 intro i gs hI
 obtain ⟨hi, hN⟩ := hI
 repeat' (first | (refine z_ld1 ?_; first | (refine z_ld rfl rfl rfl rfl au1 au2 ?_; conv => whnf) | (refine z_ld0 rfl ?_; conv => whnf)) | (refine z_op ?_ ?_; (focus exact rfl); conv => whnf) | (refine zs_ops ?_ ?_; (focus exact rfl)) | (refine z_nil fun vals => ?_; conv => whnf) | (refine And.intro ?_ ?_; (focus exact au0); conv => whnf) | (refine g_seq ?_) | (refine XS.go ?_) | (refine g_cond ?_; conv => whnf) | fail)
 refine Br.mk (fun hb => ?_) (fun hb => ?_)
 ·have hlt : i < b.fServices.length := by simpa using hb
  have hw : IntKind.wrap .i64 ((i : Int) + 1) = ((i + 1 : Nat) : Int) := by rw [wrap_ok (by omega) (by omega)]; rfl
  have hit := fun h => idxN_hit (f := svcF b name) hlt hN h
  have miss := fun h => idxN_miss (f := svcF b name) hlt hN h
  clear hN hb
  conv => whnf
  repeat' (first | (refine z_ld1 ?_; first | (refine z_ld rfl rfl rfl rfl au1 au2 ?_; conv => whnf) | (refine z_ld0 rfl ?_; conv => whnf)) | (refine z_ix1 ?_; first | (refine z_ix rfl rfl rfl rfl rfl ⟨by first | omega | (simp only [decide_eq_true_eq, Bool.not_eq_true', Bool.or_eq_false_iff, decide_eq_false_iff_not, Bool.and_eq_true, Bool.not_eq_false'] at *; omega), by first | omega | (simp only [decide_eq_true_eq, Bool.not_eq_true', Bool.or_eq_false_iff, decide_eq_false_iff_not, Bool.and_eq_true, Bool.not_eq_false'] at *; omega)⟩ ?_; conv => whnf) | (refine z_ix0 rfl rfl ?_; conv => whnf)) | (refine z_op ?_ ?_; (focus exact rfl); conv => whnf) | (refine zs_ops ?_ ?_; (focus exact rfl)) | ((first | refine z_nil fun vals => ?_ | refine g_op ?_); conv => whnf) | (refine And.intro ?_ ?_; (focus exact au0); conv => whnf) | (refine g_seq ?_) | (refine XS.go ?_) | (refine g_ops ?_) | ((first | refine g_nil ?_ | refine g_cond ?_ | refine g_skip ?_ | refine g_ret ?_); conv => whnf) | (refine g_block ?_) | ((first | refine r_t ?_ | refine r_nil ?_); conv => whnf) | (refine Br.mk (fun hb => ?_) (fun hb => ?_) <;> conv => whnf) | fail)
  all_goals
   first
   | ((conv => lhs; whnf); first | (rw [hit hb]; done) | (rw [hit hb]; rfl) | fail)
   |(refine ⟨i + 1, ⟨by omega, miss hb⟩, by omega, ?_, ?_⟩
     ·repeat' (first | exact True.intro | refine And.intro (congrArg (D.int .i64) hw) ?_ | refine And.intro rfl ?_)
     ·repeat' (first | exact True.intro | refine And.intro rfl ?_))
 have hge : ¬ i < b.fServices.length := by simpa using hb
 have hend : svcI b name = -1 := by rw [hN, idxN_end hge]
 clear hN
 conv => whnf
 repeat' (first | (refine g_op ?_; conv => whnf) | (refine And.intro ?_ ?_; (focus exact au0); conv => whnf) | (refine g_seq ?_) | (refine XS.go ?_) | (refine g_ops ?_) | ((first | refine g_nil ?_ | refine g_ret ?_ | refine g_exit ?_ | refine r_t ?_ | refine r_nil ?_); conv => whnf) | fail)
 ((conv => lhs; whnf); first | (rw [hend]; done) | (rw [hend]; rfl))
theorem spec_Berth (b : StewBook) (name : ByteArray) (hl : b.fBerths.length ≤ 1048576) : Rdr Try.prog 138 [b.D, .str name] (.int .i64 (berI b name)) := by
 refine Rdr.intro' hm c138 (Nat.le_of_ble_eq_true rfl) ?_
 conv => whnf
 repeat' (first | (refine g_op ?_; conv => whnf) | (refine And.intro ?_ ?_; (focus exact au0); conv => whnf) | (refine g_seq ?_) | (refine g_ops ?_) | ((first | refine g_nil ?_ | refine fun _ => ?_); conv => whnf) | fail)
 refine XS.freezeB 2 rfl ?_
 repeat' (first | (refine g_op ?_; conv => whnf) | (refine And.intro ?_ ?_; (focus exact au0); conv => whnf) | (refine g_seq ?_) | (refine XS.go ?_) | (refine g_ops ?_) | (refine g_loop ?_) | (refine g_nil ?_; conv => whnf) | (refine g_block ?_) | fail)
 refine XLc.mkL (α := Nat) (fun i => i ≤ b.fBerths.length ∧ berI b name = idxN (berF b name) (b.fBerths.length - i) i) (fun i => b.fBerths.length - i) (fun i gs => [.any, .str name, .cref b.D, .any, .any, .int .i64 (i : Int)]) (fun i gs => []) 0 ⟨Nat.zero_le _, rfl⟩ ?_ ?_
 ·refine ⟨?_, ?_⟩
  ·repeat' (first | exact True.intro | refine And.intro rfl ?_)
  ·repeat' (first | exact True.intro | refine And.intro rfl ?_)
 intro i gs hI
 obtain ⟨hi, hN⟩ := hI
 repeat' (first | (refine z_ld1 ?_; first | (refine z_ld rfl rfl rfl rfl au1 au2 ?_; conv => whnf) | (refine z_ld0 rfl ?_; conv => whnf)) | (refine z_op ?_ ?_; (focus exact rfl); conv => whnf) | (refine zs_ops ?_ ?_; (focus exact rfl)) | (refine z_nil fun vals => ?_; conv => whnf) | (refine And.intro ?_ ?_; (focus exact au0); conv => whnf) | (refine g_seq ?_) | (refine XS.go ?_) | (refine g_cond ?_; conv => whnf) | fail)
 refine Br.mk (fun hb => ?_) (fun hb => ?_)
 ·have hlt : i < b.fBerths.length := by simpa using hb
  have hw : IntKind.wrap .i64 ((i : Int) + 1) = ((i + 1 : Nat) : Int) := by rw [wrap_ok (by omega) (by omega)]; rfl
  have hit := fun h => idxN_hit (f := berF b name) hlt hN h
  have miss := fun h => idxN_miss (f := berF b name) hlt hN h
  clear hN hb
  conv => whnf
  repeat' (first | (refine z_ld1 ?_; first | (refine z_ld rfl rfl rfl rfl au1 au2 ?_; conv => whnf) | (refine z_ld0 rfl ?_; conv => whnf)) | (refine z_ix1 ?_; first | (refine z_ix rfl rfl rfl rfl rfl ⟨by first | omega | (simp only [decide_eq_true_eq, Bool.not_eq_true', Bool.or_eq_false_iff, decide_eq_false_iff_not, Bool.and_eq_true, Bool.not_eq_false'] at *; omega), by first | omega | (simp only [decide_eq_true_eq, Bool.not_eq_true', Bool.or_eq_false_iff, decide_eq_false_iff_not, Bool.and_eq_true, Bool.not_eq_false'] at *; omega)⟩ ?_; conv => whnf) | (refine z_ix0 rfl rfl ?_; conv => whnf)) | (refine z_op ?_ ?_; (focus exact rfl); conv => whnf) | (refine zs_ops ?_ ?_; (focus exact rfl)) | ((first | refine z_nil fun vals => ?_ | refine g_op ?_); conv => whnf) | (refine And.intro ?_ ?_; (focus exact au0); conv => whnf) | (refine g_seq ?_) | (refine XS.go ?_) | (refine g_ops ?_) | ((first | refine g_nil ?_ | refine g_cond ?_ | refine g_skip ?_ | refine g_ret ?_); conv => whnf) | (refine g_block ?_) | ((first | refine r_t ?_ | refine r_nil ?_); conv => whnf) | (refine Br.mk (fun hb => ?_) (fun hb => ?_) <;> conv => whnf) | fail)
  all_goals
   first
   | ((conv => lhs; whnf); first | (rw [hit hb]; done) | (rw [hit hb]; rfl) | fail)
   |(refine ⟨i + 1, ⟨by omega, miss hb⟩, by omega, ?_, ?_⟩
     ·repeat' (first | exact True.intro | refine And.intro (congrArg (D.int .i64) hw) ?_ | refine And.intro rfl ?_)
     ·repeat' (first | exact True.intro | refine And.intro rfl ?_))
 have hge : ¬ i < b.fBerths.length := by simpa using hb
 have hend : berI b name = -1 := by rw [hN, idxN_end hge]
 clear hN
 conv => whnf
 repeat' (first | (refine g_op ?_; conv => whnf) | (refine And.intro ?_ ?_; (focus exact au0); conv => whnf) | (refine g_seq ?_) | (refine XS.go ?_) | (refine g_ops ?_) | ((first | refine g_nil ?_ | refine g_ret ?_ | refine g_exit ?_ | refine r_t ?_ | refine r_nil ?_); conv => whnf) | fail)
 ((conv => lhs; whnf); first | (rw [hend]; done) | (rw [hend]; rfl))
theorem svcI_lt (b : StewBook) (name : ByteArray) : svcI b name < b.fServices.length ∨ b.fServices.length = 0 := by
 by_cases h : 0 < b.fServices.length
 ·exact .inl (idxN_lt h)
 ·exact .inr (by omega)
def copyOk (b : StewBook) (c : StewCopy) : Bool :=
 !decide (svcI b c.fService < 0) && inR c.fNumber 1 (IntKind.wrap .i64 ((b.fServices.getD (svcI b c.fService).toNat default).fNext - 1)) && inR c.fVersion 1 b.fNow && inR c.fImage 1 1000000 && inR c.fState 1 4 && cond (c.fState == 1) (c.fBerth.toList == (ByteArray.mk #[]).toList) (!decide (berI b c.fBerth < 0))
def ahead (a b : StewCopy) : Bool := Op.bytesLess a.fService.toList b.fService.toList || (a.fService.toList == b.fService.toList && decide (a.fNumber < b.fNumber))
theorem spec_Ahead (a b : StewCopy) : Rdr Try.prog 74 [a.D, b.D] (.bool (ahead a b)) := by
 refine Rdr.intro' hm c74 (Nat.le_of_ble_eq_true rfl) ?_
 conv => whnf
 repeat' (first | (refine z_ld1 ?_; first | (refine z_ld rfl rfl rfl rfl au1 au2 ?_; conv => whnf) | (refine z_ld0 rfl ?_; conv => whnf)) | (refine z_ld1g ?_; first | (refine z_ldg rfl rfl rfl rfl rfl rfl rfl (by (repeat intro _); exact ⟨au1, au2⟩) rfl rfl rfl rfl ?_; conv => whnf) | (refine z_ld0g ?_; (conv => whnf); refine And.intro ?_ ?_; (focus exact rfl); conv => whnf)) | (refine z_op ?_ ?_; (focus exact rfl); conv => whnf) | (refine z_opg0 ?_; (conv => whnf); refine And.intro ?_ ?_; (focus exact rfl); conv => whnf) | (refine z_pick ?_ ?_; (focus exact rfl); conv => whnf) | (refine z_pickg ?_; (conv => whnf); refine And.intro ?_ ?_; (focus exact rfl); conv => whnf) | (refine zs_ops ?_ ?_; (focus exact rfl)) | ((first | refine z_nil fun vals => ?_ | refine g_op ?_); conv => whnf) | (refine And.intro ?_ ?_; (focus exact au0); conv => whnf) | (refine g_seq ?_) | (refine XS.go ?_) | (refine g_ops ?_) | ((first | refine g_nil ?_ | refine g_ret ?_ | refine r_t ?_ | refine r_nil ?_ | refine fun _ => ?_); conv => whnf) | fail)
 (conv => lhs; whnf)
 rfl
theorem svcI_neg (b : StewBook) (name : ByteArray) (h : b.fServices.length = 0) : svcI b name < 0 := by
 unfold svcI
 rw [h]
 show (-1 : Int) < 0
 decide
theorem spec_CopyOk (b : StewBook) (c : StewCopy) (h1 : b.fServices.length ≤ 1048576) (h2 : b.fBerths.length ≤ 1048576) : Rdr Try.prog 73 [b.D, c.D] (.bool (copyOk b c)) := by
 refine Rdr.intro' hm c73 (Nat.le_of_ble_eq_true rfl) ?_
 conv => whnf
 have hlt : 0 ≤ svcI b c.fService → svcI b c.fService < b.fServices.length := fun h => by
  rcases svcI_lt b c.fService with q | q
  ·exact q
  ·have := svcI_neg b c.fService q; omega
 repeat' (first | (refine z_ld1 ?_; first | (refine z_ld rfl rfl rfl rfl au1 au2 ?_; conv => whnf) | (refine z_ld0 rfl ?_; conv => whnf)) | (refine z_ld1g ?_; first | (refine z_ldg rfl rfl rfl rfl rfl rfl rfl (by (repeat intro _); exact ⟨au1, au2⟩) rfl rfl rfl rfl ?_; conv => whnf) | (refine z_ld0g ?_; (conv => whnf); refine And.intro ?_ ?_; (focus exact rfl); conv => whnf)) | (refine z_ix1g ?_; refine z_ixg rfl rfl rfl rfl rfl rfl rfl (by (repeat intro _); refine ⟨?_, ?_⟩ <;> first | omega | (simp only [decide_eq_true_eq, Bool.not_eq_true', Bool.or_eq_false_iff, decide_eq_false_iff_not, Bool.and_eq_true, Bool.not_eq_false'] at *; omega)) ?_) | (refine z_op ?_ ?_; (focus exact rfl); conv => whnf) | (refine z_opg0 ?_; (conv => whnf); refine And.intro ?_ ?_; (focus exact rfl); conv => whnf) | (refine z_pick ?_ ?_; (focus exact rfl); conv => whnf) | (refine zs_ops ?_ ?_; (focus exact rfl)) | (refine zs_quiet ?_ ?_; (focus exact rfl)) | (refine z_nil fun vals => ?_; conv => whnf) | (refine z_call ?_ ?_; (focus exact rfl)) | (refine z_callg0 ?_; (conv => whnf); refine And.intro ?_ ?_; (focus exact rfl)) | (refine RC.of (spec_Service b _ h1) ?_ ?_; (focus exact rfl); conv => whnf) | (refine RC.of (spec_In _ _ _) ?_ ?_; (focus exact rfl); conv => whnf) | (refine RC.of (spec_Berth b _ h2) ?_ ?_; (focus exact rfl); conv => whnf) | (refine g_op ?_; conv => whnf) | (refine And.intro ?_ ?_; (focus exact au0); conv => whnf) | (refine g_seq ?_) | (refine XS.go ?_) | (refine g_ops ?_) | ((first | refine g_nil ?_ | refine g_cond ?_ | refine g_skip ?_ | refine g_ret ?_ | refine r_t ?_ | refine r_nil ?_ | refine fun _ => ?_); conv => whnf) | (refine Br.mk (fun hb => ?_) (fun hb => ?_) <;> conv => whnf) | fail)
 all_goals clear hlt
 all_goals (conv => lhs; whnf)
 all_goals refine congrArg D.bool ?_
 all_goals first | (refine (Bool.eq_false_iff.mpr fun h => ?_).symm; simp_all [copyOk]; done) | (refine Bool.eq_false_iff.mpr fun h => ?_; simp_all [copyOk]; done) | (simp_all [copyOk]; done) | (simp_all [copyOk]; omega) | (refine (Bool.eq_false_iff.mpr fun h => ?_).symm; simp_all [copyOk]; omega) | (refine Bool.eq_false_iff.mpr fun h => ?_; simp_all [copyOk]; omega) | (rw [Bool.eq_iff_iff]; constructor <;> intro h <;> simp_all [copyOk] <;> omega) | fail
end Go.Ab
set_option linter.unusedSimpArgs false
set_option linter.unusedVariables false
namespace Go.Ab
open Go Go.RowKit Go.Proofs
attribute [local irreducible] XC Rdr IntKind.wrap xw xos xqs xr xd
set_option maxRecDepth 100000
set_option maxHeartbeats 16000000
def cf19 : CF := ⟨133,[.t 2],(.seq (.ops [Oo 1 (.bx (.t 0)),Ok 2 (.bool false)]) (.seq (.seq (.ops [Of 6 0 1,Ol 7 6,Oc 8 70 [.t 7,(.k (.int .i64 0)),(.k (.int .i64 1000000))],Oo 9 (.not (.t 8)),Om 10 9,⟨some 11,.fa 1 1 1 (.t 1),some (10,false)⟩,⟨some 12,.ld 1 false (.t 11),some (10,false)⟩,⟨some 13,.lenl (.t 12),some (10,false)⟩,⟨some 14,.bin .gtr (.t 13) (.k (.int .i64 8)),some (10,false)⟩,Oo 15 (.pick (.t 10) (.k (.bool true)) (.t 14)),Om 16 15,⟨some 17,.fa 2 1 2 (.t 1),some (16,false)⟩,⟨some 18,.ld 1 false (.t 17),some (16,false)⟩,⟨some 19,.lenl (.t 18),some (16,false)⟩,⟨some 20,.bin .gtr (.t 19) (.k (.int .i64 200)),some (16,false)⟩,Oo 21 (.pick (.t 16) (.k (.bool true)) (.t 20)),Om 22 21,⟨some 23,.fa 3 1 3 (.t 1),some (22,false)⟩,⟨some 24,.ld 1 false (.t 23),some (22,false)⟩,⟨some 25,.lenl (.t 24),some (22,false)⟩,⟨some 26,.bin .gtr (.t 25) (.k (.int .i64 6)),some (22,false)⟩,Oo 27 (.pick (.t 22) (.k (.bool true)) (.t 26))]) (.cond (.t 27) (.seq (.ops [Ok 2 (.bool false)]) .ret) .skip)) (.seq (.seq (.ops [Ok 3 (.int .i64 0)]) (.block 0 (.loop (.seq (.seq (.ops [Om 28 3,Of 29 1 1,Ol 30 29,Og 31 30,Ob 32 .lss 28 31]) (.cond (.t 32) .skip (.exit 0))) (.seq (.block 1 (.seq (.quiet [Of 35 1 1,Ol 36 35,Om 37 3,Ox 38 13 36 37,Od 39 13 38,Of 40 0 1,Ol 41 40,Oc 42 71 [.t 39,.t 41],Oo 43 (.not (.t 42)),Om 44 43,⟨some 45,.mv (.t 3),some (44,false)⟩,⟨some 46,.bin .gtr (.t 45) (.k (.int .i64 0)),some (44,false)⟩,⟨some 47,.mv (.t 46),some (44,false)⟩,⟨some 48,.fa 1 1 1 (.t 1),some (47,true)⟩,⟨some 49,.ld 1 false (.t 48),some (47,true)⟩,⟨some 50,.mv (.t 3),some (47,true)⟩,⟨some 51,.bin .sub (.t 50) (.k (.int .i64 1)),some (47,true)⟩,⟨some 52,.ix 13 (.t 49) (.t 51),some (47,true)⟩,⟨some 53,.fa 0 1 0 (.t 52),some (47,true)⟩,⟨some 54,.ld 1 false (.t 53),some (47,true)⟩,⟨some 55,.fa 1 1 1 (.t 1),some (47,true)⟩,⟨some 56,.ld 1 false (.t 55),some (47,true)⟩,⟨some 57,.mv (.t 3),some (47,true)⟩,⟨some 58,.ix 13 (.t 56) (.t 57),some (47,true)⟩,⟨some 59,.fa 0 1 0 (.t 58),some (47,true)⟩,⟨some 60,.ld 1 false (.t 59),some (47,true)⟩,⟨some 61,.bin .geq (.t 54) (.t 60),some (47,true)⟩,⟨some 62,.pick (.t 47) (.t 61) (.k (.bool false)),some (44,false)⟩,Oo 63 (.pick (.t 44) (.k (.bool true)) (.t 62))]) (.cond (.t 63) (.seq (.ops [Ok 2 (.bool false)]) .ret) .skip))) (.ops [Om 33 3,Oi 34 33,Om 3 34])))))) (.seq (.seq (.ops [Ok 4 (.int .i64 0)]) (.block 2 (.loop (.seq (.seq (.ops [Om 64 4,Of 65 3 1,Ol 66 65,Og 67 66,Ob 68 .lss 64 67]) (.cond (.t 68) .skip (.exit 2))) (.seq (.block 3 (.seq (.quiet [Of 71 3 1,Ol 72 71,Om 73 4,Ox 74 2 72 73,Of 75 0 74,Ol 76 75,Oc 77 72 [.t 76],Oo 78 (.not (.t 77)),Om 79 78,⟨some 80,.mv (.t 4),some (79,false)⟩,⟨some 81,.bin .gtr (.t 80) (.k (.int .i64 0)),some (79,false)⟩,⟨some 82,.mv (.t 81),some (79,false)⟩,⟨some 83,.fa 3 1 3 (.t 1),some (82,true)⟩,⟨some 84,.ld 1 false (.t 83),some (82,true)⟩,⟨some 85,.mv (.t 4),some (82,true)⟩,⟨some 86,.bin .sub (.t 85) (.k (.int .i64 1)),some (82,true)⟩,⟨some 87,.ix 2 (.t 84) (.t 86),some (82,true)⟩,⟨some 88,.fa 0 1 0 (.t 87),some (82,true)⟩,⟨some 89,.ld 1 false (.t 88),some (82,true)⟩,⟨some 90,.fa 3 1 3 (.t 1),some (82,true)⟩,⟨some 91,.ld 1 false (.t 90),some (82,true)⟩,⟨some 92,.mv (.t 4),some (82,true)⟩,⟨some 93,.ix 2 (.t 91) (.t 92),some (82,true)⟩,⟨some 94,.fa 0 1 0 (.t 93),some (82,true)⟩,⟨some 95,.ld 1 false (.t 94),some (82,true)⟩,⟨some 96,.bin .geq (.t 89) (.t 95),some (82,true)⟩,⟨some 97,.pick (.t 82) (.t 96) (.k (.bool false)),some (79,false)⟩,Oo 98 (.pick (.t 79) (.k (.bool true)) (.t 97))]) (.cond (.t 98) (.seq (.ops [Ok 2 (.bool false)]) .ret) .skip))) (.ops [Om 69 4,Oi 70 69,Om 4 70])))))) (.seq (.seq (.ops [Ok 5 (.int .i64 0)]) (.block 4 (.loop (.seq (.seq (.ops [Om 99 5,Of 100 2 1,Ol 101 100,Og 102 101,Ob 103 .lss 99 102]) (.cond (.t 103) .skip (.exit 4))) (.seq (.block 5 (.seq (.quiet [Od 106 4 1,Of 107 2 1,Ol 108 107,Om 109 5,Ox 110 7 108 109,Od 111 7 110,Oc 112 73 [.t 106,.t 111],Oo 113 (.not (.t 112)),Om 114 113,⟨some 115,.mv (.t 5),some (114,false)⟩,⟨some 116,.bin .gtr (.t 115) (.k (.int .i64 0)),some (114,false)⟩,⟨some 117,.mv (.t 116),some (114,false)⟩,⟨some 118,.fa 2 1 2 (.t 1),some (117,true)⟩,⟨some 119,.ld 1 false (.t 118),some (117,true)⟩,⟨some 120,.mv (.t 5),some (117,true)⟩,⟨some 121,.bin .sub (.t 120) (.k (.int .i64 1)),some (117,true)⟩,⟨some 122,.ix 7 (.t 119) (.t 121),some (117,true)⟩,⟨some 123,.ld 7 true (.t 122),some (117,true)⟩,⟨some 124,.fa 2 1 2 (.t 1),some (117,true)⟩,⟨some 125,.ld 1 false (.t 124),some (117,true)⟩,⟨some 126,.mv (.t 5),some (117,true)⟩,⟨some 127,.ix 7 (.t 125) (.t 126),some (117,true)⟩,⟨some 128,.ld 7 true (.t 127),some (117,true)⟩,⟨some 129,.call 74 [.t 123,.t 128],some (117,true)⟩,⟨some 130,.not (.t 129),some (117,true)⟩,⟨some 131,.pick (.t 117) (.t 130) (.k (.bool false)),some (114,false)⟩,Oo 132 (.pick (.t 114) (.k (.bool true)) (.t 131))]) (.cond (.t 132) (.seq (.ops [Ok 2 (.bool false)]) .ret) .skip))) (.ops [Om 104 5,Oi 105 104,Om 5 105])))))) (.seq (.ops [Ok 2 (.bool true)]) .ret))))))⟩
theorem c19 : compileF Try.prog [] 19 = some cf19 := by kernel_rfl
def cf20 : CF := ⟨183,[.t 2],(.seq (.ops [Oo 1 (.bx (.t 0)),Ok 2 (.bool false)]) (.seq (.seq (.ops [Of 11 0 1,Ol 12 11,Oc 13 75 [.t 12,(.k (.int .i64 0)),(.k (.int .i64 1000000))],Oo 14 (.not (.t 13)),Om 15 14,⟨some 16,.fa 1 1 1 (.t 1),some (15,false)⟩,⟨some 17,.ld 1 false (.t 16),some (15,false)⟩,⟨some 18,.lenl (.t 17),some (15,false)⟩,⟨some 19,.bin .gtr (.t 18) (.k (.int .i64 8)),some (15,false)⟩,Oo 20 (.pick (.t 15) (.k (.bool true)) (.t 19)),Om 21 20,⟨some 22,.fa 2 1 2 (.t 1),some (21,false)⟩,⟨some 23,.ld 1 false (.t 22),some (21,false)⟩,⟨some 24,.lenl (.t 23),some (21,false)⟩,⟨some 25,.bin .gtr (.t 24) (.k (.int .i64 200)),some (21,false)⟩,Oo 26 (.pick (.t 21) (.k (.bool true)) (.t 25)),Om 27 26,⟨some 28,.fa 3 1 3 (.t 1),some (27,false)⟩,⟨some 29,.ld 1 false (.t 28),some (27,false)⟩,⟨some 30,.lenl (.t 29),some (27,false)⟩,⟨some 31,.bin .gtr (.t 30) (.k (.int .i64 6)),some (27,false)⟩,Oo 32 (.pick (.t 27) (.k (.bool true)) (.t 31))]) (.cond (.t 32) (.seq (.ops [Ok 2 (.bool false)]) .ret) .skip)) (.seq (.seq (.ops [Of 33 1 1,Ol 34 33,Og 35 34,Ok 36 (.int .i64 0)]) (.block 0 (.loop (.seq (.ops [Ob 37 .lss 36 35]) (.seq (.cond (.t 37) .skip (.exit 0)) (.seq (.block 1 (.seq (.ops [Om 38 36,Ox 39 13 34 36,Od 40 13 39,Oo 4 (.al (.agg [.str ⟨#[]⟩,.int .i64 0,.bool false,.int .i64 0,.int .i64 0,.int .i64 0,.int .i64 0,.int .i64 0,.int .i64 0,.int .i64 0,.int .i64 0,.int .i64 0,.int .i64 0])),Om 3 38,Os 13 4 40]) (.seq (.quiet [Od 41 13 4,Of 42 0 1,Ol 43 42,Oc 44 76 [.t 41,.t 43],Oo 45 (.not (.t 44)),Om 46 45,⟨some 47,.mv (.t 3),some (46,false)⟩,⟨some 48,.bin .gtr (.t 47) (.k (.int .i64 0)),some (46,false)⟩,⟨some 49,.mv (.t 48),some (46,false)⟩,⟨some 50,.fa 0 1 0 (.t 4),some (49,true)⟩,⟨some 51,.ld 1 false (.t 50),some (49,true)⟩,⟨some 52,.fa 1 1 1 (.t 1),some (49,true)⟩,⟨some 53,.ld 1 false (.t 52),some (49,true)⟩,⟨some 54,.mv (.t 3),some (49,true)⟩,⟨some 55,.bin .sub (.t 54) (.k (.int .i64 1)),some (49,true)⟩,⟨some 56,.ix 13 (.t 53) (.t 55),some (49,true)⟩,⟨some 57,.fa 0 1 0 (.t 56),some (49,true)⟩,⟨some 58,.ld 1 false (.t 57),some (49,true)⟩,⟨some 59,.bin .leq (.t 51) (.t 58),some (49,true)⟩,⟨some 60,.pick (.t 49) (.t 59) (.k (.bool false)),some (46,false)⟩,Oo 61 (.pick (.t 46) (.k (.bool true)) (.t 60))]) (.cond (.t 61) (.seq (.ops [Ok 2 (.bool false)]) .ret) .skip)))) (.ops [Oi 62 36,Om 36 62]))))))) (.seq (.seq (.ops [Of 63 3 1,Ol 64 63,Og 65 64,Ok 66 (.int .i64 0)]) (.block 2 (.loop (.seq (.ops [Ob 67 .lss 66 65]) (.seq (.cond (.t 67) .skip (.exit 2)) (.seq (.block 3 (.seq (.ops [Om 68 66,Ox 69 2 64 66,Od 70 2 69,Oo 6 (.al (.agg [.str ⟨#[]⟩,.bool false])),Om 5 68,Os 2 6 70]) (.seq (.quiet [Of 71 0 6,Ol 72 71,Oc 73 77 [.t 72],Oo 74 (.not (.t 73)),Om 75 74,⟨some 76,.mv (.t 5),some (75,false)⟩,⟨some 77,.bin .gtr (.t 76) (.k (.int .i64 0)),some (75,false)⟩,⟨some 78,.mv (.t 77),some (75,false)⟩,⟨some 79,.fa 0 1 0 (.t 6),some (78,true)⟩,⟨some 80,.ld 1 false (.t 79),some (78,true)⟩,⟨some 81,.fa 3 1 3 (.t 1),some (78,true)⟩,⟨some 82,.ld 1 false (.t 81),some (78,true)⟩,⟨some 83,.mv (.t 5),some (78,true)⟩,⟨some 84,.bin .sub (.t 83) (.k (.int .i64 1)),some (78,true)⟩,⟨some 85,.ix 2 (.t 82) (.t 84),some (78,true)⟩,⟨some 86,.fa 0 1 0 (.t 85),some (78,true)⟩,⟨some 87,.ld 1 false (.t 86),some (78,true)⟩,⟨some 88,.bin .leq (.t 80) (.t 87),some (78,true)⟩,⟨some 89,.pick (.t 78) (.t 88) (.k (.bool false)),some (75,false)⟩,Oo 90 (.pick (.t 75) (.k (.bool true)) (.t 89))]) (.cond (.t 90) (.seq (.ops [Ok 2 (.bool false)]) .ret) .skip)))) (.ops [Oi 91 66,Om 66 91]))))))) (.seq (.seq (.ops [Of 92 2 1,Ol 93 92,Og 94 93,Ok 95 (.int .i64 0)]) (.block 4 (.loop (.seq (.ops [Ob 96 .lss 95 94]) (.seq (.cond (.t 96) .skip (.exit 4)) (.seq (.block 5 (.seq (.ops [Om 97 95,Ox 98 7 93 95,Od 99 7 98,Oo 8 (.al (.agg [.str ⟨#[]⟩,.int .i64 0,.int .i64 0,.int .i64 0,.int .i64 0,.bool false,.str ⟨#[]⟩])),Om 7 97,Os 7 8 99]) (.seq (.ops [Of 100 0 8,Ol 101 100,Oc 102 78 [.t 1,.t 101],Om 9 102]) (.seq (.seq (.quiet [Om 103 9,Oo 104 (.ptb false (.t 103) (.k (.nilp))),Om 105 104,⟨some 106,.fa 1 1 1 (.t 8),some (105,false)⟩,⟨some 107,.ld 1 false (.t 106),some (105,false)⟩,⟨some 108,.mv (.t 9),some (105,false)⟩,⟨some 109,.nilc (.t 108),some (105,false)⟩,⟨some 110,.fa 7 1 7 (.t 109),some (105,false)⟩,⟨some 111,.ld 1 false (.t 110),some (105,false)⟩,⟨some 112,.bin .sub (.t 111) (.k (.int .i64 1)),some (105,false)⟩,⟨some 113,.call 75 [.t 107,(.k (.int .i64 1)),.t 112],some (105,false)⟩,⟨some 114,.not (.t 113),some (105,false)⟩,Oo 115 (.pick (.t 105) (.k (.bool true)) (.t 114)),Om 116 115,⟨some 117,.fa 2 1 2 (.t 8),some (116,false)⟩,⟨some 118,.ld 1 false (.t 117),some (116,false)⟩,⟨some 119,.fa 0 1 0 (.t 1),some (116,false)⟩,⟨some 120,.ld 1 false (.t 119),some (116,false)⟩,⟨some 121,.call 75 [.t 118,(.k (.int .i64 1)),.t 120],some (116,false)⟩,⟨some 122,.not (.t 121),some (116,false)⟩,Oo 123 (.pick (.t 116) (.k (.bool true)) (.t 122)),Om 124 123,⟨some 125,.fa 3 1 3 (.t 8),some (124,false)⟩,⟨some 126,.ld 1 false (.t 125),some (124,false)⟩,⟨some 127,.call 75 [.t 126,(.k (.int .i64 1)),(.k (.int .i64 1000000))],some (124,false)⟩,⟨some 128,.not (.t 127),some (124,false)⟩,Oo 129 (.pick (.t 124) (.k (.bool true)) (.t 128)),Om 130 129,⟨some 131,.fa 4 1 4 (.t 8),some (130,false)⟩,⟨some 132,.ld 1 false (.t 131),some (130,false)⟩,⟨some 133,.call 75 [.t 132,(.k (.int .i64 1)),(.k (.int .i64 4))],some (130,false)⟩,⟨some 134,.not (.t 133),some (130,false)⟩,Oo 135 (.pick (.t 130) (.k (.bool true)) (.t 134))]) (.cond (.t 135) (.seq (.ops [Ok 2 (.bool false)]) .ret) .skip)) (.seq (.seq (.ops [Of 136 4 8,Ol 137 136,Oo 138 (.bin .eql (.t 137) (.k (.int .i64 1))),Om 139 138,⟨some 140,.fa 6 1 6 (.t 8),some (139,true)⟩,⟨some 141,.ld 1 false (.t 140),some (139,true)⟩,⟨some 142,.bin .neq (.t 141) (.k (.str ⟨#[]⟩)),some (139,true)⟩,Oo 143 (.pick (.t 139) (.t 142) (.k (.bool false))),Om 144 143,⟨some 145,.fa 4 1 4 (.t 8),some (144,false)⟩,⟨some 146,.ld 1 false (.t 145),some (144,false)⟩,⟨some 147,.bin .neq (.t 146) (.k (.int .i64 1)),some (144,false)⟩,⟨some 148,.mv (.t 147),some (144,false)⟩,⟨some 149,.fa 6 1 6 (.t 8),some (148,true)⟩,⟨some 150,.ld 1 false (.t 149),some (148,true)⟩,⟨some 151,.call 79 [.t 1,.t 150],some (148,true)⟩,⟨some 152,.ptb false (.t 151) (.k (.nilp)),some (148,true)⟩,⟨some 153,.pick (.t 148) (.t 152) (.k (.bool false)),some (144,false)⟩,Oo 154 (.pick (.t 144) (.k (.bool true)) (.t 153))]) (.cond (.t 154) (.seq (.ops [Ok 2 (.bool false)]) .ret) .skip)) (.seq (.ops [Om 155 7,Oo 156 (.bin .gtr (.t 155) (.k (.int .i64 0)))]) (.cond (.t 156) (.seq (.ops [Of 157 2 1,Ol 158 157,Om 159 7,Oo 160 (.bin .sub (.t 159) (.k (.int .i64 1))),Ox 161 7 158 160,Od 162 7 161,Oo 10 (.al (.agg [.str ⟨#[]⟩,.int .i64 0,.int .i64 0,.int .i64 0,.int .i64 0,.bool false,.str ⟨#[]⟩])),Os 7 10 162]) (.seq (.ops [Of 163 0 8,Ol 164 163,Of 165 0 10,Ol 166 165,Ob 167 .lss 164 166,Om 168 167,⟨some 169,.fa 0 1 0 (.t 8),some (168,false)⟩,⟨some 170,.ld 1 false (.t 169),some (168,false)⟩,⟨some 171,.fa 0 1 0 (.t 10),some (168,false)⟩,⟨some 172,.ld 1 false (.t 171),some (168,false)⟩,⟨some 173,.bin .eql (.t 170) (.t 172),some (168,false)⟩,⟨some 174,.mv (.t 173),some (168,false)⟩,⟨some 175,.fa 1 1 1 (.t 8),some (174,true)⟩,⟨some 176,.ld 1 false (.t 175),some (174,true)⟩,⟨some 177,.fa 1 1 1 (.t 10),some (174,true)⟩,⟨some 178,.ld 1 false (.t 177),some (174,true)⟩,⟨some 179,.bin .leq (.t 176) (.t 178),some (174,true)⟩,⟨some 180,.pick (.t 174) (.t 179) (.k (.bool false)),some (168,false)⟩,Oo 181 (.pick (.t 168) (.k (.bool true)) (.t 180))]) (.cond (.t 181) (.seq (.ops [Ok 2 (.bool false)]) .ret) .skip))) .skip))))))) (.ops [Oi 182 95,Om 95 182]))))))) (.seq (.ops [Ok 2 (.bool true)]) .ret))))))⟩
theorem c20 : compileF Try.prog [] 20 = some cf20 := by kernel_rfl
def vS (b : StewBook) (i : Nat) : Bool := svcOk (b.fServices.getD i default) b.fNow && !(decide ((i : Int) > 0) && !Op.bytesLess (b.fServices.getD (pr i) default).fName.toList (b.fServices.getD i default).fName.toList)
def vB (b : StewBook) (i : Nat) : Bool := nameOk (b.fBerths.getD i default).fName && !(decide ((i : Int) > 0) && !Op.bytesLess (b.fBerths.getD (pr i) default).fName.toList (b.fBerths.getD i default).fName.toList)
def vC (b : StewBook) (i : Nat) : Bool := copyOk b (b.fCopies.getD i default) && !(decide ((i : Int) > 0) && !ahead (b.fCopies.getD (pr i) default) (b.fCopies.getD i default))
def valid (b : StewBook) : Bool := !(!inR b.fNow 0 1000000 || decide ((b.fServices.length : Int) > 8) || decide ((b.fCopies.length : Int) > 200) || decide ((b.fBerths.length : Int) > 6)) && (allN (vS b) b.fServices.length 0 && (allN (vB b) b.fBerths.length 0 && (allN (vC b) b.fCopies.length 0 && true)))
theorem spec_Valid (b : StewBook) (h1 : b.fServices.length ≤ 1048576) (h2 : b.fBerths.length ≤ 1048576) (h3 : b.fCopies.length ≤ 1048576) : Rdr Try.prog 19 [b.D] (.bool (valid b)) := by
 refine Rdr.intro' hm c19 (Nat.le_of_ble_eq_true rfl) ?_
 conv => whnf
 repeat' (first | (refine g_op ?_; conv => whnf) | (refine And.intro ?_ ?_; (focus exact au0); conv => whnf) | (refine g_seq ?_) | (refine g_ops ?_) | ((first | refine g_nil ?_ | refine fun _ => ?_); conv => whnf) | fail)
 refine XS.freezeB 1 rfl ?_
 repeat' (first | (refine z_ld1 ?_; first | (refine z_ld rfl rfl rfl rfl au1 au2 ?_; conv => whnf) | (refine z_ld0 rfl ?_; conv => whnf)) | (refine z_ld1g ?_; first | (refine z_ldg rfl rfl rfl rfl rfl rfl rfl (by (repeat intro _); exact ⟨au1, au2⟩) rfl rfl rfl rfl ?_; conv => whnf) | (refine z_ld0g ?_; (conv => whnf); refine And.intro ?_ ?_; (focus exact rfl); conv => whnf)) | (refine z_op ?_ ?_; (focus exact rfl); conv => whnf) | (refine z_opg0 ?_; (conv => whnf); refine And.intro ?_ ?_; (focus exact rfl); conv => whnf) | (refine z_pick ?_ ?_; (focus exact rfl); conv => whnf) | (refine zs_ops ?_ ?_; (focus exact rfl)) | (refine z_nil fun vals => ?_; conv => whnf) | (refine z_call ?_ ?_; (focus exact rfl)) | (refine RC.of (spec_In _ _ _) ?_ ?_; (focus exact rfl); conv => whnf) | (refine And.intro ?_ ?_; (focus exact au0); conv => whnf) | (refine g_seq ?_) | (refine XS.go ?_) | (refine g_cond ?_; conv => whnf) | fail)
 simp only [mlen']
 refine Br.mk (fun hb => ?_) (fun hb => ?_)
 ·conv => whnf
  repeat' (first | (refine g_op ?_; conv => whnf) | (refine And.intro ?_ ?_; (focus exact au0); conv => whnf) | (refine g_seq ?_) | (refine XS.go ?_) | (refine g_ops ?_) | ((first | refine g_nil ?_ | refine g_ret ?_ | refine r_t ?_ | refine r_nil ?_); conv => whnf) | fail)
  (conv => lhs; whnf)
  rw [valid, hb]
  rfl
 have hv : valid b = (allN (vS b) b.fServices.length 0 && (allN (vB b) b.fBerths.length 0 && (allN (vC b) b.fCopies.length 0 && true))) := by rw [valid, hb]; rfl
 clear hb
 conv => whnf
 repeat' (first | (refine g_op ?_; conv => whnf) | (refine And.intro ?_ ?_; (focus exact au0); conv => whnf) | (refine g_seq ?_) | (refine XS.go ?_) | (refine g_ops ?_) | (refine g_loop ?_) | ((first | refine g_nil ?_ | refine g_skip ?_); conv => whnf) | (refine g_block ?_) | fail)
 refine XLc.mkL (α := Nat) (fun i => i ≤ b.fServices.length ∧ valid b = (allN (vS b) (b.fServices.length - i) i && (allN (vB b) b.fBerths.length 0 && (allN (vC b) b.fCopies.length 0 && true)))) (fun i => b.fServices.length - i) (fun i gs => [.any, .cref b.D, .any, .int .i64 (i : Int)]) (fun i gs => []) 0 ⟨Nat.zero_le _, hv⟩ ?_ ?_
 ·refine ⟨?_, ?_⟩
  ·repeat' (first | exact True.intro | refine And.intro rfl ?_)
  ·repeat' (first | exact True.intro | refine And.intro rfl ?_)
 intro i gs hI
 obtain ⟨hi, hN⟩ := hI
 repeat' (first | (refine z_ld1 ?_; first | (refine z_ld rfl rfl rfl rfl au1 au2 ?_; conv => whnf) | (refine z_ld0 rfl ?_; conv => whnf)) | (refine z_op ?_ ?_; (focus exact rfl); conv => whnf) | (refine zs_ops ?_ ?_; (focus exact rfl)) | (refine z_nil fun vals => ?_; conv => whnf) | (refine And.intro ?_ ?_; (focus exact au0); conv => whnf) | (refine g_seq ?_) | (refine XS.go ?_) | (refine g_cond ?_; conv => whnf) | fail)
 refine Br.mk (fun hb => ?_) (fun hb => ?_)
 ·have hlt : i < b.fServices.length := by simpa using hb
  have hw : IntKind.wrap .i64 ((i : Int) + 1) = ((i + 1 : Nat) : Int) := by rw [wrap_ok (by omega) (by omega)]; rfl
  have hw1 : IntKind.wrap .i64 ((i : Int) - 1) = (i : Int) - 1 := wrap_ok (by omega) (by omega)
  have hbad := fun h => allN_bad (f := vS b) hlt hN h
  have hgood := fun h => allN_good (f := vS b) hlt hN h
  clear hN hb
  all_goals conv => whnf
  repeat' (first | (refine z_ld1 ?_; first | (refine z_ld rfl rfl rfl rfl au1 au2 ?_; conv => whnf) | (refine z_ld0 rfl ?_; conv => whnf)) | (refine z_ld1g ?_; first | (refine z_ldg rfl rfl rfl rfl rfl rfl rfl (by (repeat intro _); exact ⟨au1, au2⟩) rfl rfl rfl rfl ?_; conv => whnf) | (refine z_ld0g ?_; (conv => whnf); refine And.intro ?_ ?_; (focus exact rfl); conv => whnf)) | (refine z_ix1 ?_; first | (refine z_ix rfl rfl rfl rfl rfl ⟨by first | omega | (simp only [decide_eq_true_eq, Bool.not_eq_true', Bool.or_eq_false_iff, decide_eq_false_iff_not, Bool.and_eq_true, Bool.not_eq_false'] at *; omega), by first | omega | (simp only [decide_eq_true_eq, Bool.not_eq_true', Bool.or_eq_false_iff, decide_eq_false_iff_not, Bool.and_eq_true, Bool.not_eq_false'] at *; omega)⟩ ?_; conv => whnf) | (refine z_ix0 rfl rfl ?_; conv => whnf)) | (refine z_ix1g ?_; refine z_ixg rfl rfl rfl rfl rfl rfl rfl (by (repeat intro _); refine ⟨?_, ?_⟩ <;> first | omega | (simp only [decide_eq_true_eq, Bool.not_eq_true', Bool.or_eq_false_iff, decide_eq_false_iff_not, Bool.and_eq_true, Bool.not_eq_false'] at *; omega)) ?_) | (refine z_op ?_ ?_; (focus exact rfl); conv => whnf) | (refine z_opg0 ?_; (conv => whnf); refine And.intro ?_ ?_; (focus exact rfl); conv => whnf) | (refine z_pick ?_ ?_; (focus exact rfl); conv => whnf) | (refine z_pickg ?_; (conv => whnf); refine And.intro ?_ ?_; (focus exact rfl); conv => whnf) | (refine zs_quiet ?_ ?_; (focus exact rfl)) | (refine z_nil fun vals => ?_; conv => whnf) | (refine z_call ?_ ?_; (focus exact rfl)) | (refine RC.of (spec_ServiceOk _ _) ?_ ?_; (focus exact rfl); conv => whnf) | (refine g_op ?_; conv => whnf) | (refine And.intro ?_ ?_; (focus exact au0); conv => whnf) | (refine g_seq ?_) | (refine XS.go ?_) | (refine g_ops ?_) | ((first | refine g_nil ?_ | refine g_cond ?_ | refine g_skip ?_ | refine g_ret ?_); conv => whnf) | (refine g_block ?_) | ((first | refine r_t ?_ | refine r_nil ?_); conv => whnf) | (refine Br.mk (fun hb => ?_) (fun hb => ?_) <;> conv => whnf) | fail)
  all_goals
   first
   |(refine ⟨(), hbad ?_, ⟨?_, True.intro⟩⟩
     ·clear hbad hgood hw
      first | (first | (refine (Bool.eq_false_iff.mpr fun h => ?_).symm; simp_all [vS, pr]; done) | (refine Bool.eq_false_iff.mpr fun h => ?_; simp_all [vS, pr]; done) | (simp_all [vS, pr]; done) | (simp_all [vS, pr]; omega) | (refine (Bool.eq_false_iff.mpr fun h => ?_).symm; simp_all [vS, pr]; omega) | (refine Bool.eq_false_iff.mpr fun h => ?_; simp_all [vS, pr]; omega) | (rw [Bool.eq_iff_iff]; constructor <;> intro h <;> simp_all [vS, pr] <;> omega) | fail) | (rcases Nat.eq_zero_or_pos i with h0 | h0 <;> simp_all [vS, pr] <;> omega) | (fail) | fail
     ·repeat' (first | exact True.intro | refine And.intro rfl ?_))
   |(conv => lhs; whnf
     refine congrArg D.bool (hbad ?_)
     clear hbad hgood hw
     first | (first | (refine (Bool.eq_false_iff.mpr fun h => ?_).symm; simp_all [vS, pr]; done) | (refine Bool.eq_false_iff.mpr fun h => ?_; simp_all [vS, pr]; done) | (simp_all [vS, pr]; done) | (simp_all [vS, pr]; omega) | (refine (Bool.eq_false_iff.mpr fun h => ?_).symm; simp_all [vS, pr]; omega) | (refine Bool.eq_false_iff.mpr fun h => ?_; simp_all [vS, pr]; omega) | (rw [Bool.eq_iff_iff]; constructor <;> intro h <;> simp_all [vS, pr] <;> omega) | fail) | (rcases Nat.eq_zero_or_pos i with h0 | h0 <;> simp_all [vS, pr] <;> omega) | (fail) | fail)
   |(refine ⟨i + 1, ⟨by omega, ?_⟩, by omega, ?_, ?_⟩
     ·refine hgood ?_
      clear hbad hgood hw
      first | (first | (refine (Bool.eq_false_iff.mpr fun h => ?_).symm; simp_all [vS, pr]; done) | (refine Bool.eq_false_iff.mpr fun h => ?_; simp_all [vS, pr]; done) | (simp_all [vS, pr]; done) | (simp_all [vS, pr]; omega) | (refine (Bool.eq_false_iff.mpr fun h => ?_).symm; simp_all [vS, pr]; omega) | (refine Bool.eq_false_iff.mpr fun h => ?_; simp_all [vS, pr]; omega) | (rw [Bool.eq_iff_iff]; constructor <;> intro h <;> simp_all [vS, pr] <;> omega) | fail) | (rcases Nat.eq_zero_or_pos i with h0 | h0 <;> simp_all [vS, pr] <;> omega) | (fail) | fail
     ·repeat' (first | exact True.intro | refine And.intro (congrArg (D.int .i64) hw) ?_ | refine And.intro rfl ?_)
     ·repeat' (first | exact True.intro | refine And.intro rfl ?_))
 have hge : ¬ i < b.fServices.length := by simpa using hb
 have hend : valid b = (allN (vB b) b.fBerths.length 0 && (allN (vC b) b.fCopies.length 0 && true)) := by rw [hN, allN_end hge, Bool.true_and]
 clear hN
 conv => whnf
 repeat' (first | (refine g_op ?_; conv => whnf) | (refine And.intro ?_ ?_; (focus exact au0); conv => whnf) | (refine g_seq ?_) | (refine XS.go ?_) | (refine g_ops ?_) | (refine g_loop ?_) | ((first | refine g_nil ?_ | refine g_exit ?_); conv => whnf) | (refine g_block ?_) | fail)
 refine XLc.mkL (α := Nat) (fun i => i ≤ b.fBerths.length ∧ valid b = (allN (vB b) (b.fBerths.length - i) i && (allN (vC b) b.fCopies.length 0 && true))) (fun i => b.fBerths.length - i) (fun i gs => [.any, .cref b.D, .any, .any, .int .i64 (i : Int)]) (fun i gs => []) 0 ⟨Nat.zero_le _, hend⟩ ?_ ?_
 ·refine ⟨?_, ?_⟩
  ·repeat' (first | exact True.intro | refine And.intro rfl ?_)
  ·repeat' (first | exact True.intro | refine And.intro rfl ?_)
 intro i gs hI
 obtain ⟨hi, hN⟩ := hI
 repeat' (first | (refine z_ld1 ?_; first | (refine z_ld rfl rfl rfl rfl au1 au2 ?_; conv => whnf) | (refine z_ld0 rfl ?_; conv => whnf)) | (refine z_op ?_ ?_; (focus exact rfl); conv => whnf) | (refine zs_ops ?_ ?_; (focus exact rfl)) | (refine z_nil fun vals => ?_; conv => whnf) | (refine And.intro ?_ ?_; (focus exact au0); conv => whnf) | (refine g_seq ?_) | (refine XS.go ?_) | (refine g_cond ?_; conv => whnf) | fail)
 refine Br.mk (fun hb => ?_) (fun hb => ?_)
 ·have hlt : i < b.fBerths.length := by simpa using hb
  have hw : IntKind.wrap .i64 ((i : Int) + 1) = ((i + 1 : Nat) : Int) := by rw [wrap_ok (by omega) (by omega)]; rfl
  have hw1 : IntKind.wrap .i64 ((i : Int) - 1) = (i : Int) - 1 := wrap_ok (by omega) (by omega)
  have hbad := fun h => allN_bad (f := vB b) hlt hN h
  have hgood := fun h => allN_good (f := vB b) hlt hN h
  clear hN hb
  all_goals conv => whnf
  repeat' (first | (refine z_ld1 ?_; first | (refine z_ld rfl rfl rfl rfl au1 au2 ?_; conv => whnf) | (refine z_ld0 rfl ?_; conv => whnf)) | (refine z_ld1g ?_; first | (refine z_ldg rfl rfl rfl rfl rfl rfl rfl (by (repeat intro _); exact ⟨au1, au2⟩) rfl rfl rfl rfl ?_; conv => whnf) | (refine z_ld0g ?_; (conv => whnf); refine And.intro ?_ ?_; (focus exact rfl); conv => whnf)) | (refine z_ix1 ?_; first | (refine z_ix rfl rfl rfl rfl rfl ⟨by first | omega | (simp only [decide_eq_true_eq, Bool.not_eq_true', Bool.or_eq_false_iff, decide_eq_false_iff_not, Bool.and_eq_true, Bool.not_eq_false'] at *; omega), by first | omega | (simp only [decide_eq_true_eq, Bool.not_eq_true', Bool.or_eq_false_iff, decide_eq_false_iff_not, Bool.and_eq_true, Bool.not_eq_false'] at *; omega)⟩ ?_; conv => whnf) | (refine z_ix0 rfl rfl ?_; conv => whnf)) | (refine z_ix1g ?_; refine z_ixg rfl rfl rfl rfl rfl rfl rfl (by (repeat intro _); refine ⟨?_, ?_⟩ <;> first | omega | (simp only [decide_eq_true_eq, Bool.not_eq_true', Bool.or_eq_false_iff, decide_eq_false_iff_not, Bool.and_eq_true, Bool.not_eq_false'] at *; omega)) ?_) | (refine z_op ?_ ?_; (focus exact rfl); conv => whnf) | (refine z_opg0 ?_; (conv => whnf); refine And.intro ?_ ?_; (focus exact rfl); conv => whnf) | (refine z_pick ?_ ?_; (focus exact rfl); conv => whnf) | (refine z_pickg ?_; (conv => whnf); refine And.intro ?_ ?_; (focus exact rfl); conv => whnf) | (refine zs_quiet ?_ ?_; (focus exact rfl)) | (refine z_nil fun vals => ?_; conv => whnf) | (refine z_call ?_ ?_; (focus exact rfl)) | (refine RC.of (spec_NameOk _) ?_ ?_; (focus exact rfl); conv => whnf) | (refine g_op ?_; conv => whnf) | (refine And.intro ?_ ?_; (focus exact au0); conv => whnf) | (refine g_seq ?_) | (refine XS.go ?_) | (refine g_ops ?_) | ((first | refine g_nil ?_ | refine g_cond ?_ | refine g_skip ?_ | refine g_ret ?_); conv => whnf) | (refine g_block ?_) | ((first | refine r_t ?_ | refine r_nil ?_); conv => whnf) | (refine Br.mk (fun hb => ?_) (fun hb => ?_) <;> conv => whnf) | fail)
  all_goals
   first
   |(refine ⟨(), hbad ?_, ⟨?_, True.intro⟩⟩
     ·clear hbad hgood hw
      first | (first | (refine (Bool.eq_false_iff.mpr fun h => ?_).symm; simp_all [vB, pr]; done) | (refine Bool.eq_false_iff.mpr fun h => ?_; simp_all [vB, pr]; done) | (simp_all [vB, pr]; done) | (simp_all [vB, pr]; omega) | (refine (Bool.eq_false_iff.mpr fun h => ?_).symm; simp_all [vB, pr]; omega) | (refine Bool.eq_false_iff.mpr fun h => ?_; simp_all [vB, pr]; omega) | (rw [Bool.eq_iff_iff]; constructor <;> intro h <;> simp_all [vB, pr] <;> omega) | fail) | (rcases Nat.eq_zero_or_pos i with h0 | h0 <;> simp_all [vB, pr] <;> omega) | (fail) | fail
     ·repeat' (first | exact True.intro | refine And.intro rfl ?_))
   |(conv => lhs; whnf
     refine congrArg D.bool (hbad ?_)
     clear hbad hgood hw
     first | (first | (refine (Bool.eq_false_iff.mpr fun h => ?_).symm; simp_all [vB, pr]; done) | (refine Bool.eq_false_iff.mpr fun h => ?_; simp_all [vB, pr]; done) | (simp_all [vB, pr]; done) | (simp_all [vB, pr]; omega) | (refine (Bool.eq_false_iff.mpr fun h => ?_).symm; simp_all [vB, pr]; omega) | (refine Bool.eq_false_iff.mpr fun h => ?_; simp_all [vB, pr]; omega) | (rw [Bool.eq_iff_iff]; constructor <;> intro h <;> simp_all [vB, pr] <;> omega) | fail) | (rcases Nat.eq_zero_or_pos i with h0 | h0 <;> simp_all [vB, pr] <;> omega) | (fail) | fail)
   |(refine ⟨i + 1, ⟨by omega, ?_⟩, by omega, ?_, ?_⟩
     ·refine hgood ?_
      clear hbad hgood hw
      first | (first | (refine (Bool.eq_false_iff.mpr fun h => ?_).symm; simp_all [vB, pr]; done) | (refine Bool.eq_false_iff.mpr fun h => ?_; simp_all [vB, pr]; done) | (simp_all [vB, pr]; done) | (simp_all [vB, pr]; omega) | (refine (Bool.eq_false_iff.mpr fun h => ?_).symm; simp_all [vB, pr]; omega) | (refine Bool.eq_false_iff.mpr fun h => ?_; simp_all [vB, pr]; omega) | (rw [Bool.eq_iff_iff]; constructor <;> intro h <;> simp_all [vB, pr] <;> omega) | fail) | (rcases Nat.eq_zero_or_pos i with h0 | h0 <;> simp_all [vB, pr] <;> omega) | (fail) | fail
     ·repeat' (first | exact True.intro | refine And.intro (congrArg (D.int .i64) hw) ?_ | refine And.intro rfl ?_)
     ·repeat' (first | exact True.intro | refine And.intro rfl ?_))
 have hge : ¬ i < b.fBerths.length := by simpa using hb
 have hend : valid b = (allN (vC b) b.fCopies.length 0 && true) := by rw [hN, allN_end hge, Bool.true_and]
 clear hN
 conv => whnf
 repeat' (first | (refine g_op ?_; conv => whnf) | (refine And.intro ?_ ?_; (focus exact au0); conv => whnf) | (refine g_seq ?_) | (refine XS.go ?_) | (refine g_ops ?_) | (refine g_loop ?_) | ((first | refine g_nil ?_ | refine g_exit ?_); conv => whnf) | (refine g_block ?_) | fail)
 refine XLc.mkL (α := Nat) (fun i => i ≤ b.fCopies.length ∧ valid b = (allN (vC b) (b.fCopies.length - i) i && true)) (fun i => b.fCopies.length - i) (fun i gs => [.any, .cref b.D, .any, .any, .any, .int .i64 (i : Int)]) (fun i gs => []) 0 ⟨Nat.zero_le _, hend⟩ ?_ ?_
 ·refine ⟨?_, ?_⟩
  ·repeat' (first | exact True.intro | refine And.intro rfl ?_)
  ·repeat' (first | exact True.intro | refine And.intro rfl ?_)
 intro i gs hI
 obtain ⟨hi, hN⟩ := hI
 repeat' (first | (refine z_ld1 ?_; first | (refine z_ld rfl rfl rfl rfl au1 au2 ?_; conv => whnf) | (refine z_ld0 rfl ?_; conv => whnf)) | (refine z_op ?_ ?_; (focus exact rfl); conv => whnf) | (refine zs_ops ?_ ?_; (focus exact rfl)) | (refine z_nil fun vals => ?_; conv => whnf) | (refine And.intro ?_ ?_; (focus exact au0); conv => whnf) | (refine g_seq ?_) | (refine XS.go ?_) | (refine g_cond ?_; conv => whnf) | fail)
 refine Br.mk (fun hb => ?_) (fun hb => ?_)
 ·have hlt : i < b.fCopies.length := by simpa using hb
  have hw : IntKind.wrap .i64 ((i : Int) + 1) = ((i + 1 : Nat) : Int) := by rw [wrap_ok (by omega) (by omega)]; rfl
  have hw1 : IntKind.wrap .i64 ((i : Int) - 1) = (i : Int) - 1 := wrap_ok (by omega) (by omega)
  have hbad := fun h => allN_bad (f := vC b) hlt hN h
  have hgood := fun h => allN_good (f := vC b) hlt hN h
  clear hN hb
  all_goals conv => whnf
  repeat' (first | (refine z_ld1 ?_; first | (refine z_ld rfl rfl rfl rfl au1 au2 ?_; conv => whnf) | (refine z_ld0 rfl ?_; conv => whnf)) | (refine z_ld1g ?_; first | (refine z_ldg rfl rfl rfl rfl rfl rfl rfl (by (repeat intro _); exact ⟨au1, au2⟩) rfl rfl rfl rfl ?_; conv => whnf) | (refine z_ld0g ?_; (conv => whnf); refine And.intro ?_ ?_; (focus exact rfl); conv => whnf)) | (refine z_ix1 ?_; first | (refine z_ix rfl rfl rfl rfl rfl ⟨by first | omega | (simp only [decide_eq_true_eq, Bool.not_eq_true', Bool.or_eq_false_iff, decide_eq_false_iff_not, Bool.and_eq_true, Bool.not_eq_false'] at *; omega), by first | omega | (simp only [decide_eq_true_eq, Bool.not_eq_true', Bool.or_eq_false_iff, decide_eq_false_iff_not, Bool.and_eq_true, Bool.not_eq_false'] at *; omega)⟩ ?_; conv => whnf) | (refine z_ix0 rfl rfl ?_; conv => whnf)) | (refine z_ix1g ?_; refine z_ixg rfl rfl rfl rfl rfl rfl rfl (by (repeat intro _); refine ⟨?_, ?_⟩ <;> first | omega | (simp only [decide_eq_true_eq, Bool.not_eq_true', Bool.or_eq_false_iff, decide_eq_false_iff_not, Bool.and_eq_true, Bool.not_eq_false'] at *; omega)) ?_) | (refine z_op ?_ ?_; (focus exact rfl); conv => whnf) | (refine z_opg0 ?_; (conv => whnf); refine And.intro ?_ ?_; (focus exact rfl); conv => whnf) | (refine z_pick ?_ ?_; (focus exact rfl); conv => whnf) | (refine z_pickg ?_; (conv => whnf); refine And.intro ?_ ?_; (focus exact rfl); conv => whnf) | (refine zs_quiet ?_ ?_; (focus exact rfl)) | (refine z_nil fun vals => ?_; conv => whnf) | (refine z_call ?_ ?_; (focus exact rfl)) | (refine z_callg0 ?_; (conv => whnf); refine And.intro ?_ ?_; (focus exact rfl)) | (refine RC.of (spec_CopyOk b _ h1 h2) ?_ ?_; (focus exact rfl); conv => whnf) | (refine RC.of (spec_Ahead _ _) ?_ ?_; (focus exact rfl); conv => whnf) | (refine g_op ?_; conv => whnf) | (refine And.intro ?_ ?_; (focus exact au0); conv => whnf) | (refine g_seq ?_) | (refine XS.go ?_) | (refine g_ops ?_) | ((first | refine g_nil ?_ | refine g_cond ?_ | refine g_skip ?_ | refine g_ret ?_); conv => whnf) | (refine g_block ?_) | ((first | refine r_t ?_ | refine r_nil ?_); conv => whnf) | (refine Br.mk (fun hb => ?_) (fun hb => ?_) <;> conv => whnf) | fail)
  all_goals
   first
   |(refine ⟨(), hbad ?_, ⟨?_, True.intro⟩⟩
     ·clear hbad hgood hw
      first | (first | (refine (Bool.eq_false_iff.mpr fun h => ?_).symm; simp_all [vC, pr]; done) | (refine Bool.eq_false_iff.mpr fun h => ?_; simp_all [vC, pr]; done) | (simp_all [vC, pr]; done) | (simp_all [vC, pr]; omega) | (refine (Bool.eq_false_iff.mpr fun h => ?_).symm; simp_all [vC, pr]; omega) | (refine Bool.eq_false_iff.mpr fun h => ?_; simp_all [vC, pr]; omega) | (rw [Bool.eq_iff_iff]; constructor <;> intro h <;> simp_all [vC, pr] <;> omega) | fail) | (rcases Nat.eq_zero_or_pos i with h0 | h0 <;> simp_all [vC, pr] <;> omega) | (fail) | fail
     ·repeat' (first | exact True.intro | refine And.intro rfl ?_))
   |(conv => lhs; whnf
     refine congrArg D.bool (hbad ?_)
     clear hbad hgood hw
     first | (first | (refine (Bool.eq_false_iff.mpr fun h => ?_).symm; simp_all [vC, pr]; done) | (refine Bool.eq_false_iff.mpr fun h => ?_; simp_all [vC, pr]; done) | (simp_all [vC, pr]; done) | (simp_all [vC, pr]; omega) | (refine (Bool.eq_false_iff.mpr fun h => ?_).symm; simp_all [vC, pr]; omega) | (refine Bool.eq_false_iff.mpr fun h => ?_; simp_all [vC, pr]; omega) | (rw [Bool.eq_iff_iff]; constructor <;> intro h <;> simp_all [vC, pr] <;> omega) | fail) | (rcases Nat.eq_zero_or_pos i with h0 | h0 <;> simp_all [vC, pr] <;> omega) | (fail) | fail)
   |(refine ⟨i + 1, ⟨by omega, ?_⟩, by omega, ?_, ?_⟩
     ·refine hgood ?_
      clear hbad hgood hw
      first | (first | (refine (Bool.eq_false_iff.mpr fun h => ?_).symm; simp_all [vC, pr]; done) | (refine Bool.eq_false_iff.mpr fun h => ?_; simp_all [vC, pr]; done) | (simp_all [vC, pr]; done) | (simp_all [vC, pr]; omega) | (refine (Bool.eq_false_iff.mpr fun h => ?_).symm; simp_all [vC, pr]; omega) | (refine Bool.eq_false_iff.mpr fun h => ?_; simp_all [vC, pr]; omega) | (rw [Bool.eq_iff_iff]; constructor <;> intro h <;> simp_all [vC, pr] <;> omega) | fail) | (rcases Nat.eq_zero_or_pos i with h0 | h0 <;> simp_all [vC, pr] <;> omega) | (fail) | fail
     ·repeat' (first | exact True.intro | refine And.intro (congrArg (D.int .i64) hw) ?_ | refine And.intro rfl ?_)
     ·repeat' (first | exact True.intro | refine And.intro rfl ?_))
 have hge : ¬ i < b.fCopies.length := by simpa using hb
 have hend : valid b = true := by rw [hN, allN_end hge, Bool.true_and]
 clear hN
 conv => whnf
 repeat' (first | (refine g_op ?_; conv => whnf) | (refine And.intro ?_ ?_; (focus exact au0); conv => whnf) | (refine g_seq ?_) | (refine XS.go ?_) | (refine g_ops ?_) | ((first | refine g_nil ?_ | refine g_ret ?_ | refine g_exit ?_ | refine r_t ?_ | refine r_nil ?_); conv => whnf) | fail)
 (conv => lhs; whnf)
 rw [hend]
theorem ahead_neg (d c : StewCopy) : (Op.bytesLess c.fService.toList d.fService.toList || (c.fService.toList == d.fService.toList && decide (c.fNumber ≤ d.fNumber))) = !ahead d c := by
 unfold ahead
 have h1 := le_eq c.fService.toList d.fService.toList
 have h2 := beq_cm d.fService.toList c.fService.toList
 rw [h2]
 cases e : (c.fService.toList == d.fService.toList)
 ·rw [e, Bool.or_false] at h1
  rw [h1]
  simp
 ·have e' : c.fService.toList = d.fService.toList := by simpa using e
  rw [e']
  rw [bl_irr]
  by_cases h : c.fNumber ≤ d.fNumber
  ·have : ¬ d.fNumber < c.fNumber := by omega
   simp [h, this]
  ·have : d.fNumber < c.fNumber := by omega
   simp [h, this]
theorem impl_Valid (b : StewBook) (h1 : b.fServices.length ≤ 1048576) (h2 : b.fBerths.length ≤ 1048576) (h3 : b.fCopies.length ≤ 1048576) : Rdr Try.prog 20 [b.D] (.bool (valid b)) := by
 refine Rdr.intro' hm c20 (Nat.le_of_ble_eq_true rfl) ?_
 conv => whnf
 repeat' (first | (refine g_op ?_; conv => whnf) | (refine And.intro ?_ ?_; (focus exact au0); conv => whnf) | (refine g_seq ?_) | (refine g_ops ?_) | ((first | refine g_nil ?_ | refine fun _ => ?_); conv => whnf) | fail)
 refine XS.freezeB 1 rfl ?_
 repeat' (first | (refine z_ld1 ?_; first | (refine z_ld rfl rfl rfl rfl au1 au2 ?_; conv => whnf) | (refine z_ld0 rfl ?_; conv => whnf)) | (refine z_ld1g ?_; first | (refine z_ldg rfl rfl rfl rfl rfl rfl rfl (by (repeat intro _); exact ⟨au1, au2⟩) rfl rfl rfl rfl ?_; conv => whnf) | (refine z_ld0g ?_; (conv => whnf); refine And.intro ?_ ?_; (focus exact rfl); conv => whnf)) | (refine z_op ?_ ?_; (focus exact rfl); conv => whnf) | (refine z_opg0 ?_; (conv => whnf); refine And.intro ?_ ?_; (focus exact rfl); conv => whnf) | (refine z_pick ?_ ?_; (focus exact rfl); conv => whnf) | (refine zs_ops ?_ ?_; (focus exact rfl)) | (refine z_nil fun vals => ?_; conv => whnf) | (refine z_call ?_ ?_; (focus exact rfl)) | (refine RC.of (impl_within _ _ _) ?_ ?_; (focus exact rfl); conv => whnf) | (refine And.intro ?_ ?_; (focus exact au0); conv => whnf) | (refine g_seq ?_) | (refine XS.go ?_) | (refine g_cond ?_; conv => whnf) | fail)
 simp only [mlen']
 refine Br.mk (fun hb => ?_) (fun hb => ?_)
 ·conv => whnf
  repeat' (first | (refine g_op ?_; conv => whnf) | (refine And.intro ?_ ?_; (focus exact au0); conv => whnf) | (refine g_seq ?_) | (refine XS.go ?_) | (refine g_ops ?_) | ((first | refine g_nil ?_ | refine g_ret ?_ | refine r_t ?_ | refine r_nil ?_); conv => whnf) | fail)
  (conv => lhs; whnf)
  rw [valid, hb]
  rfl
 have hv : valid b = (allN (vS b) b.fServices.length 0 && (allN (vB b) b.fBerths.length 0 && (allN (vC b) b.fCopies.length 0 && true))) := by rw [valid, hb]; rfl
 clear hb
 conv => whnf
 repeat' (first | (refine z_ld1 ?_; first | (refine z_ld rfl rfl rfl rfl au1 au2 ?_; conv => whnf) | (refine z_ld0 rfl ?_; conv => whnf)) | (refine z_op ?_ ?_; (focus exact rfl); conv => whnf) | (refine zs_ops ?_ ?_; (focus exact rfl)) | (refine z_nil fun vals => ?_; conv => whnf) | (refine And.intro ?_ ?_; (focus exact au0); conv => whnf) | (refine g_seq ?_) | (refine XS.go ?_) | (refine g_loop ?_) | (refine g_skip ?_; conv => whnf) | (refine g_block ?_) | fail)
 refine XLc.mkL (α := Nat) (fun i => i ≤ b.fServices.length ∧ valid b = (allN (vS b) (b.fServices.length - i) i && (allN (vB b) b.fBerths.length 0 && (allN (vC b) b.fCopies.length 0 && true)))) (fun i => b.fServices.length - i) (fun i gs => [.any, .cref b.D, .any, .any, .any, .any, .any, .any, .any, .any, .any, .any, .any, .any, .any, .any, .any, .any, .any, .any, .any, .any, .any, .any, .any, .any, .any, .any, .any, .any, .any, .any, .any, .any, .ro 13 (b.fServices.map StewService.D), .int .i64 ((b.fServices.map StewService.D).length : Int), .int .i64 (i : Int)]) (fun i gs => []) 0 ⟨Nat.zero_le _, hv⟩ ?_ ?_
 ·refine ⟨?_, ?_⟩
  ·repeat' (first | exact True.intro | refine And.intro rfl ?_)
  ·repeat' (first | exact True.intro | refine And.intro rfl ?_)
 intro i gs hI
 obtain ⟨hi, hN⟩ := hI
 repeat' (first | (refine g_op ?_; conv => whnf) | (refine And.intro ?_ ?_; (focus exact au0); conv => whnf) | (refine g_seq ?_) | (refine XS.go ?_) | (refine g_ops ?_) | ((first | refine g_nil ?_ | refine g_cond ?_); conv => whnf) | fail)
 refine Br.mk (fun hb => ?_) (fun hb => ?_)
 ·have hlt : i < b.fServices.length := by simpa using hb
  have hw : IntKind.wrap .i64 ((i : Int) + 1) = ((i + 1 : Nat) : Int) := by rw [wrap_ok (by omega) (by omega)]; rfl
  have hw1 : IntKind.wrap .i64 ((i : Int) - 1) = (i : Int) - 1 := wrap_ok (by omega) (by omega)
  have hbad := fun h => allN_bad (f := vS b) hlt hN h
  have hgood := fun h => allN_good (f := vS b) hlt hN h
  clear hN hb
  all_goals conv => whnf
  repeat' (first | (refine z_ld1 ?_; first | (refine z_ld rfl rfl rfl rfl au1 au2 ?_; conv => whnf) | (refine z_ld0 rfl ?_; conv => whnf)) | (refine z_ld1g ?_; first | (refine z_ldg rfl rfl rfl rfl rfl rfl rfl (by (repeat intro _); exact ⟨au1, au2⟩) rfl rfl rfl rfl ?_; conv => whnf) | (refine z_ld0g ?_; (conv => whnf); refine And.intro ?_ ?_; (focus exact rfl); conv => whnf)) | (refine z_st1 ?_; first | (refine z_st rfl rfl rfl au1 au2 rfl rfl ?_; conv => whnf) | (refine z_st0 ?_; conv => whnf)) | (refine z_ix1 ?_; first | (refine z_ix rfl rfl rfl rfl rfl ⟨by first | omega | (simp only [decide_eq_true_eq, Bool.not_eq_true', Bool.or_eq_false_iff, decide_eq_false_iff_not, Bool.and_eq_true, Bool.not_eq_false'] at *; omega), by first | omega | (simp only [decide_eq_true_eq, Bool.not_eq_true', Bool.or_eq_false_iff, decide_eq_false_iff_not, Bool.and_eq_true, Bool.not_eq_false'] at *; omega)⟩ ?_; conv => whnf) | (refine z_ix0 rfl rfl ?_; conv => whnf)) | (refine z_ix1g ?_; refine z_ixg rfl rfl rfl rfl rfl rfl rfl (by (repeat intro _); refine ⟨?_, ?_⟩ <;> first | omega | (simp only [decide_eq_true_eq, Bool.not_eq_true', Bool.or_eq_false_iff, decide_eq_false_iff_not, Bool.and_eq_true, Bool.not_eq_false'] at *; omega)) ?_) | (refine z_op ?_ ?_; (focus exact rfl); conv => whnf) | (refine z_opg0 ?_; (conv => whnf); refine And.intro ?_ ?_; (focus exact rfl); conv => whnf) | (refine z_pick ?_ ?_; (focus exact rfl); conv => whnf) | (refine z_pickg ?_; (conv => whnf); refine And.intro ?_ ?_; (focus exact rfl); conv => whnf) | (refine zs_ops ?_ ?_; (focus exact rfl)) | (refine zs_quiet ?_ ?_; (focus exact rfl)) | (refine z_nil fun vals => ?_; conv => whnf) | (refine z_call ?_ ?_; (focus exact rfl)) | (refine z_eff ?_; conv => whnf) | (refine RC.of (impl_serviceOk _ _) ?_ ?_; (focus exact rfl); conv => whnf) | (refine g_op ?_; conv => whnf) | (refine And.intro ?_ ?_; (focus exact au0); conv => whnf) | (refine g_seq ?_) | (refine XS.go ?_) | (refine g_ops ?_) | ((first | refine g_nil ?_ | refine g_cond ?_ | refine g_skip ?_ | refine g_ret ?_); conv => whnf) | (refine g_block ?_) | ((first | refine r_t ?_ | refine r_nil ?_ | refine fun _ => ?_); conv => whnf) | (refine Br.mk (fun hb => ?_) (fun hb => ?_) <;> conv => whnf) | fail)
  all_goals
   first
   |(refine ⟨(), hbad ?_, ⟨?_, True.intro⟩⟩
     ·clear hbad hgood hw
      first | (first | (refine (Bool.eq_false_iff.mpr fun h => ?_).symm; simp_all [vS, pr, le_eq]; done) | (refine Bool.eq_false_iff.mpr fun h => ?_; simp_all [vS, pr, le_eq]; done) | (simp_all [vS, pr, le_eq]; done) | (simp_all [vS, pr, le_eq]; omega) | (refine (Bool.eq_false_iff.mpr fun h => ?_).symm; simp_all [vS, pr, le_eq]; omega) | (refine Bool.eq_false_iff.mpr fun h => ?_; simp_all [vS, pr, le_eq]; omega) | (rw [Bool.eq_iff_iff]; constructor <;> intro h <;> simp_all [vS, pr, le_eq] <;> omega) | fail) | (rcases Nat.eq_zero_or_pos i with h0 | h0 <;> simp_all [vS, pr, le_eq] <;> omega) | (fail) | fail
     ·repeat' (first | exact True.intro | refine And.intro rfl ?_))
   |(conv => lhs; whnf
     refine congrArg D.bool (hbad ?_)
     clear hbad hgood hw
     first | (first | (refine (Bool.eq_false_iff.mpr fun h => ?_).symm; simp_all [vS, pr, le_eq]; done) | (refine Bool.eq_false_iff.mpr fun h => ?_; simp_all [vS, pr, le_eq]; done) | (simp_all [vS, pr, le_eq]; done) | (simp_all [vS, pr, le_eq]; omega) | (refine (Bool.eq_false_iff.mpr fun h => ?_).symm; simp_all [vS, pr, le_eq]; omega) | (refine Bool.eq_false_iff.mpr fun h => ?_; simp_all [vS, pr, le_eq]; omega) | (rw [Bool.eq_iff_iff]; constructor <;> intro h <;> simp_all [vS, pr, le_eq] <;> omega) | fail) | (rcases Nat.eq_zero_or_pos i with h0 | h0 <;> simp_all [vS, pr, le_eq] <;> omega) | (fail) | fail)
   |(refine ⟨i + 1, ⟨by omega, ?_⟩, by omega, ?_, ?_⟩
     ·refine hgood ?_
      clear hbad hgood hw
      first | (first | (refine (Bool.eq_false_iff.mpr fun h => ?_).symm; simp_all [vS, pr, le_eq]; done) | (refine Bool.eq_false_iff.mpr fun h => ?_; simp_all [vS, pr, le_eq]; done) | (simp_all [vS, pr, le_eq]; done) | (simp_all [vS, pr, le_eq]; omega) | (refine (Bool.eq_false_iff.mpr fun h => ?_).symm; simp_all [vS, pr, le_eq]; omega) | (refine Bool.eq_false_iff.mpr fun h => ?_; simp_all [vS, pr, le_eq]; omega) | (rw [Bool.eq_iff_iff]; constructor <;> intro h <;> simp_all [vS, pr, le_eq] <;> omega) | fail) | (rcases Nat.eq_zero_or_pos i with h0 | h0 <;> simp_all [vS, pr, le_eq] <;> omega) | (fail) | fail
     ·repeat' (first | exact True.intro | refine And.intro (congrArg (D.int .i64) hw) ?_ | refine And.intro rfl ?_)
     ·repeat' (first | exact True.intro | refine And.intro rfl ?_))
 have hge : ¬ i < b.fServices.length := by simpa using hb
 have hend : valid b = (allN (vB b) b.fBerths.length 0 && (allN (vC b) b.fCopies.length 0 && true)) := by rw [hN, allN_end hge, Bool.true_and]
 clear hN
 conv => whnf
 repeat' (first | (refine z_ld1 ?_; first | (refine z_ld rfl rfl rfl rfl au1 au2 ?_; conv => whnf) | (refine z_ld0 rfl ?_; conv => whnf)) | (refine z_op ?_ ?_; (focus exact rfl); conv => whnf) | (refine zs_ops ?_ ?_; (focus exact rfl)) | (refine z_nil fun vals => ?_; conv => whnf) | (refine And.intro ?_ ?_; (focus exact au0); conv => whnf) | (refine g_seq ?_) | (refine XS.go ?_) | (refine g_loop ?_) | (refine g_exit ?_; conv => whnf) | (refine g_block ?_) | fail)
 refine XLc.mkL (α := Nat) (fun i => i ≤ b.fBerths.length ∧ valid b = (allN (vB b) (b.fBerths.length - i) i && (allN (vC b) b.fCopies.length 0 && true))) (fun i => b.fBerths.length - i) (fun i gs => [.any, .cref b.D, .any, .any, .any, .any, .any, .any, .any, .any, .any, .any, .any, .any, .any, .any, .any, .any, .any, .any, .any, .any, .any, .any, .any, .any, .any, .any, .any, .any, .any, .any, .any, .any, .any, .any, .any, .any, .any, .any, .any, .any, .any, .any, .any, .any, .any, .any, .any, .any, .any, .any, .any, .any, .any, .any, .any, .any, .any, .any, .any, .any, .any, .any, .ro 2 (b.fBerths.map StewBerth.D), .int .i64 ((b.fBerths.map StewBerth.D).length : Int), .int .i64 (i : Int)]) (fun i gs => []) 0 ⟨Nat.zero_le _, hend⟩ ?_ ?_
 ·refine ⟨?_, ?_⟩
  ·repeat' (first | exact True.intro | refine And.intro rfl ?_)
  ·repeat' (first | exact True.intro | refine And.intro rfl ?_)
 intro i gs hI
 obtain ⟨hi, hN⟩ := hI
 repeat' (first | (refine g_op ?_; conv => whnf) | (refine And.intro ?_ ?_; (focus exact au0); conv => whnf) | (refine g_seq ?_) | (refine XS.go ?_) | (refine g_ops ?_) | ((first | refine g_nil ?_ | refine g_cond ?_); conv => whnf) | fail)
 refine Br.mk (fun hb => ?_) (fun hb => ?_)
 ·have hlt : i < b.fBerths.length := by simpa using hb
  have hw : IntKind.wrap .i64 ((i : Int) + 1) = ((i + 1 : Nat) : Int) := by rw [wrap_ok (by omega) (by omega)]; rfl
  have hw1 : IntKind.wrap .i64 ((i : Int) - 1) = (i : Int) - 1 := wrap_ok (by omega) (by omega)
  have hbad := fun h => allN_bad (f := vB b) hlt hN h
  have hgood := fun h => allN_good (f := vB b) hlt hN h
  clear hN hb
  all_goals conv => whnf
  repeat' (first | (refine z_ld1 ?_; first | (refine z_ld rfl rfl rfl rfl au1 au2 ?_; conv => whnf) | (refine z_ld0 rfl ?_; conv => whnf)) | (refine z_ld1g ?_; first | (refine z_ldg rfl rfl rfl rfl rfl rfl rfl (by (repeat intro _); exact ⟨au1, au2⟩) rfl rfl rfl rfl ?_; conv => whnf) | (refine z_ld0g ?_; (conv => whnf); refine And.intro ?_ ?_; (focus exact rfl); conv => whnf)) | (refine z_st1 ?_; first | (refine z_st rfl rfl rfl au1 au2 rfl rfl ?_; conv => whnf) | (refine z_st0 ?_; conv => whnf)) | (refine z_ix1 ?_; first | (refine z_ix rfl rfl rfl rfl rfl ⟨by first | omega | (simp only [decide_eq_true_eq, Bool.not_eq_true', Bool.or_eq_false_iff, decide_eq_false_iff_not, Bool.and_eq_true, Bool.not_eq_false'] at *; omega), by first | omega | (simp only [decide_eq_true_eq, Bool.not_eq_true', Bool.or_eq_false_iff, decide_eq_false_iff_not, Bool.and_eq_true, Bool.not_eq_false'] at *; omega)⟩ ?_; conv => whnf) | (refine z_ix0 rfl rfl ?_; conv => whnf)) | (refine z_ix1g ?_; refine z_ixg rfl rfl rfl rfl rfl rfl rfl (by (repeat intro _); refine ⟨?_, ?_⟩ <;> first | omega | (simp only [decide_eq_true_eq, Bool.not_eq_true', Bool.or_eq_false_iff, decide_eq_false_iff_not, Bool.and_eq_true, Bool.not_eq_false'] at *; omega)) ?_) | (refine z_op ?_ ?_; (focus exact rfl); conv => whnf) | (refine z_opg0 ?_; (conv => whnf); refine And.intro ?_ ?_; (focus exact rfl); conv => whnf) | (refine z_pick ?_ ?_; (focus exact rfl); conv => whnf) | (refine z_pickg ?_; (conv => whnf); refine And.intro ?_ ?_; (focus exact rfl); conv => whnf) | (refine zs_ops ?_ ?_; (focus exact rfl)) | (refine zs_quiet ?_ ?_; (focus exact rfl)) | (refine z_nil fun vals => ?_; conv => whnf) | (refine z_call ?_ ?_; (focus exact rfl)) | (refine z_eff ?_; conv => whnf) | (refine RC.of (impl_isName _) ?_ ?_; (focus exact rfl); conv => whnf) | (refine g_op ?_; conv => whnf) | (refine And.intro ?_ ?_; (focus exact au0); conv => whnf) | (refine g_seq ?_) | (refine XS.go ?_) | (refine g_ops ?_) | ((first | refine g_nil ?_ | refine g_cond ?_ | refine g_skip ?_ | refine g_ret ?_); conv => whnf) | (refine g_block ?_) | ((first | refine r_t ?_ | refine r_nil ?_ | refine fun _ => ?_); conv => whnf) | (refine Br.mk (fun hb => ?_) (fun hb => ?_) <;> conv => whnf) | fail)
  all_goals
   first
   |(refine ⟨(), hbad ?_, ⟨?_, True.intro⟩⟩
     ·clear hbad hgood hw
      first | (first | (refine (Bool.eq_false_iff.mpr fun h => ?_).symm; simp_all [vB, pr, le_eq]; done) | (refine Bool.eq_false_iff.mpr fun h => ?_; simp_all [vB, pr, le_eq]; done) | (simp_all [vB, pr, le_eq]; done) | (simp_all [vB, pr, le_eq]; omega) | (refine (Bool.eq_false_iff.mpr fun h => ?_).symm; simp_all [vB, pr, le_eq]; omega) | (refine Bool.eq_false_iff.mpr fun h => ?_; simp_all [vB, pr, le_eq]; omega) | (rw [Bool.eq_iff_iff]; constructor <;> intro h <;> simp_all [vB, pr, le_eq] <;> omega) | fail) | (rcases Nat.eq_zero_or_pos i with h0 | h0 <;> simp_all [vB, pr, le_eq] <;> omega) | (fail) | fail
     ·repeat' (first | exact True.intro | refine And.intro rfl ?_))
   |(conv => lhs; whnf
     refine congrArg D.bool (hbad ?_)
     clear hbad hgood hw
     first | (first | (refine (Bool.eq_false_iff.mpr fun h => ?_).symm; simp_all [vB, pr, le_eq]; done) | (refine Bool.eq_false_iff.mpr fun h => ?_; simp_all [vB, pr, le_eq]; done) | (simp_all [vB, pr, le_eq]; done) | (simp_all [vB, pr, le_eq]; omega) | (refine (Bool.eq_false_iff.mpr fun h => ?_).symm; simp_all [vB, pr, le_eq]; omega) | (refine Bool.eq_false_iff.mpr fun h => ?_; simp_all [vB, pr, le_eq]; omega) | (rw [Bool.eq_iff_iff]; constructor <;> intro h <;> simp_all [vB, pr, le_eq] <;> omega) | fail) | (rcases Nat.eq_zero_or_pos i with h0 | h0 <;> simp_all [vB, pr, le_eq] <;> omega) | (fail) | fail)
   |(refine ⟨i + 1, ⟨by omega, ?_⟩, by omega, ?_, ?_⟩
     ·refine hgood ?_
      clear hbad hgood hw
      first | (first | (refine (Bool.eq_false_iff.mpr fun h => ?_).symm; simp_all [vB, pr, le_eq]; done) | (refine Bool.eq_false_iff.mpr fun h => ?_; simp_all [vB, pr, le_eq]; done) | (simp_all [vB, pr, le_eq]; done) | (simp_all [vB, pr, le_eq]; omega) | (refine (Bool.eq_false_iff.mpr fun h => ?_).symm; simp_all [vB, pr, le_eq]; omega) | (refine Bool.eq_false_iff.mpr fun h => ?_; simp_all [vB, pr, le_eq]; omega) | (rw [Bool.eq_iff_iff]; constructor <;> intro h <;> simp_all [vB, pr, le_eq] <;> omega) | fail) | (rcases Nat.eq_zero_or_pos i with h0 | h0 <;> simp_all [vB, pr, le_eq] <;> omega) | (fail) | fail
     ·repeat' (first | exact True.intro | refine And.intro (congrArg (D.int .i64) hw) ?_ | refine And.intro rfl ?_)
     ·repeat' (first | exact True.intro | refine And.intro rfl ?_))
 have hge : ¬ i < b.fBerths.length := by simpa using hb
 have hend : valid b = (allN (vC b) b.fCopies.length 0 && true) := by rw [hN, allN_end hge, Bool.true_and]
 clear hN
 conv => whnf
 repeat' (first | (refine z_ld1 ?_; first | (refine z_ld rfl rfl rfl rfl au1 au2 ?_; conv => whnf) | (refine z_ld0 rfl ?_; conv => whnf)) | (refine z_op ?_ ?_; (focus exact rfl); conv => whnf) | (refine zs_ops ?_ ?_; (focus exact rfl)) | (refine z_nil fun vals => ?_; conv => whnf) | (refine And.intro ?_ ?_; (focus exact au0); conv => whnf) | (refine g_seq ?_) | (refine XS.go ?_) | (refine g_loop ?_) | (refine g_exit ?_; conv => whnf) | (refine g_block ?_) | fail)
 refine XLc.mkL (α := Nat) (fun i => i ≤ b.fCopies.length ∧ valid b = (allN (vC b) (b.fCopies.length - i) i && true)) (fun i => b.fCopies.length - i) (fun i gs => [.any, .cref b.D, .any, .any, .any, .any, .any, .any, .any, .any, .any, .any, .any, .any, .any, .any, .any, .any, .any, .any, .any, .any, .any, .any, .any, .any, .any, .any, .any, .any, .any, .any, .any, .any, .any, .any, .any, .any, .any, .any, .any, .any, .any, .any, .any, .any, .any, .any, .any, .any, .any, .any, .any, .any, .any, .any, .any, .any, .any, .any, .any, .any, .any, .any, .any, .any, .any, .any, .any, .any, .any, .any, .any, .any, .any, .any, .any, .any, .any, .any, .any, .any, .any, .any, .any, .any, .any, .any, .any, .any, .any, .any, .any, .ro 7 (b.fCopies.map StewCopy.D), .int .i64 ((b.fCopies.map StewCopy.D).length : Int), .int .i64 (i : Int)]) (fun i gs => []) 0 ⟨Nat.zero_le _, hend⟩ ?_ ?_
 ·refine ⟨?_, ?_⟩
  ·repeat' (first | exact True.intro | refine And.intro rfl ?_)
  ·repeat' (first | exact True.intro | refine And.intro rfl ?_)
 intro i gs hI
 obtain ⟨hi, hN⟩ := hI
 repeat' (first | (refine g_op ?_; conv => whnf) | (refine And.intro ?_ ?_; (focus exact au0); conv => whnf) | (refine g_seq ?_) | (refine XS.go ?_) | (refine g_ops ?_) | ((first | refine g_nil ?_ | refine g_cond ?_); conv => whnf) | fail)
 refine Br.mk (fun hb => ?_) (fun hb => ?_)
 ·have hlt : i < b.fCopies.length := by simpa using hb
  have hw : IntKind.wrap .i64 ((i : Int) + 1) = ((i + 1 : Nat) : Int) := by rw [wrap_ok (by omega) (by omega)]; rfl
  have hw1 : IntKind.wrap .i64 ((i : Int) - 1) = (i : Int) - 1 := wrap_ok (by omega) (by omega)
  have hbad := fun h => allN_bad (f := vC b) hlt hN h
  have hgood := fun h => allN_good (f := vC b) hlt hN h
  clear hN hb
  have hs := impl_service b (b.fCopies.getD (i : Int).toNat default).fService h1
  have hq := impl_berth b (b.fCopies.getD (i : Int).toNat default).fBerth h2
  by_cases hs0 : svcI b (b.fCopies.getD (i : Int).toNat default).fService < 0 <;> by_cases hq0 : berI b (b.fCopies.getD (i : Int).toNat default).fBerth < 0
  all_goals first | rw [ptr_none hs0] at hs | rw [ptr_some hs0] at hs
  all_goals first | rw [ptr_none hq0] at hq | rw [ptr_some hq0] at hq
  all_goals conv => whnf
  repeat' (first | (refine z_skipT' ?_ ?_; (focus ((conv => lhs; whnf); done)); (conv => whnf); refine And.intro ?_ ?_; (focus exact rfl)) | (refine z_pickF ?_ ?_ ?_; (focus ((conv => lhs; whnf); done)); (focus exact rfl); (conv => whnf)) | (refine z_ld1 ?_; first | (refine z_ld rfl rfl rfl rfl au1 au2 ?_; conv => whnf) | (refine z_ld0 rfl ?_; conv => whnf)) | (refine z_ld1g ?_; first | (refine z_ldg rfl rfl rfl rfl rfl rfl rfl (by (repeat intro _); exact ⟨au1, au2⟩) rfl rfl rfl rfl ?_; conv => whnf) | (refine z_ld0g ?_; (conv => whnf); refine And.intro ?_ ?_; (focus exact rfl); conv => whnf)) | (refine z_st1 ?_; first | (refine z_st rfl rfl rfl au1 au2 rfl rfl ?_; conv => whnf) | (refine z_st0 ?_; conv => whnf)) | (refine z_ix1 ?_; first | (refine z_ix rfl rfl rfl rfl rfl ⟨by first | omega | (simp only [decide_eq_true_eq, Bool.not_eq_true', Bool.or_eq_false_iff, decide_eq_false_iff_not, Bool.and_eq_true, Bool.not_eq_false'] at *; omega), by first | omega | (simp only [decide_eq_true_eq, Bool.not_eq_true', Bool.or_eq_false_iff, decide_eq_false_iff_not, Bool.and_eq_true, Bool.not_eq_false'] at *; omega)⟩ ?_; conv => whnf) | (refine z_ix0 rfl rfl ?_; conv => whnf)) | (refine z_op ?_ ?_; (focus exact rfl); conv => whnf) | (refine z_opg0 ?_; (conv => whnf); refine And.intro ?_ ?_; (focus exact rfl); conv => whnf) | (refine z_pick ?_ ?_; (focus exact rfl); conv => whnf) | (refine z_pickg ?_; (conv => whnf); refine And.intro ?_ ?_; (focus exact rfl); conv => whnf) | (refine zs_ops ?_ ?_; (focus exact rfl)) | (refine zs_quiet ?_ ?_; (focus exact rfl)) | (refine z_nil fun vals => ?_; conv => whnf) | (refine z_call ?_ ?_; (focus exact rfl)) | (refine z_eff ?_; conv => whnf) | (refine z_callg0 ?_; (conv => whnf); refine And.intro ?_ ?_; (focus exact rfl)) | (refine RC.of (hs) ?_ ?_; (focus exact rfl); conv => whnf) | (refine RC.of (hq) ?_ ?_; (focus exact rfl); conv => whnf) | (refine RC.of (impl_within _ _ _) ?_ ?_; (focus exact rfl); conv => whnf) | (refine g_op ?_; conv => whnf) | (refine And.intro ?_ ?_; (focus exact au0); conv => whnf) | (refine g_seq ?_) | (refine XS.go ?_) | (refine g_ops ?_) | (refine g_nil ?_; conv => whnf) | (refine Br.t ?_ ?_; (focus (first | assumption | exact rfl)); conv => whnf) | ((first | refine g_cond ?_ | refine g_skip ?_ | refine g_ret ?_); conv => whnf) | (refine g_block ?_) | ((first | refine r_t ?_ | refine r_nil ?_ | refine fun _ => ?_); conv => whnf) | (refine Br.mk (fun hb => ?_) (fun hb => ?_) <;> conv => whnf) | fail)
  all_goals
   first
   |(refine ⟨(), hbad ?_, ⟨?_, True.intro⟩⟩
     ·clear hbad hgood hw hs hq
      first | (first | (refine (Bool.eq_false_iff.mpr fun h => ?_).symm; simp_all [vC, copyOk, pr, ahead_neg, inR]; done) | (refine Bool.eq_false_iff.mpr fun h => ?_; simp_all [vC, copyOk, pr, ahead_neg, inR]; done) | (simp_all [vC, copyOk, pr, ahead_neg, inR]; done) | (simp_all [vC, copyOk, pr, ahead_neg, inR]; omega) | (refine (Bool.eq_false_iff.mpr fun h => ?_).symm; simp_all [vC, copyOk, pr, ahead_neg, inR]; omega) | (refine Bool.eq_false_iff.mpr fun h => ?_; simp_all [vC, copyOk, pr, ahead_neg, inR]; omega) | (rw [Bool.eq_iff_iff]; constructor <;> intro h <;> simp_all [vC, copyOk, pr, ahead_neg, inR] <;> omega) | fail) | (rcases Nat.eq_zero_or_pos i with h0 | h0 <;> simp_all [vC, copyOk, pr, ahead_neg, inR] <;> omega) | (fail) | fail
     ·repeat' (first | exact True.intro | refine And.intro rfl ?_))
   |(conv => lhs; whnf
     refine congrArg D.bool (hbad ?_)
     clear hbad hgood hw hs hq
     first | (first | (refine (Bool.eq_false_iff.mpr fun h => ?_).symm; simp_all [vC, copyOk, pr, ahead_neg, inR]; done) | (refine Bool.eq_false_iff.mpr fun h => ?_; simp_all [vC, copyOk, pr, ahead_neg, inR]; done) | (simp_all [vC, copyOk, pr, ahead_neg, inR]; done) | (simp_all [vC, copyOk, pr, ahead_neg, inR]; omega) | (refine (Bool.eq_false_iff.mpr fun h => ?_).symm; simp_all [vC, copyOk, pr, ahead_neg, inR]; omega) | (refine Bool.eq_false_iff.mpr fun h => ?_; simp_all [vC, copyOk, pr, ahead_neg, inR]; omega) | (rw [Bool.eq_iff_iff]; constructor <;> intro h <;> simp_all [vC, copyOk, pr, ahead_neg, inR] <;> omega) | fail) | (rcases Nat.eq_zero_or_pos i with h0 | h0 <;> simp_all [vC, copyOk, pr, ahead_neg, inR] <;> omega) | (fail) | fail)
   |(refine ⟨i + 1, ⟨by omega, ?_⟩, by omega, ?_, ?_⟩
     ·refine hgood ?_
      clear hbad hgood hw hs hq
      first | (first | (refine (Bool.eq_false_iff.mpr fun h => ?_).symm; simp_all [vC, copyOk, pr, ahead_neg, inR]; done) | (refine Bool.eq_false_iff.mpr fun h => ?_; simp_all [vC, copyOk, pr, ahead_neg, inR]; done) | (simp_all [vC, copyOk, pr, ahead_neg, inR]; done) | (simp_all [vC, copyOk, pr, ahead_neg, inR]; omega) | (refine (Bool.eq_false_iff.mpr fun h => ?_).symm; simp_all [vC, copyOk, pr, ahead_neg, inR]; omega) | (refine Bool.eq_false_iff.mpr fun h => ?_; simp_all [vC, copyOk, pr, ahead_neg, inR]; omega) | (rw [Bool.eq_iff_iff]; constructor <;> intro h <;> simp_all [vC, copyOk, pr, ahead_neg, inR] <;> omega) | fail) | (rcases Nat.eq_zero_or_pos i with h0 | h0 <;> simp_all [vC, copyOk, pr, ahead_neg, inR] <;> omega) | (fail) | fail
     ·repeat' (first | exact True.intro | refine And.intro (congrArg (D.int .i64) hw) ?_ | refine And.intro rfl ?_)
     ·repeat' (first | exact True.intro | refine And.intro rfl ?_))
 have hge : ¬ i < b.fCopies.length := by simpa using hb
 have hend : valid b = true := by rw [hN, allN_end hge, Bool.true_and]
 clear hN
 conv => whnf
 repeat' (first | (refine g_op ?_; conv => whnf) | (refine And.intro ?_ ?_; (focus exact au0); conv => whnf) | (refine g_seq ?_) | (refine XS.go ?_) | (refine g_ops ?_) | ((first | refine g_nil ?_ | refine g_ret ?_ | refine g_exit ?_ | refine r_t ?_ | refine r_nil ?_); conv => whnf) | fail)
 (conv => lhs; whnf)
 rw [hend]
end Go.Ab
set_option linter.unusedSimpArgs false
set_option linter.unusedVariables false
namespace Go.Ab
open Go Go.RowKit Go.Proofs
attribute [local irreducible] XC Rdr IntKind.wrap xw xos xqs xr xd
set_option maxRecDepth 100000
end Go.Ab
set_option linter.unusedSimpArgs false
set_option linter.unusedVariables false
namespace Go.Ab
open Go Go.RowKit Go.Proofs
attribute [local irreducible] XC Rdr IntKind.wrap xw xos xqs xr xd
set_option maxRecDepth 100000
structure StewCount where
 fLive : Int
 fReady : Int
 fOld : Int
 fFailed : Int
 fEnding : Int
instance : Inhabited StewCount := ⟨⟨0, 0, 0, 0, 0⟩⟩
def stepC (name : List UInt8) (img : Int) (n : StewCount) (c : StewCopy) : StewCount :=
 if c.fService.toList = name then
  if c.fEnding = true then { n with fEnding := IntKind.wrap .i64 (n.fEnding + 1) }
  else ⟨IntKind.wrap .i64 (n.fLive + 1), if c.fState = 3 then IntKind.wrap .i64 (n.fReady + 1) else n.fReady, if c.fImage = img then n.fOld else IntKind.wrap .i64 (n.fOld + 1), if c.fState = 4 then IntKind.wrap .i64 (n.fFailed + 1) else n.fFailed, n.fEnding⟩
 else n
def cntUp (name : List UInt8) (img : Int) (xs : List StewCopy) : Nat → StewCount
 | 0 => ⟨0, 0, 0, 0, 0⟩
 | i + 1 => stepC name img (cntUp name img xs i) (xs.getD i default)
def z5 : StewCount := ⟨0, 0, 0, 0, 0⟩
def cntOf (b : StewBook) (name : ByteArray) : StewCount := if svcI b name < 0 then z5 else cntUp name.toList (b.fServices.getD (svcI b name).toNat default).fImage b.fCopies b.fCopies.length
end Go.Ab
set_option linter.unusedSimpArgs false
set_option linter.unusedVariables false
namespace Go.Ab
open Go Go.RowKit Go.Proofs
attribute [local irreducible] XC Rdr IntKind.wrap xw xos xqs xr xd
set_option maxRecDepth 100000
set_option maxHeartbeats 16000000
def cf96 : CF := ⟨45,[.t 6],(.seq (.ops [Ok 6 (.nilp)]) (.seq (.seq (.ops [Om 8 0,On 9 8,Of 10 2 9,Ol 11 10,Og 12 11,Ok 13 (.int .i64 0)]) (.block 0 (.loop (.seq (.ops [Ob 14 .lss 13 12]) (.seq (.cond (.t 14) .skip (.exit 0)) (.seq (.block 1 (.seq (.ops [Om 15 13,Om 7 15]) (.seq (.ops [Om 16 0,On 17 16,Of 18 2 17,Ol 19 18,Om 20 7,Ox 21 7 19 20,Of 22 0 21,Ol 23 22,Om 24 1,Ob 25 .eql 23 24,Om 26 25,⟨some 27,.mv (.t 0),some (26,true)⟩,⟨some 28,.nilc (.t 27),some (26,true)⟩,⟨some 29,.fa 2 1 2 (.t 28),some (26,true)⟩,⟨some 30,.ld 1 false (.t 29),some (26,true)⟩,⟨some 31,.mv (.t 7),some (26,true)⟩,⟨some 32,.ix 7 (.t 30) (.t 31),some (26,true)⟩,⟨some 33,.fa 1 1 1 (.t 32),some (26,true)⟩,⟨some 34,.ld 1 false (.t 33),some (26,true)⟩,⟨some 35,.mv (.t 2),some (26,true)⟩,⟨some 36,.bin .eql (.t 34) (.t 35),some (26,true)⟩,Oo 37 (.pick (.t 26) (.t 36) (.k (.bool false)))]) (.cond (.t 37) (.seq (.ops [Om 38 0,On 39 38,Of 40 2 39,Ol 41 40,Om 42 7,Ox 43 7 41 42,Om 6 43]) .ret) .skip)))) (.ops [Oi 44 13,Om 13 44]))))))) (.seq (.ops [Ok 6 (.nilp)]) .ret)))⟩
theorem c96 : compileF Try.prog [] 96 = some cf96 := by kernel_rfl
def cf137 : CF := ⟨34,[.t 6],(.seq (.ops [Oo 3 (.bx (.t 0)),Ok 6 (.int .i64 0)]) (.seq (.seq (.ops [Ok 7 (.int .i64 0)]) (.block 0 (.loop (.seq (.seq (.ops [Om 8 7,Of 9 2 3,Ol 10 9,Og 11 10,Ob 12 .lss 8 11]) (.cond (.t 12) .skip (.exit 0))) (.seq (.block 1 (.seq (.ops [Of 15 2 3,Ol 16 15,Om 17 7,Ox 18 7 16 17,Of 19 0 18,Ol 20 19,Om 21 1,Ob 22 .eql 20 21,Om 23 22,⟨some 24,.fa 2 1 2 (.t 3),some (23,true)⟩,⟨some 25,.ld 1 false (.t 24),some (23,true)⟩,⟨some 26,.mv (.t 7),some (23,true)⟩,⟨some 27,.ix 7 (.t 25) (.t 26),some (23,true)⟩,⟨some 28,.fa 1 1 1 (.t 27),some (23,true)⟩,⟨some 29,.ld 1 false (.t 28),some (23,true)⟩,⟨some 30,.mv (.t 2),some (23,true)⟩,⟨some 31,.bin .eql (.t 29) (.t 30),some (23,true)⟩,Oo 32 (.pick (.t 23) (.t 31) (.k (.bool false)))]) (.cond (.t 32) (.seq (.ops [Om 33 7,Om 6 33]) .ret) .skip))) (.ops [Om 13 7,Oi 14 13,Om 7 14])))))) (.seq (.ops [Ok 6 (.int .i64 (-1))]) .ret)))⟩
theorem c137 : compileF Try.prog [] 137 = some cf137 := by kernel_rfl
def cpyF (b : StewBook) (name : ByteArray) (k : Int) (i : Nat) : Bool := (b.fCopies.getD i default).fService.toList == name.toList && (b.fCopies.getD i default).fNumber == k
def cpyI (b : StewBook) (name : ByteArray) (k : Int) : Int := idxN (cpyF b name k) b.fCopies.length 0
theorem spec_Copy (b : StewBook) (name : ByteArray) (k : Int) (hl : b.fCopies.length ≤ 1048576) : Rdr Try.prog 137 [b.D, .str name, .int .i64 k] (.int .i64 (cpyI b name k)) := by
 refine Rdr.intro' hm c137 (Nat.le_of_ble_eq_true rfl) ?_
 conv => whnf
 repeat' (first | (refine g_op ?_; conv => whnf) | (refine And.intro ?_ ?_; (focus exact au0); conv => whnf) | (refine g_seq ?_) | (refine g_ops ?_) | ((first | refine g_nil ?_ | refine fun _ => ?_); conv => whnf) | fail)
 refine XS.freezeB 3 rfl ?_
 repeat' (first | (refine g_op ?_; conv => whnf) | (refine And.intro ?_ ?_; (focus exact au0); conv => whnf) | (refine g_seq ?_) | (refine XS.go ?_) | (refine g_ops ?_) | (refine g_loop ?_) | (refine g_nil ?_; conv => whnf) | (refine g_block ?_) | fail)
 refine XLc.mkL (α := Nat) (fun i => i ≤ b.fCopies.length ∧ cpyI b name k = idxN (cpyF b name k) (b.fCopies.length - i) i) (fun i => b.fCopies.length - i) (fun i gs => [.any, .str name, .int .i64 k, .cref b.D, .any, .any, .any, .int .i64 (i : Int)]) (fun i gs => []) 0 ⟨Nat.zero_le _, rfl⟩ ?_ ?_
 ·refine ⟨?_, ?_⟩
  ·repeat' (first | exact True.intro | refine And.intro rfl ?_)
  ·repeat' (first | exact True.intro | refine And.intro rfl ?_)
 intro i gs hI
 obtain ⟨hi, hN⟩ := hI
 repeat' (first | (refine z_ld1 ?_; first | (refine z_ld rfl rfl rfl rfl au1 au2 ?_; conv => whnf) | (refine z_ld0 rfl ?_; conv => whnf)) | (refine z_op ?_ ?_; (focus exact rfl); conv => whnf) | (refine zs_ops ?_ ?_; (focus exact rfl)) | (refine z_nil fun vals => ?_; conv => whnf) | (refine And.intro ?_ ?_; (focus exact au0); conv => whnf) | (refine g_seq ?_) | (refine XS.go ?_) | (refine g_cond ?_; conv => whnf) | fail)
 refine Br.mk (fun hb => ?_) (fun hb => ?_)
 ·have hlt : i < b.fCopies.length := by simpa using hb
  have hw : IntKind.wrap .i64 ((i : Int) + 1) = ((i + 1 : Nat) : Int) := by rw [wrap_ok (by omega) (by omega)]; rfl
  have hit := fun h => idxN_hit (f := cpyF b name k) hlt hN h
  have miss := fun h => idxN_miss (f := cpyF b name k) hlt hN h
  clear hN hb
  conv => whnf
  repeat' (first | (refine z_ld1 ?_; first | (refine z_ld rfl rfl rfl rfl au1 au2 ?_; conv => whnf) | (refine z_ld0 rfl ?_; conv => whnf)) | (refine z_ld1g ?_; first | (refine z_ldg rfl rfl rfl rfl rfl rfl rfl (by (repeat intro _); exact ⟨au1, au2⟩) rfl rfl rfl rfl ?_; conv => whnf) | (refine z_ld0g ?_; (conv => whnf); refine And.intro ?_ ?_; (focus exact rfl); conv => whnf)) | (refine z_ix1 ?_; first | (refine z_ix rfl rfl rfl rfl rfl ⟨by first | omega | (simp only [decide_eq_true_eq, Bool.not_eq_true', Bool.or_eq_false_iff, decide_eq_false_iff_not, Bool.and_eq_true, Bool.not_eq_false'] at *; omega), by first | omega | (simp only [decide_eq_true_eq, Bool.not_eq_true', Bool.or_eq_false_iff, decide_eq_false_iff_not, Bool.and_eq_true, Bool.not_eq_false'] at *; omega)⟩ ?_; conv => whnf) | (refine z_ix0 rfl rfl ?_; conv => whnf)) | (refine z_ix1g ?_; refine z_ixg rfl rfl rfl rfl rfl rfl rfl (by (repeat intro _); refine ⟨?_, ?_⟩ <;> first | omega | (simp only [decide_eq_true_eq, Bool.not_eq_true', Bool.or_eq_false_iff, decide_eq_false_iff_not, Bool.and_eq_true, Bool.not_eq_false'] at *; omega)) ?_) | (refine z_op ?_ ?_; (focus exact rfl); conv => whnf) | (refine z_opg0 ?_; (conv => whnf); refine And.intro ?_ ?_; (focus exact rfl); conv => whnf) | (refine z_pick ?_ ?_; (focus exact rfl); conv => whnf) | (refine zs_ops ?_ ?_; (focus exact rfl)) | ((first | refine z_nil fun vals => ?_ | refine g_op ?_); conv => whnf) | (refine And.intro ?_ ?_; (focus exact au0); conv => whnf) | (refine g_seq ?_) | (refine XS.go ?_) | (refine g_ops ?_) | ((first | refine g_nil ?_ | refine g_cond ?_ | refine g_skip ?_ | refine g_ret ?_); conv => whnf) | (refine g_block ?_) | ((first | refine r_t ?_ | refine r_nil ?_); conv => whnf) | (refine Br.mk (fun hb => ?_) (fun hb => ?_) <;> conv => whnf) | fail)
  all_goals
   first
   | ((conv => lhs; whnf); first | (rw [hit hb]; done) | (rw [hit hb]; rfl) | fail)
   |(refine ⟨i + 1, ⟨by omega, miss hb⟩, by omega, ?_, ?_⟩
     ·repeat' (first | exact True.intro | refine And.intro (congrArg (D.int .i64) hw) ?_ | refine And.intro rfl ?_)
     ·repeat' (first | exact True.intro | refine And.intro rfl ?_))
 have hge : ¬ i < b.fCopies.length := by simpa using hb
 have hend : cpyI b name k = -1 := by rw [hN, idxN_end hge]
 clear hN
 conv => whnf
 repeat' (first | (refine g_op ?_; conv => whnf) | (refine And.intro ?_ ?_; (focus exact au0); conv => whnf) | (refine g_seq ?_) | (refine XS.go ?_) | (refine g_ops ?_) | ((first | refine g_nil ?_ | refine g_ret ?_ | refine g_exit ?_ | refine r_t ?_ | refine r_nil ?_); conv => whnf) | fail)
 ((conv => lhs; whnf); first | (rw [hend]; done) | (rw [hend]; rfl))
end Go.Ab
set_option linter.unusedSimpArgs false
set_option linter.unusedVariables false
namespace Go.Ab
open Go Go.RowKit Go.Proofs
attribute [local irreducible] XC Rdr IntKind.wrap xw xos xqs xr xd
set_option maxRecDepth 100000
def cf102 : CF := ⟨4,[.t 2],(.seq (.ops [Ok 2 (.int .i64 0)]) (.seq (.seq (.ops [Om 3 0]) (.cond (.t 3) (.seq (.ops [Ok 2 (.int .i64 1)]) .ret) .skip)) (.seq (.ops [Ok 2 (.int .i64 0)]) .ret)))⟩
theorem c102 : compileF Try.prog [] 102 = some cf102 := by kernel_rfl
def b01 (x : Bool) : Int := if x then 1 else 0
def drP (b : StewBook) (c : StewCopy) : Bool := !decide (berI b c.fBerth < 0) && (b.fBerths.getD (berI b c.fBerth).toNat default).fDrain
theorem impl_one (x : Bool) : Rdr Try.prog 102 [.bool x] (.int .i64 (b01 x)) := by
 refine Rdr.intro' hm c102 (Nat.le_of_ble_eq_true rfl) ?_
 conv => whnf
 cases x
 ·skip
  repeat' (first | (refine g_op ?_; conv => whnf) | (refine And.intro ?_ ?_; (focus exact au0); conv => whnf) | (refine g_seq ?_) | (refine XS.go ?_) | (refine g_ops ?_) | (refine g_nil ?_; conv => whnf) | (refine Br.f ?_ ?_; (focus (first | assumption | exact rfl)); conv => whnf) | ((first | refine g_cond ?_ | refine g_skip ?_ | refine g_ret ?_ | refine r_t ?_ | refine r_nil ?_); conv => whnf) | fail)
  rfl
 ·skip
  repeat' (first | (refine g_op ?_; conv => whnf) | (refine And.intro ?_ ?_; (focus exact au0); conv => whnf) | (refine g_seq ?_) | (refine XS.go ?_) | (refine g_ops ?_) | (refine g_nil ?_; conv => whnf) | (refine Br.t ?_ ?_; (focus (first | assumption | exact rfl)); conv => whnf) | ((first | refine g_cond ?_ | refine g_ret ?_ | refine r_t ?_ | refine r_nil ?_); conv => whnf) | fail)
  rfl
def liveP (b : StewBook) (name : ByteArray) (j : Nat) : Bool := (b.fCopies.getD j default).fService.toList == name.toList && !(b.fCopies.getD j default).fEnding
def liveUp (b : StewBook) (name : ByteArray) : Nat → List Int
 | 0 => []
 | i + 1 => if liveP b name i then liveUp b name i ++ [(i : Int)] else liveUp b name i
end Go.Ab
set_option linter.unusedSimpArgs false
set_option linter.unusedVariables false
namespace Go.Ab
open Go Go.RowKit Go.Proofs
attribute [local irreducible] XC Rdr IntKind.wrap xw xos xqs xr xd
set_option maxRecDepth 100000
/-! Sums. -/
theorem b01_bd (x : Bool) : 0 ≤ b01 x ∧ b01 x ≤ 1 := by cases x <;> decide
/-! What a rank is. -/
def sv (b : StewBook) (i : Nat) : StewService := b.fServices.getD i default
def cp (b : StewBook) (j : Nat) : StewCopy := b.fCopies.getD j default
def lv (b : StewBook) (i : Nat) : List Int := liveUp b (sv b i).fName b.fCopies.length
def bad3 (b : StewBook) (s : StewService) (c : StewCopy) : Bool := c.fImage != s.fImage || drP b c
def g1 (b : StewBook) (i : Nat) : Int := (cntOf b (sv b i).fName).fEnding + if (sv b i).fGone = true then (cntOf b (sv b i).fName).fLive else 0
def absI (x : Int) : Int := if x < 0 then -x else x
def g2 (b : StewBook) (i : Nat) : Int := if (sv b i).fGone = true then 0 else absI ((cntOf b (sv b i).fName).fLive - (sv b i).fWant)
def k3 (b : StewBook) (i : Nat) (k : Nat) : Int := b01 (bad3 b (sv b i) (cp b ((lv b i).getD k default).toNat))
def k4 (b : StewBook) (i : Nat) (k : Nat) : Int := b01 ((cp b ((lv b i).getD k default).toNat).fState != 3)
def so (b : StewBook) (j : Nat) : StewService := sv b (svcI b (cp b j).fService).toNat
def off (b : StewBook) (j : Nat) : Bool := (cp b j).fEnding || (so b j).fGone
def e1 (b : StewBook) (j : Nat) : Int := b01 (off b j)
def e3 (b : StewBook) (j : Nat) : Int := if off b j = true then 0 else b01 (bad3 b (so b j) (cp b j))
def e4 (b : StewBook) (j : Nat) : Int := if off b j = true then 0 else b01 ((cp b j).fState != 3)
/-! What a valid book tells. -/
theorem valid_parts {b : StewBook} (h : valid b = true) : b.fServices.length ≤ 8 ∧ b.fCopies.length ≤ 200 ∧ b.fBerths.length ≤ 6 ∧ (∀ i, i < b.fServices.length → vS b i = true) ∧ (∀ j, j < b.fCopies.length → vC b j = true) := by
 simp only [valid, Bool.and_eq_true, Bool.not_eq_true', Bool.or_eq_false_iff, decide_eq_false_iff_not] at h
 obtain ⟨⟨⟨⟨_, h1⟩, h2⟩, h3⟩, h4, h5, h6, _⟩ := h
 exact ⟨by omega, by omega, by omega, fun i hi => allN_get h4 (Nat.zero_le _) (by omega), fun j hj => allN_get h6 (Nat.zero_le _) (by omega)⟩
theorem bl_trans : ∀ {a b c : List UInt8}, Op.bytesLess a b = true → Op.bytesLess b c = true → Op.bytesLess a c = true
 | [], [], _, h, _ => by simp [Op.bytesLess] at h
 | [], _ :: _, [], _, h => by simp [Op.bytesLess] at h
 | [], _ :: _, _ :: _, _, _ => rfl
 | _ :: _, [], _, h, _ => by simp [Op.bytesLess] at h
 | _ :: _, _ :: _, [], _, h => by simp [Op.bytesLess] at h
 | x :: a, y :: b, z :: c, h1, h2 => by
  simp only [Op.bytesLess, Bool.or_eq_true, Bool.and_eq_true, decide_eq_true_eq, beq_iff_eq] at h1 h2 ⊢
  rcases h1 with h1 | ⟨rfl, h1⟩ <;> rcases h2 with h2 | ⟨rfl, h2⟩
  ·exact .inl (UInt8.lt_trans h1 h2)
  ·exact .inl h1
  ·exact .inl h2
  ·exact .inr ⟨rfl, bl_trans h1 h2⟩
/-- Names in order: each ahead of all later ones. -/
theorem ord_less {f : Nat → List UInt8} {n : Nat} (h : ∀ i, 0 < i → i < n → Op.bytesLess (f (i - 1)) (f i) = true) : ∀ {d i : Nat}, i + d + 1 < n → Op.bytesLess (f i) (f (i + d + 1)) = true
 | 0, i, hn => by
  have := h (i + 1) (by omega) hn
  simpa using this
 | d + 1, i, hn => by
  have h1 := ord_less h (d := d) (i := i) (by omega)
  have h2 := h (i + (d + 1) + 1) (by omega) hn
  have e : i + (d + 1) + 1 - 1 = i + d + 1 := by omega
  rw [e] at h2
  exact bl_trans h1 h2
theorem ord_ne {f : Nat → List UInt8} {n : Nat} (h : ∀ i, 0 < i → i < n → Op.bytesLess (f (i - 1)) (f i) = true) {i j : Nat} (hij : i < j) (hj : j < n) : f i ≠ f j := fun e => by
 have := ord_less h (d := j - i - 1) (i := i) (by omega)
 have e2 : i + (j - i - 1) + 1 = j := by omega
 rw [e2, e, bl_irr] at this
 cases this
end Go.Ab
set_option linter.unusedSimpArgs false
set_option linter.unusedVariables false
namespace Go.Ab
open Go Go.RowKit Go.Proofs
attribute [local irreducible] XC Rdr IntKind.wrap xw xos xqs xr xd
set_option maxRecDepth 100000
end Go.Ab
set_option linter.unusedSimpArgs false
set_option linter.unusedVariables false
namespace Go.Ab
open Go Go.RowKit Go.Proofs
attribute [local irreducible] XC Rdr IntKind.wrap xw xos xqs xr xd
set_option maxRecDepth 100000
set_option maxHeartbeats 16000000
set_option maxHeartbeats 8000000
def cf45 : CF := ⟨19,[.t 4],(.seq (.ops [Oo 2 (.bx (.t 0)),Ok 4 (.int .i64 0)]) (.seq (.ops [Oo 5 (.fa 1 13 1 (.t 2)),Od 6 13 5,Om 7 1,Oc 8 108 [.t 6,.t 7],Om 1 8]) (.seq (.seq (.ops [Om 9 1,Oo 10 (.bin .lss (.t 9) (.k (.int .i64 0)))]) (.cond (.t 10) (.seq (.ops [Ok 4 (.int .i64 (-1))]) .ret) .skip)) (.seq (.ops [Om 11 1,Oo 12 (.fa 14 1 2 (.t 2)),Ol 13 12,Oo 14 (.lens (.t 13)),Ob 15 .sub 11 14,Om 1 15]) (.seq (.seq (.ops [Om 16 1,Oo 17 (.bin .lss (.t 16) (.k (.int .i64 0)))]) (.cond (.t 17) (.seq (.ops [Ok 4 (.int .i64 (-1))]) .ret) .skip)) (.seq (.ops [Om 18 1,Om 4 18]) .ret))))))⟩
theorem c45 : compileF Try.prog [] 45 = some cf45 := by kernel_rfl
def cf47 : CF := ⟨21,[.c 2 17 true],(.seq (.ops [Oo 1 (.bx (.t 0)),Oo 2 (.al (.agg [.int .i64 0,.agg [.str ⟨#[]⟩,.int .i64 0,.bool false,.int .i64 0,.int .i64 0,.int .i64 0,.int .i64 0,.int .i64 0,.int .i64 0,.int .i64 0,.int .i64 0,.int .i64 0,.int .i64 0],.str ⟨#[]⟩,.int .i64 0,.bool false]))]) (.seq (.ops [Oo 3 (.al (.agg [.int .i64 0,.agg [.str ⟨#[]⟩,.int .i64 0,.bool false,.int .i64 0,.int .i64 0,.int .i64 0,.int .i64 0,.int .i64 0,.int .i64 0,.int .i64 0,.int .i64 0,.int .i64 0,.int .i64 0],.str ⟨#[]⟩,.int .i64 0,.bool false]))]) (.seq (.ops [Of 4 0 1,Ol 5 4,Of 6 0 3,Os 1 6 5]) (.seq (.ops [Oo 7 (.fa 1 13 1 (.t 1)),Od 8 13 7,Oc 9 110 [.t 8],Oo 10 (.fa 1 13 1 (.t 3)),Os 13 10 9]) (.seq (.ops [Oo 11 (.fa 14 1 2 (.t 1)),Ol 12 11,Oo 13 (.fa 14 1 2 (.t 3)),Os 1 13 12]) (.seq (.ops [Oo 14 (.fa 15 1 3 (.t 1)),Ol 15 14,Oo 16 (.fa 15 1 3 (.t 3)),Os 1 16 15]) (.seq (.ops [Oo 17 (.fa 16 1 4 (.t 1)),Ol 18 17,Oo 19 (.fa 16 1 4 (.t 3)),Os 1 19 18]) (.seq (.ops [Od 20 17 3,Os 17 2 20]) .ret))))))))⟩
theorem c47 : compileF Try.prog [] 47 = some cf47 := by kernel_rfl
structure StewEvent where
 fKind : Int
 fService : StewService
 fName : ByteArray
 fNumber : Int
 fFlag : Bool
def StewEvent.D (x : StewEvent) : D := .agg [.int .i64 x.fKind, x.fService.D, .str x.fName, .int .i64 x.fNumber, .bool x.fFlag]
instance : Inhabited StewEvent := ⟨⟨0, ⟨⟨#[]⟩, 0, false, 0, 0, 0, 0, 0, 0, 0, 0, 0, 0⟩, ⟨#[]⟩, 0, false⟩⟩
structure StewEvent.wf (x : StewEvent) : Prop where
 fService : x.fService.wf
 fName : x.fName.size ≤ 9223372036854775807
structure StewEvent.small (x : StewEvent) : Prop where
 fService : x.fService.small
theorem args_StewEvent {d : D} (h : Has (.st [.int .i64, .st [.str, .int .i64, .bool, .int .i64, .int .i64, .int .i64, .int .i64, .int .i64, .int .i64, .int .i64, .int .i64, .int .i64, .int .i64], .str, .int .i64, .bool]) d) : ∃ x : StewEvent, d = x.D ∧ x.wf := by
 rw [Has] at h
 obtain ⟨_, rfl, h⟩ := h
 simp only [HasF] at h
 obtain ⟨_, _, rfl, hKind, _, _, rfl, hService, _, _, rfl, hName, _, _, rfl, hNumber, _, _, rfl, hFlag, rfl⟩ := h
 rw [Has] at hKind
 obtain ⟨vKind, rfl, _⟩ := hKind
 obtain ⟨vService, rfl, wService⟩ := args_StewService hService
 rw [Has] at hName
 obtain ⟨vName, rfl, wName⟩ := hName
 rw [Has] at hNumber
 obtain ⟨vNumber, rfl, _⟩ := hNumber
 rw [Has] at hFlag
 obtain ⟨vFlag, rfl⟩ := hFlag
 exact ⟨⟨vKind, vService, vName, vNumber, vFlag⟩, rfl, ⟨wService, wName⟩⟩
theorem sz_StewEvent (x : StewEvent) (k : Int) (hw : x.wf) (h0 : 0 ≤ k) (h1 : k ≤ 1048576) : XC Try.prog 45 [x.D, .int .i64 k] [] (fun d ls => ls = [] ∧ ∃ n, d = .int .i64 n ∧ (0 ≤ n → n ≤ k ∧ x.small)) := by
 refine XC.intro' hm [] rfl c45 (Nat.le_of_ble_eq_true rfl) ?_
 conv => whnf
 repeat' (first | (refine g_op ?_; conv => whnf) | (refine And.intro ?_ ?_; (focus exact au0); conv => whnf) | (refine g_seq ?_) | (refine XS.go ?_) | (refine g_ops ?_) | ((first | refine g_nil ?_ | refine fun _ => ?_); conv => whnf) | fail)
 refine XCL.ask (sz_StewService x.fService _ hw.fService (by omega) (by omega)) (fun d h => ?_)
 obtain ⟨n1, rfl, m1⟩ := h
 conv => whnf
 repeat' (first | (refine g_op ?_; conv => whnf) | (refine And.intro ?_ ?_; (focus exact au0); conv => whnf) | (refine g_seq ?_) | (refine XS.go ?_) | (refine g_ops ?_) | ((first | refine g_nil ?_ | refine g_cond ?_); conv => whnf) | fail)
 refine Br.mk (fun hb => ?_) (fun hb => ?_)
 ·conv => whnf
  repeat' (first | (refine g_op ?_; conv => whnf) | (refine And.intro ?_ ?_; (focus exact au0); conv => whnf) | (refine g_seq ?_) | (refine XS.go ?_) | (refine g_ops ?_) | ((first | refine g_nil ?_ | refine g_ret ?_ | refine r_t ?_ | refine r_nil ?_); conv => whnf) | fail)
  exact ⟨_, rfl, fun h => absurd h (by decide)⟩
 have p1 : 0 ≤ n1 := Int.not_lt.1 (of_decide_eq_false hb)
 obtain ⟨l1, s1⟩ := m1 p1
 conv => whnf
 repeat' (first | (refine g_op ?_; conv => whnf) | (refine And.intro ?_ ?_; (focus exact au0); conv => whnf) | (refine g_seq ?_) | (refine XS.go ?_) | (refine g_ops ?_) | ((first | refine g_nil ?_ | refine g_cond ?_ | refine g_skip ?_); conv => whnf) | fail)
 have q2 := hw.fName
 have e2 : IntKind.wrap .i64 (n1 - (x.fName.size : Int)) = n1 - (x.fName.size : Int) := wrap_ok (by omega) (by omega)
 rw [e2]
 refine Br.mk (fun hb => ?_) (fun hb => ?_)
 ·conv => whnf
  repeat' (first | (refine g_op ?_; conv => whnf) | (refine And.intro ?_ ?_; (focus exact au0); conv => whnf) | (refine g_seq ?_) | (refine XS.go ?_) | (refine g_ops ?_) | ((first | refine g_nil ?_ | refine g_ret ?_ | refine r_t ?_ | refine r_nil ?_); conv => whnf) | fail)
  exact ⟨_, rfl, fun h => absurd h (by decide)⟩
 have p2 : 0 ≤ (n1 - (x.fName.size : Int)) := Int.not_lt.1 (of_decide_eq_false hb)
 conv => whnf
 repeat' (first | (refine g_op ?_; conv => whnf) | (refine And.intro ?_ ?_; (focus exact au0); conv => whnf) | (refine g_seq ?_) | (refine XS.go ?_) | (refine g_ops ?_) | ((first | refine g_nil ?_ | refine g_skip ?_ | refine g_ret ?_ | refine r_t ?_ | refine r_nil ?_); conv => whnf) | fail)
 exact ⟨_, rfl, fun _ => ⟨by omega, ⟨s1⟩⟩⟩
theorem to_StewEvent (x : StewEvent) (hs : x.small) : Rdr Try.prog 47 [x.D] x.D := by
 refine Rdr.intro' hm c47 (Nat.le_of_ble_eq_true rfl) ?_
 conv => whnf
 repeat' (first | (refine g_op ?_; conv => whnf) | (refine And.intro ?_ ?_; (focus exact au0); conv => whnf) | (refine g_seq ?_) | (refine XS.go ?_) | (refine g_ops ?_) | ((first | refine g_nil ?_ | refine g_ret ?_ | refine r_c ?_ | refine r_nil ?_ | refine fun _ => ?_ | refine XCL.of_rdr (to_StewService x.fService hs.fService) ?_); conv => whnf) | fail)
 all_goals rfl
def cf109 : CF := ⟨161,[.c 4 4 true,.t 5],(.seq (.ops [Oo 2 (.bx (.t 0)),Oo 3 (.bx (.t 1)),Oo 4 (.al (.agg [.int .i64 0,.nil,.nil,.nil])),Ok 5 (.int .i64 0)]) (.seq (.ops [Of 12 0 2,Ol 13 12,Oi 14 13,Om 6 14]) (.seq (.seq (.ops [Of 15 0 3,Ol 16 15]) (.block 0 (.seq (.ops [Oo 19 (.bin .eql (.t 16) (.k (.int .i64 1))),Om 18 19]) (.cond (.t 18) (.ops [Od 20 4 2,Om 21 6,Oc 22 146 [.t 20,.t 21],Os 4 2 22]) (.seq (.ops [Oo 24 (.bin .eql (.t 16) (.k (.int .i64 2))),Om 23 24]) (.cond (.t 23) (.ops [Od 25 4 2,Oo 26 (.fa 1 13 1 (.t 3)),Od 27 13 26,Om 28 6,Oc 29 147 [.t 25,.t 27,.t 28],Os 4 2 29]) (.seq (.ops [Oo 31 (.bin .eql (.t 16) (.k (.int .i64 3))),Om 30 31]) (.cond (.t 30) (.seq (.ops [Od 32 4 2,Oo 33 (.fa 14 1 2 (.t 3)),Ol 34 33,Oo 35 (.fa 15 1 3 (.t 3)),Ol 36 35,Oc 37 137 [.t 32,.t 34,.t 36],Om 7 37]) (.seq (.seq (.ops [Om 38 7,Oo 39 (.bin .lss (.t 38) (.k (.int .i64 0))),Om 40 39,⟨some 41,.fa 2 1 2 (.t 2),some (40,false)⟩,⟨some 42,.ld 1 false (.t 41),some (40,false)⟩,⟨some 43,.mv (.t 7),some (40,false)⟩,⟨some 44,.ix 7 (.t 42) (.t 43),some (40,false)⟩,⟨some 45,.fa 4 1 4 (.t 44),some (40,false)⟩,⟨some 46,.ld 1 false (.t 45),some (40,false)⟩,⟨some 47,.bin .neq (.t 46) (.k (.int .i64 3)),some (40,false)⟩,⟨some 48,.mv (.t 47),some (40,false)⟩,⟨some 49,.fa 2 1 2 (.t 2),some (48,true)⟩,⟨some 50,.ld 1 false (.t 49),some (48,true)⟩,⟨some 51,.mv (.t 7),some (48,true)⟩,⟨some 52,.ix 7 (.t 50) (.t 51),some (48,true)⟩,⟨some 53,.fa 4 1 4 (.t 52),some (48,true)⟩,⟨some 54,.ld 1 false (.t 53),some (48,true)⟩,⟨some 55,.bin .neq (.t 54) (.k (.int .i64 2)),some (48,true)⟩,⟨some 56,.pick (.t 48) (.t 55) (.k (.bool false)),some (40,false)⟩,Oo 57 (.pick (.t 40) (.k (.bool true)) (.t 56))]) (.cond (.t 57) (.seq (.ops [Od 58 4 2,Os 4 4 58,Ok 5 (.int .i64 3)]) .ret) .skip)) (.seq (.ops [Of 59 2 2,Ol 60 59,Om 61 7,Ox 62 7 60 61,Of 63 4 62,⟨none,.st 1 (.t 63) (.k (.int .i64 4)),none⟩]) (.ops [Of 64 2 2,Ol 65 64,Om 66 7,Om 67 6,Ox 68 7 65 66,Of 69 2 68,Os 1 69 67])))) (.seq (.ops [Oo 71 (.bin .eql (.t 16) (.k (.int .i64 4))),Om 70 71]) (.cond (.t 70) (.seq (.ops [Od 72 4 2,Oo 73 (.fa 14 1 2 (.t 3)),Ol 74 73,Oc 75 138 [.t 72,.t 74],Om 8 75]) (.seq (.seq (.ops [Om 76 8,Oo 77 (.bin .lss (.t 76) (.k (.int .i64 0)))]) (.cond (.t 77) (.seq (.ops [Od 78 4 2,Os 4 4 78,Ok 5 (.int .i64 3)]) .ret) .skip)) (.seq (.drawn [Qo 79 (.bsl (.agg [.str ⟨#[]⟩,.bool false]) 0 []),Qf 80 3 2,Ql 81 80,Qm 82 8,Qo 83 (.slc 2 false (.t 81) none (some (.t 82))),Qf 85 3 2,Ql 86 85,Qm 87 8,Qi 88 87,Qo 89 (.slc 2 false (.t 86) (some (.t 88)) none),(Oo 84 (.app 2 24 (.t 79) (.t 83)),true,[(.t 85)]),(Oo 90 (.app 2 24 (.t 84) (.t 89)),true,[]),Qf 91 3 2,Qs 1 91 90]) (.seq (.ops [Oo 92 (.bsl (.agg [.str ⟨#[]⟩,.int .i64 0,.int .i64 0,.int .i64 0,.int .i64 0,.bool false,.str ⟨#[]⟩]) 0 []),Om 9 92]) (.seq (.seq (.ops [Ok 10 (.int .i64 0)]) (.block 1 (.loop (.seq (.seq (.ops [Om 93 10,Of 94 2 2,Ol 95 94,Og 96 95,Ob 97 .lss 93 96]) (.cond (.t 97) .skip (.exit 1))) (.seq (.block 2 (.seq (.quiet [Of 100 2 2,Ol 101 100,Om 102 10,Ox 103 7 101 102,Of 104 6 103,Ol 105 104,Oo 106 (.fa 14 1 2 (.t 3)),Ol 107 106,Ob 108 .neq 105 107]) (.cond (.t 108) (.ops [Om 109 9,Of 110 2 2,Ol 111 110,Om 112 10,Ox 113 7 111 112,Od 114 7 113,Oo 115 (.bsl (.agg [.str ⟨#[]⟩,.int .i64 0,.int .i64 0,.int .i64 0,.int .i64 0,.bool false,.str ⟨#[]⟩]) 1 [(0,(.t 114))]),Oo 116 (.app 7 72 (.t 109) (.t 115)),Om 9 116]) .skip))) (.ops [Om 98 10,Oi 99 98,Om 10 99])))))) (.ops [Om 117 9,Of 118 2 2,Os 1 118 117])))))) (.seq (.ops [Oo 120 (.bin .eql (.t 16) (.k (.int .i64 5))),Om 119 120]) (.cond (.t 119) (.ops [Od 121 4 2,Oo 122 (.fa 14 1 2 (.t 3)),Ol 123 122,Oo 124 (.fa 16 1 4 (.t 3)),Ol 125 124,Oc 126 148 [.t 121,.t 123,.t 125],Os 4 2 126]) (.seq (.ops [Oo 128 (.bin .eql (.t 16) (.k (.int .i64 6))),Om 127 128]) (.cond (.t 127) (.seq (.ops [Od 129 4 2,Oo 130 (.fa 14 1 2 (.t 3)),Ol 131 130,Oc 132 129 [.t 129,.t 131],Om 11 132]) (.seq (.seq (.ops [Om 133 11,Oo 134 (.bin .lss (.t 133) (.k (.int .i64 0))),Om 135 134,⟨some 136,.fa 1 1 1 (.t 2),some (135,false)⟩,⟨some 137,.ld 1 false (.t 136),some (135,false)⟩,⟨some 138,.mv (.t 11),some (135,false)⟩,⟨some 139,.ix 13 (.t 137) (.t 138),some (135,false)⟩,⟨some 140,.fa 8 1 8 (.t 139),some (135,false)⟩,⟨some 141,.ld 1 false (.t 140),some (135,false)⟩,⟨some 142,.bin .eql (.t 141) (.k (.int .i64 0)),some (135,false)⟩,Oo 143 (.pick (.t 135) (.k (.bool true)) (.t 142))]) (.cond (.t 143) (.seq (.ops [Od 144 4 2,Os 4 4 144,Ok 5 (.int .i64 3)]) .ret) .skip)) (.seq (.ops [Of 145 1 2,Ol 146 145,Om 147 11,Oo 148 (.fa 15 1 3 (.t 3)),Ol 149 148,Ox 150 13 146 147,Of 151 11 150,Os 1 151 149]) (.ops [Of 152 1 2,Ol 153 152,Om 154 11,Om 155 6,Ox 156 13 153 154,Of 157 1 156,Os 1 157 155])))) (.seq (.ops [Od 17 4 2,Os 4 4 17,Ok 5 (.int .i64 4)]) .ret))))))))))))))) (.seq (.ops [Om 158 6,Of 159 0 2,Os 1 159 158]) (.seq (.ops [Od 160 4 2,Os 4 4 160,Ok 5 (.int .i64 0)]) .ret)))))⟩
theorem c109 : compileF Try.prog [] 109 = some cf109 := by kernel_rfl
def nowV (b : StewBook) : Int := b.fNow + 1
def failOk (c : StewCopy) : Bool := c.fState == 3 || c.fState == 2
def seaP (b : StewBook) (e : StewEvent) : StewBook × Int :=
 if e.fKind = 1 then ({ b with fNow := nowV b, fCopies := tickL (nowV b) b }, 0)
 else if e.fKind = 2 then ({ b with fNow := nowV b, fServices := wishL b.fServices e.fService (nowV b) }, 0)
 else if e.fKind = 3 then
  (if cpyI b e.fName e.fNumber < 0 then (b, 3) else if failOk (b.fCopies.getD (cpyI b e.fName e.fNumber).toNat default) = true then ({ b with fNow := nowV b, fCopies := b.fCopies.set (cpyI b e.fName e.fNumber).toNat { (b.fCopies.getD (cpyI b e.fName e.fNumber).toNat default) with fState := 4, fVersion := nowV b } }, 0) else (b, 3))
 else if e.fKind = 4 then
  (if berI b e.fName < 0 then (b, 3) else ({ b with fNow := nowV b, fBerths := b.fBerths.take (berI b e.fName).toNat ++ b.fBerths.drop ((berI b e.fName).toNat + 1), fCopies := b.fCopies.filter fun c => !standP e.fName c }, 0))
 else if e.fKind = 5 then ({ b with fNow := nowV b, fBerths := raiseL b.fBerths e.fName e.fFlag }, 0)
 else if e.fKind = 6 then
  (if svcI b e.fName < 0 then (b, 3) else if ((b.fServices.getD (svcI b e.fName).toNat default).fPer == 0) = true then (b, 3) else ({ b with fNow := nowV b, fServices := b.fServices.set (svcI b e.fName).toNat { (b.fServices.getD (svcI b e.fName).toNat default) with fLoad := e.fNumber, fVersion := nowV b } }, 0))
 else (b, 4)
def KT (R : StewBook × Int) (s1 s2 s3 : Nat) (d : Go.Ab.D) (ls : List Loan) : Prop := ∃ b1 b2 b3 c1 c2 c3, d = .tup [R.1.O s1 s2 s3 b1 b2 b3 c1 c2 c3, .int .i64 R.2] ∧ ls = R.1.L s1 s2 s3 b1 b2 b3 c1 c2 c3
theorem seaP1 {b : StewBook} {e : StewEvent} (h : e.fKind = 1) : seaP b e = ({ b with fNow := nowV b, fCopies := tickL (nowV b) b }, 0) := by simp [seaP, h]
theorem seaP2 {b : StewBook} {e : StewEvent} (h : e.fKind = 2) : seaP b e = ({ b with fNow := nowV b, fServices := wishL b.fServices e.fService (nowV b) }, 0) := by simp [seaP, h]
theorem cpyI_cs (b : StewBook) (nm : ByteArray) (k : Int) : cpyI b nm k = -1 ∨ ∃ j : Nat, cpyI b nm k = (j : Int) ∧ j < b.fCopies.length := by
 rcases idxN_cases (f := cpyF b nm k) (k := b.fCopies.length) (i := 0) with ⟨h1, _⟩ | ⟨j, h1, _, h3, _⟩
 ·exact .inl h1
 ·exact .inr ⟨j, h1, by omega⟩
theorem berI_cs (b : StewBook) (nm : ByteArray) : berI b nm = -1 ∨ ∃ j : Nat, berI b nm = (j : Int) ∧ j < b.fBerths.length := by
 rcases idxN_cases (f := berF b nm) (k := b.fBerths.length) (i := 0) with ⟨h1, _⟩ | ⟨j, h1, _, h3, _⟩
 ·exact .inl h1
 ·exact .inr ⟨j, h1, by omega⟩
theorem svcI_cs (b : StewBook) (nm : ByteArray) : svcI b nm = -1 ∨ ∃ j : Nat, svcI b nm = (j : Int) ∧ j < b.fServices.length := by
 rcases idxN_cases (f := svcF b nm) (k := b.fServices.length) (i := 0) with ⟨h1, _⟩ | ⟨j, h1, _, h3, _⟩
 ·exact .inl h1
 ·exact .inr ⟨j, h1, by omega⟩
theorem seaP3n {b : StewBook} {e : StewEvent} (h : e.fKind = 3) (hq : cpyI b e.fName e.fNumber = -1) : seaP b e = (b, 3) := by simp [seaP, h, hq]
theorem seaP3b {b : StewBook} {e : StewEvent} {j : Nat} (h : e.fKind = 3) (hq : cpyI b e.fName e.fNumber = (j : Int)) (hf : failOk (b.fCopies.getD j default) = false) : seaP b e = (b, 3) := by
 have h0 : ¬ ((j : Int) < 0) := by omega
 have e1 : ((j : Int)).toNat = j := by omega
 unfold seaP
 rw [if_neg (by omega), if_neg (by omega), if_pos h, hq, if_neg h0, e1, if_neg (by rw [hf]; exact Bool.false_ne_true)]
theorem seaP3p {b : StewBook} {e : StewEvent} {j : Nat} (h : e.fKind = 3) (hq : cpyI b e.fName e.fNumber = (j : Int)) (hf : failOk (b.fCopies.getD j default) = true) : seaP b e = ({ b with fNow := nowV b, fCopies := b.fCopies.set j { (b.fCopies.getD j default) with fState := 4, fVersion := nowV b } }, 0) := by
 have h0 : ¬ ((j : Int) < 0) := by omega
 have e1 : ((j : Int)).toNat = j := by omega
 unfold seaP
 rw [if_neg (by omega), if_neg (by omega), if_pos h, hq, if_neg h0, e1, if_pos hf]
theorem seaP4n {b : StewBook} {e : StewEvent} (h : e.fKind = 4) (hq : berI b e.fName = -1) : seaP b e = (b, 3) := by simp [seaP, h, hq]
theorem seaP4p {b : StewBook} {e : StewEvent} {j : Nat} (h : e.fKind = 4) (hq : berI b e.fName = (j : Int)) : seaP b e = ({ b with fNow := nowV b, fBerths := b.fBerths.take j ++ b.fBerths.drop (j + 1), fCopies := b.fCopies.filter fun c => !standP e.fName c }, 0) := by
 have h0 : ¬ ((j : Int) < 0) := by omega
 have e1 : ((j : Int)).toNat = j := by omega
 unfold seaP
 rw [if_neg (by omega), if_neg (by omega), if_neg (by omega), if_pos h, hq, if_neg h0, e1]
theorem seaP6n {b : StewBook} {e : StewEvent} (h : e.fKind = 6) (hq : svcI b e.fName = -1) : seaP b e = (b, 3) := by simp [seaP, h, hq]
theorem seaP6b {b : StewBook} {e : StewEvent} {j : Nat} (h : e.fKind = 6) (hq : svcI b e.fName = (j : Int)) (hf : ((b.fServices.getD j default).fPer == 0) = true) : seaP b e = (b, 3) := by
 have h0 : ¬ ((j : Int) < 0) := by omega
 have e1 : ((j : Int)).toNat = j := by omega
 unfold seaP
 rw [if_neg (by omega), if_neg (by omega), if_neg (by omega), if_neg (by omega), if_neg (by omega), if_pos h, hq, if_neg h0, e1, if_pos hf]
theorem seaP6p {b : StewBook} {e : StewEvent} {j : Nat} (h : e.fKind = 6) (hq : svcI b e.fName = (j : Int)) (hf : ((b.fServices.getD j default).fPer == 0) = false) : seaP b e = ({ b with fNow := nowV b, fServices := b.fServices.set j { (b.fServices.getD j default) with fLoad := e.fNumber, fVersion := nowV b } }, 0) := by
 have h0 : ¬ ((j : Int) < 0) := by omega
 have e1 : ((j : Int)).toNat = j := by omega
 unfold seaP
 rw [if_neg (by omega), if_neg (by omega), if_neg (by omega), if_neg (by omega), if_neg (by omega), if_pos h, hq, if_neg h0, e1, if_neg (by rw [hf]; exact Bool.false_ne_true)]
theorem seaP0 {b : StewBook} {e : StewEvent} (h1 : e.fKind ≠ 1) (h2 : e.fKind ≠ 2) (h3 : e.fKind ≠ 3) (h4 : e.fKind ≠ 4) (h5 : e.fKind ≠ 5) (h6 : e.fKind ≠ 6) : seaP b e = (b, 4) := by
 unfold seaP
 rw [if_neg h1, if_neg h2, if_neg h3, if_neg h4, if_neg h5, if_neg h6]
theorem sinkF_snoc (nm : ByteArray) {xs : List StewCopy} {i : Nat} (h : i < xs.length) : ((xs.take (i + 1)).filter fun c => !standP nm c) = ((xs.take i).filter fun c => !standP nm c) ++ (if standP nm (xs.getD i default) = true then [] else [xs.getD i default]) := by
 have e : xs.take (i + 1) = xs.take i ++ [xs.getD i default] := by
  rw [List.take_add_one]
  simp [h]
 rw [e, List.filter_append]
 congr 1
 generalize xs.getD i default = x
 cases hx : standP nm x <;> simp [hx]
theorem seaP5 {b : StewBook} {e : StewEvent} (h : e.fKind = 5) : seaP b e = ({ b with fNow := nowV b, fBerths := raiseL b.fBerths e.fName e.fFlag }, 0) := by simp [seaP, h]
theorem spec_SeaX (b : StewBook) (e : StewEvent) (hs : b.small) (hn : 0 ≤ b.fNow ∧ b.fNow < 1000000) (b1 b2 b3 c1 c2 c3 : Nat) : XC Try.prog 109 [b.O 301 302 303 b1 b2 b3 c1 c2 c3, e.D] (b.L 301 302 303 b1 b2 b3 c1 c2 c3) (KT (seaP b e) 301 302 303) := by
 have l1 := hs.fServices.1
 have l2 := hs.fCopies.1
 have l3 := hs.fBerths.1
 have hv : IntKind.wrap .i64 (b.fNow + 1) = nowV b := wrap_ok (by omega) (by omega)
 refine XC.intro' hm [301, 302, 303] rfl c109 (Nat.le_of_ble_eq_true rfl) ?_
 simp only [StewBook.O, StewBook.L]
 conv => whnf
 repeat' (first | (refine g_op ?_; conv => whnf) | (refine And.intro ?_ ?_; (focus exact au0); conv => whnf) | (refine g_seq ?_) | (refine g_ops ?_) | ((first | refine g_nil ?_ | refine fun _ => ?_); conv => whnf) | fail)
 refine XS.go ?_
 conv => whnf
 repeat' (first | (refine g_op ?_; conv => whnf) | (refine And.intro ?_ ?_; (focus exact au0); conv => whnf) | (refine g_seq ?_) | (refine g_ops ?_) | (refine g_nil ?_; conv => whnf) | fail)
 rename_i z2 z3 z4
 refine XS.freezeB 3 rfl ?_
 refine XS.weakenA (fs := [.any, .any, .lref 2 z2 [] 0, .cref e.D, .lref 4 z4 [] 0, .any, .int .i64 (nowV b)]) (ls := [(2, .agg [.int .i64 b.fNow, .lsl 301 b1 b.fServices.length c1, .lsl 302 b2 b.fCopies.length c2, .lsl 303 b3 b.fBerths.length c3]), (4, .agg [.int .i64 0, .nil, .nil, .nil]), (301, .arr 13 (b.fServices.map StewService.D) c1), (302, .arr 7 (b.fCopies.map StewCopy.D) c2), (303, .arr 2 (b.fBerths.map StewBerth.D) c3)]) ⟨?_, ?_⟩ ?_
 ·repeat' (first | exact True.intro | refine And.intro rfl ?_ | refine And.intro (congrArg (D.int .i64) hv) ?_)
 ·exact ⟨rfl, rfl, rfl, rfl, rfl, True.intro⟩
 refine XS.go ?_
 conv => whnf
 repeat' (first | (refine g_op ?_; conv => whnf) | (refine And.intro ?_ ?_; (focus exact au0); conv => whnf) | (refine g_seq ?_) | (refine XS.go ?_) | (refine g_ops ?_) | ((first | refine g_nil ?_ | refine g_cond ?_); conv => whnf) | (refine g_block ?_) | fail)
 refine Br.mk (fun hb => ?_) (fun hb1 => ?_)
 ·have hk : e.fKind = 1 := by simpa using hb
  rw [seaP1 hk]
  clear hb hv
  conv => whnf
  repeat' (first | (refine g_op ?_; conv => whnf) | (refine And.intro ?_ ?_; (focus exact au0); conv => whnf) | (refine g_ops ?_) | fail)
  refine XCL.of_XC (ls := b.L 301 302 303 b1 b2 b3 c1 c2 c3) ⟨rfl, rfl, rfl, rfl, rfl, rfl, rfl, rfl, rfl, True.intro⟩ ((spec_TickX b (nowV b) hs b1 b2 b3 c1 c2 c3).mono fun d ls h => ?_)
  obtain ⟨d1, d2, d3, e1, e2, e3, rfl, rfl⟩ := h
  conv => whnf
  repeat' (first | (refine g_op ?_; conv => whnf) | (refine And.intro ?_ ?_; (focus exact au0); conv => whnf) | (refine g_nil ?_; conv => whnf) | fail)
  refine XS.move 34 302 [] rfl ?_
  refine XS.hintB 2 302 [2] rfl rfl rfl rfl rfl (fun _ _ _ h => by cases h) rfl ?_
  refine XS.go ?_
  conv => whnf
  repeat' (first | (refine g_op ?_; conv => whnf) | (refine And.intro ?_ ?_; (focus exact au0); conv => whnf) | (refine g_seq ?_) | (refine XS.go ?_) | (refine g_ops ?_) | ((first | refine g_nil ?_ | refine g_ret ?_ | refine r_t ?_ | refine r_c ?_ | refine r_nil ?_); conv => whnf) | fail)
  exact ⟨_, _, _, e1, e2, e3, rfl, rfl⟩
 conv => whnf
 repeat' (first | (refine g_op ?_; conv => whnf) | (refine And.intro ?_ ?_; (focus exact au0); conv => whnf) | (refine g_seq ?_) | (refine XS.go ?_) | (refine g_ops ?_) | ((first | refine g_nil ?_ | refine g_cond ?_); conv => whnf) | fail)
 refine Br.mk (fun hb => ?_) (fun hb2 => ?_)
 ·have hk : e.fKind = 2 := by simpa using hb
  rw [seaP2 hk]
  clear hb hv
  conv => whnf
  repeat' (first | (refine g_op ?_; conv => whnf) | (refine And.intro ?_ ?_; (focus exact au0); conv => whnf) | (refine g_ops ?_) | fail)
  refine XCL.of_XC (ls := b.L 301 302 303 b1 b2 b3 c1 c2 c3) ⟨rfl, rfl, rfl, rfl, rfl, rfl, rfl, rfl, rfl, True.intro⟩ ((spec_WishX b e.fService (nowV b) hs b1 b2 b3 c1 c2 c3).mono fun d ls h => ?_)
  obtain ⟨d1, d2, d3, e1, e2, e3, rfl, rfl⟩ := h
  conv => whnf
  repeat' (first | (refine g_op ?_; conv => whnf) | (refine And.intro ?_ ?_; (focus exact au0); conv => whnf) | (refine g_nil ?_; conv => whnf) | fail)
  refine XS.move 64 301 [] rfl ?_
  refine XS.hintB 2 301 [1] rfl rfl rfl rfl rfl (fun _ _ _ h => by cases h) rfl ?_
  refine XS.go ?_
  conv => whnf
  repeat' (first | (refine g_op ?_; conv => whnf) | (refine And.intro ?_ ?_; (focus exact au0); conv => whnf) | (refine g_seq ?_) | (refine XS.go ?_) | (refine g_ops ?_) | ((first | refine g_nil ?_ | refine g_ret ?_ | refine r_t ?_ | refine r_c ?_ | refine r_nil ?_); conv => whnf) | fail)
  exact ⟨_, _, _, e1, e2, e3, rfl, rfl⟩
 conv => whnf
 repeat' (first | (refine g_op ?_; conv => whnf) | (refine And.intro ?_ ?_; (focus exact au0); conv => whnf) | (refine g_seq ?_) | (refine XS.go ?_) | (refine g_ops ?_) | ((first | refine g_nil ?_ | refine g_cond ?_); conv => whnf) | fail)
 refine Br.mk (fun hb => ?_) (fun hb3 => ?_)
 ·have hk : e.fKind = 3 := by simpa using hb
  have hC := spec_Copy b e.fName e.fNumber l2
  clear hb hv
  rcases cpyI_cs b e.fName e.fNumber with hq | ⟨j, hq, hjl⟩
  ·rw [seaP3n hk hq]
   rw [hq] at hC
   conv => whnf
   repeat' (first | ((refine XCL.of_rdrB hC (.cons (Bor.bookO rfl rfl rfl rfl rfl rfl) (.cons (Bor.refl _ _) (.cons (Bor.refl _ _) .nil))) rfl ?_; conv => whnf)) | (refine g_op ?_; conv => whnf) | (refine And.intro ?_ ?_; (focus exact au0); conv => whnf) | (refine g_seq ?_) | (refine g_ops ?_) | (refine g_nil ?_; conv => whnf) | fail)
   refine XS.go ?_
   conv => whnf
   have hdec : decide ((-1 : Int) < 0) = true := rfl
   repeat' (first | (refine z_skipF ?_ ?_; (focus ((conv => lhs; whnf); done)); (conv => whnf); refine And.intro ?_ ?_; (focus exact rfl)) | ((refine z_skipT (congrArg Go.Ab.D.bool hdec) ?_; (conv => whnf); refine And.intro ?_ ?_; (focus exact rfl))) | ((refine z_pickT (congrArg Go.Ab.D.bool hdec) ?_ ?_; (focus exact rfl); (conv => whnf))) | (refine z_ld1 ?_; first | (refine z_ld rfl rfl rfl rfl au1 au2 ?_; conv => whnf) | (refine z_ld0 rfl ?_; conv => whnf)) | (refine z_st1 ?_; first | (refine z_st rfl rfl rfl au1 au2 rfl rfl ?_; conv => whnf) | (refine z_st0 ?_; conv => whnf)) | (refine z_op ?_ ?_; (focus exact rfl); conv => whnf) | (refine zs_ops ?_ ?_; (focus exact rfl)) | (refine z_nil fun vals => ?_; conv => whnf) | (refine And.intro ?_ ?_; (focus exact au0); conv => whnf) | (refine g_seq ?_) | (refine XS.go ?_) | (refine Br.t ?_ ?_; (focus (first | assumption | exact rfl)); conv => whnf) | ((first | refine g_cond ?_ | refine g_ret ?_ | refine r_t ?_ | refine r_c ?_ | refine r_nil ?_); conv => whnf) | fail)
   exact ⟨_, _, _, c1, c2, c3, rfl, rfl⟩
  ·have hj0 : j < (b.fCopies.map StewCopy.D).length := by rw [List.length_map]; exact hjl
   have he0 : (b.fCopies.map StewCopy.D).getD j .any = (b.fCopies.getD j default).D := elt_map hjl
   cases hf : failOk (b.fCopies.getD j default) with
   | false =>
    rw [seaP3b hk hq hf]
    rw [hq] at hC
    generalize b.fCopies.getD j default = x at *
    conv => whnf
    repeat' (first | ((refine XCL.of_rdrB hC (.cons (Bor.bookO rfl rfl rfl rfl rfl rfl) (.cons (Bor.refl _ _) (.cons (Bor.refl _ _) .nil))) rfl ?_; conv => whnf)) | (refine g_op ?_; conv => whnf) | (refine And.intro ?_ ?_; (focus exact au0); conv => whnf) | (refine g_seq ?_) | (refine g_ops ?_) | (refine g_nil ?_; conv => whnf) | fail)
    refine XS.go ?_
    conv => whnf
    repeat' (first | (refine z_ld1g ?_; first | (refine z_ldg rfl rfl rfl rfl rfl rfl rfl (by (repeat intro _); exact ⟨au1, au2⟩) rfl rfl rfl rfl ?_; conv => whnf) | (refine z_ld0g ?_; (conv => whnf); refine And.intro ?_ ?_; (focus exact rfl); conv => whnf)) | (refine z_op ?_ ?_; (focus exact rfl); conv => whnf) | (refine z_opg0 ?_; (conv => whnf); refine And.intro ?_ ?_; (focus exact rfl); conv => whnf) | (refine z_pick ?_ ?_; (focus exact rfl); conv => whnf) | (refine z_pickg ?_; (conv => whnf); refine And.intro ?_ ?_; (focus exact rfl); conv => whnf) | (refine zs_ops ?_ ?_; (focus exact rfl)) | (refine z_nil fun vals => ?_; conv => whnf) | (refine And.intro ?_ ?_; (focus exact au0); conv => whnf) | (refine g_seq ?_) | (refine XS.go ?_) | (refine g_cond ?_; conv => whnf) | fail)
    refine Br.t (by simp only [failOk, Bool.or_eq_false_iff] at hf; simp [bne, hf.1, hf.2]) ?_
    conv => whnf
    repeat' (first | (refine z_ld1 ?_; first | (refine z_ld rfl rfl rfl rfl au1 au2 ?_; conv => whnf) | (refine z_ld0 rfl ?_; conv => whnf)) | (refine z_st1 ?_; first | (refine z_st rfl rfl rfl au1 au2 rfl rfl ?_; conv => whnf) | (refine z_st0 ?_; conv => whnf)) | (refine z_op ?_ ?_; (focus exact rfl); conv => whnf) | (refine zs_ops ?_ ?_; (focus exact rfl)) | (refine z_nil fun vals => ?_; conv => whnf) | (refine And.intro ?_ ?_; (focus exact au0); conv => whnf) | (refine g_seq ?_) | (refine XS.go ?_) | ((first | refine g_ret ?_ | refine r_t ?_ | refine r_c ?_ | refine r_nil ?_); conv => whnf) | fail)
    exact ⟨_, _, _, c1, c2, c3, rfl, rfl⟩
   | true =>
    rw [seaP3p hk hq hf]
    rw [hq] at hC
    generalize b.fCopies.getD j default = x at *
    conv => whnf
    repeat' (first | ((refine XCL.of_rdrB hC (.cons (Bor.bookO rfl rfl rfl rfl rfl rfl) (.cons (Bor.refl _ _) (.cons (Bor.refl _ _) .nil))) rfl ?_; conv => whnf)) | (refine g_op ?_; conv => whnf) | (refine And.intro ?_ ?_; (focus exact au0); conv => whnf) | (refine g_seq ?_) | (refine g_ops ?_) | (refine g_nil ?_; conv => whnf) | fail)
    refine XS.go ?_
    conv => whnf
    repeat' (first | (refine z_ld1g ?_; first | (refine z_ldg rfl rfl rfl rfl rfl rfl rfl (by (repeat intro _); exact ⟨au1, au2⟩) rfl rfl rfl rfl ?_; conv => whnf) | (refine z_ld0g ?_; (conv => whnf); refine And.intro ?_ ?_; (focus exact rfl); conv => whnf)) | (refine z_op ?_ ?_; (focus exact rfl); conv => whnf) | (refine z_opg0 ?_; (conv => whnf); refine And.intro ?_ ?_; (focus exact rfl); conv => whnf) | (refine z_pick ?_ ?_; (focus exact rfl); conv => whnf) | (refine z_pickg ?_; (conv => whnf); refine And.intro ?_ ?_; (focus exact rfl); conv => whnf) | (refine zs_ops ?_ ?_; (focus exact rfl)) | (refine z_nil fun vals => ?_; conv => whnf) | (refine And.intro ?_ ?_; (focus exact au0); conv => whnf) | (refine g_seq ?_) | (refine XS.go ?_) | (refine g_cond ?_; conv => whnf) | fail)
    refine Br.f (by have h0 : ¬ ((j : Int) < 0) := (by omega); simp only [failOk, Bool.or_eq_true] at hf; rcases hf with hf | hf <;> simp [bne, hf, h0]) ?_
    conv => whnf
    repeat' (first | (refine g_skip ?_; conv => whnf) | fail)
    refine XS.go ?_
    conv => whnf
    repeat' (first | (refine z_ld1 ?_; first | (refine z_ld rfl rfl rfl rfl au1 au2 ?_; conv => whnf) | (refine z_ld0 rfl ?_; conv => whnf)) | (refine z_st1 ?_; first | (refine z_st rfl rfl rfl au1 au2 rfl rfl ?_; conv => whnf) | (refine z_st0 ?_; conv => whnf)) | (refine z_ix1 ?_; first | (refine z_ix rfl rfl rfl rfl rfl ⟨by first | omega | (simp only [decide_eq_true_eq, Bool.not_eq_true', Bool.or_eq_false_iff, decide_eq_false_iff_not, Bool.and_eq_true, Bool.not_eq_false'] at *; omega), by first | omega | (simp only [decide_eq_true_eq, Bool.not_eq_true', Bool.or_eq_false_iff, decide_eq_false_iff_not, Bool.and_eq_true, Bool.not_eq_false'] at *; omega)⟩ ?_; conv => whnf) | (refine z_ix0 rfl rfl ?_; conv => whnf)) | (refine z_op ?_ ?_; (focus exact rfl); conv => whnf) | (refine zs_ops ?_ ?_; (focus exact rfl)) | (refine z_nil fun vals => ?_; conv => whnf) | (refine And.intro ?_ ?_; (focus exact au0); conv => whnf) | (refine g_seq ?_) | fail)
    refine XS.go ?_
    conv => whnf
    repeat' (first | (refine z_ld1 ?_; first | (refine z_ld rfl rfl rfl rfl au1 au2 ?_; conv => whnf) | (refine z_ld0 rfl ?_; conv => whnf)) | (refine z_st1 ?_; first | (refine z_st rfl rfl rfl au1 au2 rfl rfl ?_; conv => whnf) | (refine z_st0 ?_; conv => whnf)) | (refine z_ix1 ?_; first | (refine z_ix rfl rfl rfl rfl rfl ⟨by first | omega | (simp only [decide_eq_true_eq, Bool.not_eq_true', Bool.or_eq_false_iff, decide_eq_false_iff_not, Bool.and_eq_true, Bool.not_eq_false'] at *; omega), by first | omega | (simp only [decide_eq_true_eq, Bool.not_eq_true', Bool.or_eq_false_iff, decide_eq_false_iff_not, Bool.and_eq_true, Bool.not_eq_false'] at *; omega)⟩ ?_; conv => whnf) | (refine z_ix0 rfl rfl ?_; conv => whnf)) | (refine z_op ?_ ?_; (focus exact rfl); conv => whnf) | (refine zs_ops ?_ ?_; (focus exact rfl)) | (refine z_nil fun vals => ?_; conv => whnf) | (refine And.intro ?_ ?_; (focus exact au0); conv => whnf) | fail)
    generalize hy : b.fCopies.set j { x with fState := 4, fVersion := nowV b } = ys
    have hyl : b.fCopies.length = ys.length := by rw [← hy, List.length_set]
    have hyD : ((b.fCopies.map StewCopy.D).set j ({ x with fState := 4 } : StewCopy).D).set j ({ x with fState := 4, fVersion := nowV b } : StewCopy).D = ys.map StewCopy.D := by rw [List.set_set, ← hy, List.map_set]
    refine XS.weakenA (fs := [.any, .any, .lref 2 z2 [] 0, .cref e.D, .lref 4 z4 [] 0, .any, .int .i64 (nowV b)]) (ls := [(2, .agg [.int .i64 b.fNow, .lsl 301 b1 b.fServices.length c1, .lsl 302 b2 ys.length c2, .lsl 303 b3 b.fBerths.length c3]), (4, .agg [.int .i64 0, .nil, .nil, .nil]), (301, .arr 13 (b.fServices.map StewService.D) c1), (302, .arr 7 (ys.map StewCopy.D) c2), (303, .arr 2 (b.fBerths.map StewBerth.D) c3)]) ⟨?_, ?_⟩ ?_
    ·repeat' (first | exact True.intro | refine And.intro rfl ?_)
    ·exact ⟨congrArg (fun n => some (D.agg [.int .i64 b.fNow, .lsl 301 b1 b.fServices.length c1, .lsl 302 b2 n c2, .lsl 303 b3 b.fBerths.length c3])) hyl, rfl, rfl, congrArg (fun l => some (D.arr 7 l c2)) hyD, rfl, True.intro⟩
    refine XS.go ?_
    conv => whnf
    repeat' (first | (refine g_op ?_; conv => whnf) | (refine And.intro ?_ ?_; (focus exact au0); conv => whnf) | (refine g_seq ?_) | (refine XS.go ?_) | (refine g_ops ?_) | ((first | refine g_nil ?_ | refine g_ret ?_ | refine r_t ?_ | refine r_c ?_ | refine r_nil ?_); conv => whnf) | fail)
    exact ⟨_, _, _, c1, c2, c3, rfl, rfl⟩
 conv => whnf
 repeat' (first | (refine g_op ?_; conv => whnf) | (refine And.intro ?_ ?_; (focus exact au0); conv => whnf) | (refine g_seq ?_) | (refine XS.go ?_) | (refine g_ops ?_) | ((first | refine g_nil ?_ | refine g_cond ?_); conv => whnf) | fail)
 refine Br.mk (fun hb => ?_) (fun hb4 => ?_)
 ·have hk : e.fKind = 4 := by simpa using hb
  have hC := spec_Berth b e.fName l3
  clear hb hv
  rcases berI_cs b e.fName with hq | ⟨j, hq, hjl⟩
  ·rw [seaP4n hk hq]
   rw [hq] at hC
   conv => whnf
   repeat' (first | ((refine XCL.of_rdrB hC (.cons (Bor.bookO rfl rfl rfl rfl rfl rfl) (.cons (Bor.refl _ _) .nil)) rfl ?_; conv => whnf)) | (refine g_op ?_; conv => whnf) | (refine And.intro ?_ ?_; (focus exact au0); conv => whnf) | (refine g_seq ?_) | (refine XS.go ?_) | (refine g_ops ?_) | (refine g_nil ?_; conv => whnf) | (refine Br.t ?_ ?_; (focus (first | assumption | exact rfl)); conv => whnf) | ((first | refine g_cond ?_ | refine g_ret ?_ | refine r_t ?_ | refine r_c ?_ | refine r_nil ?_); conv => whnf) | fail)
   exact ⟨_, _, _, c1, c2, c3, rfl, rfl⟩
  ·rw [seaP4p hk hq]
   rw [hq] at hC
   have h0 : decide ((j : Int) < 0) = false := by simp
   conv => whnf
   repeat' (first | ((refine XCL.of_rdrB hC (.cons (Bor.bookO rfl rfl rfl rfl rfl rfl) (.cons (Bor.refl _ _) .nil)) rfl ?_; conv => whnf)) | (refine g_op ?_; conv => whnf) | (refine And.intro ?_ ?_; (focus exact au0); conv => whnf) | (refine g_seq ?_) | (refine g_ops ?_) | (refine g_nil ?_; conv => whnf) | fail)
   refine XS.go ?_
   conv => whnf
   repeat' (first | (refine g_op ?_; conv => whnf) | (refine And.intro ?_ ?_; (focus exact au0); conv => whnf) | (refine g_seq ?_) | (refine g_ops ?_) | (refine g_nil ?_; conv => whnf) | fail)
   refine XS.go ?_
   conv => whnf
   repeat' (first | (refine Br.f ?_ ?_; (focus (first | assumption | exact rfl)); conv => whnf) | ((first | refine g_cond ?_ | refine g_skip ?_); conv => whnf) | fail)
   refine XS.freezeRB 303 [] 2 [3] rfl rfl (D.frozs_map (fun _ => rfl) _) True.intro rfl rfl rfl ⟨rfl, (List.length_map ..).symm⟩ rfl rfl ?_
   have hw1 : IntKind.wrap .i64 ((j : Int) + 1) = ((j + 1 : Nat) : Int) := by rw [wrap_ok (by omega) (by omega)]; rfl
   refine XS.go ?_
   conv => whnf
   have h1 : ((j : Nat) : Int) ≤ ((b.fBerths.map StewBerth.D).length : Int) := by rw [List.length_map]; omega
   have h1b : ((b.fBerths.map StewBerth.D).length : Int) ≤ ((b.fBerths.map StewBerth.D).length : Int) := Int.le_refl _
   have h2 : IntKind.wrap .i64 ((j : Int) + 1) ≤ ((b.fBerths.map StewBerth.D).length : Int) := by rw [hw1, List.length_map]; omega
   have h20 : (0 : Int) ≤ IntKind.wrap .i64 ((j : Int) + 1) := by rw [hw1]; omega
   have hpre : ((b.fBerths.map StewBerth.D).drop (0 : Int).toNat).take (((j : Nat) : Int) - 0).toNat = (b.fBerths.take j).map StewBerth.D := by
    have e : (((j : Nat) : Int) - 0).toNat = j := by omega
    rw [e, List.map_take]
    rfl
   have hsuf : ((b.fBerths.map StewBerth.D).drop (IntKind.wrap .i64 ((j : Int) + 1)).toNat).take (((b.fBerths.map StewBerth.D).length : Int) - IntKind.wrap .i64 ((j : Int) + 1)).toNat = (b.fBerths.drop (j + 1)).map StewBerth.D := by
    have e : (((j + 1 : Nat) : Int)).toNat = j + 1 := by omega
    rw [hw1, e, List.take_of_length_le (by rw [List.length_drop, List.length_map]; omega), List.map_drop]
   have t1 : ([] : List Go.Ab.D).length + (((b.fBerths.map StewBerth.D).drop (0 : Int).toNat).take (((j : Nat) : Int) - 0).toNat).length ≤ 1073741824 := by rw [hpre, List.length_map, List.length_take]; simp only [List.length_nil]; omega
   have t3 : ([] ++ ((b.fBerths.map StewBerth.D).drop (0 : Int).toNat).take (((j : Nat) : Int) - 0).toNat).length + (((b.fBerths.map StewBerth.D).drop (IntKind.wrap .i64 ((j : Int) + 1)).toNat).take (((b.fBerths.map StewBerth.D).length : Int) - IntKind.wrap .i64 ((j : Int) + 1)).toNat).length ≤ 1073741824 := by rw [hsuf, List.nil_append, hpre, List.length_map, List.length_map, List.length_take, List.length_drop]; omega
   repeat' (first | ((refine And.intro h1 ?_; conv => whnf)) | ((refine And.intro h2 ?_; conv => whnf)) | ((refine And.intro h20 ?_; conv => whnf)) | ((refine And.intro h1b ?_; conv => whnf)) | ((refine And.intro t1 ?_; conv => whnf)) | ((refine And.intro t3 ?_; conv => whnf)) | ((refine And.intro True.intro ?_; conv => whnf)) | ((refine And.intro ⟨⟨rfl, rfl⟩, True.intro⟩ ?_; conv => whnf)) | ((refine fun n1 bx cx hn1 hc1 => ?_; subst hn1; conv => whnf)) | ((refine And.intro (List.length_append ..).symm ?_; conv => whnf)) | (refine And.intro ?_ ?_; (focus exact au0); conv => whnf) | (refine g_seq ?_) | (refine g_drawn ?_) | ((first | refine d_p ?_ | refine d_e ?_ | refine d_nil ?_); conv => whnf) | fail)
   rename_i bx cx _
   have hys : ([] ++ ((b.fBerths.map StewBerth.D).drop (0 : Int).toNat).take (((j : Nat) : Int) - 0).toNat) ++ ((b.fBerths.map StewBerth.D).drop (IntKind.wrap .i64 ((j : Int) + 1)).toNat).take (((b.fBerths.map StewBerth.D).length : Int) - IntKind.wrap .i64 ((j : Int) + 1)).toNat = (b.fBerths.take j ++ b.fBerths.drop (j + 1)).map StewBerth.D := by rw [List.nil_append, hpre, hsuf, List.map_append]
   generalize b.fBerths.take j ++ b.fBerths.drop (j + 1) = ys at *
   have hyl : ([] ++ ((b.fBerths.map StewBerth.D).drop (0 : Int).toNat).take (((j : Nat) : Int) - 0).toNat).length + (((b.fBerths.map StewBerth.D).drop (IntKind.wrap .i64 ((j : Int) + 1)).toNat).take (((b.fBerths.map StewBerth.D).length : Int) - IntKind.wrap .i64 ((j : Int) + 1)).toNat).length = ys.length := by rw [← List.length_append, hys, List.length_map]
   refine XS.weakenA (fs := [.any, .any, .lref 2 z2 [] 0, .cref e.D, .lref 4 z4 [] 0, .any, .int .i64 (nowV b)]) (ls := [(2, .agg [.int .i64 b.fNow, .lsl 301 b1 b.fServices.length c1, .lsl 302 b2 b.fCopies.length c2, .lsl 90 bx ys.length cx]), (4, .agg [.int .i64 0, .nil, .nil, .nil]), (90, .arr 2 (ys.map StewBerth.D) cx), (301, .arr 13 (b.fServices.map StewService.D) c1), (302, .arr 7 (b.fCopies.map StewCopy.D) c2)]) ⟨?_, ?_⟩ ?_
   ·repeat' (first | exact True.intro | refine And.intro rfl ?_)
   ·exact ⟨congrArg (fun n => some (D.agg [.int .i64 b.fNow, .lsl 301 b1 b.fServices.length c1, .lsl 302 b2 b.fCopies.length c2, .lsl 90 bx n cx])) hyl, rfl, congrArg (fun l => some (D.arr 2 l cx)) hys, rfl, rfl, True.intro⟩
   clear hyl hys t1 t3 hpre hsuf h1 h1b h2 h20 hw1
   refine XS.freezeRB 302 [] 2 [2] rfl rfl (D.frozs_map (fun _ => rfl) _) True.intro rfl rfl rfl ⟨rfl, (List.length_map ..).symm⟩ rfl rfl ?_
   refine XS.go ?_
   conv => whnf
   repeat' (first | (refine g_op ?_; conv => whnf) | (refine And.intro ?_ ?_; (focus exact au0); conv => whnf) | (refine g_seq ?_) | (refine g_ops ?_) | (refine g_nil ?_; conv => whnf) | fail)
   refine XS.own 9 116 7 rfl fun bn => ?_
   refine XS.go ?_
   conv => whnf
   repeat' (first | (refine g_op ?_; conv => whnf) | (refine And.intro ?_ ?_; (focus exact au0); conv => whnf) | (refine g_seq ?_) | (refine XS.go ?_) | (refine g_ops ?_) | (refine g_loop ?_) | (refine g_nil ?_; conv => whnf) | (refine g_block ?_) | fail)
   refine XLc.mkA (α := Nat × Nat) (fun y => y.1 ≤ b.fCopies.length) (fun y => b.fCopies.length - y.1) (fun y gs => [.any, .any, .lref 2 (gs 2) [] 0, .cref e.D, .lref 4 (gs 4) [] 0, .any, .int .i64 (nowV b), .any, .any, .lsl 116 (gs 116) ((b.fCopies.take y.1).filter fun c => !standP e.fName c).length y.2, .int .i64 (y.1 : Int)]) (fun y gs => [(2, .agg [.int .i64 b.fNow, .lsl 301 (gs 301) b.fServices.length c1, .ro 7 (b.fCopies.map StewCopy.D), .lsl 90 (gs 90) ys.length cx]), (4, .agg [.int .i64 0, .nil, .nil, .nil]), (90, .arr 2 (ys.map StewBerth.D) cx), (116, .arr 7 (((b.fCopies.take y.1).filter fun c => !standP e.fName c).map StewCopy.D) y.2), (301, .arr 13 (b.fServices.map StewService.D) c1)]) (0, 0) (Nat.zero_le _) ⟨?_, ?_⟩ ?_
   ·repeat' (first | exact True.intro | refine And.intro rfl ?_)
   ·exact ⟨rfl, rfl, rfl, rfl, rfl, True.intro⟩
   intro y gs hi
   obtain ⟨i, cp⟩ := y
   dsimp only at hi ⊢
   repeat' (first | (refine g_op ?_; conv => whnf) | (refine And.intro ?_ ?_; (focus exact au0); conv => whnf) | (refine g_seq ?_) | (refine XS.go ?_) | (refine g_ops ?_) | ((first | refine g_nil ?_ | refine g_cond ?_); conv => whnf) | fail)
   refine Br.mk (fun hb => ?_) (fun hb => ?_)
   ·have hlt : i < b.fCopies.length := by simpa using hb
    clear hb
    have hw : IntKind.wrap .i64 ((i : Int) + 1) = ((i + 1 : Nat) : Int) := by rw [wrap_ok (by omega) (by omega)]; rfl
    have hwr : (i : Int) < ((b.fCopies.map StewCopy.D).length : Int) := by rw [List.length_map]; omega
    have he2 : ((b.fCopies.map StewCopy.D).getD (i : Int).toNat .any) = (b.fCopies.getD i default).D := elt_map hlt
    have hsn := sinkF_snoc e.fName hlt
    have hll : ((b.fCopies.take i).filter fun c => !standP e.fName c).length ≤ b.fCopies.length := Nat.le_trans (List.length_filter_le _ _) (by rw [List.length_take]; omega)
    generalize ((b.fCopies.take i).filter fun c => !standP e.fName c) = W1 at *
    generalize b.fCopies.getD i default = x at *
    have hlX : W1.length = (W1.map StewCopy.D).length := (List.length_map ..).symm
    have hbd : ∀ d : Go.Ab.D, (W1.map StewCopy.D).length + [d].length ≤ 1073741824 := fun d => by rw [← hlX]; simp only [List.length_cons, List.length_nil]; omega
    conv => whnf
    repeat' (first | ((refine And.intro hwr ?_; conv => whnf)) | ((rw [he2]; conv => whnf)) | (refine And.intro ?_ ?_; (focus exact au0); conv => whnf) | (refine g_seq ?_) | (refine XS.go ?_) | ((first | refine g_cond ?_ | refine g_skip ?_); conv => whnf) | (refine g_block ?_) | (refine g_quiet ?_) | ((first | refine q_op ?_ | refine q_nil ?_); conv => whnf) | fail)
    refine Br.mk (fun hb => ?_) (fun hb => ?_)
    ·rw [if_neg (by rw [show standP e.fName x = false from by simpa [standP, bne] using hb]; exact Bool.false_ne_true)] at hsn
     clear hb
     conv => whnf
     repeat' (first | ((refine And.intro hwr ?_; conv => whnf)) | ((rw [he2]; conv => whnf)) | ((refine And.intro hlX ?_; conv => whnf)) | ((refine And.intro (hbd _) ?_; conv => whnf)) | ((refine fun n1 bx cx hn1 hc1 => ?_; conv => whnf)) | (refine g_op ?_; conv => whnf) | (refine And.intro ?_ ?_; (focus exact au0); conv => whnf) | (refine XS.go ?_) | (refine g_ops ?_) | ((first | refine g_nil ?_ | refine fun _ => ?_); conv => whnf) | fail)
     have hn2 : n1 = (W1 ++ [x]).length := by rw [hn1]; simp
     clear hn1
     subst hn2
     refine ⟨(i + 1, cx), hlt, by simp only; omega, ?_, ?_⟩
     ·dsimp only
      rw [hsn]
      repeat' (first | exact True.intro | refine And.intro (congrArg (D.int .i64) hw) ?_ | refine And.intro rfl ?_)
     ·dsimp only
      rw [hsn]
      exact ⟨rfl, rfl, rfl, congrArg (fun l => some (D.arr 7 l cx)) (by rw [List.map_append]; rfl), rfl, True.intro⟩
    ·rw [if_pos (show standP e.fName x = true from by simpa [standP, bne] using hb), List.append_nil] at hsn
     clear hb
     conv => whnf
     repeat' (first | (refine g_op ?_; conv => whnf) | (refine And.intro ?_ ?_; (focus exact au0); conv => whnf) | (refine XS.go ?_) | (refine g_ops ?_) | ((first | refine g_nil ?_ | refine g_skip ?_); conv => whnf) | fail)
     refine ⟨(i + 1, cp), hlt, by simp only; omega, ?_, ?_⟩
     ·dsimp only
      rw [hsn]
      repeat' (first | exact True.intro | refine And.intro (congrArg (D.int .i64) hw) ?_ | refine And.intro rfl ?_)
     ·dsimp only
      rw [hsn]
      exact ⟨rfl, rfl, rfl, rfl, rfl, True.intro⟩
   have hi2 : i = b.fCopies.length := by
    have : ¬ i < b.fCopies.length := by simpa using hb
    omega
   subst hi2
   clear hb
   rw [List.take_length]
   conv => whnf
   repeat' (first | (refine g_exit ?_; conv => whnf) | fail)
   refine XS.go ?_
   conv => whnf
   repeat' (first | (refine g_op ?_; conv => whnf) | (refine And.intro ?_ ?_; (focus exact au0); conv => whnf) | (refine g_ops ?_) | (refine g_nil ?_; conv => whnf) | fail)
   refine XS.move 90 303 [] rfl ?_
   refine XS.hintB 2 303 [3] rfl rfl rfl rfl rfl (fun _ _ _ h => by cases h) rfl ?_
   refine XS.move 116 302 [] rfl ?_
   refine XS.hintB 2 302 [2] rfl rfl rfl rfl rfl (fun _ _ _ h => by cases h) rfl ?_
   refine XS.go ?_
   conv => whnf
   repeat' (first | (refine g_op ?_; conv => whnf) | (refine And.intro ?_ ?_; (focus exact au0); conv => whnf) | (refine g_seq ?_) | (refine XS.go ?_) | (refine g_ops ?_) | ((first | refine g_nil ?_ | refine g_ret ?_ | refine r_t ?_ | refine r_c ?_ | refine r_nil ?_); conv => whnf) | fail)
   exact ⟨_, _, _, c1, cp, cx, rfl, rfl⟩
 conv => whnf
 repeat' (first | (refine g_op ?_; conv => whnf) | (refine And.intro ?_ ?_; (focus exact au0); conv => whnf) | (refine g_seq ?_) | (refine XS.go ?_) | (refine g_ops ?_) | ((first | refine g_nil ?_ | refine g_cond ?_); conv => whnf) | fail)
 refine Br.mk (fun hb => ?_) (fun hb5 => ?_)
 ·have hk : e.fKind = 5 := by simpa using hb
  rw [seaP5 hk]
  clear hb hv
  conv => whnf
  repeat' (first | (refine g_op ?_; conv => whnf) | (refine And.intro ?_ ?_; (focus exact au0); conv => whnf) | (refine g_ops ?_) | fail)
  refine XCL.of_XC (ls := b.L 301 302 303 b1 b2 b3 c1 c2 c3) ⟨rfl, rfl, rfl, rfl, rfl, rfl, rfl, rfl, rfl, True.intro⟩ ((spec_RaiseX b e.fName e.fFlag hs b1 b2 b3 c1 c2 c3).mono fun d ls h => ?_)
  obtain ⟨d1, d2, d3, e1, e2, e3, rfl, rfl⟩ := h
  conv => whnf
  repeat' (first | (refine g_op ?_; conv => whnf) | (refine And.intro ?_ ?_; (focus exact au0); conv => whnf) | (refine g_nil ?_; conv => whnf) | fail)
  refine XS.move 55 303 [] rfl ?_
  refine XS.hintB 2 303 [3] rfl rfl rfl rfl rfl (fun _ _ _ h => by cases h) rfl ?_
  refine XS.go ?_
  conv => whnf
  repeat' (first | (refine g_op ?_; conv => whnf) | (refine And.intro ?_ ?_; (focus exact au0); conv => whnf) | (refine g_seq ?_) | (refine XS.go ?_) | (refine g_ops ?_) | ((first | refine g_nil ?_ | refine g_ret ?_ | refine r_t ?_ | refine r_c ?_ | refine r_nil ?_); conv => whnf) | fail)
  exact ⟨_, _, _, e1, e2, e3, rfl, rfl⟩
 conv => whnf
 repeat' (first | (refine g_op ?_; conv => whnf) | (refine And.intro ?_ ?_; (focus exact au0); conv => whnf) | (refine g_seq ?_) | (refine XS.go ?_) | (refine g_ops ?_) | ((first | refine g_nil ?_ | refine g_cond ?_); conv => whnf) | fail)
 refine Br.mk (fun hb => ?_) (fun hb6 => ?_)
 ·have hk : e.fKind = 6 := by simpa using hb
  have hC := spec_Service b e.fName l1
  clear hb hv
  rcases svcI_cs b e.fName with hq | ⟨j, hq, hjl⟩
  ·rw [seaP6n hk hq]
   rw [hq] at hC
   conv => whnf
   repeat' (first | ((refine XCL.of_rdrB hC (.cons (Bor.bookO rfl rfl rfl rfl rfl rfl) (.cons (Bor.refl _ _) .nil)) rfl ?_; conv => whnf)) | (refine g_op ?_; conv => whnf) | (refine And.intro ?_ ?_; (focus exact au0); conv => whnf) | (refine g_seq ?_) | (refine g_ops ?_) | (refine g_nil ?_; conv => whnf) | fail)
   refine XS.go ?_
   conv => whnf
   have hdec : decide ((-1 : Int) < 0) = true := rfl
   repeat' (first | ((refine z_skipT (congrArg Go.Ab.D.bool hdec) ?_; (conv => whnf); refine And.intro ?_ ?_; (focus exact rfl))) | ((refine z_pickT (congrArg Go.Ab.D.bool hdec) ?_ ?_; (focus exact rfl); (conv => whnf))) | (refine z_ld1 ?_; first | (refine z_ld rfl rfl rfl rfl au1 au2 ?_; conv => whnf) | (refine z_ld0 rfl ?_; conv => whnf)) | (refine z_st1 ?_; first | (refine z_st rfl rfl rfl au1 au2 rfl rfl ?_; conv => whnf) | (refine z_st0 ?_; conv => whnf)) | (refine z_op ?_ ?_; (focus exact rfl); conv => whnf) | (refine zs_ops ?_ ?_; (focus exact rfl)) | (refine z_nil fun vals => ?_; conv => whnf) | (refine And.intro ?_ ?_; (focus exact au0); conv => whnf) | (refine g_seq ?_) | (refine XS.go ?_) | (refine Br.t ?_ ?_; (focus (first | assumption | exact rfl)); conv => whnf) | ((first | refine g_cond ?_ | refine g_ret ?_ | refine r_t ?_ | refine r_c ?_ | refine r_nil ?_); conv => whnf) | fail)
   exact ⟨_, _, _, c1, c2, c3, rfl, rfl⟩
  ·have hj0 : j < (b.fServices.map StewService.D).length := by rw [List.length_map]; exact hjl
   have he0 : (b.fServices.map StewService.D).getD j .any = (b.fServices.getD j default).D := elt_map hjl
   cases hf : ((b.fServices.getD j default).fPer == 0) with
   | true =>
    rw [seaP6b hk hq hf]
    rw [hq] at hC
    generalize b.fServices.getD j default = x at *
    conv => whnf
    repeat' (first | ((refine XCL.of_rdrB hC (.cons (Bor.bookO rfl rfl rfl rfl rfl rfl) (.cons (Bor.refl _ _) .nil)) rfl ?_; conv => whnf)) | (refine g_op ?_; conv => whnf) | (refine And.intro ?_ ?_; (focus exact au0); conv => whnf) | (refine g_seq ?_) | (refine g_ops ?_) | (refine g_nil ?_; conv => whnf) | fail)
    refine XS.go ?_
    conv => whnf
    repeat' (first | (refine z_ld1 ?_; first | (refine z_ld rfl rfl rfl rfl au1 au2 ?_; conv => whnf) | (refine z_ld0 rfl ?_; conv => whnf)) | (refine z_ld1g ?_; first | (refine z_ldg rfl rfl rfl rfl rfl rfl rfl (by (repeat intro _); exact ⟨au1, au2⟩) rfl rfl rfl rfl ?_; conv => whnf) | (refine z_ld0g ?_; (conv => whnf); refine And.intro ?_ ?_; (focus exact rfl); conv => whnf)) | (refine z_st1 ?_; first | (refine z_st rfl rfl rfl au1 au2 rfl rfl ?_; conv => whnf) | (refine z_st0 ?_; conv => whnf)) | (refine z_op ?_ ?_; (focus exact rfl); conv => whnf) | (refine z_opg0 ?_; (conv => whnf); refine And.intro ?_ ?_; (focus exact rfl); conv => whnf) | (refine z_pick ?_ ?_; (focus exact rfl); conv => whnf) | (refine zs_ops ?_ ?_; (focus exact rfl)) | (refine z_nil fun vals => ?_; conv => whnf) | (refine And.intro ?_ ?_; (focus exact au0); conv => whnf) | (refine g_seq ?_) | (refine XS.go ?_) | (refine Br.t ?_ ?_; (focus (first | assumption | exact rfl)); conv => whnf) | ((first | refine g_cond ?_ | refine g_ret ?_ | refine r_t ?_ | refine r_c ?_ | refine r_nil ?_); conv => whnf) | fail)
    exact ⟨_, _, _, c1, c2, c3, rfl, rfl⟩
   | false =>
    rw [seaP6p hk hq hf]
    rw [hq] at hC
    generalize b.fServices.getD j default = x at *
    conv => whnf
    repeat' (first | ((refine XCL.of_rdrB hC (.cons (Bor.bookO rfl rfl rfl rfl rfl rfl) (.cons (Bor.refl _ _) .nil)) rfl ?_; conv => whnf)) | (refine g_op ?_; conv => whnf) | (refine And.intro ?_ ?_; (focus exact au0); conv => whnf) | (refine g_seq ?_) | (refine g_ops ?_) | (refine g_nil ?_; conv => whnf) | fail)
    refine XS.go ?_
    conv => whnf
    repeat' (first | (refine z_ld1g ?_; first | (refine z_ldg rfl rfl rfl rfl rfl rfl rfl (by (repeat intro _); exact ⟨au1, au2⟩) rfl rfl rfl rfl ?_; conv => whnf) | (refine z_ld0g ?_; (conv => whnf); refine And.intro ?_ ?_; (focus exact rfl); conv => whnf)) | (refine z_op ?_ ?_; (focus exact rfl); conv => whnf) | (refine z_opg0 ?_; (conv => whnf); refine And.intro ?_ ?_; (focus exact rfl); conv => whnf) | (refine z_pick ?_ ?_; (focus exact rfl); conv => whnf) | (refine zs_ops ?_ ?_; (focus exact rfl)) | (refine z_nil fun vals => ?_; conv => whnf) | (refine And.intro ?_ ?_; (focus exact au0); conv => whnf) | (refine g_seq ?_) | fail)
    refine XS.go ?_
    conv => whnf
    repeat' (first | (refine Br.f ?_ ?_; (focus (first | assumption | exact rfl)); conv => whnf) | ((first | refine g_cond ?_ | refine g_skip ?_); conv => whnf) | fail)
    refine XS.go ?_
    conv => whnf
    repeat' (first | (refine z_ld1 ?_; first | (refine z_ld rfl rfl rfl rfl au1 au2 ?_; conv => whnf) | (refine z_ld0 rfl ?_; conv => whnf)) | (refine z_st1 ?_; first | (refine z_st rfl rfl rfl au1 au2 rfl rfl ?_; conv => whnf) | (refine z_st0 ?_; conv => whnf)) | (refine z_ix1 ?_; first | (refine z_ix rfl rfl rfl rfl rfl ⟨by first | omega | (simp only [decide_eq_true_eq, Bool.not_eq_true', Bool.or_eq_false_iff, decide_eq_false_iff_not, Bool.and_eq_true, Bool.not_eq_false'] at *; omega), by first | omega | (simp only [decide_eq_true_eq, Bool.not_eq_true', Bool.or_eq_false_iff, decide_eq_false_iff_not, Bool.and_eq_true, Bool.not_eq_false'] at *; omega)⟩ ?_; conv => whnf) | (refine z_ix0 rfl rfl ?_; conv => whnf)) | (refine z_op ?_ ?_; (focus exact rfl); conv => whnf) | (refine zs_ops ?_ ?_; (focus exact rfl)) | (refine z_nil fun vals => ?_; conv => whnf) | (refine And.intro ?_ ?_; (focus exact au0); conv => whnf) | (refine g_seq ?_) | fail)
    refine XS.go ?_
    conv => whnf
    repeat' (first | (refine z_ld1 ?_; first | (refine z_ld rfl rfl rfl rfl au1 au2 ?_; conv => whnf) | (refine z_ld0 rfl ?_; conv => whnf)) | (refine z_st1 ?_; first | (refine z_st rfl rfl rfl au1 au2 rfl rfl ?_; conv => whnf) | (refine z_st0 ?_; conv => whnf)) | (refine z_ix1 ?_; first | (refine z_ix rfl rfl rfl rfl rfl ⟨by first | omega | (simp only [decide_eq_true_eq, Bool.not_eq_true', Bool.or_eq_false_iff, decide_eq_false_iff_not, Bool.and_eq_true, Bool.not_eq_false'] at *; omega), by first | omega | (simp only [decide_eq_true_eq, Bool.not_eq_true', Bool.or_eq_false_iff, decide_eq_false_iff_not, Bool.and_eq_true, Bool.not_eq_false'] at *; omega)⟩ ?_; conv => whnf) | (refine z_ix0 rfl rfl ?_; conv => whnf)) | (refine z_op ?_ ?_; (focus exact rfl); conv => whnf) | (refine zs_ops ?_ ?_; (focus exact rfl)) | (refine z_nil fun vals => ?_; conv => whnf) | (refine And.intro ?_ ?_; (focus exact au0); conv => whnf) | fail)
    generalize hy : b.fServices.set j { x with fLoad := e.fNumber, fVersion := nowV b } = ys
    have hyl : b.fServices.length = ys.length := by rw [← hy, List.length_set]
    have hyD : ((b.fServices.map StewService.D).set j ({ x with fLoad := e.fNumber } : StewService).D).set j ({ x with fLoad := e.fNumber, fVersion := nowV b } : StewService).D = ys.map StewService.D := by rw [List.set_set, ← hy, List.map_set]
    refine XS.weakenA (fs := [.any, .any, .lref 2 z2 [] 0, .cref e.D, .lref 4 z4 [] 0, .any, .int .i64 (nowV b)]) (ls := [(2, .agg [.int .i64 b.fNow, .lsl 301 b1 ys.length c1, .lsl 302 b2 b.fCopies.length c2, .lsl 303 b3 b.fBerths.length c3]), (4, .agg [.int .i64 0, .nil, .nil, .nil]), (301, .arr 13 (ys.map StewService.D) c1), (302, .arr 7 (b.fCopies.map StewCopy.D) c2), (303, .arr 2 (b.fBerths.map StewBerth.D) c3)]) ⟨?_, ?_⟩ ?_
    ·repeat' (first | exact True.intro | refine And.intro rfl ?_)
    ·exact ⟨congrArg (fun n => some (D.agg [.int .i64 b.fNow, .lsl 301 b1 n c1, .lsl 302 b2 b.fCopies.length c2, .lsl 303 b3 b.fBerths.length c3])) hyl, rfl, congrArg (fun l => some (D.arr 13 l c1)) hyD, rfl, rfl, True.intro⟩
    refine XS.go ?_
    conv => whnf
    repeat' (first | (refine g_op ?_; conv => whnf) | (refine And.intro ?_ ?_; (focus exact au0); conv => whnf) | (refine g_seq ?_) | (refine XS.go ?_) | (refine g_ops ?_) | ((first | refine g_nil ?_ | refine g_ret ?_ | refine r_t ?_ | refine r_c ?_ | refine r_nil ?_); conv => whnf) | fail)
    exact ⟨_, _, _, c1, c2, c3, rfl, rfl⟩
 rw [seaP0 (by simpa using hb1) (by simpa using hb2) (by simpa using hb3) (by simpa using hb4) (by simpa using hb5) (by simpa using hb6)]
 conv => whnf
 repeat' (first | (refine g_op ?_; conv => whnf) | (refine And.intro ?_ ?_; (focus exact au0); conv => whnf) | (refine g_seq ?_) | (refine XS.go ?_) | (refine g_ops ?_) | ((first | refine g_nil ?_ | refine g_ret ?_ | refine r_t ?_ | refine r_c ?_ | refine r_nil ?_); conv => whnf) | fail)
 exact ⟨_, _, _, c1, c2, c3, rfl, rfl⟩
end Go.Ab
set_option linter.unusedSimpArgs false
set_option linter.unusedVariables false
namespace Go.Ab
open Go Go.RowKit Go.Proofs
attribute [local irreducible] XC Rdr IntKind.wrap xw xos xqs xr xd
set_option maxRecDepth 100000
theorem frz_book (x : StewBook) (b1 b2 b3 c1 c2 c3 e1 e2 e3 : Nat) : frzVs (x.L 31 32 33 b1 b2 b3 e1 e2 e3) [x.O 31 32 33 b1 b2 b3 c1 c2 c3] = [x.D] := by
 have t1 : (D.frozs (x.fServices.map StewService.D)).take x.fServices.length = x.fServices.map StewService.D := by rw [D.frozs_map (fun _ => rfl), List.take_of_length_le (by simp)]
 have t2 : (D.frozs (x.fCopies.map StewCopy.D)).take x.fCopies.length = x.fCopies.map StewCopy.D := by rw [D.frozs_map (fun _ => rfl), List.take_of_length_le (by simp)]
 have t3 : (D.frozs (x.fBerths.map StewBerth.D)).take x.fBerths.length = x.fBerths.map StewBerth.D := by rw [D.frozs_map (fun _ => rfl), List.take_of_length_le (by simp)]
 show [D.agg [.int .i64 x.fNow, .ro 13 ((D.frozs (x.fServices.map StewService.D)).take x.fServices.length), .ro 7 ((D.frozs (x.fCopies.map StewCopy.D)).take x.fCopies.length), .ro 2 ((D.frozs (x.fBerths.map StewBerth.D)).take x.fBerths.length)]] = [x.D]
 rw [t1, t2, t3]
 rfl
theorem ok_book (x : StewBook) (b1 b2 b3 c1 c2 c3 e1 e2 e3 : Nat) : okVs (x.L 31 32 33 b1 b2 b3 e1 e2 e3) [x.O 31 32 33 b1 b2 b3 c1 c2 c3] :=
 ⟨⟨True.intro, ⟨rfl, Nat.le_of_eq (by simp)⟩, ⟨rfl, Nat.le_of_eq (by simp)⟩, ⟨rfl, Nat.le_of_eq (by simp)⟩, True.intro⟩, True.intro⟩
end Go.Ab
set_option linter.unusedSimpArgs false
set_option linter.unusedVariables false
namespace Go.Ab
open Go Go.RowKit Go.Proofs
attribute [local irreducible] XC Rdr IntKind.wrap xw xos xqs xr xd
set_option maxRecDepth 100000
set_option maxHeartbeats 16000000
def cf46 : CF := ⟨44,[.c 4 4 true,.t 5],(.seq (.ops [Oo 2 (.bx (.t 0)),Oo 3 (.bx (.t 1)),Oo 4 (.al (.agg [.int .i64 0,.nil,.nil,.nil])),Ok 5 (.int .i64 0)]) (.seq (.seq (.ops [Od 8 4 2,Oc 9 19 [.t 8],Oo 10 (.not (.t 9))]) (.cond (.t 10) (.seq (.ops [Oo 11 (.bld (.agg [.int .i64 0,.nil,.nil,.nil]) []),Os 4 4 11,Ok 5 (.int .i64 1)]) .ret) .skip)) (.seq (.seq (.ops [Of 12 0 2,Ol 13 12,Oo 14 (.bin .geq (.t 13) (.k (.int .i64 1000000)))]) (.cond (.t 14) (.seq (.seq (.ops [Of 15 0 3,Ol 16 15,Oc 17 70 [.t 16,(.k (.int .i64 1)),(.k (.int .i64 6))],Oo 18 (.not (.t 17))]) (.cond (.t 18) (.seq (.ops [Od 19 4 2,Oc 20 69 [.t 19],Os 4 4 20,Ok 5 (.int .i64 4)]) .ret) .skip)) (.seq (.ops [Od 21 4 2,Oc 22 69 [.t 21],Os 4 4 22,Ok 5 (.int .i64 7)]) .ret)) .skip)) (.seq (.drawn [Qd 24 4 2,Qd 26 17 3,(Oc 25 69 [.t 24],true,[(.t 3)]),(Oc 27 109 [.t 25,.t 26],true,[]),Qm 23 27,Qo 28 (.ext (.t 23) 0),Qo 29 (.ext (.t 23) 1),(Oo 6 (.al (.agg [.int .i64 0,.nil,.nil,.nil])),true,[]),Qs 4 6 28,Qm 7 29]) (.seq (.seq (.ops [Om 30 7,Oo 31 (.bin .eql (.t 30) (.k (.int .i64 0))),Om 32 31,⟨some 33,.ld 4 true (.t 6),some (32,true)⟩,⟨some 34,.call 19 [.t 33],some (32,true)⟩,⟨some 35,.not (.t 34),some (32,true)⟩,Oo 36 (.pick (.t 32) (.t 35) (.k (.bool false)))]) (.cond (.t 36) (.ops [Ok 7 (.int .i64 2)]) .skip)) (.seq (.seq (.ops [Om 37 7,Oo 38 (.bin .neq (.t 37) (.k (.int .i64 0)))]) (.cond (.t 38) (.seq (.ops [Od 39 4 2,Oc 40 69 [.t 39],Om 41 7,Os 4 4 40,Om 5 41]) .ret) .skip)) (.seq (.ops [Od 42 4 6,Oc 43 69 [.t 42],Os 4 4 43,Ok 5 (.int .i64 0)]) .ret)))))))⟩
theorem c46 : compileF Try.prog [] 46 = some cf46 := by kernel_rfl
theorem KB.names {f : FuncId} {ds : List Go.Ab.D} {R : StewBook} {s1 s2 s3 : Nat} (t1 t2 t3 : Nat) (h : XC Try.prog f ds [] (KB R s1 s2 s3)) : XC Try.prog f ds [] (KB R t1 t2 t3) := by
 refine h.ren (fun _ _ _ h => h) rfl (fun d ls ⟨d1, d2, d3, e1, e2, e3, h1, h2⟩ => ?_)
 subst h1 h2
 exact ⟨_, _, ⟨d1, d2, d3, e1, e2, e3, rfl, rfl⟩, fun _ _ _ h => HolL.ren rfl h, fun _ _ _ h => h⟩
theorem L.cl (R : StewBook) (s1 s2 s3 b1 b2 b3 c1 c2 c3 : Nat) : clL (R.L s1 s2 s3 b1 b2 b3 c1 c2 c3) = true := by
 show ((D.arr 13 (R.fServices.map StewService.D) c1).cl && ((D.arr 7 (R.fCopies.map StewCopy.D) c2).cl && ((D.arr 2 (R.fBerths.map StewBerth.D) c3).cl && true))) = true
 have q1 : (D.arr 13 (R.fServices.map StewService.D) c1).cl = true := D.cls_map (fun _ => rfl) _
 have q2 : (D.arr 7 (R.fCopies.map StewCopy.D) c2).cl = true := D.cls_map (fun _ => rfl) _
 have q3 : (D.arr 2 (R.fBerths.map StewBerth.D) c3).cl = true := D.cls_map (fun _ => rfl) _
 rw [q1, q2, q3]
 rfl
theorem KB.cl {R : StewBook} {s1 s2 s3 : Nat} {d : Go.Ab.D} {l : List Loan} (h : KB R s1 s2 s3 d l) : d.cl = true ∧ clL l = true := by
 obtain ⟨b1, b2, b3, c1, c2, c3, rfl, rfl⟩ := h
 exact ⟨rfl, L.cl R _ _ _ _ _ _ _ _ _⟩
theorem KT.cl {R : StewBook × Int} {s1 s2 s3 : Nat} {d : Go.Ab.D} {l : List Loan} (h : KT R s1 s2 s3 d l) : d.cl = true ∧ clL l = true := by
 obtain ⟨b1, b2, b3, c1, c2, c3, rfl, rfl⟩ := h
 exact ⟨rfl, L.cl R.1 _ _ _ _ _ _ _ _ _⟩
theorem KT.names {f : FuncId} {ds : List Go.Ab.D} {R : StewBook × Int} {s1 s2 s3 : Nat} (t1 t2 t3 : Nat) (h : XC Try.prog f ds [] (KT R s1 s2 s3)) : XC Try.prog f ds [] (KT R t1 t2 t3) := by
 refine h.ren (fun _ _ _ h => h) rfl (fun d ls ⟨d1, d2, d3, e1, e2, e3, h1, h2⟩ => ?_)
 subst h1 h2
 exact ⟨_, _, ⟨d1, d2, d3, e1, e2, e3, rfl, rfl⟩, fun _ _ _ h => HolL.ren rfl h, fun _ _ _ h => h⟩
theorem KT.frz {R : StewBook × Int} {d : Go.Ab.D} {ls : List Loan} (h : KT R 41 42 43 d ls) : okV ls d ∧ frzV ls d = .tup [R.1.D, .int .i64 R.2] := by
 obtain ⟨b1, b2, b3, c1, c2, c3, rfl, rfl⟩ := h
 obtain ⟨x, k⟩ := R
 refine ⟨⟨⟨True.intro, ⟨rfl, Nat.le_of_eq (by simp)⟩, ⟨rfl, Nat.le_of_eq (by simp)⟩, ⟨rfl, Nat.le_of_eq (by simp)⟩, True.intro⟩, True.intro, True.intro⟩, ?_⟩
 have t1 : (D.frozs (x.fServices.map StewService.D)).take x.fServices.length = x.fServices.map StewService.D := by rw [D.frozs_map (fun _ => rfl), List.take_of_length_le (by simp)]
 have t2 : (D.frozs (x.fCopies.map StewCopy.D)).take x.fCopies.length = x.fCopies.map StewCopy.D := by rw [D.frozs_map (fun _ => rfl), List.take_of_length_le (by simp)]
 have t3 : (D.frozs (x.fBerths.map StewBerth.D)).take x.fBerths.length = x.fBerths.map StewBerth.D := by rw [D.frozs_map (fun _ => rfl), List.take_of_length_le (by simp)]
 show D.tup [D.agg [.int .i64 x.fNow, .ro 13 ((D.frozs (x.fServices.map StewService.D)).take x.fServices.length), .ro 7 ((D.frozs (x.fCopies.map StewCopy.D)).take x.fCopies.length), .ro 2 ((D.frozs (x.fBerths.map StewBerth.D)).take x.fBerths.length)], D.int .i64 k] = D.tup [x.D, D.int .i64 k]
 rw [t1, t2, t3]
 rfl
theorem KT.rdr {f : FuncId} {ds : List Go.Ab.D} {R : StewBook × Int} {s1 s2 s3 : Nat} (h : XC Try.prog f ds [] (KT R s1 s2 s3)) : Rdr Try.prog f ds (.tup [R.1.D, .int .i64 R.2]) := Rdr.of_XCF ((KT.names 41 42 43 h).mono fun _ _ h => h.frz)
def bookZ : Go.Ab.D := .agg [.int .i64 0, .nil, .nil, .nil]
theorem bookZ_tup {U : Nat → Prop} {w : World} {v : Value} (s1 s2 s3 : Nat) (k : Go.Ab.D) (h : RelV U w (.tup [bookZ, k]) v) : RelV U w (.tup [(default : StewBook).O s1 s2 s3 0 0 0 0 0 0, k]) v := by
 obtain ⟨vs, e, v1, r, e1, h1, h2⟩ := h
 exact ⟨vs, e, v1, r, e1, RelV.aggImp (RelF.imp (fun _ h => h) (RelF.imp (fun _ h => nil_lsl h) (RelF.imp (fun _ h => nil_lsl h) (RelF.imp (fun _ h => nil_lsl h) (fun _ h => h))))) _ h1, h2⟩
theorem KT.zero {f : FuncId} {ds : List Go.Ab.D} {k : Int} (h : XC Try.prog f ds [] (fun d ls => d = .tup [bookZ, .int .i64 k] ∧ ls = [])) : XC Try.prog f ds [] (KT (default, k) 41 42 43) := by
 refine h.ren (fun _ _ _ h => h) rfl (fun d l ⟨h1, h2⟩ => ?_)
 subst h1 h2
 refine ⟨_, _, ⟨0, 0, 0, 0, 0, 0, rfl, rfl⟩, fun U w F h => ?_, fun U w v h => bookZ_tup 41 42 43 _ h⟩
 have h : F = [] := h
 subst h
 exact .snil _ _ _ (.snil _ _ _ (.snil _ _ _ rfl))
/-- l18Book of an owned book. -/
theorem spec_BookB (x : StewBook) (hs : x.small) (s1 s2 s3 t1 t2 t3 b1 b2 b3 c1 c2 c3 : Nat) : XC Try.prog 69 [x.O s1 s2 s3 b1 b2 b3 c1 c2 c3] (x.L s1 s2 s3 b1 b2 b3 c1 c2 c3) (fun d ls => ∃ l, ls = x.L s1 s2 s3 b1 b2 b3 c1 c2 c3 ++ l ∧ KB x t1 t2 t3 d l) := by
 have h := KB.names t1 t2 t3 (spec_BookX x hs)
 rw [← frz_book x b1 b2 b3 c1 c2 c3 c1 c2 c3] at h
 refine (XC.bor h (ok_book x b1 b2 b3 c1 c2 c3 c1 c2 c3) (fun d l h => h.cl)).ren (fun _ _ _ h => h) rfl (fun d ls ⟨l, h1, q⟩ => ?_)
 subst h1
 exact ⟨_, _, ⟨l, rfl, q⟩, fun _ _ _ h => HolL.ren rfl h, fun _ _ _ h => h⟩
def bLen (x : StewBook) : Prop := x.fServices.length ≤ 1048576 ∧ x.fCopies.length ≤ 1048576 ∧ x.fBerths.length ≤ 1048576
theorem bLen.small {x : StewBook} (h : bLen x) : x.small := ⟨⟨h.1, fun _ _ => ⟨⟩⟩, ⟨h.2.1, fun _ _ => ⟨⟩⟩, ⟨h.2.2, fun _ _ => ⟨⟩⟩⟩
theorem raiseL_len (bs : List StewBerth) (nm : ByteArray) (dr : Bool) : (raiseL bs nm dr).length ≤ bs.length + 1 := by
 have := pI_le (berP bs nm) bs.length
 unfold raiseL berT berK
 simp only [List.length_append, List.length_cons, List.length_take]
 split <;> (rw [List.length_drop]; omega)
theorem wishL_len (ss : List StewService) (w : StewService) (v : Int) : (wishL ss w v).length ≤ ss.length + 1 := by
 have := pI_le (svcP ss w.fName) ss.length
 unfold wishL svcT svcK
 simp only [List.length_append, List.length_cons, List.length_take]
 split <;> (rw [List.length_drop]; omega)
theorem seaP_len {b : StewBook} {e : StewEvent} (h1 : b.fServices.length ≤ 8) (h2 : b.fCopies.length ≤ 200) (h3 : b.fBerths.length ≤ 6) : (seaP b e).1.fServices.length ≤ 9 ∧ (seaP b e).1.fCopies.length ≤ 200 ∧ (seaP b e).1.fBerths.length ≤ 7 := by
 have q1 := tickL_len (nowV b) b
 have q2 := wishL_len b.fServices e.fService (nowV b)
 have q3 := raiseL_len b.fBerths e.fName e.fFlag
 have q4 : ∀ p : StewCopy → Bool, (b.fCopies.filter p).length ≤ b.fCopies.length := fun p => List.length_filter_le _ _
 have q5 := q4 (fun c => !standP e.fName c)
 unfold seaP
 repeat' split
 all_goals (refine ⟨?_, ?_, ?_⟩ <;> simp only [List.length_set, List.length_append, List.length_take, List.length_drop] <;> omega)
def seaC (b : StewBook) (e : StewEvent) : Int := if ((seaP b e).2 == 0 && !valid (seaP b e).1) = true then 2 else (seaP b e).2
def seaR (b : StewBook) (e : StewEvent) : StewBook × Int := if valid b = true then (if b.fNow ≥ 1000000 then (b, if inR e.fKind 1 6 = true then 7 else 4) else if seaC b e = 0 then ((seaP b e).1, 0) else (b, seaC b e)) else (default, 1)
theorem spec_SeaY (b : StewBook) (e : StewEvent) (hs : b.small) : XC Try.prog 46 [b.D, e.D] [] (KT (seaR b e) 41 42 43) := by
 have hV := spec_Valid b hs.fServices.1 hs.fBerths.1 hs.fCopies.1
 cases hv : valid b with
 | false =>
  rw [hv] at hV
  have hE : seaR b e = (default, 1) := by simp [seaR, hv]
  rw [hE]
  have h : XC Try.prog 46 [b.D, e.D] [] (fun d ls => d = .tup [bookZ, .int .i64 1] ∧ ls = []) := by
   refine XC.intro' hm [] rfl c46 (Nat.le_of_ble_eq_true rfl) ?_
   conv => whnf
   repeat' (first | (refine g_op ?_; conv => whnf) | (refine And.intro ?_ ?_; (focus exact au0); conv => whnf) | (refine g_seq ?_) | (refine XS.go ?_) | (refine g_ops ?_) | (refine g_nil ?_; conv => whnf) | (refine Br.t ?_ ?_; (focus (first | assumption | exact rfl)); conv => whnf) | ((first | refine g_cond ?_ | refine g_ret ?_ | refine r_t ?_ | refine r_c ?_ | refine r_nil ?_ | refine fun _ => ?_ | refine XCL.of_rdr (hV) ?_); conv => whnf) | fail)
   first | done | exact ⟨rfl, rfl⟩ | exact rfl
  exact KT.zero h
 | true =>
  refine XC.intro' hm [41, 42, 43] rfl c46 (Nat.le_of_ble_eq_true rfl) ?_
  conv => whnf
  repeat' (first | (refine g_op ?_; conv => whnf) | (refine And.intro ?_ ?_; (focus exact au0); conv => whnf) | (refine g_seq ?_) | (refine g_ops ?_) | ((first | refine g_nil ?_ | refine fun _ => ?_); conv => whnf) | fail)
  refine XS.freezeB 2 rfl ?_
  refine XS.freezeB 3 rfl ?_
  refine XS.go ?_
  conv => whnf
  rw [hv] at hV
  obtain ⟨v1, v2, v3, _, _⟩ := valid_parts hv
  have hnow : 0 ≤ b.fNow := by
   simp only [valid, Bool.and_eq_true, Bool.not_eq_true', Bool.or_eq_false_iff, Bool.not_eq_false', inR, decide_eq_true_eq] at hv
   omega
  have hBk := fun t1 t2 t3 => KB.names t1 t2 t3 (spec_BookX b hs)
  repeat' (first | (refine g_op ?_; conv => whnf) | (refine And.intro ?_ ?_; (focus exact au0); conv => whnf) | (refine g_seq ?_) | (refine XS.go ?_) | (refine g_ops ?_) | (refine g_nil ?_; conv => whnf) | (refine Br.f ?_ ?_; (focus (first | assumption | exact rfl)); conv => whnf) | ((first | refine g_cond ?_ | refine g_skip ?_ | refine XCL.of_rdr (hV) ?_); conv => whnf) | fail)
  refine Br.mk (fun hb => ?_) (fun hb => ?_)
  ·have hge : b.fNow ≥ 1000000 := of_decide_eq_true hb
   have hE : seaR b e = (b, if inR e.fKind 1 6 = true then 7 else 4) := by rw [seaR, if_pos hv, if_pos hge]
   have hI := spec_In e.fKind 1 6
   rw [hE]
   clear hb hE
   cases hi : inR e.fKind 1 6 with
   | false =>
    rw [hi] at hI
    conv => whnf
    repeat' (first | (refine g_op ?_; conv => whnf) | (refine And.intro ?_ ?_; (focus exact au0); conv => whnf) | (refine g_seq ?_) | (refine XS.go ?_) | (refine g_ops ?_) | (refine g_nil ?_; conv => whnf) | (refine Br.t ?_ ?_; (focus (first | assumption | exact rfl)); conv => whnf) | ((first | refine g_cond ?_ | refine XCL.of_rdr (hI) ?_); conv => whnf) | fail)
    refine XCL.of_XC (ls := []) True.intro ((hBk 41 42 43).mono fun d ls h => ?_)
    obtain ⟨d1, d2, d3, e1, e2, e3, rfl, rfl⟩ := h
    conv => whnf
    repeat' (first | (refine g_op ?_; conv => whnf) | (refine And.intro ?_ ?_; (focus exact au0); conv => whnf) | (refine XS.go ?_) | ((first | refine g_nil ?_ | refine g_ret ?_ | refine r_t ?_ | refine r_c ?_ | refine r_nil ?_); conv => whnf) | fail)
    exact ⟨d1, d2, d3, e1, e2, e3, rfl, rfl⟩
   | true =>
    rw [hi] at hI
    conv => whnf
    repeat' (first | (refine g_op ?_; conv => whnf) | (refine And.intro ?_ ?_; (focus exact au0); conv => whnf) | (refine g_seq ?_) | (refine XS.go ?_) | (refine g_ops ?_) | (refine g_nil ?_; conv => whnf) | (refine Br.f ?_ ?_; (focus (first | assumption | exact rfl)); conv => whnf) | ((first | refine g_cond ?_ | refine g_skip ?_ | refine XCL.of_rdr (hI) ?_); conv => whnf) | fail)
    refine XCL.of_XC (ls := []) True.intro ((hBk 41 42 43).mono fun d ls h => ?_)
    obtain ⟨d1, d2, d3, e1, e2, e3, rfl, rfl⟩ := h
    conv => whnf
    repeat' (first | (refine g_op ?_; conv => whnf) | (refine And.intro ?_ ?_; (focus exact au0); conv => whnf) | (refine XS.go ?_) | ((first | refine g_nil ?_ | refine g_ret ?_ | refine r_t ?_ | refine r_c ?_ | refine r_nil ?_); conv => whnf) | fail)
    exact ⟨d1, d2, d3, e1, e2, e3, rfl, rfl⟩
  ·have hlt : b.fNow < 1000000 := by have := of_decide_eq_false hb; omega
   have hE : seaR b e = if seaC b e = 0 then ((seaP b e).1, 0) else (b, seaC b e) := by rw [seaR, if_pos hv, if_neg (by omega)]
   rw [hE]
   clear hb hE
   have hyl := seaP_len (e := e) v1 v2 v3
   have hyb : bLen (seaP b e).1 := ⟨by omega, by omega, by omega⟩
   have hVy := spec_Valid (seaP b e).1 hyb.1 hyb.2.2 hyb.2.1
   conv => whnf
   repeat' (first | (refine And.intro ?_ ?_; (focus exact au0); conv => whnf) | (refine g_seq ?_) | (refine XS.go ?_) | (refine g_skip ?_; conv => whnf) | (refine g_drawn ?_) | ((first | refine d_p ?_ | refine d_e ?_); conv => whnf) | fail)
   refine XCL.of_XC (ls := []) True.intro ((hBk 301 302 303).mono fun d ls h => ?_)
   obtain ⟨d1, d2, d3, e1, e2, e3, rfl, rfl⟩ := h
   conv => whnf
   repeat' (first | ((refine And.intro True.intro ?_; conv => whnf)) | (refine And.intro ?_ ?_; (focus exact au0); conv => whnf) | (refine d_e ?_; conv => whnf) | fail)
   refine XCL.of_XC (ls := b.L 301 302 303 d1 d2 d3 e1 e2 e3) ⟨rfl, rfl, rfl, rfl, rfl, rfl, rfl, rfl, rfl, True.intro⟩ ((spec_SeaX b e hs ⟨hnow, hlt⟩ d1 d2 d3 e1 e2 e3).mono fun d ls h => ?_)
   obtain ⟨d1, d2, d3, e1, e2, e3, rfl, rfl⟩ := h
   unfold seaC
   generalize seaP b e = Y at *
   obtain ⟨y, k⟩ := Y
   dsimp only at *
   conv => whnf
   repeat' (first | ((refine And.intro True.intro ?_; conv => whnf)) | (refine g_op ?_; conv => whnf) | (refine And.intro ?_ ?_; (focus exact au0); conv => whnf) | (refine g_seq ?_) | (refine XS.go ?_) | (refine g_ops ?_) | ((first | refine g_opg ?_ | refine d_p ?_ | refine d_e ?_ | refine d_nil ?_ | refine fun _ => ?_); conv => whnf) | fail)
   refine Br.mk (fun hb => ?_) (fun hb => ?_)
   ·have hk : k = 0 := by simpa using hb
    subst hk
    clear hb
    cases hvy : valid y with
    | false =>
     rw [hvy] at hVy
     conv => whnf
     repeat' (first | ((refine XCL.of_rdrB hVy (.cons (Bor.bookO rfl rfl rfl rfl rfl rfl) .nil) rfl ?_; conv => whnf)) | (refine g_op ?_; conv => whnf) | (refine And.intro ?_ ?_; (focus exact au0); conv => whnf) | (refine g_seq ?_) | (refine XS.go ?_) | (refine g_ops ?_) | ((first | refine g_nil ?_ | refine g_opg ?_); conv => whnf) | (refine Br.t ?_ ?_; (focus (first | assumption | exact rfl)); conv => whnf) | (refine g_cond ?_; conv => whnf) | fail)
     refine XCL.of_XC (ls := []) True.intro ((hBk 41 42 43).mono fun d ls h => ?_)
     obtain ⟨p1, p2, p3, q1, q2, q3, rfl, rfl⟩ := h
     conv => whnf
     repeat' (first | (refine g_op ?_; conv => whnf) | (refine And.intro ?_ ?_; (focus exact au0); conv => whnf) | (refine XS.go ?_) | ((first | refine g_nil ?_ | refine g_ret ?_ | refine r_t ?_ | refine r_c ?_ | refine r_nil ?_); conv => whnf) | fail)
     exact ⟨p1, p2, p3, q1, q2, q3, rfl, rfl⟩
    | true =>
     rw [hvy] at hVy
     conv => whnf
     repeat' (first | ((refine XCL.of_rdrB hVy (.cons (Bor.bookO rfl rfl rfl rfl rfl rfl) .nil) rfl ?_; conv => whnf)) | (refine g_op ?_; conv => whnf) | (refine And.intro ?_ ?_; (focus exact au0); conv => whnf) | (refine g_seq ?_) | (refine XS.go ?_) | (refine g_ops ?_) | ((first | refine g_nil ?_ | refine g_opg ?_); conv => whnf) | (refine Br.t ?_ ?_; (focus (first | assumption | exact rfl)); conv => whnf) | (refine Br.f ?_ ?_; (focus (first | assumption | exact rfl)); conv => whnf) | ((first | refine g_cond ?_ | refine g_skip ?_); conv => whnf) | fail)
     refine XCL.of_XC (ls := y.L 301 302 303 d1 d2 d3 e1 e2 e3) ⟨rfl, rfl, rfl, rfl, rfl, rfl, rfl, rfl, rfl, True.intro⟩ ((spec_BookB y hyb.small 301 302 303 41 42 43 d1 d2 d3 e1 e2 e3).mono fun d ls h => ?_)
     obtain ⟨l, rfl, p1, p2, p3, q1, q2, q3, rfl, rfl⟩ := h
     conv => whnf
     repeat' (first | (refine g_op ?_; conv => whnf) | (refine And.intro ?_ ?_; (focus exact au0); conv => whnf) | (refine XS.go ?_) | ((first | refine g_nil ?_ | refine g_ret ?_ | refine r_t ?_ | refine r_c ?_ | refine r_nil ?_); conv => whnf) | fail)
     exact ⟨p1, p2, p3, q1, q2, q3, rfl, rfl⟩
   ·have hk : ¬ k = 0 := by simpa using hb
    have e0 : (k == 0) = false := hb
    have e3' : (k != 0) = true := by simp [hk]
    have hE2 : (if (if (k == 0 && !valid y) = true then (2 : Int) else k) = 0 then ((y, 0) : StewBook × Int) else (b, if (k == 0 && !valid y) = true then 2 else k)) = (b, k) := by simp [hk]
    rw [hE2]
    conv => whnf
    repeat' (first | (refine g_op ?_; conv => whnf) | (refine And.intro ?_ ?_; (focus exact au0); conv => whnf) | (refine g_seq ?_) | (refine XS.go ?_) | (refine g_ops ?_) | ((first | refine g_nil ?_ | refine g_opg ?_); conv => whnf) | (refine Br.t ?_ ?_; (focus (first | assumption | exact rfl)); conv => whnf) | (refine Br.f ?_ ?_; (focus (first | assumption | exact rfl)); conv => whnf) | ((first | refine g_cond ?_ | refine g_skip ?_); conv => whnf) | fail)
    refine XCL.of_XC (ls := []) True.intro ((hBk 41 42 43).mono fun d ls h => ?_)
    obtain ⟨p1, p2, p3, q1, q2, q3, rfl, rfl⟩ := h
    conv => whnf
    repeat' (first | (refine g_op ?_; conv => whnf) | (refine And.intro ?_ ?_; (focus exact au0); conv => whnf) | (refine XS.go ?_) | ((first | refine g_nil ?_ | refine g_ret ?_ | refine r_t ?_ | refine r_c ?_ | refine r_nil ?_); conv => whnf) | fail)
    exact ⟨p1, p2, p3, q1, q2, q3, rfl, rfl⟩
theorem spec_Sea (b : StewBook) (e : StewEvent) (hs : b.small) : Rdr Try.prog 46 [b.D, e.D] (.tup [(seaR b e).1.D, .int .i64 (seaR b e).2]) := KT.rdr (spec_SeaY b e hs)
end Go.Ab
set_option linter.unusedSimpArgs false
set_option linter.unusedVariables false
namespace Go.Ab
open Go Go.RowKit Go.Proofs
attribute [local irreducible] XC Rdr IntKind.wrap xw xos xqs xr xd
set_option maxRecDepth 100000
set_option maxHeartbeats 16000000
def ptrO (s b es : Nat) : Int → Go.Ab.D
 | .ofNat j => .lref s b [j] (j * es)
 | .negSucc _ => .nilp
/-- An owned book in a box. -/
def StewBook.P (x : StewBook) (k b0 s1 s2 s3 b1 b2 b3 c1 c2 c3 : Nat) : List Loan := (k, b0, x.O s1 s2 s3 b1 b2 b3 c1 c2 c3) :: x.L s1 s2 s3 b1 b2 b3 c1 c2 c3
theorem impl_svcO (x : StewBook) (nm : ByteArray) (hs : x.small) (b0 b1 b2 b3 c1 c2 c3 : Nat) : XC Try.prog 78 [.lref 300 b0 [] 0, .str nm] (x.P 300 b0 301 302 303 b1 b2 b3 c1 c2 c3) (fun d ls => d = ptrO 301 b1 13 (svcI x nm) ∧ ls = x.P 300 b0 301 302 303 b1 b2 b3 c1 c2 c3) := by
 have l0 : x.fServices.length ≤ 1048576 := hs.fServices.1
 refine XC.intro' hm [300, 301, 302, 303] rfl c78 (Nat.le_of_ble_eq_true rfl) ?_
 simp only [StewBook.P, StewBook.O, StewBook.L]
 conv => whnf
 repeat' (first | (refine z_ld1 ?_; first | (refine z_ld rfl rfl rfl rfl au1 au2 ?_; conv => whnf) | (refine z_ld0 rfl ?_; conv => whnf)) | (refine z_op ?_ ?_; (focus exact rfl); conv => whnf) | (refine zs_ops ?_ ?_; (focus exact rfl)) | ((first | refine z_nil fun vals => ?_ | refine g_op ?_); conv => whnf) | (refine And.intro ?_ ?_; (focus exact au0); conv => whnf) | (refine g_seq ?_) | (refine XS.go ?_) | (refine g_ops ?_) | (refine g_loop ?_) | (refine g_nil ?_; conv => whnf) | (refine g_block ?_) | fail)
 refine XLc.mkG (α := Nat) (fun i gs => i ≤ x.fServices.length ∧ svcI x nm = idxN (svcF x nm) (x.fServices.length - i) i ∧ gs 300 = b0 ∧ gs 301 = b1 ∧ gs 302 = b2 ∧ gs 303 = b3) (fun i => x.fServices.length - i) (fun i gs => [.lref 300 (gs 300) [] 0, .str nm, .any, .any, .any, .any, .any, .any, .any, .any, .int .i64 (x.fServices.length : Int), .int .i64 (i : Int)]) (fun i gs => [(300, .agg [.int .i64 x.fNow, .lsl 301 (gs 301) x.fServices.length c1, .lsl 302 (gs 302) x.fCopies.length c2, .lsl 303 (gs 303) x.fBerths.length c3]), (301, .arr 13 (x.fServices.map StewService.D) c1), (302, .arr 7 (x.fCopies.map StewCopy.D) c2), (303, .arr 2 (x.fBerths.map StewBerth.D) c3)]) 0 ⟨Nat.zero_le _, rfl, rfl, rfl, rfl, rfl⟩ ⟨?_, ?_⟩ ?_
 ·repeat' (first | exact True.intro | refine And.intro rfl ?_)
 ·exact ⟨rfl, rfl, rfl, rfl, True.intro⟩
 intro i gs hI
 obtain ⟨hi, hN, g0, g1, g2, g3⟩ := hI
 subst g0 g1 g2 g3
 repeat' (first | (refine g_op ?_; conv => whnf) | (refine And.intro ?_ ?_; (focus exact au0); conv => whnf) | (refine g_seq ?_) | (refine XS.go ?_) | (refine g_ops ?_) | ((first | refine g_nil ?_ | refine g_cond ?_); conv => whnf) | fail)
 refine Br.mk (fun hb => ?_) (fun hb => ?_)
 ·have hlt : i < x.fServices.length := by simpa using hb
  clear hb
  have hw : IntKind.wrap .i64 ((i : Int) + 1) = ((i + 1 : Nat) : Int) := by rw [wrap_ok (by omega) (by omega)]; rfl
  have hj0 : i < (x.fServices.map StewService.D).length := by rw [List.length_map]; exact hlt
  have he0 : (x.fServices.map StewService.D).getD i .any = (x.fServices.getD i default).D := elt_map hlt
  have hit := fun h => idxN_hit (f := svcF x nm) hlt hN h
  have miss := fun h => idxN_miss (f := svcF x nm) hlt hN h
  clear hN
  conv => whnf
  repeat' (first | (refine z_ld1 ?_; first | (refine z_ld rfl rfl rfl rfl au1 au2 ?_; conv => whnf) | (refine z_ld0 rfl ?_; conv => whnf)) | (refine z_ix1 ?_; first | (refine z_ix rfl rfl rfl rfl rfl ⟨by first | omega | (simp only [decide_eq_true_eq, Bool.not_eq_true', Bool.or_eq_false_iff, decide_eq_false_iff_not, Bool.and_eq_true, Bool.not_eq_false'] at *; omega), by first | omega | (simp only [decide_eq_true_eq, Bool.not_eq_true', Bool.or_eq_false_iff, decide_eq_false_iff_not, Bool.and_eq_true, Bool.not_eq_false'] at *; omega)⟩ ?_; conv => whnf) | (refine z_ix0 rfl rfl ?_; conv => whnf)) | (refine z_op ?_ ?_; (focus exact rfl); conv => whnf) | (refine zs_ops ?_ ?_; (focus exact rfl)) | ((first | refine z_nil fun vals => ?_ | refine g_op ?_); conv => whnf) | (refine And.intro ?_ ?_; (focus exact au0); conv => whnf) | (refine g_seq ?_) | (refine XS.go ?_) | (refine g_ops ?_) | ((first | refine g_nil ?_ | refine g_cond ?_ | refine g_skip ?_); conv => whnf) | (refine g_block ?_) | fail)
  refine Br.mk (fun hb => ?_) (fun hb => ?_)
  ·rw [hit hb]
   clear hb hit miss
   conv => whnf
   repeat' (first | (refine z_ld1 ?_; first | (refine z_ld rfl rfl rfl rfl au1 au2 ?_; conv => whnf) | (refine z_ld0 rfl ?_; conv => whnf)) | (refine z_ix1 ?_; first | (refine z_ix rfl rfl rfl rfl rfl ⟨by first | omega | (simp only [decide_eq_true_eq, Bool.not_eq_true', Bool.or_eq_false_iff, decide_eq_false_iff_not, Bool.and_eq_true, Bool.not_eq_false'] at *; omega), by first | omega | (simp only [decide_eq_true_eq, Bool.not_eq_true', Bool.or_eq_false_iff, decide_eq_false_iff_not, Bool.and_eq_true, Bool.not_eq_false'] at *; omega)⟩ ?_; conv => whnf) | (refine z_ix0 rfl rfl ?_; conv => whnf)) | (refine z_op ?_ ?_; (focus exact rfl); conv => whnf) | (refine zs_ops ?_ ?_; (focus exact rfl)) | (refine z_nil fun vals => ?_; conv => whnf) | (refine And.intro ?_ ?_; (focus exact au0); conv => whnf) | (refine g_seq ?_) | (refine XS.go ?_) | ((first | refine g_ret ?_ | refine r_t ?_ | refine r_nil ?_); conv => whnf) | fail)
   first | done | exact ⟨rfl, rfl⟩ | exact rfl
  ·have hm2 := miss hb
   clear hb hit miss
   conv => whnf
   repeat' (first | (refine g_op ?_; conv => whnf) | (refine And.intro ?_ ?_; (focus exact au0); conv => whnf) | (refine XS.go ?_) | (refine g_ops ?_) | ((first | refine g_nil ?_ | refine g_skip ?_); conv => whnf) | fail)
   refine ⟨i + 1, ⟨by omega, hm2, rfl, rfl, rfl, rfl⟩, by omega, ?_, ?_⟩
   ·repeat' (first | exact True.intro | refine And.intro (congrArg (D.int .i64) hw) ?_ | refine And.intro rfl ?_)
   ·exact ⟨rfl, rfl, rfl, rfl, True.intro⟩
 have hge : ¬ i < x.fServices.length := by simpa using hb
 rw [hN, idxN_end hge]
 clear hN hb
 conv => whnf
 repeat' (first | (refine g_op ?_; conv => whnf) | (refine And.intro ?_ ?_; (focus exact au0); conv => whnf) | (refine g_seq ?_) | (refine XS.go ?_) | (refine g_ops ?_) | ((first | refine g_nil ?_ | refine g_ret ?_ | refine g_exit ?_ | refine r_t ?_ | refine r_nil ?_); conv => whnf) | fail)
 first | done | exact ⟨rfl, rfl⟩ | exact rfl
theorem impl_berO (x : StewBook) (nm : ByteArray) (hs : x.small) (b0 b1 b2 b3 c1 c2 c3 : Nat) : XC Try.prog 79 [.lref 300 b0 [] 0, .str nm] (x.P 300 b0 301 302 303 b1 b2 b3 c1 c2 c3) (fun d ls => d = ptrO 303 b3 2 (berI x nm) ∧ ls = x.P 300 b0 301 302 303 b1 b2 b3 c1 c2 c3) := by
 have l0 : x.fBerths.length ≤ 1048576 := hs.fBerths.1
 refine XC.intro' hm [300, 301, 302, 303] rfl c79 (Nat.le_of_ble_eq_true rfl) ?_
 simp only [StewBook.P, StewBook.O, StewBook.L]
 conv => whnf
 repeat' (first | (refine z_ld1 ?_; first | (refine z_ld rfl rfl rfl rfl au1 au2 ?_; conv => whnf) | (refine z_ld0 rfl ?_; conv => whnf)) | (refine z_op ?_ ?_; (focus exact rfl); conv => whnf) | (refine zs_ops ?_ ?_; (focus exact rfl)) | ((first | refine z_nil fun vals => ?_ | refine g_op ?_); conv => whnf) | (refine And.intro ?_ ?_; (focus exact au0); conv => whnf) | (refine g_seq ?_) | (refine XS.go ?_) | (refine g_ops ?_) | (refine g_loop ?_) | (refine g_nil ?_; conv => whnf) | (refine g_block ?_) | fail)
 refine XLc.mkG (α := Nat) (fun i gs => i ≤ x.fBerths.length ∧ berI x nm = idxN (berF x nm) (x.fBerths.length - i) i ∧ gs 300 = b0 ∧ gs 301 = b1 ∧ gs 302 = b2 ∧ gs 303 = b3) (fun i => x.fBerths.length - i) (fun i gs => [.lref 300 (gs 300) [] 0, .str nm, .any, .any, .any, .any, .any, .any, .any, .any, .int .i64 (x.fBerths.length : Int), .int .i64 (i : Int)]) (fun i gs => [(300, .agg [.int .i64 x.fNow, .lsl 301 (gs 301) x.fServices.length c1, .lsl 302 (gs 302) x.fCopies.length c2, .lsl 303 (gs 303) x.fBerths.length c3]), (301, .arr 13 (x.fServices.map StewService.D) c1), (302, .arr 7 (x.fCopies.map StewCopy.D) c2), (303, .arr 2 (x.fBerths.map StewBerth.D) c3)]) 0 ⟨Nat.zero_le _, rfl, rfl, rfl, rfl, rfl⟩ ⟨?_, ?_⟩ ?_
 ·repeat' (first | exact True.intro | refine And.intro rfl ?_)
 ·exact ⟨rfl, rfl, rfl, rfl, True.intro⟩
 intro i gs hI
 obtain ⟨hi, hN, g0, g1, g2, g3⟩ := hI
 subst g0 g1 g2 g3
 repeat' (first | (refine g_op ?_; conv => whnf) | (refine And.intro ?_ ?_; (focus exact au0); conv => whnf) | (refine g_seq ?_) | (refine XS.go ?_) | (refine g_ops ?_) | ((first | refine g_nil ?_ | refine g_cond ?_); conv => whnf) | fail)
 refine Br.mk (fun hb => ?_) (fun hb => ?_)
 ·have hlt : i < x.fBerths.length := by simpa using hb
  clear hb
  have hw : IntKind.wrap .i64 ((i : Int) + 1) = ((i + 1 : Nat) : Int) := by rw [wrap_ok (by omega) (by omega)]; rfl
  have hj0 : i < (x.fBerths.map StewBerth.D).length := by rw [List.length_map]; exact hlt
  have he0 : (x.fBerths.map StewBerth.D).getD i .any = (x.fBerths.getD i default).D := elt_map hlt
  have hit := fun h => idxN_hit (f := berF x nm) hlt hN h
  have miss := fun h => idxN_miss (f := berF x nm) hlt hN h
  clear hN
  conv => whnf
  repeat' (first | (refine z_ld1 ?_; first | (refine z_ld rfl rfl rfl rfl au1 au2 ?_; conv => whnf) | (refine z_ld0 rfl ?_; conv => whnf)) | (refine z_ix1 ?_; first | (refine z_ix rfl rfl rfl rfl rfl ⟨by first | omega | (simp only [decide_eq_true_eq, Bool.not_eq_true', Bool.or_eq_false_iff, decide_eq_false_iff_not, Bool.and_eq_true, Bool.not_eq_false'] at *; omega), by first | omega | (simp only [decide_eq_true_eq, Bool.not_eq_true', Bool.or_eq_false_iff, decide_eq_false_iff_not, Bool.and_eq_true, Bool.not_eq_false'] at *; omega)⟩ ?_; conv => whnf) | (refine z_ix0 rfl rfl ?_; conv => whnf)) | (refine z_op ?_ ?_; (focus exact rfl); conv => whnf) | (refine zs_ops ?_ ?_; (focus exact rfl)) | ((first | refine z_nil fun vals => ?_ | refine g_op ?_); conv => whnf) | (refine And.intro ?_ ?_; (focus exact au0); conv => whnf) | (refine g_seq ?_) | (refine XS.go ?_) | (refine g_ops ?_) | ((first | refine g_nil ?_ | refine g_cond ?_ | refine g_skip ?_); conv => whnf) | (refine g_block ?_) | fail)
  refine Br.mk (fun hb => ?_) (fun hb => ?_)
  ·rw [hit hb]
   clear hb hit miss
   conv => whnf
   repeat' (first | (refine z_ld1 ?_; first | (refine z_ld rfl rfl rfl rfl au1 au2 ?_; conv => whnf) | (refine z_ld0 rfl ?_; conv => whnf)) | (refine z_ix1 ?_; first | (refine z_ix rfl rfl rfl rfl rfl ⟨by first | omega | (simp only [decide_eq_true_eq, Bool.not_eq_true', Bool.or_eq_false_iff, decide_eq_false_iff_not, Bool.and_eq_true, Bool.not_eq_false'] at *; omega), by first | omega | (simp only [decide_eq_true_eq, Bool.not_eq_true', Bool.or_eq_false_iff, decide_eq_false_iff_not, Bool.and_eq_true, Bool.not_eq_false'] at *; omega)⟩ ?_; conv => whnf) | (refine z_ix0 rfl rfl ?_; conv => whnf)) | (refine z_op ?_ ?_; (focus exact rfl); conv => whnf) | (refine zs_ops ?_ ?_; (focus exact rfl)) | (refine z_nil fun vals => ?_; conv => whnf) | (refine And.intro ?_ ?_; (focus exact au0); conv => whnf) | (refine g_seq ?_) | (refine XS.go ?_) | ((first | refine g_ret ?_ | refine r_t ?_ | refine r_nil ?_); conv => whnf) | fail)
   first | done | exact ⟨rfl, rfl⟩ | exact rfl
  ·have hm2 := miss hb
   clear hb hit miss
   conv => whnf
   repeat' (first | (refine g_op ?_; conv => whnf) | (refine And.intro ?_ ?_; (focus exact au0); conv => whnf) | (refine XS.go ?_) | (refine g_ops ?_) | ((first | refine g_nil ?_ | refine g_skip ?_); conv => whnf) | fail)
   refine ⟨i + 1, ⟨by omega, hm2, rfl, rfl, rfl, rfl⟩, by omega, ?_, ?_⟩
   ·repeat' (first | exact True.intro | refine And.intro (congrArg (D.int .i64) hw) ?_ | refine And.intro rfl ?_)
   ·exact ⟨rfl, rfl, rfl, rfl, True.intro⟩
 have hge : ¬ i < x.fBerths.length := by simpa using hb
 rw [hN, idxN_end hge]
 clear hN hb
 conv => whnf
 repeat' (first | (refine g_op ?_; conv => whnf) | (refine And.intro ?_ ?_; (focus exact au0); conv => whnf) | (refine g_seq ?_) | (refine XS.go ?_) | (refine g_ops ?_) | ((first | refine g_nil ?_ | refine g_ret ?_ | refine g_exit ?_ | refine r_t ?_ | refine r_nil ?_); conv => whnf) | fail)
 first | done | exact ⟨rfl, rfl⟩ | exact rfl
theorem impl_cpyO (x : StewBook) (nm : ByteArray) (n : Int) (hs : x.small) (b0 b1 b2 b3 c1 c2 c3 : Nat) : XC Try.prog 96 [.lref 300 b0 [] 0, .str nm, .int .i64 n] (x.P 300 b0 301 302 303 b1 b2 b3 c1 c2 c3) (fun d ls => d = ptrO 302 b2 7 (cpyI x nm n) ∧ ls = x.P 300 b0 301 302 303 b1 b2 b3 c1 c2 c3) := by
 have l0 : x.fCopies.length ≤ 1048576 := hs.fCopies.1
 refine XC.intro' hm [300, 301, 302, 303] rfl c96 (Nat.le_of_ble_eq_true rfl) ?_
 simp only [StewBook.P, StewBook.O, StewBook.L]
 conv => whnf
 repeat' (first | (refine z_ld1 ?_; first | (refine z_ld rfl rfl rfl rfl au1 au2 ?_; conv => whnf) | (refine z_ld0 rfl ?_; conv => whnf)) | (refine z_op ?_ ?_; (focus exact rfl); conv => whnf) | (refine zs_ops ?_ ?_; (focus exact rfl)) | ((first | refine z_nil fun vals => ?_ | refine g_op ?_); conv => whnf) | (refine And.intro ?_ ?_; (focus exact au0); conv => whnf) | (refine g_seq ?_) | (refine XS.go ?_) | (refine g_ops ?_) | (refine g_loop ?_) | (refine g_nil ?_; conv => whnf) | (refine g_block ?_) | fail)
 refine XLc.mkG (α := Nat) (fun i gs => i ≤ x.fCopies.length ∧ cpyI x nm n = idxN (cpyF x nm n) (x.fCopies.length - i) i ∧ gs 300 = b0 ∧ gs 301 = b1 ∧ gs 302 = b2 ∧ gs 303 = b3) (fun i => x.fCopies.length - i) (fun i gs => [.lref 300 (gs 300) [] 0, .str nm, .int .i64 n, .any, .any, .any, .any, .any, .any, .any, .any, .any, .int .i64 (x.fCopies.length : Int), .int .i64 (i : Int)]) (fun i gs => [(300, .agg [.int .i64 x.fNow, .lsl 301 (gs 301) x.fServices.length c1, .lsl 302 (gs 302) x.fCopies.length c2, .lsl 303 (gs 303) x.fBerths.length c3]), (301, .arr 13 (x.fServices.map StewService.D) c1), (302, .arr 7 (x.fCopies.map StewCopy.D) c2), (303, .arr 2 (x.fBerths.map StewBerth.D) c3)]) 0 ⟨Nat.zero_le _, rfl, rfl, rfl, rfl, rfl⟩ ⟨?_, ?_⟩ ?_
 ·repeat' (first | exact True.intro | refine And.intro rfl ?_)
 ·exact ⟨rfl, rfl, rfl, rfl, True.intro⟩
 intro i gs hI
 obtain ⟨hi, hN, g0, g1, g2, g3⟩ := hI
 subst g0 g1 g2 g3
 repeat' (first | (refine g_op ?_; conv => whnf) | (refine And.intro ?_ ?_; (focus exact au0); conv => whnf) | (refine g_seq ?_) | (refine XS.go ?_) | (refine g_ops ?_) | ((first | refine g_nil ?_ | refine g_cond ?_); conv => whnf) | fail)
 refine Br.mk (fun hb => ?_) (fun hb => ?_)
 ·have hlt : i < x.fCopies.length := by simpa using hb
  clear hb
  have hw : IntKind.wrap .i64 ((i : Int) + 1) = ((i + 1 : Nat) : Int) := by rw [wrap_ok (by omega) (by omega)]; rfl
  have hj0 : i < (x.fCopies.map StewCopy.D).length := by rw [List.length_map]; exact hlt
  have he0 : (x.fCopies.map StewCopy.D).getD i .any = (x.fCopies.getD i default).D := elt_map hlt
  have hit := fun h => idxN_hit (f := cpyF x nm n) hlt hN h
  have miss := fun h => idxN_miss (f := cpyF x nm n) hlt hN h
  clear hN
  conv => whnf
  repeat' (first | (refine z_ld1 ?_; first | (refine z_ld rfl rfl rfl rfl au1 au2 ?_; conv => whnf) | (refine z_ld0 rfl ?_; conv => whnf)) | (refine z_ld1g ?_; first | (refine z_ldg rfl rfl rfl rfl rfl rfl rfl (by (repeat intro _); exact ⟨au1, au2⟩) rfl rfl rfl rfl ?_; conv => whnf) | (refine z_ld0g ?_; (conv => whnf); refine And.intro ?_ ?_; (focus exact rfl); conv => whnf)) | (refine z_ix1 ?_; first | (refine z_ix rfl rfl rfl rfl rfl ⟨by first | omega | (simp only [decide_eq_true_eq, Bool.not_eq_true', Bool.or_eq_false_iff, decide_eq_false_iff_not, Bool.and_eq_true, Bool.not_eq_false'] at *; omega), by first | omega | (simp only [decide_eq_true_eq, Bool.not_eq_true', Bool.or_eq_false_iff, decide_eq_false_iff_not, Bool.and_eq_true, Bool.not_eq_false'] at *; omega)⟩ ?_; conv => whnf) | (refine z_ix0 rfl rfl ?_; conv => whnf)) | (refine z_op ?_ ?_; (focus exact rfl); conv => whnf) | (refine z_opg0 ?_; (conv => whnf); refine And.intro ?_ ?_; (focus exact rfl); conv => whnf) | (refine z_pick ?_ ?_; (focus exact rfl); conv => whnf) | (refine zs_ops ?_ ?_; (focus exact rfl)) | ((first | refine z_nil fun vals => ?_ | refine g_op ?_); conv => whnf) | (refine And.intro ?_ ?_; (focus exact au0); conv => whnf) | (refine g_seq ?_) | (refine XS.go ?_) | (refine g_ops ?_) | ((first | refine g_nil ?_ | refine g_cond ?_ | refine g_skip ?_); conv => whnf) | (refine g_block ?_) | fail)
  refine Br.mk (fun hb => ?_) (fun hb => ?_)
  ·rw [hit hb]
   clear hb hit miss
   conv => whnf
   repeat' (first | (refine z_ld1 ?_; first | (refine z_ld rfl rfl rfl rfl au1 au2 ?_; conv => whnf) | (refine z_ld0 rfl ?_; conv => whnf)) | (refine z_ix1 ?_; first | (refine z_ix rfl rfl rfl rfl rfl ⟨by first | omega | (simp only [decide_eq_true_eq, Bool.not_eq_true', Bool.or_eq_false_iff, decide_eq_false_iff_not, Bool.and_eq_true, Bool.not_eq_false'] at *; omega), by first | omega | (simp only [decide_eq_true_eq, Bool.not_eq_true', Bool.or_eq_false_iff, decide_eq_false_iff_not, Bool.and_eq_true, Bool.not_eq_false'] at *; omega)⟩ ?_; conv => whnf) | (refine z_ix0 rfl rfl ?_; conv => whnf)) | (refine z_op ?_ ?_; (focus exact rfl); conv => whnf) | (refine zs_ops ?_ ?_; (focus exact rfl)) | (refine z_nil fun vals => ?_; conv => whnf) | (refine And.intro ?_ ?_; (focus exact au0); conv => whnf) | (refine g_seq ?_) | (refine XS.go ?_) | ((first | refine g_ret ?_ | refine r_t ?_ | refine r_nil ?_); conv => whnf) | fail)
   first | done | exact ⟨rfl, rfl⟩ | exact rfl
  ·have hm2 := miss hb
   clear hb hit miss
   conv => whnf
   repeat' (first | (refine g_op ?_; conv => whnf) | (refine And.intro ?_ ?_; (focus exact au0); conv => whnf) | (refine XS.go ?_) | (refine g_ops ?_) | ((first | refine g_nil ?_ | refine g_skip ?_); conv => whnf) | fail)
   refine ⟨i + 1, ⟨by omega, hm2, rfl, rfl, rfl, rfl⟩, by omega, ?_, ?_⟩
   ·repeat' (first | exact True.intro | refine And.intro (congrArg (D.int .i64) hw) ?_ | refine And.intro rfl ?_)
   ·exact ⟨rfl, rfl, rfl, rfl, True.intro⟩
 have hge : ¬ i < x.fCopies.length := by simpa using hb
 rw [hN, idxN_end hge]
 clear hN hb
 conv => whnf
 repeat' (first | (refine g_op ?_; conv => whnf) | (refine And.intro ?_ ?_; (focus exact au0); conv => whnf) | (refine g_seq ?_) | (refine XS.go ?_) | (refine g_ops ?_) | ((first | refine g_nil ?_ | refine g_ret ?_ | refine g_exit ?_ | refine r_t ?_ | refine r_nil ?_); conv => whnf) | fail)
 first | done | exact ⟨rfl, rfl⟩ | exact rfl
end Go.Ab
set_option linter.unusedSimpArgs false
set_option linter.unusedVariables false
namespace Go.Ab
open Go Go.RowKit Go.Proofs
attribute [local irreducible] XC Rdr IntKind.wrap xw xos xqs xr xd
set_option maxRecDepth 100000
set_option maxHeartbeats 16000000
theorem XS.capLe {P : Program} {n : Nat} {st : St} {cc : CC} {Q : Post} (s : Nat) {es cp : Nat} {ds : List Go.Ab.D} (hl : st.lc s = some (.arr es ds cp)) (h : ds.length ≤ cp → XS P n cc st Q) : XS P n cc st Q :=
 ⟨fun hm nq c hc F g a w hH => by
  obtain ⟨Fs, hO⟩ := hH.locs s _ hl
  have hle : ds.length ≤ cp := by
   rcases hO.loc with ⟨_, rfl, _⟩ | ⟨_, _, _, _, _, _, q, _⟩
   ·exact Nat.zero_le _
   ·exact q
  exact (h hle).sem hm nq c hc F g a w hH⟩
theorem noL_app {xs caps : List Go.Ab.D} (h1 : xs.all D.noL = true) (h2 : caps.all D.noL = true) : (xs.all D.noL && caps.all D.noL) = true := by rw [h1, h2]; rfl
theorem idxN_first {f : Nat → Bool} : ∀ {k i j : Nat}, idxN f k i = (j : Int) → ∀ m, i ≤ m → m < j → f m = false
 | 0, i, j, h, m, h1, h2 => by
  have : (-1 : Int) = (j : Int) := h
  omega
 | k + 1, i, j, h, m, h1, h2 => by
  have e : idxN f (k + 1) i = if f i then (i : Int) else idxN f k (i + 1) := rfl
  rw [e] at h
  split at h
  ·omega
  ·rename_i hf
   by_cases hm : m = i
   ·subst hm; simpa using hf
   ·exact idxN_first h m (by omega) h2
theorem take_filter {α : Type} [Inhabited α] (p : α → Bool) {xs : List α} {j : Nat} (h : j < xs.length) : (xs.take (j + 1)).filter p = (xs.take j).filter p ++ if p (xs.getD j default) = true then [xs.getD j default] else [] := by
 have e : xs.getD j default = xs[j] := by simp [h]
 rw [e, List.take_succ_eq_append_getElem h, List.filter_append]
 congr 1
 simp only [List.filter_cons, List.filter_nil]
theorem filter_all {α : Type} [Inhabited α] (p : α → Bool) {xs : List α} : ∀ {j : Nat}, j ≤ xs.length → (∀ m, m < j → p (xs.getD m default) = true) → (xs.take j).filter p = xs.take j
 | 0, _, _ => by simp
 | j + 1, hj, h => by
  rw [take_filter p (by omega), filter_all p (by omega) (fun m hm => h m (by omega)), if_pos (h j (by omega))]
  have e : xs.getD j default = xs[j] := by simp [show j < xs.length by omega]
  rw [e, List.take_succ_eq_append_getElem (by omega)]
/-- The rounds of slices.DeleteFunc: i places are written, j are read. -/
structure DelI {α : Type} [Inhabited α] (p : α → Bool) (xs : List α) (i j : Nat) (C : List α) : Prop where
 le : i < j
 ji : j ≤ xs.length
 len : C.length = xs.length
 done : C.take i = (xs.take j).filter p
 rest : C.drop j = xs.drop j
theorem DelI.get {α : Type} [Inhabited α] {p : α → Bool} {xs : List α} {i j : Nat} {C : List α} (h : DelI p xs i j C) (hj : j < xs.length) : C.getD j default = xs.getD j default := by
 have e : ∀ (l : List α), l.getD j default = (l.drop j).getD 0 default := fun l => by simp [List.getD_eq_getElem?_getD, List.getElem?_drop]
 rw [e C, e xs, h.rest]
theorem DelI.keep {α : Type} [Inhabited α] {p : α → Bool} {xs : List α} {i j : Nat} {C : List α} (h : DelI p xs i j C) (hj : j < xs.length) (hp : p (xs.getD j default) = true) : DelI p xs (i + 1) (j + 1) (C.set i (xs.getD j default)) := by
 have hi : i < C.length := by have := h.le; have := h.len; omega
 refine ⟨by have := h.le; omega, by omega, by rw [List.length_set, h.len], ?_, ?_⟩
 ·rw [take_filter p hj, if_pos hp, ← h.done, List.take_succ_eq_append_getElem (by rw [List.length_set]; exact hi)]
  congr 1
  ·rw [List.take_set_of_le (Nat.le_refl _)]
  ·simp
 ·rw [List.drop_set_of_lt (by have := h.le; omega), ← List.drop_drop, ← List.drop_drop, h.rest]
theorem DelI.skip {α : Type} [Inhabited α] {p : α → Bool} {xs : List α} {i j : Nat} {C : List α} (h : DelI p xs i j C) (hj : j < xs.length) (hp : p (xs.getD j default) = false) : DelI p xs i (j + 1) C :=
 ⟨by have := h.le; omega, by omega, h.len, by rw [take_filter p hj, hp, if_neg Bool.false_ne_true, List.append_nil, h.done], by rw [← List.drop_drop, ← List.drop_drop, h.rest]⟩
theorem DelI.start {α : Type} [Inhabited α] {p : α → Bool} {xs : List α} {i : Nat} (hi : i < xs.length) (h : ∀ m, m < i → p (xs.getD m default) = true) (hp : p (xs.getD i default) = false) : DelI p xs i (i + 1) xs :=
 ⟨by omega, by omega, rfl, by rw [take_filter p hi, hp, if_neg Bool.false_ne_true, List.append_nil, filter_all p (by omega) h], rfl⟩
def cf185 : CF := ⟨19,[.t 4],(.seq (.ops [Ok 4 (.int .i64 0)]) (.seq (.seq (.ops [Om 6 0,Og 7 6,Ok 8 (.int .i64 0)]) (.block 0 (.loop (.seq (.ops [Ob 9 .lss 8 7]) (.seq (.cond (.t 9) .skip (.exit 0)) (.seq (.block 1 (.seq (.ops [Om 10 8,Om 5 10]) (.seq (.ops [Om 11 1,Om 12 0,Om 13 5,Ox 14 7 12 13,Od 15 7 14,Oo 16 (.callv (.t 11) [(.t 15)])]) (.cond (.t 16) (.seq (.ops [Om 17 5,Om 4 17]) .ret) .skip)))) (.ops [Oi 18 8,Om 8 18]))))))) (.seq (.ops [Ok 4 (.int .i64 (-1))]) .ret)))⟩
theorem c185 : compileF Try.prog [] 185 = some cf185 := by kernel_rfl
def cf155 : CF := ⟨42,[.t 4],(.seq (.ops [Ok 4 (.nil)]) (.seq (.ops [Om 8 0,Om 9 1,Oc 10 185 [.t 8,.t 9],Om 5 10]) (.seq (.seq (.ops [Om 11 5,Oo 12 (.bin .eql (.t 11) (.k (.int .i64 (-1))))]) (.cond (.t 12) (.seq (.ops [Om 13 0,Om 4 13]) .ret) .skip)) (.seq (.seq (.ops [Om 14 5,Oi 15 14,Om 6 15]) (.block 0 (.loop (.seq (.seq (.ops [Om 16 6,Om 17 0,Og 18 17,Ob 19 .lss 16 18]) (.cond (.t 19) .skip (.exit 0))) (.seq (.block 1 (.seq (.ops [Om 22 0,Om 23 6,Ox 24 7 22 23,Od 25 7 24,Oo 7 (.al (.agg [.str ⟨#[]⟩,.int .i64 0,.int .i64 0,.int .i64 0,.int .i64 0,.bool false,.str ⟨#[]⟩])),Os 7 7 25]) (.seq (.ops [Om 26 1,Od 27 7 7,Oo 28 (.callv (.t 26) [(.t 27)]),Oo 29 (.not (.t 28))]) (.cond (.t 29) (.seq (.ops [Om 30 0,Om 31 5,Od 32 7 7,Ox 33 7 30 31,Os 7 33 32]) (.ops [Om 34 5,Oi 35 34,Om 5 35])) .skip)))) (.ops [Om 20 6,Oi 21 20,Om 6 21])))))) (.seq (.ops [Om 36 0,Om 37 5,Oo 38 (.slc 7 false (.t 36) (some (.t 37)) none),⟨none,.clr 7 (.t 38),none⟩]) (.seq (.ops [Om 39 0,Om 40 5,Oo 41 (.slc 7 false (.t 39) none (some (.t 40))),Om 4 41]) .ret))))))⟩
theorem c155 : compileF Try.prog [] 155 = some cf155 := by kernel_rfl
theorem indexF_StewCopy (f : Nat) (caps : List Go.Ab.D) (q : StewCopy → Bool) (hn : caps.all D.noL = true) (hq : ∀ a : StewCopy, Rdr Try.prog f (a.D :: caps) (.bool (q a))) (xs : List StewCopy) (hl : xs.length ≤ 1048576) : Rdr Try.prog 185 [.ro 7 (xs.map StewCopy.D), .fn f caps] (.int .i64 (idxN (fun i => q (xs.getD i default)) xs.length 0)) := by
 refine Rdr.intro' hm c185 (Nat.le_of_ble_eq_true rfl) ?_
 conv => whnf
 repeat' (first | (refine g_op ?_; conv => whnf) | (refine And.intro ?_ ?_; (focus exact au0); conv => whnf) | (refine g_seq ?_) | (refine XS.go ?_) | (refine g_ops ?_) | (refine g_loop ?_) | (refine g_nil ?_; conv => whnf) | (refine g_block ?_) | fail)
 refine XLc.mkL (α := Nat) (fun i => i ≤ xs.length ∧ idxN (fun i => q (xs.getD i default)) xs.length 0 = idxN (fun i => q (xs.getD i default)) (xs.length - i) i) (fun i => xs.length - i) (fun i gs => [.ro 7 (xs.map StewCopy.D), .fn f caps, .any, .any, .any, .any, .any, .int .i64 ((xs.map StewCopy.D).length : Int), .int .i64 (i : Int)]) (fun i gs => []) 0 ⟨Nat.zero_le _, rfl⟩ ?_ ?_
 ·refine ⟨?_, ?_⟩
  ·repeat' (first | exact True.intro | refine And.intro rfl ?_)
  ·repeat' (first | exact True.intro | refine And.intro rfl ?_)
 intro i gs hI
 obtain ⟨hi, hN⟩ := hI
 repeat' (first | (refine g_op ?_; conv => whnf) | (refine And.intro ?_ ?_; (focus exact au0); conv => whnf) | (refine g_seq ?_) | (refine XS.go ?_) | (refine g_ops ?_) | ((first | refine g_nil ?_ | refine g_cond ?_); conv => whnf) | fail)
 refine Br.mk (fun hb => ?_) (fun hb => ?_)
 ·have hlt : i < xs.length := by simpa using hb
  have hw : IntKind.wrap .i64 ((i : Int) + 1) = ((i + 1 : Nat) : Int) := by rw [wrap_ok (by omega) (by omega)]; rfl
  have hit := fun h => idxN_hit (f := fun i => q (xs.getD i default)) hlt hN h
  have miss := fun h => idxN_miss (f := fun i => q (xs.getD i default)) hlt hN h
  clear hN hb
  conv => whnf
  repeat' (first | ((refine And.intro (noL_app rfl hn) ?_; conv => whnf)) | (refine z_ld1 ?_; first | (refine z_ld rfl rfl rfl rfl au1 au2 ?_; conv => whnf) | (refine z_ld0 rfl ?_; conv => whnf)) | (refine z_ix1 ?_; first | (refine z_ix rfl rfl rfl rfl rfl ⟨by first | omega | (simp only [decide_eq_true_eq, Bool.not_eq_true', Bool.or_eq_false_iff, decide_eq_false_iff_not, Bool.and_eq_true, Bool.not_eq_false'] at *; omega), by first | omega | (simp only [decide_eq_true_eq, Bool.not_eq_true', Bool.or_eq_false_iff, decide_eq_false_iff_not, Bool.and_eq_true, Bool.not_eq_false'] at *; omega)⟩ ?_; conv => whnf) | (refine z_ix0 rfl rfl ?_; conv => whnf)) | (refine z_op ?_ ?_; (focus exact rfl); conv => whnf) | (refine zs_ops ?_ ?_; (focus exact rfl)) | ((first | refine z_nil fun vals => ?_ | refine z_eff ?_ | refine g_op ?_); conv => whnf) | (refine And.intro ?_ ?_; (focus exact au0); conv => whnf) | (refine g_seq ?_) | (refine XS.go ?_) | (refine g_ops ?_) | ((first | refine g_nil ?_ | refine g_cond ?_ | refine g_skip ?_ | refine g_ret ?_); conv => whnf) | (refine g_block ?_) | ((first | refine r_t ?_ | refine r_nil ?_); conv => whnf) | (refine Br.mk (fun hb => ?_) (fun hb => ?_) <;> conv => whnf) | (refine XCL.of_rdr (hq (xs.getD (i : Int).toNat default)) ?_; conv => whnf) | fail)
  all_goals
   first
   | ((conv => lhs; whnf); first | (rw [hit hb]; done) | (rw [hit hb]; rfl) | fail)
   |(refine ⟨i + 1, ⟨by omega, miss hb⟩, by omega, ?_, ?_⟩
     ·repeat' (first | exact True.intro | refine And.intro (congrArg (D.int .i64) hw) ?_ | refine And.intro rfl ?_)
     ·repeat' (first | exact True.intro | refine And.intro rfl ?_))
 have hge : ¬ i < xs.length := by simpa using hb
 have hend : idxN (fun i => q (xs.getD i default)) xs.length 0 = -1 := by rw [hN, idxN_end hge]
 clear hN
 conv => whnf
 repeat' (first | (refine g_op ?_; conv => whnf) | (refine And.intro ?_ ?_; (focus exact au0); conv => whnf) | (refine g_seq ?_) | (refine XS.go ?_) | (refine g_ops ?_) | ((first | refine g_nil ?_ | refine g_ret ?_ | refine g_exit ?_ | refine r_t ?_ | refine r_nil ?_); conv => whnf) | fail)
 ((conv => lhs; whnf); first | (rw [hend]; done) | (rw [hend]; rfl))
theorem delF0_StewCopy (f : Nat) (caps : List Go.Ab.D) (q : StewCopy → Bool) (hn : caps.all D.noL = true) (hq : ∀ a : StewCopy, Rdr Try.prog f (a.D :: caps) (.bool (q a))) (xs : List StewCopy) (b c : Nat) (hl : xs.length ≤ 1048576) :
  XC Try.prog 155 [.lsl 0 b xs.length c, .fn f caps] [(0, b, .arr 7 (xs.map StewCopy.D) c)] (fun d ls => (d = .lsl 0 b (xs.filter fun a => !q a).length c ∨ d = .lvw 0 b 0 0 (xs.filter fun a => !q a).length c) ∧ ls = [(0, b, .arr 7 ((xs.filter fun a => !q a).map StewCopy.D) c)]) := by
 refine XC.intro' hm [0] rfl c155 (Nat.le_of_ble_eq_true rfl) ?_
 conv => whnf
 repeat' (first | (refine g_op ?_; conv => whnf) | (refine And.intro ?_ ?_; (focus exact au0); conv => whnf) | (refine g_seq ?_) | (refine g_ops ?_) | (refine g_nil ?_; conv => whnf) | fail)
 refine XS.capLe 0 rfl fun hcp => ?_
 rw [List.length_map] at hcp
 have hix := indexF_StewCopy f caps q hn hq xs hl
 refine XS.go ?_
 repeat' (first | (refine g_op ?_; conv => whnf) | (refine And.intro ?_ ?_; (focus exact au0); conv => whnf) | (refine g_seq ?_) | (refine g_ops ?_) | fail)
 refine XCL.of_rdrB hix (.cons (Bor.rowM rfl rfl rfl (fun _ => rfl)) (.cons (Bor.refl _ _) .nil)) rfl ?_
 rcases idxN_cases (f := fun i => q (xs.getD i default)) (k := xs.length) (i := 0) with ⟨h1, h2⟩ | ⟨j0, h1, _, h3, h4⟩
 ·rw [h1]
  have hf : (xs.filter fun a => !q a) = xs := by
   have := filter_all (fun a => !q a) (xs := xs) (j := xs.length) (Nat.le_refl _) (fun m hm => by have := h2 m (Nat.zero_le _) (by omega); simp only [Bool.not_eq_true']; exact this)
   rwa [List.take_length] at this
  rw [hf]
  conv => whnf
  repeat' (first | (refine g_op ?_; conv => whnf) | (refine And.intro ?_ ?_; (focus exact au0); conv => whnf) | (refine g_seq ?_) | (refine XS.go ?_) | (refine g_ops ?_) | (refine g_nil ?_; conv => whnf) | (refine Br.t ?_ ?_; (focus (first | assumption | exact rfl)); conv => whnf) | ((first | refine g_cond ?_ | refine g_ret ?_ | refine r_t ?_ | refine r_nil ?_); conv => whnf) | fail)
  exact ⟨.inl rfl, rfl⟩
 have hmin := idxN_first h1
 rw [h1]
 have hd0 : DelI (fun a => !q a) xs j0 (j0 + 1) xs := DelI.start (by omega) (fun m hm => by have := hmin m (Nat.zero_le _) hm; simp only [Bool.not_eq_true']; exact this) (by simp only [Bool.not_eq_false']; exact h4)
 have hw0 : IntKind.wrap .i64 ((j0 : Int) + 1) = ((j0 + 1 : Nat) : Int) := by rw [wrap_ok (by omega) (by omega)]; rfl
 clear h1 h4 hmin hix
 conv => whnf
 repeat' (first | (refine g_op ?_; conv => whnf) | (refine And.intro ?_ ?_; (focus exact au0); conv => whnf) | (refine g_seq ?_) | (refine XS.go ?_) | (refine g_ops ?_) | (refine g_loop ?_) | (refine g_nil ?_; conv => whnf) | (refine Br.f ?_ ?_; (focus (first | assumption | exact rfl)); conv => whnf) | ((first | refine g_cond ?_ | refine g_skip ?_); conv => whnf) | (refine g_block ?_) | fail)
 refine XLc.mkG (α := Nat × Nat × List StewCopy) (fun y gs => DelI (fun a => !q a) xs y.1 y.2.1 y.2.2 ∧ gs 0 = b) (fun y => xs.length - y.2.1) (fun y gs => [.lsl 0 (gs 0) xs.length c, .fn f caps, .any, .any, .any, .int .i64 (y.1 : Int), .int .i64 (y.2.1 : Int)]) (fun y gs => [(0, .arr 7 (y.2.2.map StewCopy.D) c)]) (j0, j0 + 1, xs) ⟨hd0, rfl⟩ ?_ ?_
 ·refine ⟨?_, ?_⟩
  ·repeat' (first | exact True.intro | refine And.intro rfl ?_ | refine And.intro (congrArg (D.int .i64) hw0) ?_)
  ·exact ⟨rfl, True.intro⟩
 intro y gs hI
 obtain ⟨i, j, C⟩ := y
 obtain ⟨hD, hg⟩ := hI
 dsimp only at hD hg ⊢
 subst hg
 have hlen := hD.len
 have hij := hD.le
 have hjn := hD.ji
 repeat' (first | (refine g_op ?_; conv => whnf) | (refine And.intro ?_ ?_; (focus exact au0); conv => whnf) | (refine g_seq ?_) | (refine XS.go ?_) | (refine g_ops ?_) | ((first | refine g_nil ?_ | refine g_cond ?_); conv => whnf) | fail)
 refine Br.mk (fun hb => ?_) (fun hb => ?_)
 ·have hlt : j < xs.length := by simpa using hb
  clear hb
  have hj0 : j < (C.map StewCopy.D).length := by rw [List.length_map]; omega
  have he0 : (C.map StewCopy.D).getD j .any = (xs.getD j default).D := by rw [elt_map (by omega), hD.get hlt]
  have hj1 : i < (C.map StewCopy.D).length := by rw [List.length_map]; omega
  have he1 : (C.map StewCopy.D).getD i .any = (C.getD i default).D := elt_map (by omega)
  have hwj : IntKind.wrap .i64 ((j : Int) + 1) = ((j + 1 : Nat) : Int) := by rw [wrap_ok (by omega) (by omega)]; rfl
  have hwi : IntKind.wrap .i64 ((i : Int) + 1) = ((i + 1 : Nat) : Int) := by rw [wrap_ok (by omega) (by omega)]; rfl
  have hqj := hq (xs.getD j default)
  have hset : (C.map StewCopy.D).set i (xs.getD j default).D = (C.set i (xs.getD j default)).map StewCopy.D := by rw [List.map_set]
  cases hp : q (xs.getD j default) with
  | true =>
   rw [hp] at hqj
   conv => whnf
   repeat' (first | ((refine And.intro (noL_app rfl hn) ?_; conv => whnf)) | (refine z_ld1 ?_; first | (refine z_ld rfl rfl rfl rfl au1 au2 ?_; conv => whnf) | (refine z_ld0 rfl ?_; conv => whnf)) | (refine z_st1 ?_; first | (refine z_st rfl rfl rfl au1 au2 rfl rfl ?_; conv => whnf) | (refine z_st0 ?_; conv => whnf)) | (refine z_ix1 ?_; first | (refine z_ix rfl rfl rfl rfl rfl ⟨by first | omega | (simp only [decide_eq_true_eq, Bool.not_eq_true', Bool.or_eq_false_iff, decide_eq_false_iff_not, Bool.and_eq_true, Bool.not_eq_false'] at *; omega), by first | omega | (simp only [decide_eq_true_eq, Bool.not_eq_true', Bool.or_eq_false_iff, decide_eq_false_iff_not, Bool.and_eq_true, Bool.not_eq_false'] at *; omega)⟩ ?_; conv => whnf) | (refine z_ix0 rfl rfl ?_; conv => whnf)) | (refine z_op ?_ ?_; (focus exact rfl); conv => whnf) | (refine zs_ops ?_ ?_; (focus exact rfl)) | ((first | refine z_nil fun vals => ?_ | refine z_eff ?_ | refine g_op ?_); conv => whnf) | (refine And.intro ?_ ?_; (focus exact au0); conv => whnf) | (refine g_seq ?_) | (refine XS.go ?_) | (refine g_ops ?_) | (refine g_nil ?_; conv => whnf) | (refine Br.f ?_ ?_; (focus (first | assumption | exact rfl)); conv => whnf) | ((first | refine g_cond ?_ | refine g_skip ?_); conv => whnf) | (refine g_block ?_) | ((first | refine fun _ => ?_ | refine XCL.of_rdr (hqj) ?_); conv => whnf) | fail)
   refine ⟨(i, j + 1, C), ⟨hD.skip hlt (by rw [hp]; rfl), rfl⟩, by simp only; omega, ?_, ?_⟩
   ·repeat' (first | exact True.intro | refine And.intro (congrArg (D.int .i64) hwj) ?_ | refine And.intro rfl ?_)
   ·exact ⟨rfl, True.intro⟩
  | false =>
   rw [hp] at hqj
   conv => whnf
   repeat' (first | ((refine And.intro (noL_app rfl hn) ?_; conv => whnf)) | (refine z_ld1 ?_; first | (refine z_ld rfl rfl rfl rfl au1 au2 ?_; conv => whnf) | (refine z_ld0 rfl ?_; conv => whnf)) | (refine z_st1 ?_; first | (refine z_st rfl rfl rfl au1 au2 rfl rfl ?_; conv => whnf) | (refine z_st0 ?_; conv => whnf)) | (refine z_ix1 ?_; first | (refine z_ix rfl rfl rfl rfl rfl ⟨by first | omega | (simp only [decide_eq_true_eq, Bool.not_eq_true', Bool.or_eq_false_iff, decide_eq_false_iff_not, Bool.and_eq_true, Bool.not_eq_false'] at *; omega), by first | omega | (simp only [decide_eq_true_eq, Bool.not_eq_true', Bool.or_eq_false_iff, decide_eq_false_iff_not, Bool.and_eq_true, Bool.not_eq_false'] at *; omega)⟩ ?_; conv => whnf) | (refine z_ix0 rfl rfl ?_; conv => whnf)) | (refine z_op ?_ ?_; (focus exact rfl); conv => whnf) | (refine zs_ops ?_ ?_; (focus exact rfl)) | ((first | refine z_nil fun vals => ?_ | refine z_eff ?_ | refine g_op ?_); conv => whnf) | (refine And.intro ?_ ?_; (focus exact au0); conv => whnf) | (refine g_seq ?_) | (refine XS.go ?_) | (refine g_ops ?_) | (refine g_nil ?_; conv => whnf) | (refine Br.t ?_ ?_; (focus (first | assumption | exact rfl)); conv => whnf) | ((first | refine g_cond ?_ | refine g_skip ?_); conv => whnf) | (refine g_block ?_) | ((first | refine fun _ => ?_ | refine XCL.of_rdr (hqj) ?_); conv => whnf) | fail)
   refine ⟨(i + 1, j + 1, C.set i (xs.getD j default)), ⟨hD.keep hlt (by rw [hp]; rfl), rfl⟩, by simp only; omega, ?_, ?_⟩
   ·repeat' (first | exact True.intro | refine And.intro (congrArg (D.int .i64) hwj) ?_ | refine And.intro (congrArg (D.int .i64) hwi) ?_ | refine And.intro rfl ?_)
   ·exact ⟨congrArg (fun l => some (D.arr 7 l c)) hset, True.intro⟩
 have hj : j = xs.length := by
  have : ¬ j < xs.length := by simpa using hb
  omega
 subst hj
 clear hb
 have hfin : C.take i = xs.filter (fun a => !q a) := by rw [hD.done, List.take_length]
 have hfl : (xs.filter fun a => !q a).length = i := by rw [← hfin, List.length_take]; omega
 conv => whnf
 repeat' (first | (refine g_exit ?_; conv => whnf) | fail)
 refine XS.cut 0 i rfl (by rw [← List.map_take, hfin]) ?_
 refine XS.go ?_
 rw [← hfl] at hij ⊢
 have hle : (((xs.filter fun a => !q a).length : Nat) : Int) ≤ ((xs.length : Nat) : Int) := by omega
 have hlc : ((xs.length : Nat) : Int) ≤ ((c : Nat) : Int) := by omega
 have hkn : ((xs.filter fun a => !q a).map StewCopy.D).length ≤ (((xs.filter fun a => !q a).length : Nat) : Int).toNat := by simp
 have hup : (((xs.filter fun a => !q a).length : Nat) : Int).toNat + (((xs.length : Nat) : Int) - (((xs.filter fun a => !q a).length : Nat) : Int)).toNat ≤ c := by omega
 have h0c : (((xs.filter fun a => !q a).length : Nat) : Int) ≤ ((c : Nat) : Int) := by omega
 repeat' (first | ((refine And.intro hle ?_; conv => whnf)) | ((refine And.intro hlc ?_; conv => whnf)) | ((refine And.intro hkn ?_; conv => whnf)) | ((refine And.intro hup ?_; conv => whnf)) | ((refine And.intro h0c ?_; conv => whnf)) | (refine g_op ?_; conv => whnf) | (refine And.intro ?_ ?_; (focus exact au0); conv => whnf) | (refine g_seq ?_) | (refine XS.go ?_) | (refine g_ops ?_) | ((first | refine g_nil ?_ | refine g_ret ?_ | refine r_t ?_ | refine r_nil ?_); conv => whnf) | fail)
 exact ⟨.inr rfl, rfl⟩
theorem delF_StewCopy (f : Nat) (caps : List Go.Ab.D) (q : StewCopy → Bool) (hn : caps.all D.noL = true) (hq : ∀ a : StewCopy, Rdr Try.prog f (a.D :: caps) (.bool (q a))) (s : Nat) (xs : List StewCopy) (b c : Nat) (hl : xs.length ≤ 1048576) :
  XC Try.prog 155 [.lsl s b xs.length c, .fn f caps] [(s, b, .arr 7 (xs.map StewCopy.D) c)] (fun d ls => d = .lsl s b (xs.filter fun a => !q a).length c ∧ ls = [(s, b, .arr 7 ((xs.filter fun a => !q a).map StewCopy.D) c)]) := by
 refine (delF0_StewCopy f caps q hn hq xs b c hl).ren (fun _ _ _ h => h) rfl (fun d ls ⟨h1, h2⟩ => ?_)
 subst h2
 refine ⟨_, _, ⟨rfl, rfl⟩, fun _ _ _ h => HolL.ren rfl h, fun U w v hv => ?_⟩
 rcases h1 with h1 | h1
 ·subst h1
  exact hv
 ·subst h1
  exact hv
def cf157 : CF := ⟨19,[.t 4],(.seq (.ops [Ok 4 (.int .i64 0)]) (.seq (.seq (.ops [Om 6 0,Og 7 6,Ok 8 (.int .i64 0)]) (.block 0 (.loop (.seq (.ops [Ob 9 .lss 8 7]) (.seq (.cond (.t 9) .skip (.exit 0)) (.seq (.block 1 (.seq (.ops [Om 10 8,Om 5 10]) (.seq (.ops [Om 11 1,Om 12 0,Om 13 5,Ox 14 2 12 13,Od 15 2 14,Oo 16 (.callv (.t 11) [(.t 15)])]) (.cond (.t 16) (.seq (.ops [Om 17 5,Om 4 17]) .ret) .skip)))) (.ops [Oi 18 8,Om 8 18]))))))) (.seq (.ops [Ok 4 (.int .i64 (-1))]) .ret)))⟩
theorem c157 : compileF Try.prog [] 157 = some cf157 := by kernel_rfl
def cf153 : CF := ⟨42,[.t 4],(.seq (.ops [Ok 4 (.nil)]) (.seq (.ops [Om 8 0,Om 9 1,Oc 10 157 [.t 8,.t 9],Om 5 10]) (.seq (.seq (.ops [Om 11 5,Oo 12 (.bin .eql (.t 11) (.k (.int .i64 (-1))))]) (.cond (.t 12) (.seq (.ops [Om 13 0,Om 4 13]) .ret) .skip)) (.seq (.seq (.ops [Om 14 5,Oi 15 14,Om 6 15]) (.block 0 (.loop (.seq (.seq (.ops [Om 16 6,Om 17 0,Og 18 17,Ob 19 .lss 16 18]) (.cond (.t 19) .skip (.exit 0))) (.seq (.block 1 (.seq (.ops [Om 22 0,Om 23 6,Ox 24 2 22 23,Od 25 2 24,Oo 7 (.al (.agg [.str ⟨#[]⟩,.bool false])),Os 2 7 25]) (.seq (.ops [Om 26 1,Od 27 2 7,Oo 28 (.callv (.t 26) [(.t 27)]),Oo 29 (.not (.t 28))]) (.cond (.t 29) (.seq (.ops [Om 30 0,Om 31 5,Od 32 2 7,Ox 33 2 30 31,Os 2 33 32]) (.ops [Om 34 5,Oi 35 34,Om 5 35])) .skip)))) (.ops [Om 20 6,Oi 21 20,Om 6 21])))))) (.seq (.ops [Om 36 0,Om 37 5,Oo 38 (.slc 2 false (.t 36) (some (.t 37)) none),⟨none,.clr 2 (.t 38),none⟩]) (.seq (.ops [Om 39 0,Om 40 5,Oo 41 (.slc 2 false (.t 39) none (some (.t 40))),Om 4 41]) .ret))))))⟩
theorem c153 : compileF Try.prog [] 153 = some cf153 := by kernel_rfl
theorem indexF_StewBerth (f : Nat) (caps : List Go.Ab.D) (q : StewBerth → Bool) (hn : caps.all D.noL = true) (hq : ∀ a : StewBerth, Rdr Try.prog f (a.D :: caps) (.bool (q a))) (xs : List StewBerth) (hl : xs.length ≤ 1048576) : Rdr Try.prog 157 [.ro 2 (xs.map StewBerth.D), .fn f caps] (.int .i64 (idxN (fun i => q (xs.getD i default)) xs.length 0)) := by
 refine Rdr.intro' hm c157 (Nat.le_of_ble_eq_true rfl) ?_
 conv => whnf
 repeat' (first | (refine g_op ?_; conv => whnf) | (refine And.intro ?_ ?_; (focus exact au0); conv => whnf) | (refine g_seq ?_) | (refine XS.go ?_) | (refine g_ops ?_) | (refine g_loop ?_) | (refine g_nil ?_; conv => whnf) | (refine g_block ?_) | fail)
 refine XLc.mkL (α := Nat) (fun i => i ≤ xs.length ∧ idxN (fun i => q (xs.getD i default)) xs.length 0 = idxN (fun i => q (xs.getD i default)) (xs.length - i) i) (fun i => xs.length - i) (fun i gs => [.ro 2 (xs.map StewBerth.D), .fn f caps, .any, .any, .any, .any, .any, .int .i64 ((xs.map StewBerth.D).length : Int), .int .i64 (i : Int)]) (fun i gs => []) 0 ⟨Nat.zero_le _, rfl⟩ ?_ ?_
 ·refine ⟨?_, ?_⟩
  ·repeat' (first | exact True.intro | refine And.intro rfl ?_)
  ·repeat' (first | exact True.intro | refine And.intro rfl ?_)
 intro i gs hI
 obtain ⟨hi, hN⟩ := hI
 repeat' (first | (refine g_op ?_; conv => whnf) | (refine And.intro ?_ ?_; (focus exact au0); conv => whnf) | (refine g_seq ?_) | (refine XS.go ?_) | (refine g_ops ?_) | ((first | refine g_nil ?_ | refine g_cond ?_); conv => whnf) | fail)
 refine Br.mk (fun hb => ?_) (fun hb => ?_)
 ·have hlt : i < xs.length := by simpa using hb
  have hw : IntKind.wrap .i64 ((i : Int) + 1) = ((i + 1 : Nat) : Int) := by rw [wrap_ok (by omega) (by omega)]; rfl
  have hit := fun h => idxN_hit (f := fun i => q (xs.getD i default)) hlt hN h
  have miss := fun h => idxN_miss (f := fun i => q (xs.getD i default)) hlt hN h
  clear hN hb
  conv => whnf
  repeat' (first | ((refine And.intro (noL_app rfl hn) ?_; conv => whnf)) | (refine z_ld1 ?_; first | (refine z_ld rfl rfl rfl rfl au1 au2 ?_; conv => whnf) | (refine z_ld0 rfl ?_; conv => whnf)) | (refine z_ix1 ?_; first | (refine z_ix rfl rfl rfl rfl rfl ⟨by first | omega | (simp only [decide_eq_true_eq, Bool.not_eq_true', Bool.or_eq_false_iff, decide_eq_false_iff_not, Bool.and_eq_true, Bool.not_eq_false'] at *; omega), by first | omega | (simp only [decide_eq_true_eq, Bool.not_eq_true', Bool.or_eq_false_iff, decide_eq_false_iff_not, Bool.and_eq_true, Bool.not_eq_false'] at *; omega)⟩ ?_; conv => whnf) | (refine z_ix0 rfl rfl ?_; conv => whnf)) | (refine z_op ?_ ?_; (focus exact rfl); conv => whnf) | (refine zs_ops ?_ ?_; (focus exact rfl)) | ((first | refine z_nil fun vals => ?_ | refine z_eff ?_ | refine g_op ?_); conv => whnf) | (refine And.intro ?_ ?_; (focus exact au0); conv => whnf) | (refine g_seq ?_) | (refine XS.go ?_) | (refine g_ops ?_) | ((first | refine g_nil ?_ | refine g_cond ?_ | refine g_skip ?_ | refine g_ret ?_); conv => whnf) | (refine g_block ?_) | ((first | refine r_t ?_ | refine r_nil ?_); conv => whnf) | (refine Br.mk (fun hb => ?_) (fun hb => ?_) <;> conv => whnf) | (refine XCL.of_rdr (hq (xs.getD (i : Int).toNat default)) ?_; conv => whnf) | fail)
  all_goals
   first
   | ((conv => lhs; whnf); first | (rw [hit hb]; done) | (rw [hit hb]; rfl) | fail)
   |(refine ⟨i + 1, ⟨by omega, miss hb⟩, by omega, ?_, ?_⟩
     ·repeat' (first | exact True.intro | refine And.intro (congrArg (D.int .i64) hw) ?_ | refine And.intro rfl ?_)
     ·repeat' (first | exact True.intro | refine And.intro rfl ?_))
 have hge : ¬ i < xs.length := by simpa using hb
 have hend : idxN (fun i => q (xs.getD i default)) xs.length 0 = -1 := by rw [hN, idxN_end hge]
 clear hN
 conv => whnf
 repeat' (first | (refine g_op ?_; conv => whnf) | (refine And.intro ?_ ?_; (focus exact au0); conv => whnf) | (refine g_seq ?_) | (refine XS.go ?_) | (refine g_ops ?_) | ((first | refine g_nil ?_ | refine g_ret ?_ | refine g_exit ?_ | refine r_t ?_ | refine r_nil ?_); conv => whnf) | fail)
 ((conv => lhs; whnf); first | (rw [hend]; done) | (rw [hend]; rfl))
theorem delF0_StewBerth (f : Nat) (caps : List Go.Ab.D) (q : StewBerth → Bool) (hn : caps.all D.noL = true) (hq : ∀ a : StewBerth, Rdr Try.prog f (a.D :: caps) (.bool (q a))) (xs : List StewBerth) (b c : Nat) (hl : xs.length ≤ 1048576) :
  XC Try.prog 153 [.lsl 0 b xs.length c, .fn f caps] [(0, b, .arr 2 (xs.map StewBerth.D) c)] (fun d ls => (d = .lsl 0 b (xs.filter fun a => !q a).length c ∨ d = .lvw 0 b 0 0 (xs.filter fun a => !q a).length c) ∧ ls = [(0, b, .arr 2 ((xs.filter fun a => !q a).map StewBerth.D) c)]) := by
 refine XC.intro' hm [0] rfl c153 (Nat.le_of_ble_eq_true rfl) ?_
 conv => whnf
 repeat' (first | (refine g_op ?_; conv => whnf) | (refine And.intro ?_ ?_; (focus exact au0); conv => whnf) | (refine g_seq ?_) | (refine g_ops ?_) | (refine g_nil ?_; conv => whnf) | fail)
 refine XS.capLe 0 rfl fun hcp => ?_
 rw [List.length_map] at hcp
 have hix := indexF_StewBerth f caps q hn hq xs hl
 refine XS.go ?_
 repeat' (first | (refine g_op ?_; conv => whnf) | (refine And.intro ?_ ?_; (focus exact au0); conv => whnf) | (refine g_seq ?_) | (refine g_ops ?_) | fail)
 refine XCL.of_rdrB hix (.cons (Bor.rowM rfl rfl rfl (fun _ => rfl)) (.cons (Bor.refl _ _) .nil)) rfl ?_
 rcases idxN_cases (f := fun i => q (xs.getD i default)) (k := xs.length) (i := 0) with ⟨h1, h2⟩ | ⟨j0, h1, _, h3, h4⟩
 ·rw [h1]
  have hf : (xs.filter fun a => !q a) = xs := by
   have := filter_all (fun a => !q a) (xs := xs) (j := xs.length) (Nat.le_refl _) (fun m hm => by have := h2 m (Nat.zero_le _) (by omega); simp only [Bool.not_eq_true']; exact this)
   rwa [List.take_length] at this
  rw [hf]
  conv => whnf
  repeat' (first | (refine g_op ?_; conv => whnf) | (refine And.intro ?_ ?_; (focus exact au0); conv => whnf) | (refine g_seq ?_) | (refine XS.go ?_) | (refine g_ops ?_) | (refine g_nil ?_; conv => whnf) | (refine Br.t ?_ ?_; (focus (first | assumption | exact rfl)); conv => whnf) | ((first | refine g_cond ?_ | refine g_ret ?_ | refine r_t ?_ | refine r_nil ?_); conv => whnf) | fail)
  exact ⟨.inl rfl, rfl⟩
 have hmin := idxN_first h1
 rw [h1]
 have hd0 : DelI (fun a => !q a) xs j0 (j0 + 1) xs := DelI.start (by omega) (fun m hm => by have := hmin m (Nat.zero_le _) hm; simp only [Bool.not_eq_true']; exact this) (by simp only [Bool.not_eq_false']; exact h4)
 have hw0 : IntKind.wrap .i64 ((j0 : Int) + 1) = ((j0 + 1 : Nat) : Int) := by rw [wrap_ok (by omega) (by omega)]; rfl
 clear h1 h4 hmin hix
 conv => whnf
 repeat' (first | (refine g_op ?_; conv => whnf) | (refine And.intro ?_ ?_; (focus exact au0); conv => whnf) | (refine g_seq ?_) | (refine XS.go ?_) | (refine g_ops ?_) | (refine g_loop ?_) | (refine g_nil ?_; conv => whnf) | (refine Br.f ?_ ?_; (focus (first | assumption | exact rfl)); conv => whnf) | ((first | refine g_cond ?_ | refine g_skip ?_); conv => whnf) | (refine g_block ?_) | fail)
 refine XLc.mkG (α := Nat × Nat × List StewBerth) (fun y gs => DelI (fun a => !q a) xs y.1 y.2.1 y.2.2 ∧ gs 0 = b) (fun y => xs.length - y.2.1) (fun y gs => [.lsl 0 (gs 0) xs.length c, .fn f caps, .any, .any, .any, .int .i64 (y.1 : Int), .int .i64 (y.2.1 : Int)]) (fun y gs => [(0, .arr 2 (y.2.2.map StewBerth.D) c)]) (j0, j0 + 1, xs) ⟨hd0, rfl⟩ ?_ ?_
 ·refine ⟨?_, ?_⟩
  ·repeat' (first | exact True.intro | refine And.intro rfl ?_ | refine And.intro (congrArg (D.int .i64) hw0) ?_)
  ·exact ⟨rfl, True.intro⟩
 intro y gs hI
 obtain ⟨i, j, C⟩ := y
 obtain ⟨hD, hg⟩ := hI
 dsimp only at hD hg ⊢
 subst hg
 have hlen := hD.len
 have hij := hD.le
 have hjn := hD.ji
 repeat' (first | (refine g_op ?_; conv => whnf) | (refine And.intro ?_ ?_; (focus exact au0); conv => whnf) | (refine g_seq ?_) | (refine XS.go ?_) | (refine g_ops ?_) | ((first | refine g_nil ?_ | refine g_cond ?_); conv => whnf) | fail)
 refine Br.mk (fun hb => ?_) (fun hb => ?_)
 ·have hlt : j < xs.length := by simpa using hb
  clear hb
  have hj0 : j < (C.map StewBerth.D).length := by rw [List.length_map]; omega
  have he0 : (C.map StewBerth.D).getD j .any = (xs.getD j default).D := by rw [elt_map (by omega), hD.get hlt]
  have hj1 : i < (C.map StewBerth.D).length := by rw [List.length_map]; omega
  have he1 : (C.map StewBerth.D).getD i .any = (C.getD i default).D := elt_map (by omega)
  have hwj : IntKind.wrap .i64 ((j : Int) + 1) = ((j + 1 : Nat) : Int) := by rw [wrap_ok (by omega) (by omega)]; rfl
  have hwi : IntKind.wrap .i64 ((i : Int) + 1) = ((i + 1 : Nat) : Int) := by rw [wrap_ok (by omega) (by omega)]; rfl
  have hqj := hq (xs.getD j default)
  have hset : (C.map StewBerth.D).set i (xs.getD j default).D = (C.set i (xs.getD j default)).map StewBerth.D := by rw [List.map_set]
  cases hp : q (xs.getD j default) with
  | true =>
   rw [hp] at hqj
   conv => whnf
   repeat' (first | ((refine And.intro (noL_app rfl hn) ?_; conv => whnf)) | (refine z_ld1 ?_; first | (refine z_ld rfl rfl rfl rfl au1 au2 ?_; conv => whnf) | (refine z_ld0 rfl ?_; conv => whnf)) | (refine z_st1 ?_; first | (refine z_st rfl rfl rfl au1 au2 rfl rfl ?_; conv => whnf) | (refine z_st0 ?_; conv => whnf)) | (refine z_ix1 ?_; first | (refine z_ix rfl rfl rfl rfl rfl ⟨by first | omega | (simp only [decide_eq_true_eq, Bool.not_eq_true', Bool.or_eq_false_iff, decide_eq_false_iff_not, Bool.and_eq_true, Bool.not_eq_false'] at *; omega), by first | omega | (simp only [decide_eq_true_eq, Bool.not_eq_true', Bool.or_eq_false_iff, decide_eq_false_iff_not, Bool.and_eq_true, Bool.not_eq_false'] at *; omega)⟩ ?_; conv => whnf) | (refine z_ix0 rfl rfl ?_; conv => whnf)) | (refine z_op ?_ ?_; (focus exact rfl); conv => whnf) | (refine zs_ops ?_ ?_; (focus exact rfl)) | ((first | refine z_nil fun vals => ?_ | refine z_eff ?_ | refine g_op ?_); conv => whnf) | (refine And.intro ?_ ?_; (focus exact au0); conv => whnf) | (refine g_seq ?_) | (refine XS.go ?_) | (refine g_ops ?_) | (refine g_nil ?_; conv => whnf) | (refine Br.f ?_ ?_; (focus (first | assumption | exact rfl)); conv => whnf) | ((first | refine g_cond ?_ | refine g_skip ?_); conv => whnf) | (refine g_block ?_) | ((first | refine fun _ => ?_ | refine XCL.of_rdr (hqj) ?_); conv => whnf) | fail)
   refine ⟨(i, j + 1, C), ⟨hD.skip hlt (by rw [hp]; rfl), rfl⟩, by simp only; omega, ?_, ?_⟩
   ·repeat' (first | exact True.intro | refine And.intro (congrArg (D.int .i64) hwj) ?_ | refine And.intro rfl ?_)
   ·exact ⟨rfl, True.intro⟩
  | false =>
   rw [hp] at hqj
   conv => whnf
   repeat' (first | ((refine And.intro (noL_app rfl hn) ?_; conv => whnf)) | (refine z_ld1 ?_; first | (refine z_ld rfl rfl rfl rfl au1 au2 ?_; conv => whnf) | (refine z_ld0 rfl ?_; conv => whnf)) | (refine z_st1 ?_; first | (refine z_st rfl rfl rfl au1 au2 rfl rfl ?_; conv => whnf) | (refine z_st0 ?_; conv => whnf)) | (refine z_ix1 ?_; first | (refine z_ix rfl rfl rfl rfl rfl ⟨by first | omega | (simp only [decide_eq_true_eq, Bool.not_eq_true', Bool.or_eq_false_iff, decide_eq_false_iff_not, Bool.and_eq_true, Bool.not_eq_false'] at *; omega), by first | omega | (simp only [decide_eq_true_eq, Bool.not_eq_true', Bool.or_eq_false_iff, decide_eq_false_iff_not, Bool.and_eq_true, Bool.not_eq_false'] at *; omega)⟩ ?_; conv => whnf) | (refine z_ix0 rfl rfl ?_; conv => whnf)) | (refine z_op ?_ ?_; (focus exact rfl); conv => whnf) | (refine zs_ops ?_ ?_; (focus exact rfl)) | ((first | refine z_nil fun vals => ?_ | refine z_eff ?_ | refine g_op ?_); conv => whnf) | (refine And.intro ?_ ?_; (focus exact au0); conv => whnf) | (refine g_seq ?_) | (refine XS.go ?_) | (refine g_ops ?_) | (refine g_nil ?_; conv => whnf) | (refine Br.t ?_ ?_; (focus (first | assumption | exact rfl)); conv => whnf) | ((first | refine g_cond ?_ | refine g_skip ?_); conv => whnf) | (refine g_block ?_) | ((first | refine fun _ => ?_ | refine XCL.of_rdr (hqj) ?_); conv => whnf) | fail)
   refine ⟨(i + 1, j + 1, C.set i (xs.getD j default)), ⟨hD.keep hlt (by rw [hp]; rfl), rfl⟩, by simp only; omega, ?_, ?_⟩
   ·repeat' (first | exact True.intro | refine And.intro (congrArg (D.int .i64) hwj) ?_ | refine And.intro (congrArg (D.int .i64) hwi) ?_ | refine And.intro rfl ?_)
   ·exact ⟨congrArg (fun l => some (D.arr 2 l c)) hset, True.intro⟩
 have hj : j = xs.length := by
  have : ¬ j < xs.length := by simpa using hb
  omega
 subst hj
 clear hb
 have hfin : C.take i = xs.filter (fun a => !q a) := by rw [hD.done, List.take_length]
 have hfl : (xs.filter fun a => !q a).length = i := by rw [← hfin, List.length_take]; omega
 conv => whnf
 repeat' (first | (refine g_exit ?_; conv => whnf) | fail)
 refine XS.cut 0 i rfl (by rw [← List.map_take, hfin]) ?_
 refine XS.go ?_
 rw [← hfl] at hij ⊢
 have hle : (((xs.filter fun a => !q a).length : Nat) : Int) ≤ ((xs.length : Nat) : Int) := by omega
 have hlc : ((xs.length : Nat) : Int) ≤ ((c : Nat) : Int) := by omega
 have hkn : ((xs.filter fun a => !q a).map StewBerth.D).length ≤ (((xs.filter fun a => !q a).length : Nat) : Int).toNat := by simp
 have hup : (((xs.filter fun a => !q a).length : Nat) : Int).toNat + (((xs.length : Nat) : Int) - (((xs.filter fun a => !q a).length : Nat) : Int)).toNat ≤ c := by omega
 have h0c : (((xs.filter fun a => !q a).length : Nat) : Int) ≤ ((c : Nat) : Int) := by omega
 repeat' (first | ((refine And.intro hle ?_; conv => whnf)) | ((refine And.intro hlc ?_; conv => whnf)) | ((refine And.intro hkn ?_; conv => whnf)) | ((refine And.intro hup ?_; conv => whnf)) | ((refine And.intro h0c ?_; conv => whnf)) | (refine g_op ?_; conv => whnf) | (refine And.intro ?_ ?_; (focus exact au0); conv => whnf) | (refine g_seq ?_) | (refine XS.go ?_) | (refine g_ops ?_) | ((first | refine g_nil ?_ | refine g_ret ?_ | refine r_t ?_ | refine r_nil ?_); conv => whnf) | fail)
 exact ⟨.inr rfl, rfl⟩
theorem delF_StewBerth (f : Nat) (caps : List Go.Ab.D) (q : StewBerth → Bool) (hn : caps.all D.noL = true) (hq : ∀ a : StewBerth, Rdr Try.prog f (a.D :: caps) (.bool (q a))) (s : Nat) (xs : List StewBerth) (b c : Nat) (hl : xs.length ≤ 1048576) :
  XC Try.prog 153 [.lsl s b xs.length c, .fn f caps] [(s, b, .arr 2 (xs.map StewBerth.D) c)] (fun d ls => d = .lsl s b (xs.filter fun a => !q a).length c ∧ ls = [(s, b, .arr 2 ((xs.filter fun a => !q a).map StewBerth.D) c)]) := by
 refine (delF0_StewBerth f caps q hn hq xs b c hl).ren (fun _ _ _ h => h) rfl (fun d ls ⟨h1, h2⟩ => ?_)
 subst h2
 refine ⟨_, _, ⟨rfl, rfl⟩, fun _ _ _ h => HolL.ren rfl h, fun U w v hv => ?_⟩
 rcases h1 with h1 | h1
 ·subst h1
  exact hv
 ·subst h1
  exact hv
def cf150 : CF := ⟨19,[.t 4],(.seq (.ops [Ok 4 (.int .i64 0)]) (.seq (.seq (.ops [Om 6 0,Og 7 6,Ok 8 (.int .i64 0)]) (.block 0 (.loop (.seq (.ops [Ob 9 .lss 8 7]) (.seq (.cond (.t 9) .skip (.exit 0)) (.seq (.block 1 (.seq (.ops [Om 10 8,Om 5 10]) (.seq (.ops [Om 11 1,Om 12 0,Om 13 5,Ox 14 13 12 13,Od 15 13 14,Oo 16 (.callv (.t 11) [(.t 15)])]) (.cond (.t 16) (.seq (.ops [Om 17 5,Om 4 17]) .ret) .skip)))) (.ops [Oi 18 8,Om 8 18]))))))) (.seq (.ops [Ok 4 (.int .i64 (-1))]) .ret)))⟩
theorem c150 : compileF Try.prog [] 150 = some cf150 := by kernel_rfl
theorem indexF_StewService (f : Nat) (caps : List Go.Ab.D) (q : StewService → Bool) (hn : caps.all D.noL = true) (hq : ∀ a : StewService, Rdr Try.prog f (a.D :: caps) (.bool (q a))) (xs : List StewService) (hl : xs.length ≤ 1048576) : Rdr Try.prog 150 [.ro 13 (xs.map StewService.D), .fn f caps] (.int .i64 (idxN (fun i => q (xs.getD i default)) xs.length 0)) := by
 refine Rdr.intro' hm c150 (Nat.le_of_ble_eq_true rfl) ?_
 conv => whnf
 repeat' (first | (refine g_op ?_; conv => whnf) | (refine And.intro ?_ ?_; (focus exact au0); conv => whnf) | (refine g_seq ?_) | (refine XS.go ?_) | (refine g_ops ?_) | (refine g_loop ?_) | (refine g_nil ?_; conv => whnf) | (refine g_block ?_) | fail)
 refine XLc.mkL (α := Nat) (fun i => i ≤ xs.length ∧ idxN (fun i => q (xs.getD i default)) xs.length 0 = idxN (fun i => q (xs.getD i default)) (xs.length - i) i) (fun i => xs.length - i) (fun i gs => [.ro 13 (xs.map StewService.D), .fn f caps, .any, .any, .any, .any, .any, .int .i64 ((xs.map StewService.D).length : Int), .int .i64 (i : Int)]) (fun i gs => []) 0 ⟨Nat.zero_le _, rfl⟩ ?_ ?_
 ·refine ⟨?_, ?_⟩
  ·repeat' (first | exact True.intro | refine And.intro rfl ?_)
  ·repeat' (first | exact True.intro | refine And.intro rfl ?_)
 intro i gs hI
 obtain ⟨hi, hN⟩ := hI
 repeat' (first | (refine g_op ?_; conv => whnf) | (refine And.intro ?_ ?_; (focus exact au0); conv => whnf) | (refine g_seq ?_) | (refine XS.go ?_) | (refine g_ops ?_) | ((first | refine g_nil ?_ | refine g_cond ?_); conv => whnf) | fail)
 refine Br.mk (fun hb => ?_) (fun hb => ?_)
 ·have hlt : i < xs.length := by simpa using hb
  have hw : IntKind.wrap .i64 ((i : Int) + 1) = ((i + 1 : Nat) : Int) := by rw [wrap_ok (by omega) (by omega)]; rfl
  have hit := fun h => idxN_hit (f := fun i => q (xs.getD i default)) hlt hN h
  have miss := fun h => idxN_miss (f := fun i => q (xs.getD i default)) hlt hN h
  clear hN hb
  conv => whnf
  repeat' (first | ((refine And.intro (noL_app rfl hn) ?_; conv => whnf)) | (refine z_ld1 ?_; first | (refine z_ld rfl rfl rfl rfl au1 au2 ?_; conv => whnf) | (refine z_ld0 rfl ?_; conv => whnf)) | (refine z_ix1 ?_; first | (refine z_ix rfl rfl rfl rfl rfl ⟨by first | omega | (simp only [decide_eq_true_eq, Bool.not_eq_true', Bool.or_eq_false_iff, decide_eq_false_iff_not, Bool.and_eq_true, Bool.not_eq_false'] at *; omega), by first | omega | (simp only [decide_eq_true_eq, Bool.not_eq_true', Bool.or_eq_false_iff, decide_eq_false_iff_not, Bool.and_eq_true, Bool.not_eq_false'] at *; omega)⟩ ?_; conv => whnf) | (refine z_ix0 rfl rfl ?_; conv => whnf)) | (refine z_op ?_ ?_; (focus exact rfl); conv => whnf) | (refine zs_ops ?_ ?_; (focus exact rfl)) | ((first | refine z_nil fun vals => ?_ | refine z_eff ?_ | refine g_op ?_); conv => whnf) | (refine And.intro ?_ ?_; (focus exact au0); conv => whnf) | (refine g_seq ?_) | (refine XS.go ?_) | (refine g_ops ?_) | ((first | refine g_nil ?_ | refine g_cond ?_ | refine g_skip ?_ | refine g_ret ?_); conv => whnf) | (refine g_block ?_) | ((first | refine r_t ?_ | refine r_nil ?_); conv => whnf) | (refine Br.mk (fun hb => ?_) (fun hb => ?_) <;> conv => whnf) | (refine XCL.of_rdr (hq (xs.getD (i : Int).toNat default)) ?_; conv => whnf) | fail)
  all_goals
   first
   | ((conv => lhs; whnf); first | (rw [hit hb]; done) | (rw [hit hb]; rfl) | fail)
   |(refine ⟨i + 1, ⟨by omega, miss hb⟩, by omega, ?_, ?_⟩
     ·repeat' (first | exact True.intro | refine And.intro (congrArg (D.int .i64) hw) ?_ | refine And.intro rfl ?_)
     ·repeat' (first | exact True.intro | refine And.intro rfl ?_))
 have hge : ¬ i < xs.length := by simpa using hb
 have hend : idxN (fun i => q (xs.getD i default)) xs.length 0 = -1 := by rw [hN, idxN_end hge]
 clear hN
 conv => whnf
 repeat' (first | (refine g_op ?_; conv => whnf) | (refine And.intro ?_ ?_; (focus exact au0); conv => whnf) | (refine g_seq ?_) | (refine XS.go ?_) | (refine g_ops ?_) | ((first | refine g_nil ?_ | refine g_ret ?_ | refine g_exit ?_ | refine r_t ?_ | refine r_nil ?_); conv => whnf) | fail)
 ((conv => lhs; whnf); first | (rw [hend]; done) | (rw [hend]; rfl))
end Go.Ab
