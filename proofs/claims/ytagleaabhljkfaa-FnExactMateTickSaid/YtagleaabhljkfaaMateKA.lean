/- Steps towards the law: the machine, contracts of functions and facts of lists. -/
import Derived.Test.YtagleaabhljkfaaMateS
import Derived.Test.YtagleaabhljkfaaAb11
import Derived.Test.YtagleaabhljkfaaRows
set_option linter.unusedSimpArgs false
set_option linter.unusedVariables false
namespace Go.Ab
open Go Go.RowKit Go.Proofs
attribute [local irreducible] XC Rdr IntKind.wrap xw xos xqs xr xd
set_option maxRecDepth 100000
set_option maxHeartbeats 16000000
def cf108 : CF := ⟨25,[.c 4 7 true,.t 5],(.seq (.ops [Oo 4 (.al (.agg [.str ⟨#[]⟩,.int .i64 0,.str ⟨#[]⟩,.int .i64 0,.int .i64 0,.int .i64 0,.int .i64 0])),Ok 5 (.bool false)]) (.seq (.seq (.ops [Ok 6 (.int .i64 0)]) (.block 0 (.loop (.seq (.seq (.ops [Om 7 6,Om 8 0,Og 9 8,Ob 10 .lss 7 9]) (.cond (.t 10) .skip (.exit 0))) (.seq (.block 1 (.seq (.ops [Om 13 0,Om 14 6,Ox 15 7 13 14,Of 16 0 15,Ol 17 16,Om 18 1,Ob 19 .eql 17 18]) (.cond (.t 19) (.seq (.ops [Om 20 0,Om 21 6,Ox 22 7 20 21,Od 23 7 22,Os 7 4 23,Ok 5 (.bool true)]) .ret) .skip))) (.ops [Om 11 6,Oi 12 11,Om 6 12])))))) (.seq (.ops [Oo 24 (.bld (.agg [.str ⟨#[]⟩,.int .i64 0,.str ⟨#[]⟩,.int .i64 0,.int .i64 0,.int .i64 0,.int .i64 0]) []),Os 7 4 24,Ok 5 (.bool false)]) .ret)))⟩
theorem c108 : compileF Try.prog [] 108 = some cf108 := by kernel_rfl
def cf112 : CF := ⟨24,[.c 4 7 true,.t 5],(.seq (.ops [Oo 4 (.al (.agg [.str ⟨#[]⟩,.int .i64 0,.str ⟨#[]⟩,.int .i64 0,.int .i64 0,.int .i64 0,.int .i64 0])),Ok 5 (.bool false)]) (.seq (.seq (.ops [Om 8 0,On 9 8,Of 10 5 9,Ol 11 10,Og 12 11,Ok 13 (.int .i64 0)]) (.block 0 (.loop (.seq (.ops [Ob 14 .lss 13 12]) (.seq (.cond (.t 14) .skip (.exit 0)) (.seq (.block 1 (.seq (.ops [Ox 15 7 11 13,Od 16 7 15,Oo 7 (.al (.agg [.str ⟨#[]⟩,.int .i64 0,.str ⟨#[]⟩,.int .i64 0,.int .i64 0,.int .i64 0,.int .i64 0])),Os 7 7 16]) (.seq (.ops [Of 17 0 7,Ol 18 17,Om 19 1,Ob 20 .eql 18 19]) (.cond (.t 20) (.seq (.ops [Od 21 7 7,Os 7 4 21,Ok 5 (.bool true)]) .ret) .skip)))) (.ops [Oi 22 13,Om 13 22]))))))) (.seq (.ops [Oo 23 (.bld (.agg [.str ⟨#[]⟩,.int .i64 0,.str ⟨#[]⟩,.int .i64 0,.int .i64 0,.int .i64 0,.int .i64 0]) []),Os 7 4 23,Ok 5 (.bool false)]) .ret)))⟩
theorem c112 : compileF Try.prog [] 112 = some cf112 := by kernel_rfl
def wantF (ws : List MateWant) (copy : ByteArray) (i : Nat) : Bool := (ws.getD i default).fCopy.toList == copy.toList
def wantI (ws : List MateWant) (copy : ByteArray) : Int := idxN (wantF ws copy) ws.length 0
def want0 : MateWant := ⟨⟨#[]⟩, 0, ⟨#[]⟩, 0, 0, 0, 0⟩
def wantR (ws : List MateWant) (copy : ByteArray) : MateWant × Bool := if wantI ws copy < 0 then (want0, false) else (ws.getD (wantI ws copy).toNat default, true)
theorem want_hit {ws : List MateWant} {copy : ByteArray} {i : Nat} (h : wantI ws copy = (i : Int)) : Go.Ab.D.tup [(ws.getD i default).D, .bool true] = .tup [(wantR ws copy).1.D, .bool (wantR ws copy).2] := by
 unfold wantR
 rw [h, if_neg (by omega)]
 rfl
theorem want_end {ws : List MateWant} {copy : ByteArray} (h : wantI ws copy = -1) : Go.Ab.D.tup [want0.D, .bool false] = .tup [(wantR ws copy).1.D, .bool (wantR ws copy).2] := by
 unfold wantR
 rw [h, if_pos (by omega)]
theorem spec_Want (ws : List MateWant) (copy : ByteArray) (hl : ws.length ≤ 1048576) : Rdr Try.prog 108 [.ro 7 (ws.map MateWant.D), .str copy] (.tup [(wantR ws copy).1.D, .bool (wantR ws copy).2]) := by
 refine Rdr.intro' hm c108 (Nat.le_of_ble_eq_true rfl) ?_
 conv => whnf
 repeat' (first | (refine g_op ?_; conv => whnf) | (refine And.intro ?_ ?_; (focus exact au0); conv => whnf) | (refine g_seq ?_) | (refine XS.go ?_) | (refine g_ops ?_) | (refine g_loop ?_) | (refine g_nil ?_; conv => whnf) | (refine g_block ?_) | (refine fun _ => ?_; conv => whnf) | fail)
 refine XLc.mkL (α := Nat) (fun i => i ≤ ws.length ∧ wantI ws copy = idxN (wantF ws copy) (ws.length - i) i) (fun i => ws.length - i) (fun i gs => [.ro 7 (ws.map MateWant.D), .str copy, .any, .any, .lref 4 (gs 4) [] 0, .bool false, .int .i64 (i : Int)]) (fun i gs => [none, none, none, none, some want0.D]) 0 ⟨Nat.zero_le _, rfl⟩ ?_ ?_
 ·refine ⟨?_, ?_⟩
  ·repeat' (first | exact True.intro | refine And.intro rfl ?_)
  ·repeat' (first | exact True.intro | refine And.intro rfl ?_)
 intro i gs hI
 obtain ⟨hi, hN⟩ := hI
 repeat' (first | (refine g_op ?_; conv => whnf) | (refine And.intro ?_ ?_; (focus exact au0); conv => whnf) | (refine g_seq ?_) | (refine XS.go ?_) | (refine g_ops ?_) | ((first | refine g_nil ?_ | refine g_cond ?_); conv => whnf) | fail)
 refine Br.mk (fun hb => ?_) (fun hb => ?_)
 ·have hlt : i < ws.length := by simpa using hb
  have hw : IntKind.wrap .i64 ((i : Int) + 1) = ((i + 1 : Nat) : Int) := by rw [wrap_ok (by omega) (by omega)]; rfl
  have hit := fun h => idxN_hit (f := wantF ws copy) hlt hN h
  have miss := fun h => idxN_miss (f := wantF ws copy) hlt hN h
  clear hN hb
  conv => whnf
  repeat' (first | (refine z_ld1 ?_; first | (refine z_ld rfl rfl rfl rfl au1 au2 ?_; conv => whnf) | (refine z_ld0 rfl ?_; conv => whnf)) | (refine z_st1 ?_; first | (refine z_st rfl rfl rfl au1 au2 rfl rfl ?_; conv => whnf) | (refine z_st0 ?_; conv => whnf)) | (refine z_ix1 ?_; first | (refine z_ix rfl rfl rfl rfl rfl ⟨by first | omega | (simp only [decide_eq_true_eq, Bool.not_eq_true', Bool.or_eq_false_iff, decide_eq_false_iff_not, Bool.and_eq_true, Bool.not_eq_false'] at *; omega), by first | omega | (simp only [decide_eq_true_eq, Bool.not_eq_true', Bool.or_eq_false_iff, decide_eq_false_iff_not, Bool.and_eq_true, Bool.not_eq_false'] at *; omega)⟩ ?_; conv => whnf) | (refine z_ix0 rfl rfl ?_; conv => whnf)) | (refine z_op ?_ ?_; (focus exact rfl); conv => whnf) | (refine zs_ops ?_ ?_; (focus exact rfl)) | ((first | refine z_nil fun vals => ?_ | refine g_op ?_); conv => whnf) | (refine And.intro ?_ ?_; (focus exact au0); conv => whnf) | (refine g_seq ?_) | (refine XS.go ?_) | (refine g_ops ?_) | ((first | refine g_nil ?_ | refine g_cond ?_ | refine g_skip ?_ | refine g_ret ?_); conv => whnf) | (refine g_block ?_) | ((first | refine r_t ?_ | refine r_c ?_ | refine r_nil ?_); conv => whnf) | (refine Br.mk (fun hb => ?_) (fun hb => ?_) <;> conv => whnf) | fail)
  all_goals
   first
   | (exact want_hit (hit hb))
   |(refine ⟨i + 1, ⟨by omega, miss hb⟩, by omega, ?_, ?_⟩
     ·repeat' (first | exact True.intro | refine And.intro (congrArg (D.int .i64) hw) ?_ | refine And.intro rfl ?_)
     ·repeat' (first | exact True.intro | refine And.intro rfl ?_))
 have hge : ¬ i < ws.length := by simpa using hb
 have hend : wantI ws copy = -1 := by rw [hN, idxN_end hge]
 clear hN
 conv => whnf
 repeat' (first | (refine z_st1 ?_; first | (refine z_st rfl rfl rfl au1 au2 rfl rfl ?_; conv => whnf) | (refine z_st0 ?_; conv => whnf)) | (refine z_op ?_ ?_; (focus exact rfl); conv => whnf) | (refine zs_ops ?_ ?_; (focus exact rfl)) | (refine z_nil fun vals => ?_; conv => whnf) | (refine And.intro ?_ ?_; (focus exact au0); conv => whnf) | (refine g_seq ?_) | (refine XS.go ?_) | ((first | refine g_ret ?_ | refine g_exit ?_ | refine r_t ?_ | refine r_c ?_ | refine r_nil ?_); conv => whnf) | fail)
 (exact want_end hend)
theorem impl_want (x : Mate) (copy : ByteArray) (hl : x.fWants.length ≤ 1048576) : Rdr Try.prog 112 [.cref x.D, .str copy] (.tup [(wantR x.fWants copy).1.D, .bool (wantR x.fWants copy).2]) := by
 refine Rdr.intro' hm c112 (Nat.le_of_ble_eq_true rfl) ?_
 conv => whnf
 repeat' (first | (refine z_ld1 ?_; first | (refine z_ld rfl rfl rfl rfl au1 au2 ?_; conv => whnf) | (refine z_ld0 rfl ?_; conv => whnf)) | (refine z_op ?_ ?_; (focus exact rfl); conv => whnf) | (refine zs_ops ?_ ?_; (focus exact rfl)) | ((first | refine z_nil fun vals => ?_ | refine g_op ?_); conv => whnf) | (refine And.intro ?_ ?_; (focus exact au0); conv => whnf) | (refine g_seq ?_) | (refine XS.go ?_) | (refine g_ops ?_) | (refine g_loop ?_) | (refine g_nil ?_; conv => whnf) | (refine g_block ?_) | (refine fun _ => ?_; conv => whnf) | fail)
 refine XLc.mkL (α := Nat) (fun i => i ≤ x.fWants.length ∧ wantI x.fWants copy = idxN (wantF x.fWants copy) (x.fWants.length - i) i) (fun i => x.fWants.length - i) (fun i gs => [.cref x.D, .str copy, .any, .any, .lref 4 (gs 4) [] 0, .bool false, .any, .any, .any, .any, .any, .ro 7 (x.fWants.map MateWant.D), .int .i64 ((x.fWants.map MateWant.D).length : Int), .int .i64 (i : Int)]) (fun i gs => [none, none, none, none, some want0.D]) 0 ⟨Nat.zero_le _, rfl⟩ ?_ ?_
 ·refine ⟨?_, ?_⟩
  ·repeat' (first | exact True.intro | refine And.intro rfl ?_)
  ·repeat' (first | exact True.intro | refine And.intro rfl ?_)
 intro i gs hI
 obtain ⟨hi, hN⟩ := hI
 repeat' (first | (refine g_op ?_; conv => whnf) | (refine And.intro ?_ ?_; (focus exact au0); conv => whnf) | (refine g_seq ?_) | (refine XS.go ?_) | (refine g_ops ?_) | ((first | refine g_nil ?_ | refine g_cond ?_); conv => whnf) | fail)
 refine Br.mk (fun hb => ?_) (fun hb => ?_)
 ·have hlt : i < x.fWants.length := by simpa using hb
  have hw : IntKind.wrap .i64 ((i : Int) + 1) = ((i + 1 : Nat) : Int) := by rw [wrap_ok (by omega) (by omega)]; rfl
  have hit := fun h => idxN_hit (f := wantF x.fWants copy) hlt hN h
  have miss := fun h => idxN_miss (f := wantF x.fWants copy) hlt hN h
  clear hN hb
  conv => whnf
  repeat' (first | (refine z_ld1 ?_; first | (refine z_ld rfl rfl rfl rfl au1 au2 ?_; conv => whnf) | (refine z_ld0 rfl ?_; conv => whnf)) | (refine z_st1 ?_; first | (refine z_st rfl rfl rfl au1 au2 rfl rfl ?_; conv => whnf) | (refine z_st0 ?_; conv => whnf)) | (refine z_ix1 ?_; first | (refine z_ix rfl rfl rfl rfl rfl ⟨by first | omega | (simp only [decide_eq_true_eq, Bool.not_eq_true', Bool.or_eq_false_iff, decide_eq_false_iff_not, Bool.and_eq_true, Bool.not_eq_false'] at *; omega), by first | omega | (simp only [decide_eq_true_eq, Bool.not_eq_true', Bool.or_eq_false_iff, decide_eq_false_iff_not, Bool.and_eq_true, Bool.not_eq_false'] at *; omega)⟩ ?_; conv => whnf) | (refine z_ix0 rfl rfl ?_; conv => whnf)) | (refine z_op ?_ ?_; (focus exact rfl); conv => whnf) | (refine zs_ops ?_ ?_; (focus exact rfl)) | ((first | refine z_nil fun vals => ?_ | refine z_eff ?_ | refine g_op ?_); conv => whnf) | (refine And.intro ?_ ?_; (focus exact au0); conv => whnf) | (refine g_seq ?_) | (refine XS.go ?_) | (refine g_ops ?_) | ((first | refine g_nil ?_ | refine g_cond ?_ | refine g_skip ?_ | refine g_ret ?_); conv => whnf) | (refine g_block ?_) | ((first | refine r_t ?_ | refine r_c ?_ | refine r_nil ?_ | refine fun _ => ?_); conv => whnf) | (refine Br.mk (fun hb => ?_) (fun hb => ?_) <;> conv => whnf) | fail)
  all_goals
   first
   | (exact want_hit (hit hb))
   |(refine ⟨i + 1, ⟨by omega, miss hb⟩, by omega, ?_, ?_⟩
     ·repeat' (first | exact True.intro | refine And.intro (congrArg (D.int .i64) hw) ?_ | refine And.intro rfl ?_)
     ·repeat' (first | exact True.intro | refine And.intro rfl ?_))
 have hge : ¬ i < x.fWants.length := by simpa using hb
 have hend : wantI x.fWants copy = -1 := by rw [hN, idxN_end hge]
 clear hN
 conv => whnf
 repeat' (first | (refine z_st1 ?_; first | (refine z_st rfl rfl rfl au1 au2 rfl rfl ?_; conv => whnf) | (refine z_st0 ?_; conv => whnf)) | (refine z_op ?_ ?_; (focus exact rfl); conv => whnf) | (refine zs_ops ?_ ?_; (focus exact rfl)) | (refine z_nil fun vals => ?_; conv => whnf) | (refine And.intro ?_ ?_; (focus exact au0); conv => whnf) | (refine g_seq ?_) | (refine XS.go ?_) | ((first | refine g_ret ?_ | refine g_exit ?_ | refine r_t ?_ | refine r_c ?_ | refine r_nil ?_); conv => whnf) | fail)
 (exact want_end hend)
end Go.Ab
