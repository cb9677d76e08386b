/- Steps towards the law: the machine, contracts of functions and facts of lists. -/
import Derived.Test.YtagleaabhljkfaaMateW
import Derived.Test.YtagleaabhljkfaaRows
set_option linter.unusedSimpArgs false
set_option linter.unusedVariables false
namespace Go.Ab
open Go Go.RowKit Go.Proofs
attribute [local irreducible] XC Rdr IntKind.wrap xw xos xqs xr xd
set_option maxRecDepth 100000
set_option maxHeartbeats 16000000
def cf31 : CF := ⟨34,[.t 4],(.seq (.ops [Ok 4 (.nil)]) (.seq (.ops [Oo 8 (.bsl (.agg [.agg [.str ⟨#[]⟩,.int .i64 0,.str ⟨#[]⟩,.int .i64 0,.int .i64 0,.int .i64 0,.int .i64 0],.int .i64 0,.int .i64 0,.int .i64 0,.int .i64 0]) 0 []),Om 5 8]) (.seq (.seq (.ops [Ok 6 (.int .i64 0)]) (.block 0 (.loop (.seq (.seq (.ops [Om 9 6,Om 10 0,Og 11 10,Ob 12 .lss 9 11]) (.cond (.t 12) .skip (.exit 0))) (.seq (.block 1 (.seq (.ops [Om 15 0,Om 16 6,Ox 17 11 15 16,Od 18 11 17,Oo 7 (.al (.agg [.agg [.str ⟨#[]⟩,.int .i64 0,.str ⟨#[]⟩,.int .i64 0,.int .i64 0,.int .i64 0,.int .i64 0],.int .i64 0,.int .i64 0,.int .i64 0,.int .i64 0])),Os 11 7 18]) (.seq (.seq (.ops [Od 19 11 7,Oc 20 15 [.t 19],Om 21 20,⟨some 22,.ld 11 true (.t 7),some (21,true)⟩,⟨some 23,.mv (.t 1),some (21,true)⟩,⟨some 24,.call 76 [.t 22,.t 23],some (21,true)⟩,⟨some 25,.not (.t 24),some (21,true)⟩,Oo 26 (.pick (.t 21) (.t 25) (.k (.bool false)))]) (.cond (.t 26) (.seq (.ops [Oo 27 (.fa 7 1 1 (.t 7)),⟨none,.st 1 (.t 27) (.k (.int .i64 2)),none⟩]) (.ops [Oo 28 (.fa 8 1 2 (.t 7)),⟨none,.st 1 (.t 28) (.k (.int .i64 0)),none⟩])) .skip)) (.ops [Om 29 5,Od 30 11 7,Oo 31 (.bsl (.agg [.agg [.str ⟨#[]⟩,.int .i64 0,.str ⟨#[]⟩,.int .i64 0,.int .i64 0,.int .i64 0,.int .i64 0],.int .i64 0,.int .i64 0,.int .i64 0,.int .i64 0]) 1 [(0,(.t 30))]),Oo 32 (.app 11 104 (.t 29) (.t 31)),Om 5 32])))) (.ops [Om 13 6,Oi 14 13,Om 6 14])))))) (.seq (.ops [Om 33 5,Om 4 33]) .ret))))⟩
theorem c31 : compileF Try.prog [] 31 = some cf31 := by kernel_rfl
def cf32 : CF := ⟨47,[.t 4],(.seq (.ops [Ok 4 (.nil)]) (.seq (.ops [Om 8 0,Oo 9 (.app 11 104 (.k (.nil)) (.t 8)),Om 5 9]) (.seq (.seq (.ops [Om 10 5,Og 11 10,Ok 12 (.int .i64 0)]) (.block 0 (.loop (.seq (.ops [Ob 13 .lss 12 11]) (.seq (.cond (.t 13) .skip (.exit 0)) (.seq (.block 1 (.seq (.ops [Om 14 12,Om 6 14]) (.seq (.ops [Om 15 5,Om 16 6,Ox 17 11 15 16,Om 7 17]) (.seq (.ops [Om 18 7,On 19 18,Od 20 11 19,Oc 21 17 [.t 20],Om 22 21,⟨some 23,.mv (.t 7),some (22,true)⟩,⟨some 24,.nilc (.t 23),some (22,true)⟩,⟨some 25,.fa 0 7 0 (.t 24),some (22,true)⟩,⟨some 26,.fa 2 1 2 (.t 25),some (22,true)⟩,⟨some 27,.ld 1 false (.t 26),some (22,true)⟩,⟨some 28,.bin .neq (.t 27) (.k (.str ⟨#[]⟩)),some (22,true)⟩,Oo 29 (.pick (.t 22) (.t 28) (.k (.bool false))),Om 30 29,⟨some 31,.mv (.t 7),some (30,true)⟩,⟨some 32,.nilc (.t 31),some (30,true)⟩,⟨some 33,.fa 10 1 4 (.t 32),some (30,true)⟩,⟨some 34,.ld 1 false (.t 33),some (30,true)⟩,⟨some 35,.mv (.t 1),some (30,true)⟩,⟨some 36,.bin .add (.t 35) (.k (.int .i64 4)),some (30,true)⟩,⟨some 37,.bin .lss (.t 34) (.t 36),some (30,true)⟩,Oo 38 (.pick (.t 30) (.t 37) (.k (.bool false)))]) (.cond (.t 38) (.ops [Om 39 7,Om 40 7,On 41 39,Oo 42 (.fa 7 1 1 (.t 41)),⟨none,.st 1 (.t 42) (.k (.int .i64 2)),none⟩,On 43 40,Oo 44 (.fa 8 1 2 (.t 43)),⟨none,.st 1 (.t 44) (.k (.int .i64 0)),none⟩]) .skip))))) (.ops [Oi 45 12,Om 12 45]))))))) (.seq (.ops [Om 46 5,Om 4 46]) .ret))))⟩
theorem c32 : compileF Try.prog [] 32 = some cf32 := by kernel_rfl
def wdog (r : MateRun) (c : Int) : MateRun := if alive r && !leased r c then { r with fState := 2, fLeft := 0 } else r
theorem spec_Watchdog (xs : List MateRun) (c : Int) (hl : xs.length ≤ 1048576) : Rdr Try.prog 31 [.ro 11 (xs.map MateRun.D), .int .i64 c] (.ro 11 ((xs.map fun r => wdog r c).map MateRun.D)) := by
 refine Rdr.introF hm [32] rfl c31 (Nat.le_of_ble_eq_true rfl) ?_
 conv => whnf
 repeat' (first | (refine g_op ?_; conv => whnf) | (refine And.intro ?_ ?_; (focus exact au0); conv => whnf) | (refine g_seq ?_) | (refine g_ops ?_) | (refine g_nil ?_; conv => whnf) | fail)
 refine XS.go ?_
 repeat' (first | (refine g_op ?_; conv => whnf) | (refine And.intro ?_ ?_; (focus exact au0); conv => whnf) | (refine g_seq ?_) | (refine g_ops ?_) | (refine g_nil ?_; conv => whnf) | fail)
 refine XS.own 5 32 11 rfl fun b => ?_
 repeat' (first | (refine g_op ?_; conv => whnf) | (refine And.intro ?_ ?_; (focus exact au0); conv => whnf) | (refine g_seq ?_) | (refine XS.go ?_) | (refine g_ops ?_) | (refine g_loop ?_) | (refine g_nil ?_; conv => whnf) | (refine g_block ?_) | fail)
 refine XLc.mkA (α := Nat × Nat) (fun i => i.1 ≤ xs.length ∧ i.1 ≤ i.2) (fun i => xs.length - i.1) (fun i gs => [.ro 11 (xs.map MateRun.D), .int .i64 c, .any, .any, .nil, .lsl 32 (gs 32) i.1 i.2, .int .i64 (i.1 : Int)]) (fun i gs => [(32, .arr 11 ((xs.take i.1).map fun r => (wdog r c).D) i.2)]) (0, 0) ⟨Nat.zero_le _, Nat.le_refl _⟩ ?_ ?_
 ·refine ⟨?_, ?_⟩
  ·repeat' (first | exact True.intro | refine And.intro rfl ?_)
  ·refine And.intro rfl True.intro
 intro i gs hI
 obtain ⟨i, cp⟩ := i
 obtain ⟨hi0, hi1⟩ := hI
 simp only at hi0 hi1
 dsimp only
 repeat' (first | (refine g_op ?_; conv => whnf) | (refine And.intro ?_ ?_; (focus exact au0); conv => whnf) | (refine g_seq ?_) | (refine XS.go ?_) | (refine g_ops ?_) | ((first | refine g_nil ?_ | refine g_cond ?_); conv => whnf) | fail)
 refine Br.mk (fun hb => ?_) (fun hb => ?_)
 ·have hlt : i < xs.length := by simpa using hb
  have hfin : ∀ d, d = (wdog (xs.getD i default) c).D → ((xs.take i).map fun r => (wdog r c).D) ++ [d] = (xs.take (i + 1)).map fun r => (wdog r c).D := fun d h => by rw [h]; exact take_snoc (fun r => (wdog r c).D) hlt
  conv => whnf
  repeat' (first | (refine z_ld1 ?_; first | (refine z_ld rfl rfl rfl rfl au1 au2 ?_; conv => whnf) | (refine z_ld0 rfl ?_; conv => whnf)) | (refine z_ld1g ?_; first | (refine z_ldg rfl rfl rfl rfl rfl rfl rfl (by (repeat intro _); exact ⟨au1, au2⟩) rfl rfl rfl rfl ?_; conv => whnf) | (refine z_ld0g ?_; (conv => whnf); refine And.intro ?_ ?_; (focus exact rfl); conv => whnf)) | (refine z_st1 ?_; first | (refine z_st rfl rfl rfl au1 au2 rfl rfl ?_; conv => whnf) | (refine z_st0 ?_; conv => whnf)) | (refine z_ix1 ?_; first | (refine z_ix rfl rfl rfl rfl rfl ⟨by first | omega | (simp only [decide_eq_true_eq, Bool.not_eq_true', Bool.or_eq_false_iff, decide_eq_false_iff_not, Bool.and_eq_true, Bool.not_eq_false'] at *; omega), by first | omega | (simp only [decide_eq_true_eq, Bool.not_eq_true', Bool.or_eq_false_iff, decide_eq_false_iff_not, Bool.and_eq_true, Bool.not_eq_false'] at *; omega)⟩ ?_; conv => whnf) | (refine z_ix0 rfl rfl ?_; conv => whnf)) | (refine z_op ?_ ?_; (focus exact rfl); conv => whnf) | (refine z_opg0 ?_; (conv => whnf); refine And.intro ?_ ?_; (focus exact rfl); conv => whnf) | (refine z_pick ?_ ?_; (focus exact rfl); conv => whnf) | (refine zs_ops ?_ ?_; (focus exact rfl)) | (refine z_nil fun vals => ?_; conv => whnf) | (refine z_call ?_ ?_; (focus exact rfl)) | (refine z_eff ?_; conv => whnf) | (refine z_callg0 ?_; (conv => whnf); refine And.intro ?_ ?_; (focus exact rfl)) | (refine RC.of (spec_Alive (xs.getD i default)) ?_ ?_; (focus exact rfl); conv => whnf) | (refine RC.of (spec_Leased (xs.getD i default) _) ?_ ?_; (focus exact rfl); conv => whnf) | (refine And.intro ?_ ?_; (focus exact au0); conv => whnf) | (refine g_seq ?_) | (refine XS.go ?_) | ((first | refine g_cond ?_ | refine g_skip ?_); conv => whnf) | (refine g_block ?_) | (refine fun _ => ?_; conv => whnf) | (refine Br.mk (fun hb => ?_) (fun hb => ?_) <;> conv => whnf) | fail)
  ·have hel : wdog (xs.getD i default) c = { xs.getD i default with fState := 2, fLeft := 0 } := by simp only [wdog]; rw [if_pos hb]
   refine ⟨by simp; omega, rfl, ?_⟩
   conv => whnf
   refine ⟨rfl, ?_⟩
   conv => whnf
   refine ⟨rfl, rfl, rfl, ?_⟩
   conv => whnf
   refine ⟨?_, Nat.le_of_ble_eq_true rfl, (by decide), fun n' b' c' hn hc => ?_⟩
   ·show _ + 1 ≤ 1073741824
    rw [List.length_map, List.length_take]; omega
   have hn : n' = i + 1 := by
    rw [hn, List.length_map, List.length_take]
    show min i xs.length + 1 = _
    omega
   subst hn
   conv => whnf
   repeat' (first | (refine z_op ?_ ?_; (focus exact rfl); conv => whnf) | ((first | refine z_nil fun vals => ?_ | refine g_op ?_); conv => whnf) | (refine And.intro ?_ ?_; (focus exact au0); conv => whnf) | (refine XS.go ?_) | (refine g_ops ?_) | (refine g_nil ?_; conv => whnf) | fail)
   refine ⟨(i + 1, c'), ⟨by simp only; omega, by simp only; omega⟩, by simp only; omega, ?_, ?_⟩
   ·have hw : IntKind.wrap .i64 ((i : Int) + 1) = ((i + 1 : Nat) : Int) := by rw [wrap_ok (by omega) (by omega)]; rfl
    repeat' (first | exact True.intro | refine And.intro (congrArg (D.int .i64) hw) ?_ | refine And.intro rfl ?_)
   ·exact ⟨congrArg (fun l => some (D.arr 11 l c')) (hfin _ (by rw [hel]; rfl)), True.intro⟩
  ·have hel : wdog (xs.getD i default) c = xs.getD i default := by simp only [wdog]; rw [if_neg (by simp only [hb]; decide)]
   refine ⟨by simp; omega, rfl, ?_⟩
   conv => whnf
   refine ⟨rfl, ?_⟩
   conv => whnf
   refine ⟨rfl, rfl, rfl, ?_⟩
   conv => whnf
   refine ⟨?_, Nat.le_of_ble_eq_true rfl, (by decide), fun n' b' c' hn hc => ?_⟩
   ·show _ + 1 ≤ 1073741824
    rw [List.length_map, List.length_take]; omega
   have hn : n' = i + 1 := by
    rw [hn, List.length_map, List.length_take]
    show min i xs.length + 1 = _
    omega
   subst hn
   conv => whnf
   repeat' (first | (refine z_op ?_ ?_; (focus exact rfl); conv => whnf) | ((first | refine z_nil fun vals => ?_ | refine g_op ?_); conv => whnf) | (refine And.intro ?_ ?_; (focus exact au0); conv => whnf) | (refine XS.go ?_) | (refine g_ops ?_) | (refine g_nil ?_; conv => whnf) | fail)
   refine ⟨(i + 1, c'), ⟨by simp only; omega, by simp only; omega⟩, by simp only; omega, ?_, ?_⟩
   ·have hw : IntKind.wrap .i64 ((i : Int) + 1) = ((i + 1 : Nat) : Int) := by rw [wrap_ok (by omega) (by omega)]; rfl
    repeat' (first | exact True.intro | refine And.intro (congrArg (D.int .i64) hw) ?_ | refine And.intro rfl ?_)
   ·exact ⟨congrArg (fun l => some (D.arr 11 l c')) (hfin _ (by rw [hel]; rfl)), True.intro⟩
 have hi : i = xs.length := by
  have : ¬ i < xs.length := by simpa using hb
  omega
 subst hi
 rw [List.take_length]
 conv => whnf
 repeat' (first | (refine g_op ?_; conv => whnf) | (refine And.intro ?_ ?_; (focus exact au0); conv => whnf) | (refine g_seq ?_) | (refine XS.go ?_) | (refine g_ops ?_) | ((first | refine g_nil ?_ | refine g_ret ?_ | refine g_exit ?_ | refine r_t ?_ | refine r_nil ?_); conv => whnf) | fail)
 refine ⟨⟨rfl, Nat.le_of_eq (by simp)⟩, ?_⟩
 show D.ro 11 ((D.frozs (xs.map fun r => (wdog r c).D)).take xs.length) = _
 rw [D.frozs_map (fun x => rfl), List.map_map, List.take_of_length_le (by simp)]
 rfl
theorem impl_Watchdog (xs : List MateRun) (b0 c0 : Nat) (c : Int) (hl : xs.length ≤ 1048576) : XC Try.prog 32 [.lsl 7 b0 xs.length c0, .int .i64 c] [(7, b0, .arr 11 (xs.map MateRun.D) c0)] (fun d ls => ∃ b c1, xs.length ≤ c1 ∧ d = .lsl 9 b xs.length c1 ∧ ls = [(7, b0, .arr 11 (xs.map MateRun.D) c0), (9, b, .arr 11 ((xs.map fun r => wdog r c).map MateRun.D) c1)]) := by
 refine XC.intro' hm [7, 9] rfl c32 (Nat.le_of_ble_eq_true rfl) ?_
 conv => whnf
 repeat' (first | (refine g_op ?_; conv => whnf) | (refine And.intro ?_ ?_; (focus exact au0); conv => whnf) | (refine g_seq ?_) | (refine g_ops ?_) | (refine g_nil ?_; conv => whnf) | fail)
 refine XS.go ?_
 repeat' (first | (refine g_op ?_; conv => whnf) | (refine And.intro ?_ ?_; (focus exact au0); conv => whnf) | (refine g_seq ?_) | (refine g_ops ?_) | fail)
 refine ⟨by simp, by rw [List.map_map]; rfl, ?_⟩
 conv => whnf
 refine ⟨by show 0 + _ ≤ _; simp; omega, Nat.le_of_ble_eq_true rfl, by decide, fun n' b1 c1 hn hc => ?_⟩
 have hn : n' = xs.length := by rw [hn]; show 0 + _ = _; simp
 subst hn
 conv => whnf
 repeat' (first | (refine g_op ?_; conv => whnf) | (refine And.intro ?_ ?_; (focus exact au0); conv => whnf) | (refine g_seq ?_) | (refine XS.go ?_) | (refine g_ops ?_) | (refine g_loop ?_) | (refine g_nil ?_; conv => whnf) | (refine g_block ?_) | fail)
 refine XLc.mkG (α := Nat) (fun i gs => i ≤ xs.length ∧ gs 7 = b0) (fun i => xs.length - i) (fun i gs => [.any, .int .i64 c, .any, .any, .nil, .lsl 9 (gs 9) xs.length c1, .any, .any, .any, .any, .any, .int .i64 (xs.length : Int), .int .i64 (i : Int)]) (fun i gs => [(7, .arr 11 (xs.map MateRun.D) c0), (9, .arr 11 ((part (fun r => wdog r c) xs i).map MateRun.D) c1)]) 0 ⟨Nat.zero_le _, rfl⟩ ?_ ?_
 ·refine ⟨?_, ?_⟩
  ·repeat' (first | exact True.intro | refine And.intro rfl ?_)
  ·refine And.intro rfl (And.intro rfl True.intro)
 intro i gs hI
 obtain ⟨hi0, hg⟩ := hI
 repeat' (first | (refine g_op ?_; conv => whnf) | (refine And.intro ?_ ?_; (focus exact au0); conv => whnf) | (refine g_seq ?_) | (refine XS.go ?_) | (refine g_ops ?_) | ((first | refine g_nil ?_ | refine g_cond ?_); conv => whnf) | fail)
 refine Br.mk (fun hb => ?_) (fun hb => ?_)
 ·have hlt : i < xs.length := by simpa using hb
  have hj0 : i < ((part (fun r => wdog r c) xs i).map MateRun.D).length := by rw [List.length_map, part_len]; exact hlt
  have he0 : ((part (fun r => wdog r c) xs i).map MateRun.D).getD i .any = (xs.getD i default).D := by
   rw [elt_map (by rw [part_len]; exact hlt), part_get _ _ hlt]
  have hfin : ∀ X d, d = (wdog (xs.getD i default) c).D → (((part (fun r => wdog r c) xs i).map MateRun.D).set i X).set i d = (part (fun r => wdog r c) xs (i + 1)).map MateRun.D := fun X d h => by
   rw [List.set_set, h, ← part_set (fun r => wdog r c) default hlt, List.map_set]
  have hsame : wdog (xs.getD i default) c = xs.getD i default → (part (fun r => wdog r c) xs i).map MateRun.D = (part (fun r => wdog r c) xs (i + 1)).map MateRun.D := fun h => by
   rw [← part_set (fun r => wdog r c) default hlt, h, ← part_get (fun r => wdog r c) default hlt]
   congr 1
   have hq : i < (part (fun r => wdog r c) xs i).length := by rw [part_len]; exact hlt
   rw [show (part (fun r => wdog r c) xs i).getD i default = (part (fun r => wdog r c) xs i)[i] by simp [hq]]
   simp
  conv => whnf
  repeat' (first | (refine z_ld1 ?_; first | (refine z_ld rfl rfl rfl rfl au1 au2 ?_; conv => whnf) | (refine z_ld0 rfl ?_; conv => whnf)) | (refine z_ld1g ?_; first | (refine z_ldg rfl rfl rfl rfl rfl rfl rfl (by (repeat intro _); exact ⟨au1, au2⟩) rfl rfl rfl rfl ?_; conv => whnf) | (refine z_ld0g ?_; (conv => whnf); refine And.intro ?_ ?_; (focus exact rfl); conv => whnf)) | (refine z_st1 ?_; first | (refine z_st rfl rfl rfl au1 au2 rfl rfl ?_; conv => whnf) | (refine z_st0 ?_; conv => whnf)) | (refine z_ix1 ?_; first | (refine z_ix rfl rfl rfl rfl rfl ⟨by first | omega | (simp only [decide_eq_true_eq, Bool.not_eq_true', Bool.or_eq_false_iff, decide_eq_false_iff_not, Bool.and_eq_true, Bool.not_eq_false'] at *; omega), by first | omega | (simp only [decide_eq_true_eq, Bool.not_eq_true', Bool.or_eq_false_iff, decide_eq_false_iff_not, Bool.and_eq_true, Bool.not_eq_false'] at *; omega)⟩ ?_; conv => whnf) | (refine z_ix0 rfl rfl ?_; conv => whnf)) | (refine z_op ?_ ?_; (focus exact rfl); conv => whnf) | (refine z_opg0 ?_; (conv => whnf); refine And.intro ?_ ?_; (focus exact rfl); conv => whnf) | (refine z_pick ?_ ?_; (focus exact rfl); conv => whnf) | (refine zs_ops ?_ ?_; (focus exact rfl)) | (refine z_nil fun vals => ?_; conv => whnf) | (refine z_call ?_ ?_; (focus exact rfl)) | (refine RC.of (impl_Alive (xs.getD i default)) ?_ ?_; (focus exact rfl); conv => whnf) | (refine g_op ?_; conv => whnf) | (refine And.intro ?_ ?_; (focus exact au0); conv => whnf) | (refine g_seq ?_) | (refine XS.go ?_) | (refine g_ops ?_) | ((first | refine g_nil ?_ | refine g_cond ?_ | refine g_skip ?_); conv => whnf) | (refine g_block ?_) | (refine Br.mk (fun hb => ?_) (fun hb => ?_) <;> conv => whnf) | fail)
  ·have hel : wdog (xs.getD i default) c = { xs.getD i default with fState := 2, fLeft := 0 } := by
    simp only [wdog]
    rw [if_pos]
    simp [leased] at hb ⊢
    exact ⟨hb.1.1, hb.1.2, by omega⟩
   refine ⟨i + 1, ⟨by omega, hg⟩, by omega, ?_, ?_⟩
   ·have hw : IntKind.wrap .i64 ((i : Int) + 1) = ((i + 1 : Nat) : Int) := by rw [wrap_ok (by omega) (by omega)]; rfl
    repeat' (first | exact True.intro | refine And.intro (congrArg (D.int .i64) hw) ?_ | refine And.intro rfl ?_)
   ·refine And.intro rfl (And.intro ?_ True.intro)
    exact congrArg (fun l => some (D.arr 11 l c1)) (hfin _ _ (by rw [hel]; rfl))
  ·have hel : wdog (xs.getD i default) c = xs.getD i default := by
    simp only [wdog]
    rw [if_neg]
    intro h
    simp [leased] at h
    simp at hb
    have := hb h.1 h.2.1
    omega
   refine ⟨i + 1, ⟨by omega, hg⟩, by omega, ?_, ?_⟩
   ·have hw : IntKind.wrap .i64 ((i : Int) + 1) = ((i + 1 : Nat) : Int) := by rw [wrap_ok (by omega) (by omega)]; rfl
    repeat' (first | exact True.intro | refine And.intro (congrArg (D.int .i64) hw) ?_ | refine And.intro rfl ?_)
   ·refine And.intro rfl (And.intro ?_ True.intro)
    exact congrArg (fun l => some (D.arr 11 l c1)) (hsame (by rw [hel]))
 have hi : i = xs.length := by
  have : ¬ i < xs.length := by simpa using hb
  omega
 subst hi
 rw [part_all]
 conv => whnf
 repeat' (first | (refine g_op ?_; conv => whnf) | (refine And.intro ?_ ?_; (focus exact au0); conv => whnf) | (refine g_seq ?_) | (refine XS.go ?_) | (refine g_ops ?_) | ((first | refine g_nil ?_ | refine g_ret ?_ | refine g_exit ?_ | refine r_t ?_ | refine r_nil ?_); conv => whnf) | fail)
 exact ⟨_, c1, hc, rfl, by rw [← hg]; rfl⟩
end Go.Ab
