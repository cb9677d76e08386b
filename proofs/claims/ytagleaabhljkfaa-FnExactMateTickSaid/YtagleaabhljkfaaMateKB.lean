/- Steps towards the law: the machine, contracts of functions and facts of lists. -/
import Derived.Test.YtagleaabhljkfaaMateKA
import Derived.Test.YtagleaabhljkfaaRows
set_option linter.unusedSimpArgs false
set_option linter.unusedVariables false
namespace Go.Ab
open Go Go.RowKit Go.Proofs
attribute [local irreducible] XC Rdr IntKind.wrap xw xos xqs xr xd
set_option maxRecDepth 100000
set_option maxHeartbeats 16000000
def cf109 : CF := ⟨50,[.t 4],(.seq (.ops [Oo 3 (.bx (.t 1)),Ok 4 (.nil)]) (.seq (.ops [Ok 5 (.int .i64 0)]) (.seq (.block 0 (.loop (.seq (.seq (.quiet [Om 7 5,Om 8 0,Og 9 8,Ob 10 .lss 7 9,Om 11 10,⟨some 12,.mv (.t 0),some (11,true)⟩,⟨some 13,.mv (.t 5),some (11,true)⟩,⟨some 14,.ix 4 (.t 12) (.t 13),some (11,true)⟩,⟨some 15,.fa 0 1 0 (.t 14),some (11,true)⟩,⟨some 16,.ld 1 false (.t 15),some (11,true)⟩,⟨some 17,.fa 0 1 0 (.t 3),some (11,true)⟩,⟨some 18,.ld 1 false (.t 17),some (11,true)⟩,⟨some 19,.bin .lss (.t 16) (.t 18),some (11,true)⟩,Oo 20 (.pick (.t 11) (.t 19) (.k (.bool false)))]) (.cond (.t 20) .skip (.exit 0))) (.block 1 (.ops [Om 21 5,Oi 22 21,Om 5 22]))))) (.seq (.ops [Om 23 0,Om 24 5,Oo 25 (.slc 4 false (.t 23) (some (.t 24)) none),Om 6 25]) (.seq (.seq (.quiet [Om 26 6,Og 27 26,Oo 28 (.bin .gtr (.t 27) (.k (.int .i64 0))),Om 29 28,⟨some 30,.mv (.t 6),some (29,true)⟩,⟨some 31,.ix 4 (.t 30) (.k (.int .i64 0)),some (29,true)⟩,⟨some 32,.fa 0 1 0 (.t 31),some (29,true)⟩,⟨some 33,.ld 1 false (.t 32),some (29,true)⟩,⟨some 34,.fa 0 1 0 (.t 3),some (29,true)⟩,⟨some 35,.ld 1 false (.t 34),some (29,true)⟩,⟨some 36,.bin .eql (.t 33) (.t 35),some (29,true)⟩,Oo 37 (.pick (.t 29) (.t 36) (.k (.bool false)))]) (.cond (.t 37) (.ops [Om 38 6,Oo 39 (.slc 4 false (.t 38) (some (.k (.int .i64 1))) none),Om 6 39]) .skip)) (.seq (.drawn [Qo 40 (.bsl (.agg [.str ⟨#[]⟩,.str ⟨#[]⟩,.int .i64 0,.int .i64 0]) 0 []),Qm 41 0,Qm 42 5,Qo 43 (.slc 4 false (.t 41) none (some (.t 42))),Qd 45 4 3,Qo 46 (.bsl (.agg [.str ⟨#[]⟩,.str ⟨#[]⟩,.int .i64 0,.int .i64 0]) 1 [(0,(.t 45))]),Qm 48 6,(Oo 44 (.app 4 48 (.t 40) (.t 43)),true,[(.t 3)]),(Oo 47 (.app 4 48 (.t 44) (.t 46)),true,[]),(Oo 49 (.app 4 48 (.t 47) (.t 48)),true,[]),Qm 4 49]) .ret))))))⟩
theorem c109 : compileF Try.prog [] 109 = some cf109 := by kernel_rfl
def putF (xs : List MateAsk) (a : MateAsk) (i : Nat) : Bool := !Op.bytesLess (xs.getD i default).fHold.toList a.fHold.toList
def putI (xs : List MateAsk) (a : MateAsk) : Nat := if idxN (putF xs a) xs.length 0 < 0 then xs.length else (idxN (putF xs a) xs.length 0).toNat
def putT (xs : List MateAsk) (a : MateAsk) : List MateAsk := if (decide (putI xs a < xs.length) && (xs.getD (putI xs a) default).fHold.toList == a.fHold.toList) then xs.drop (putI xs a + 1) else xs.drop (putI xs a)
def setR (xs : List MateAsk) (a : MateAsk) : List MateAsk := xs.take (putI xs a) ++ a :: putT xs a
theorem putI_hit {xs : List MateAsk} {a : MateAsk} {i : Nat} (h : idxN (putF xs a) xs.length 0 = (i : Int)) : putI xs a = i := by
 unfold putI
 rw [h, if_neg (by omega)]
 omega
theorem putI_end {xs : List MateAsk} {a : MateAsk} (h : idxN (putF xs a) xs.length 0 = -1) : putI xs a = xs.length := by
 unfold putI
 rw [h, if_pos (by omega)]
theorem set_fin {ys : List MateAsk} {C : List Go.Ab.D} {N : Nat} (h : C = ys.map MateAsk.D) (hn : N = C.length) : D.ro 4 ((D.frozs C).take N) = D.ro 4 (ys.map MateAsk.D) := by
 subst h hn
 rw [D.frozs_map (fun _ => rfl), List.take_of_length_le (Nat.le_refl _)]
theorem spec_Set (xs : List MateAsk) (a : MateAsk) (hl : xs.length ≤ 1048576) : Rdr Try.prog 109 [.ro 4 (xs.map MateAsk.D), a.D] (.ro 4 ((setR xs a).map MateAsk.D)) := by
 refine Rdr.introF hm [49] rfl c109 (Nat.le_of_ble_eq_true rfl) ?_
 conv => whnf
 repeat' (first | (refine g_op ?_; conv => whnf) | (refine And.intro ?_ ?_; (focus exact au0); conv => whnf) | (refine g_seq ?_) | (refine g_ops ?_) | ((first | refine g_nil ?_ | refine fun _ => ?_); conv => whnf) | fail)
 refine XS.go ?_
 repeat' (first | (refine g_op ?_; conv => whnf) | (refine And.intro ?_ ?_; (focus exact au0); conv => whnf) | (refine g_seq ?_) | (refine g_ops ?_) | (refine g_nil ?_; conv => whnf) | fail)
 refine XS.freezeB 3 rfl ?_
 repeat' (first | (refine g_seq ?_) | (refine XS.go ?_) | (refine g_loop ?_) | (refine g_block ?_) | fail)
 refine XLc.mkA (α := Nat) (fun i => i ≤ xs.length ∧ idxN (putF xs a) xs.length 0 = idxN (putF xs a) (xs.length - i) i) (fun i => xs.length - i) (fun i gs => [.ro 4 (xs.map MateAsk.D), .any, .any, .cref a.D, .nil, .int .i64 (i : Int)]) (fun i gs => []) 0 ⟨Nat.zero_le _, rfl⟩ ?_ ?_
 ·refine ⟨?_, True.intro⟩
  repeat' (first | exact True.intro | refine And.intro rfl ?_)
 intro i gs hI
 obtain ⟨hi, hN⟩ := hI
 have hlm : (xs.map MateAsk.D).length = xs.length := List.length_map ..
 repeat' (first | (refine z_ld1g ?_; first | (refine z_ldg rfl rfl rfl rfl rfl rfl rfl (by (repeat intro _); exact ⟨au1, au2⟩) rfl rfl rfl rfl ?_; conv => whnf) | (refine z_ld0g ?_; (conv => whnf); refine And.intro ?_ ?_; (focus exact rfl); conv => whnf)) | (refine z_ix1g ?_; refine z_ixg rfl rfl rfl rfl rfl rfl rfl (by (repeat intro _); refine ⟨?_, ?_⟩ <;> first | omega | (simp only [decide_eq_true_eq, Bool.not_eq_true', Bool.or_eq_false_iff, decide_eq_false_iff_not, Bool.and_eq_true, Bool.not_eq_false'] at *; omega)) ?_) | (refine z_op ?_ ?_; (focus exact rfl); conv => whnf) | (refine z_opg0 ?_; (conv => whnf); refine And.intro ?_ ?_; (focus exact rfl); conv => whnf) | (refine z_pick ?_ ?_; (focus exact rfl); conv => whnf) | (refine zs_quiet ?_ ?_; (focus exact rfl)) | (refine z_nil fun vals => ?_; conv => whnf) | (refine And.intro ?_ ?_; (focus exact au0); conv => whnf) | (refine g_seq ?_) | (refine XS.go ?_) | (refine g_cond ?_; conv => whnf) | fail)
 refine Br.mk (fun hb => ?_) (fun hb => ?_)
 ·have hlt : i < xs.length := by simp at hb; omega
  have hf : putF xs a i = false := by
   simp only [Bool.and_eq_true] at hb
   unfold putF
   rw [show Op.bytesLess (xs.getD i default).fHold.toList a.fHold.toList = true from hb.2]
   rfl
  have miss := idxN_miss (f := putF xs a) hlt hN hf
  clear hb
  have hw : IntKind.wrap .i64 ((i : Int) + 1) = ((i + 1 : Nat) : Int) := by rw [wrap_ok (by omega) (by omega)]; rfl
  conv => whnf
  repeat' (first | (refine g_op ?_; conv => whnf) | (refine And.intro ?_ ?_; (focus exact au0); conv => whnf) | (refine XS.go ?_) | (refine g_ops ?_) | ((first | refine g_nil ?_ | refine g_skip ?_); conv => whnf) | (refine g_block ?_) | fail)
  refine ⟨i + 1, ⟨by omega, miss⟩, by omega, ?_, True.intro⟩
  repeat' (first | exact True.intro | refine And.intro rfl ?_ | refine And.intro (congrArg (D.int .i64) hw) ?_)
 have hk : putI xs a = i := by
  by_cases hlt : i < xs.length
  ·refine putI_hit (idxN_hit (f := putF xs a) hlt hN ?_)
   unfold putF
   have q : Op.bytesLess (xs.getD i default).fHold.toList a.fHold.toList = false := by
    have q := hb
    simp only [Bool.and_eq_false_iff, decide_eq_false_iff_not] at q
    rcases q with q | q
    ·exact absurd (by rw [hlm]; exact_mod_cast hlt) q
    ·exact q
   rw [q]
   rfl
  ·have e : i = xs.length := by omega
   rw [putI_end (by rw [hN]; exact idxN_end hlt), e]
 clear hb hN
 subst hk
 have h1 : ((putI xs a : Nat) : Int) ≤ ((xs.map MateAsk.D).length : Int) := by omega
 have hsl : ((xs.map MateAsk.D).drop ((putI xs a : Nat) : Int).toNat).take (((xs.map MateAsk.D).length : Int) - ((putI xs a : Nat) : Int)).toNat = (xs.drop (putI xs a)).map MateAsk.D := by
  have e : ((putI xs a : Nat) : Int).toNat = putI xs a := by omega
  rw [e, List.take_of_length_le (by rw [List.length_drop]; omega), List.map_drop]
 have hpre : ((xs.map MateAsk.D).drop (0 : Int).toNat).take (((putI xs a : Nat) : Int) - 0).toNat = (xs.take (putI xs a)).map MateAsk.D := by
  have e : (((putI xs a : Nat) : Int) - 0).toNat = putI xs a := by omega
  rw [e, List.map_take]
  rfl
 conv => whnf
 repeat' (first | (refine g_exit ?_; conv => whnf) | fail)
 refine XS.weakenA (fs := [.ro 4 (xs.map MateAsk.D), .any, .any, .cref a.D, .nil, .int .i64 ((putI xs a : Nat) : Int)]) (ls := []) ⟨?_, True.intro⟩ ?_
 ·repeat' (first | exact True.intro | refine And.intro rfl ?_)
 refine XS.go ?_
 conv => whnf
 have h1b : ((xs.map MateAsk.D).length : Int) ≤ ((xs.map MateAsk.D).length : Int) := Int.le_refl _
 repeat' (first | ((refine And.intro h1 ?_; conv => whnf)) | ((refine And.intro h1b ?_; conv => whnf)) | (refine g_op ?_; conv => whnf) | (refine And.intro ?_ ?_; (focus exact au0); conv => whnf) | (refine g_seq ?_) | (refine g_ops ?_) | (refine g_nil ?_; conv => whnf) | fail)
 have hp0 : putT xs a = if (decide (0 < (xs.drop (putI xs a)).length) && ((xs.drop (putI xs a)).getD 0 default).fHold.toList == a.fHold.toList) then (xs.drop (putI xs a)).drop 1 else xs.drop (putI xs a) := by
  unfold putT
  have e1 : decide (0 < (xs.drop (putI xs a)).length) = decide (putI xs a < xs.length) := by rw [List.length_drop]; exact decide_eq_decide.2 (by omega)
  have e2 : (xs.drop (putI xs a)).getD 0 default = xs.getD (putI xs a) default := by simp [List.getD_eq_getElem?_getD, List.getElem?_drop]
  rw [e1, e2, List.drop_drop]
 have hRl : (xs.drop (putI xs a)).length ≤ 1048576 := by rw [List.length_drop]; omega
 refine XS.weakenA (fs := [.ro 4 (xs.map MateAsk.D), .any, .any, .cref a.D, .nil, .int .i64 ((putI xs a : Nat) : Int), .ro 4 ((xs.drop (putI xs a)).map MateAsk.D)]) (ls := []) ⟨?_, True.intro⟩ ?_
 ·repeat' (first | exact True.intro | refine And.intro rfl ?_ | refine And.intro (congrArg (D.ro 4) hsl) ?_)
 generalize hR : xs.drop (putI xs a) = R at hp0 hRl ⊢
 have hlR : (R.map MateAsk.D).length = R.length := List.length_map ..
 refine XS.go ?_
 conv => whnf
 repeat' (first | (refine z_ld1g ?_; first | (refine z_ldg rfl rfl rfl rfl rfl rfl rfl (by (repeat intro _); exact ⟨au1, au2⟩) rfl rfl rfl rfl ?_; conv => whnf) | (refine z_ld0g ?_; (conv => whnf); refine And.intro ?_ ?_; (focus exact rfl); conv => whnf)) | (refine z_ix1g ?_; refine z_ixg rfl rfl rfl rfl rfl rfl rfl (by (repeat intro _); refine ⟨?_, ?_⟩ <;> first | omega | (simp only [decide_eq_true_eq, Bool.not_eq_true', Bool.or_eq_false_iff, decide_eq_false_iff_not, Bool.and_eq_true, Bool.not_eq_false'] at *; omega)) ?_) | (refine z_op ?_ ?_; (focus exact rfl); conv => whnf) | (refine z_opg0 ?_; (conv => whnf); refine And.intro ?_ ?_; (focus exact rfl); conv => whnf) | (refine z_pick ?_ ?_; (focus exact rfl); conv => whnf) | (refine zs_quiet ?_ ?_; (focus exact rfl)) | (refine z_nil fun vals => ?_; conv => whnf) | (refine And.intro ?_ ?_; (focus exact au0); conv => whnf) | (refine g_seq ?_) | fail)
 refine XS.go ?_
 conv => whnf
 repeat' (first | (refine g_cond ?_; conv => whnf) | fail)
 refine Br.mk (fun hb => ?_) (fun hb => ?_)
 ·have hR0 : 0 < R.length := by
   have q := hb
   simp at q
   exact q.1
  have hq : (R.getD 0 default).fHold.toList = a.fHold.toList := by
   have q := hb
   simp only [Bool.and_eq_true] at q
   exact beq_iff_eq.1 q.2
  clear hb
  rw [if_pos (by simp only [Bool.and_eq_true, decide_eq_true_eq, beq_iff_eq]; exact ⟨hR0, hq⟩)] at hp0
  have l1 : (1 : Int) ≤ ((R.map MateAsk.D).length : Int) := by omega
  have l2 : ((R.map MateAsk.D).length : Int) ≤ ((R.map MateAsk.D).length : Int) := Int.le_refl _
  have hTl : (putT xs a).length ≤ 1048576 := by rw [hp0, List.length_drop]; omega
  have hT : ((R.map MateAsk.D).drop (1 : Int).toNat).take (((R.map MateAsk.D).length : Int) - 1).toNat = (putT xs a).map MateAsk.D := by
   rw [hp0, List.map_drop]
   exact List.take_of_length_le (by rw [List.length_drop]; omega)
  conv => whnf
  repeat' (first | ((refine And.intro l1 ?_; conv => whnf)) | ((refine And.intro l2 ?_; conv => whnf)) | (refine g_op ?_; conv => whnf) | (refine And.intro ?_ ?_; (focus exact au0); conv => whnf) | (refine g_ops ?_) | (refine g_nil ?_; conv => whnf) | fail)
  refine XS.weakenA (fs := [.ro 4 (xs.map MateAsk.D), .any, .any, .cref a.D, .nil, .int .i64 ((putI xs a : Nat) : Int), .ro 4 ((putT xs a).map MateAsk.D)]) (ls := []) ⟨?_, True.intro⟩ ?_
  ·repeat' (first | exact True.intro | refine And.intro rfl ?_ | refine And.intro (congrArg (D.ro 4) hT) ?_)
  clear hT hp0 hR
  have t1 : ([] : List Go.Ab.D).length + (((xs.map MateAsk.D).drop (0 : Int).toNat).take (((putI xs a : Nat) : Int) - 0).toNat).length ≤ 1073741824 := by rw [hpre, List.length_map, List.length_take]; simp only [List.length_nil]; omega
  have t2 : ([] ++ ((xs.map MateAsk.D).drop (0 : Int).toNat).take (((putI xs a : Nat) : Int) - 0).toNat).length + [a.D].length ≤ 1073741824 := by rw [List.nil_append, hpre, List.length_map, List.length_take]; simp only [List.length_cons, List.length_nil]; omega
  have t3 : (([] ++ ((xs.map MateAsk.D).drop (0 : Int).toNat).take (((putI xs a : Nat) : Int) - 0).toNat) ++ [a.D]).length + ((putT xs a).map MateAsk.D).length ≤ 1073741824 := by rw [List.nil_append, hpre, List.length_append, List.length_map, List.length_map, List.length_take]; simp only [List.length_cons, List.length_nil]; omega
  refine XS.go ?_
  conv => whnf
  repeat' (first | ((refine And.intro h1 ?_; conv => whnf)) | ((refine And.intro t1 ?_; conv => whnf)) | ((refine And.intro t2 ?_; conv => whnf)) | ((refine And.intro t3 ?_; conv => whnf)) | ((refine And.intro True.intro ?_; conv => whnf)) | ((refine fun n1 b1 c1 hn1 hc1 => ?_; subst hn1; conv => whnf)) | ((refine And.intro (List.length_append ..).symm ?_; conv => whnf)) | (refine And.intro ?_ ?_; (focus exact au0); conv => whnf) | (refine g_seq ?_) | (refine XS.go ?_) | (refine g_ret ?_; conv => whnf) | (refine g_drawn ?_) | ((first | refine d_p ?_ | refine d_e ?_ | refine d_nil ?_ | refine r_t ?_ | refine r_nil ?_); conv => whnf) | fail)
  refine ⟨⟨rfl, Nat.le_of_eq (List.length_append ..).symm⟩, ?_⟩
  refine set_fin (C := ([] ++ ((xs.map MateAsk.D).drop (0 : Int).toNat).take (((putI xs a : Nat) : Int) - 0).toNat) ++ [a.D] ++ (putT xs a).map MateAsk.D) (N := (([] ++ ((xs.map MateAsk.D).drop (0 : Int).toNat).take (((putI xs a : Nat) : Int) - 0).toNat) ++ [a.D]).length + ((putT xs a).map MateAsk.D).length) ?_ (List.length_append ..).symm
  rw [List.nil_append, hpre]
  simp only [setR, List.map_append, List.map_cons, List.append_assoc, List.cons_append, List.nil_append]
 ·have hq : ¬ ((decide (0 < R.length) && (R.getD 0 default).fHold.toList == a.fHold.toList) = true) := by
   intro q
   simp only [Bool.and_eq_true, decide_eq_true_eq, beq_iff_eq] at q
   have q2 := hb
   simp only [Bool.and_eq_false_iff, decide_eq_false_iff_not] at q2
   rcases q2 with q2 | q2
   ·exact q2 (by rw [hlR]; exact_mod_cast q.1)
   ·have q3 : ((R.getD 0 default).fHold.toList == a.fHold.toList) = false := q2
    rw [show ((R.getD 0 default).fHold.toList == a.fHold.toList) = true from beq_iff_eq.2 q.2] at q3
    cases q3
  clear hb
  rw [if_neg hq] at hp0
  have hTl : (putT xs a).length ≤ 1048576 := by rw [hp0]; omega
  have hT : R.map MateAsk.D = (putT xs a).map MateAsk.D := by rw [hp0]
  conv => whnf
  repeat' (first | (refine g_skip ?_; conv => whnf) | fail)
  refine XS.weakenA (fs := [.ro 4 (xs.map MateAsk.D), .any, .any, .cref a.D, .nil, .int .i64 ((putI xs a : Nat) : Int), .ro 4 ((putT xs a).map MateAsk.D)]) (ls := []) ⟨?_, True.intro⟩ ?_
  ·repeat' (first | exact True.intro | refine And.intro rfl ?_ | refine And.intro (congrArg (D.ro 4) hT) ?_)
  clear hT hp0 hR
  have t1 : ([] : List Go.Ab.D).length + (((xs.map MateAsk.D).drop (0 : Int).toNat).take (((putI xs a : Nat) : Int) - 0).toNat).length ≤ 1073741824 := by rw [hpre, List.length_map, List.length_take]; simp only [List.length_nil]; omega
  have t2 : ([] ++ ((xs.map MateAsk.D).drop (0 : Int).toNat).take (((putI xs a : Nat) : Int) - 0).toNat).length + [a.D].length ≤ 1073741824 := by rw [List.nil_append, hpre, List.length_map, List.length_take]; simp only [List.length_cons, List.length_nil]; omega
  have t3 : (([] ++ ((xs.map MateAsk.D).drop (0 : Int).toNat).take (((putI xs a : Nat) : Int) - 0).toNat) ++ [a.D]).length + ((putT xs a).map MateAsk.D).length ≤ 1073741824 := by rw [List.nil_append, hpre, List.length_append, List.length_map, List.length_map, List.length_take]; simp only [List.length_cons, List.length_nil]; omega
  refine XS.go ?_
  conv => whnf
  repeat' (first | ((refine And.intro h1 ?_; conv => whnf)) | ((refine And.intro t1 ?_; conv => whnf)) | ((refine And.intro t2 ?_; conv => whnf)) | ((refine And.intro t3 ?_; conv => whnf)) | ((refine And.intro True.intro ?_; conv => whnf)) | ((refine fun n1 b1 c1 hn1 hc1 => ?_; subst hn1; conv => whnf)) | ((refine And.intro (List.length_append ..).symm ?_; conv => whnf)) | (refine And.intro ?_ ?_; (focus exact au0); conv => whnf) | (refine g_seq ?_) | (refine XS.go ?_) | (refine g_ret ?_; conv => whnf) | (refine g_drawn ?_) | ((first | refine d_p ?_ | refine d_e ?_ | refine d_nil ?_ | refine r_t ?_ | refine r_nil ?_); conv => whnf) | fail)
  refine ⟨⟨rfl, Nat.le_of_eq (List.length_append ..).symm⟩, ?_⟩
  refine set_fin (C := ([] ++ ((xs.map MateAsk.D).drop (0 : Int).toNat).take (((putI xs a : Nat) : Int) - 0).toNat) ++ [a.D] ++ (putT xs a).map MateAsk.D) (N := (([] ++ ((xs.map MateAsk.D).drop (0 : Int).toNat).take (((putI xs a : Nat) : Int) - 0).toNat) ++ [a.D]).length + ((putT xs a).map MateAsk.D).length) ?_ (List.length_append ..).symm
  rw [List.nil_append, hpre]
  simp only [setR, List.map_append, List.map_cons, List.append_assoc, List.cons_append, List.nil_append]
end Go.Ab
