/- Steps towards the law: the machine, contracts of functions and facts of lists. -/
import Derived.Test.YtagleaabhljkfaaMateD
import Derived.Test.YtagleaabhljkfaaRows
set_option linter.unusedSimpArgs false
set_option linter.unusedVariables false
namespace Go.Ab
open Go Go.RowKit Go.Proofs
attribute [local irreducible] XC Rdr IntKind.wrap xw xos xqs xr xd
set_option maxRecDepth 100000
set_option maxHeartbeats 16000000
def cf45 : CF := ⟨123,[.t 2],(.seq (.ops [Oo 1 (.bx (.t 0)),Ok 2 (.bool false)]) (.seq (.seq (.ops [Of 5 0 1,Ol 6 5,Oc 7 91 [.t 6],Oo 8 (.not (.t 7)),Om 9 8,⟨some 10,.fa 2 1 2 (.t 1),some (9,false)⟩,⟨some 11,.ld 1 false (.t 10),some (9,false)⟩,⟨some 12,.call 80 [.t 11,(.k (.int .i64 0)),(.k (.int .i64 1000000))],some (9,false)⟩,⟨some 13,.not (.t 12),some (9,false)⟩,Oo 14 (.pick (.t 9) (.k (.bool true)) (.t 13)),Om 15 14,⟨some 16,.fa 4 1 4 (.t 1),some (15,false)⟩,⟨some 17,.ld 1 false (.t 16),some (15,false)⟩,⟨some 18,.call 80 [.t 17,(.k (.int .i64 0)),(.k (.int .i64 1000000))],some (15,false)⟩,⟨some 19,.not (.t 18),some (15,false)⟩,Oo 20 (.pick (.t 15) (.k (.bool true)) (.t 19)),Om 21 20,⟨some 22,.fa 5 1 5 (.t 1),some (21,false)⟩,⟨some 23,.ld 1 false (.t 22),some (21,false)⟩,⟨some 24,.call 19 [.t 23],some (21,false)⟩,⟨some 25,.not (.t 24),some (21,false)⟩,Oo 26 (.pick (.t 21) (.k (.bool true)) (.t 25)),Om 27 26,⟨some 28,.fa 5 1 5 (.t 1),some (27,false)⟩,⟨some 29,.ld 1 false (.t 28),some (27,false)⟩,⟨some 30,.lenl (.t 29),some (27,false)⟩,⟨some 31,.bin .gtr (.t 30) (.k (.int .i64 0)),some (27,false)⟩,⟨some 32,.mv (.t 31),some (27,false)⟩,⟨some 33,.fa 3 1 3 (.t 1),some (32,true)⟩,⟨some 34,.ld 1 false (.t 33),some (32,true)⟩,⟨some 35,.not (.t 34),some (32,true)⟩,⟨some 36,.pick (.t 32) (.t 35) (.k (.bool false)),some (27,false)⟩,Oo 37 (.pick (.t 27) (.k (.bool true)) (.t 36)),Om 38 37,⟨some 39,.fa 6 1 6 (.t 1),some (38,false)⟩,⟨some 40,.ld 1 false (.t 39),some (38,false)⟩,⟨some 41,.fa 2 1 2 (.t 1),some (38,false)⟩,⟨some 42,.ld 1 false (.t 41),some (38,false)⟩,⟨some 43,.call 24 [.t 40,.t 42],some (38,false)⟩,⟨some 44,.not (.t 43),some (38,false)⟩,Oo 45 (.pick (.t 38) (.k (.bool true)) (.t 44)),Om 46 45,⟨some 47,.fa 7 1 7 (.t 1),some (46,false)⟩,⟨some 48,.ld 1 false (.t 47),some (46,false)⟩,⟨some 49,.fa 2 1 2 (.t 1),some (46,false)⟩,⟨some 50,.ld 1 false (.t 49),some (46,false)⟩,⟨some 51,.call 92 [.t 48,.t 50],some (46,false)⟩,⟨some 52,.not (.t 51),some (46,false)⟩,Oo 53 (.pick (.t 46) (.k (.bool true)) (.t 52)),Om 54 53,⟨some 55,.fa 8 1 8 (.t 1),some (54,false)⟩,⟨some 56,.ld 1 false (.t 55),some (54,false)⟩,⟨some 57,.fa 2 1 2 (.t 1),some (54,false)⟩,⟨some 58,.ld 1 false (.t 57),some (54,false)⟩,⟨some 59,.call 92 [.t 56,.t 58],some (54,false)⟩,⟨some 60,.not (.t 59),some (54,false)⟩,Oo 61 (.pick (.t 54) (.k (.bool true)) (.t 60))]) (.cond (.t 61) (.seq (.ops [Ok 2 (.bool false)]) .ret) .skip)) (.seq (.seq (.ops [Ok 3 (.int .i64 0)]) (.block 0 (.loop (.seq (.seq (.ops [Om 62 3,Of 63 7 1,Ol 64 63,Og 65 64,Ob 66 .lss 62 65]) (.cond (.t 66) .skip (.exit 0))) (.seq (.block 1 (.seq (.quiet [Of 69 8 1,Ol 70 69,Of 71 7 1,Ol 72 71,Om 73 3,Ox 74 4 72 73,Of 75 0 74,Ol 76 75,Oc 77 93 [.t 70,.t 76],Oo 78 (.bin .geq (.t 77) (.k (.int .i64 0)))]) (.cond (.t 78) (.seq (.ops [Ok 2 (.bool false)]) .ret) .skip))) (.ops [Om 67 3,Oi 68 67,Om 3 68])))))) (.seq (.seq (.ops [Of 79 1 1,Ol 80 79]) (.cond (.t 80) (.seq (.ops [Ok 2 (.bool true)]) .ret) .skip)) (.seq (.seq (.ops [Ok 4 (.int .i64 0)]) (.block 2 (.loop (.seq (.seq (.ops [Om 81 4,Of 82 6 1,Ol 83 82,Og 84 83,Ob 85 .lss 81 84]) (.cond (.t 85) .skip (.exit 2))) (.seq (.block 3 (.seq (.ops [Of 88 6 1,Ol 89 88,Om 90 4,Ox 91 11 89 90,Od 92 11 91,Oc 93 15 [.t 92],Oo 94 (.not (.t 93)),Om 95 94,⟨some 96,.fa 6 1 6 (.t 1),some (95,true)⟩,⟨some 97,.ld 1 false (.t 96),some (95,true)⟩,⟨some 98,.mv (.t 4),some (95,true)⟩,⟨some 99,.ix 11 (.t 97) (.t 98),some (95,true)⟩,⟨some 100,.fa 0 7 0 (.t 99),some (95,true)⟩,⟨some 101,.fa 2 1 2 (.t 100),some (95,true)⟩,⟨some 102,.ld 1 false (.t 101),some (95,true)⟩,⟨some 103,.bin .eql (.t 102) (.k (.str ⟨#[]⟩)),some (95,true)⟩,Oo 104 (.pick (.t 95) (.t 103) (.k (.bool false)))]) (.cond (.t 104) (.seq (.ops [Ok 2 (.bool false)]) .ret) .skip))) (.ops [Om 86 4,Oi 87 86,Om 4 87])))))) (.seq (.ops [Of 105 3 1,Ol 106 105,Oo 107 (.not (.t 106)),Om 108 107,⟨some 109,.fa 4 1 4 (.t 1),some (108,true)⟩,⟨some 110,.ld 1 false (.t 109),some (108,true)⟩,⟨some 111,.bin .eql (.t 110) (.k (.int .i64 0)),some (108,true)⟩,Oo 112 (.pick (.t 108) (.t 111) (.k (.bool false))),Om 113 112,⟨some 114,.fa 7 1 7 (.t 1),some (113,true)⟩,⟨some 115,.ld 1 false (.t 114),some (113,true)⟩,⟨some 116,.lenl (.t 115),some (113,true)⟩,⟨some 117,.fa 8 1 8 (.t 1),some (113,true)⟩,⟨some 118,.ld 1 false (.t 117),some (113,true)⟩,⟨some 119,.lenl (.t 118),some (113,true)⟩,⟨some 120,.bin .add (.t 116) (.t 119),some (113,true)⟩,⟨some 121,.bin .eql (.t 120) (.k (.int .i64 0)),some (113,true)⟩,Oo 122 (.pick (.t 113) (.t 121) (.k (.bool false))),Om 2 122]) .ret))))))⟩
theorem c45 : compileF Try.prog [] 45 = some cf45 := by kernel_rfl
def cf46 : CF := ⟨118,[.t 2],(.seq (.ops [Oo 1 (.bx (.t 0)),Ok 2 (.bool false)]) (.seq (.seq (.ops [Of 7 0 1,Ol 8 7,Oc 9 94 [.t 8],Oo 10 (.not (.t 9)),Om 11 10,⟨some 12,.fa 2 1 2 (.t 1),some (11,false)⟩,⟨some 13,.ld 1 false (.t 12),some (11,false)⟩,⟨some 14,.call 66 [.t 13,(.k (.int .i64 0)),(.k (.int .i64 1000000))],some (11,false)⟩,⟨some 15,.not (.t 14),some (11,false)⟩,Oo 16 (.pick (.t 11) (.k (.bool true)) (.t 15)),Om 17 16,⟨some 18,.fa 4 1 4 (.t 1),some (17,false)⟩,⟨some 19,.ld 1 false (.t 18),some (17,false)⟩,⟨some 20,.call 66 [.t 19,(.k (.int .i64 0)),(.k (.int .i64 1000000))],some (17,false)⟩,⟨some 21,.not (.t 20),some (17,false)⟩,Oo 22 (.pick (.t 17) (.k (.bool true)) (.t 21)),Om 23 22,⟨some 24,.fa 5 1 5 (.t 1),some (23,false)⟩,⟨some 25,.ld 1 false (.t 24),some (23,false)⟩,⟨some 26,.call 21 [.t 25],some (23,false)⟩,⟨some 27,.not (.t 26),some (23,false)⟩,Oo 28 (.pick (.t 23) (.k (.bool true)) (.t 27)),Om 29 28,⟨some 30,.fa 3 1 3 (.t 1),some (29,false)⟩,⟨some 31,.ld 1 false (.t 30),some (29,false)⟩,⟨some 32,.not (.t 31),some (29,false)⟩,⟨some 33,.mv (.t 32),some (29,false)⟩,⟨some 34,.fa 5 1 5 (.t 1),some (33,true)⟩,⟨some 35,.ld 1 false (.t 34),some (33,true)⟩,⟨some 36,.lenl (.t 35),some (33,true)⟩,⟨some 37,.bin .gtr (.t 36) (.k (.int .i64 0)),some (33,true)⟩,⟨some 38,.pick (.t 33) (.t 37) (.k (.bool false)),some (29,false)⟩,Oo 39 (.pick (.t 29) (.k (.bool true)) (.t 38)),Om 40 39,⟨some 41,.fa 6 1 6 (.t 1),some (40,false)⟩,⟨some 42,.ld 1 false (.t 41),some (40,false)⟩,⟨some 43,.fa 2 1 2 (.t 1),some (40,false)⟩,⟨some 44,.ld 1 false (.t 43),some (40,false)⟩,⟨some 45,.call 26 [.t 42,.t 44],some (40,false)⟩,⟨some 46,.not (.t 45),some (40,false)⟩,Oo 47 (.pick (.t 40) (.k (.bool true)) (.t 46)),Om 48 47,⟨some 49,.fa 7 1 7 (.t 1),some (48,false)⟩,⟨some 50,.ld 1 false (.t 49),some (48,false)⟩,⟨some 51,.fa 2 1 2 (.t 1),some (48,false)⟩,⟨some 52,.ld 1 false (.t 51),some (48,false)⟩,⟨some 53,.call 95 [.t 50,.t 52],some (48,false)⟩,⟨some 54,.not (.t 53),some (48,false)⟩,Oo 55 (.pick (.t 48) (.k (.bool true)) (.t 54)),Om 56 55,⟨some 57,.fa 8 1 8 (.t 1),some (56,false)⟩,⟨some 58,.ld 1 false (.t 57),some (56,false)⟩,⟨some 59,.fa 2 1 2 (.t 1),some (56,false)⟩,⟨some 60,.ld 1 false (.t 59),some (56,false)⟩,⟨some 61,.call 95 [.t 58,.t 60],some (56,false)⟩,⟨some 62,.not (.t 61),some (56,false)⟩,Oo 63 (.pick (.t 56) (.k (.bool true)) (.t 62))]) (.cond (.t 63) (.seq (.ops [Ok 2 (.bool false)]) .ret) .skip)) (.seq (.seq (.ops [Of 64 7 1,Ol 65 64,Og 66 65,Ok 67 (.int .i64 0)]) (.block 0 (.loop (.seq (.ops [Ob 68 .lss 67 66]) (.seq (.cond (.t 68) .skip (.exit 0)) (.seq (.block 1 (.seq (.ops [Ox 69 4 65 67,Od 70 4 69,Oo 4 (.al (.agg [.str ⟨#[]⟩,.str ⟨#[]⟩,.int .i64 0,.int .i64 0])),Os 4 4 70]) (.seq (.ops [Of 71 8 1,Ol 72 71,Of 73 0 4,Ol 74 73,Oc 75 96 [.t 72,.t 74],Oo 76 (.bin .geq (.t 75) (.k (.int .i64 0)))]) (.cond (.t 76) (.seq (.ops [Ok 2 (.bool false)]) .ret) .skip)))) (.ops [Oi 77 67,Om 67 77]))))))) (.seq (.seq (.ops [Of 78 1 1,Ol 79 78]) (.cond (.t 79) (.seq (.ops [Ok 2 (.bool true)]) .ret) .skip)) (.seq (.seq (.ops [Of 80 3 1,Ol 81 80,Om 82 81,⟨some 83,.fa 5 1 5 (.t 1),some (82,false)⟩,⟨some 84,.ld 1 false (.t 83),some (82,false)⟩,⟨some 85,.lenl (.t 84),some (82,false)⟩,⟨some 86,.fa 7 1 7 (.t 1),some (82,false)⟩,⟨some 87,.ld 1 false (.t 86),some (82,false)⟩,⟨some 88,.lenl (.t 87),some (82,false)⟩,⟨some 89,.bin .add (.t 85) (.t 88),some (82,false)⟩,⟨some 90,.fa 8 1 8 (.t 1),some (82,false)⟩,⟨some 91,.ld 1 false (.t 90),some (82,false)⟩,⟨some 92,.lenl (.t 91),some (82,false)⟩,⟨some 93,.bin .add (.t 89) (.t 92),some (82,false)⟩,⟨some 94,.bin .gtr (.t 93) (.k (.int .i64 0)),some (82,false)⟩,Oo 95 (.pick (.t 82) (.k (.bool true)) (.t 94)),Om 96 95,⟨some 97,.fa 4 1 4 (.t 1),some (96,false)⟩,⟨some 98,.ld 1 false (.t 97),some (96,false)⟩,⟨some 99,.bin .neq (.t 98) (.k (.int .i64 0)),some (96,false)⟩,Oo 100 (.pick (.t 96) (.k (.bool true)) (.t 99))]) (.cond (.t 100) (.seq (.ops [Ok 2 (.bool false)]) .ret) .skip)) (.seq (.seq (.ops [Of 101 6 1,Ol 102 101,Og 103 102,Ok 104 (.int .i64 0)]) (.block 2 (.loop (.seq (.ops [Ob 105 .lss 104 103]) (.seq (.cond (.t 105) .skip (.exit 2)) (.seq (.block 3 (.seq (.ops [Ox 106 11 102 104,Od 107 11 106,Oo 6 (.al (.agg [.agg [.str ⟨#[]⟩,.int .i64 0,.str ⟨#[]⟩,.int .i64 0,.int .i64 0,.int .i64 0,.int .i64 0],.int .i64 0,.int .i64 0,.int .i64 0,.int .i64 0])),Os 11 6 107]) (.seq (.ops [Od 108 11 6,Oc 109 17 [.t 108],Oo 110 (.not (.t 109)),Om 111 110,⟨some 112,.fa 0 7 0 (.t 6),some (111,true)⟩,⟨some 113,.fa 2 1 2 (.t 112),some (111,true)⟩,⟨some 114,.ld 1 false (.t 113),some (111,true)⟩,⟨some 115,.bin .eql (.t 114) (.k (.str ⟨#[]⟩)),some (111,true)⟩,Oo 116 (.pick (.t 111) (.t 115) (.k (.bool false)))]) (.cond (.t 116) (.seq (.ops [Ok 2 (.bool false)]) .ret) .skip)))) (.ops [Oi 117 104,Om 104 117]))))))) (.seq (.ops [Ok 2 (.bool true)]) .ret)))))))⟩
theorem c46 : compileF Try.prog [] 46 = some cf46 := by kernel_rfl
def c1 (m : Mate) : Bool := !nameOk m.fName || !inR m.fClock 0 1000000 || !inR m.fSeen 0 1000000 || !wantsOk m.fWants || (!m.fKnown && decide ((m.fWants.length : Int) > 0)) || !runsOk m.fRuns m.fClock || !asksOk m.fAsks m.fClock || !asksOk m.fGives m.fClock
def gF (m : Mate) (i : Nat) : Bool := !decide (askI m.fGives (m.fAsks.getD i default).fHold ≥ 0)
def rF (m : Mate) (i : Nat) : Bool := !(!alive (m.fRuns.getD i default) && ((m.fRuns.getD i default).fWant.fHold.toList == (ByteArray.mk #[]).toList))
def fin (m : Mate) : Bool := !m.fKnown && m.fSeen == 0 && decide (m.fAsks.length = 0) && decide (m.fGives.length = 0)
def validM (m : Mate) : Bool := !c1 m && (allN (gF m) m.fAsks.length 0 && (m.fUp || (allN (rF m) m.fRuns.length 0 && fin m)))
theorem c1_facts {m : Mate} (h : c1 m = false) : m.fWants.length ≤ 10 ∧ m.fAsks.length ≤ 40 ∧ m.fGives.length ≤ 40 ∧ m.fRuns.length ≤ 20 ∧ (m.fKnown = false → m.fWants.length = 0) := by
 simp only [c1, Bool.or_eq_false_iff, Bool.not_eq_false'] at h
 obtain ⟨⟨⟨⟨⟨⟨⟨_, _⟩, _⟩, h1⟩, h2⟩, h3⟩, h4⟩, h5⟩ := h
 simp only [wantsOk, runsOk, asksOk, Bool.and_eq_true, Bool.not_eq_true', decide_eq_false_iff_not] at h1 h3 h4 h5
 refine ⟨by omega, by omega, by omega, by omega, fun hk => ?_⟩
 by_cases h0 : m.fWants.length = 0
 ·exact h0
 ·have h6 : (m.fWants.length : Int) > 0 := by omega
  rw [hk, decide_eq_true h6] at h2
  cases h2
theorem impl_MateValid (m : Mate) : Rdr Try.prog 46 [m.D] (.bool (validM m)) := by
 refine Rdr.intro' hm c46 (Nat.le_of_ble_eq_true rfl) ?_
 conv => whnf
 repeat' (first | (refine g_op ?_; conv => whnf) | (refine And.intro ?_ ?_; (focus exact au0); conv => whnf) | (refine g_seq ?_) | (refine g_ops ?_) | ((first | refine g_nil ?_ | refine fun _ => ?_); conv => whnf) | fail)
 refine XS.freezeB 1 rfl ?_
 repeat' (first | (refine z_ld1 ?_; first | (refine z_ld rfl rfl rfl rfl au1 au2 ?_; conv => whnf) | (refine z_ld0 rfl ?_; conv => whnf)) | (refine z_ld1g ?_; first | (refine z_ldg rfl rfl rfl rfl rfl rfl rfl (by (repeat intro _); exact ⟨au1, au2⟩) rfl rfl rfl rfl ?_; conv => whnf) | (refine z_ld0g ?_; (conv => whnf); refine And.intro ?_ ?_; (focus exact rfl); conv => whnf)) | (refine z_op ?_ ?_; (focus exact rfl); conv => whnf) | (refine z_opg0 ?_; (conv => whnf); refine And.intro ?_ ?_; (focus exact rfl); conv => whnf) | (refine z_pick ?_ ?_; (focus exact rfl); conv => whnf) | (refine z_pickg ?_; (conv => whnf); refine And.intro ?_ ?_; (focus exact rfl); conv => whnf) | (refine zs_ops ?_ ?_; (focus exact rfl)) | (refine z_nil fun vals => ?_; conv => whnf) | (refine z_call ?_ ?_; (focus exact rfl)) | (refine z_callg0 ?_; (conv => whnf); refine And.intro ?_ ?_; (focus exact rfl)) | (refine RC.of (impl_mName _) ?_ ?_; (focus exact rfl); conv => whnf) | (refine RC.of (impl_within _ _ _) ?_ ?_; (focus exact rfl); conv => whnf) | (refine RC.of (impl_WantsOk _) ?_ ?_; (focus exact rfl); conv => whnf) | (refine RC.of (impl_RunsOk _ _) ?_ ?_; (focus exact rfl); conv => whnf) | (refine RC.of (impl_AsksOk _ _) ?_ ?_; (focus exact rfl); conv => whnf) | (refine And.intro ?_ ?_; (focus exact au0); conv => whnf) | (refine g_seq ?_) | (refine XS.go ?_) | (refine g_cond ?_; conv => whnf) | fail)
 simp only [mlen']
 refine Br.mk (fun hb => ?_) (fun hb => ?_)
 ·have hc : c1 m = true := by rw [← hb]; rfl
  conv => whnf
  repeat' (first | (refine g_op ?_; conv => whnf) | (refine And.intro ?_ ?_; (focus exact au0); conv => whnf) | (refine g_seq ?_) | (refine XS.go ?_) | (refine g_ops ?_) | ((first | refine g_nil ?_ | refine g_ret ?_ | refine r_t ?_ | refine r_nil ?_); conv => whnf) | fail)
  (conv => lhs; whnf)
  rw [validM, hc]
  rfl
 have hc : c1 m = false := by rw [← hb]; rfl
 have hv : validM m = (allN (gF m) m.fAsks.length 0 && (m.fUp || (allN (rF m) m.fRuns.length 0 && fin m))) := by rw [validM, hc]; rfl
 obtain ⟨hW, hA, hG, hR, hk⟩ := c1_facts hc
 have hfin : (m.fKnown || decide (IntKind.wrap .i64 (IntKind.wrap .i64 ((m.fWants.length : Int) + (m.fAsks.length : Int)) + (m.fGives.length : Int)) > 0) || m.fSeen != 0) = !fin m := by
  rw [wrap_ok (n := (m.fWants.length : Int) + (m.fAsks.length : Int)) (by omega) (by omega), wrap_ok (by omega) (by omega)]
  unfold fin
  cases hkn : m.fKnown with
  | true => rfl
  | false =>
   have h0 := hk hkn
   rw [h0]
   generalize m.fAsks.length = A at *
   generalize m.fGives.length = G at *
   by_cases h1 : A = 0 <;> by_cases h2 : G = 0 <;> by_cases h3 : m.fSeen = 0 <;> simp [h1, h2, h3] <;> first | omega | rfl
 clear hb hc hk
 conv => whnf
 repeat' (first | (refine z_ld1 ?_; first | (refine z_ld rfl rfl rfl rfl au1 au2 ?_; conv => whnf) | (refine z_ld0 rfl ?_; conv => whnf)) | (refine z_op ?_ ?_; (focus exact rfl); conv => whnf) | (refine zs_ops ?_ ?_; (focus exact rfl)) | (refine z_nil fun vals => ?_; conv => whnf) | (refine And.intro ?_ ?_; (focus exact au0); conv => whnf) | (refine g_seq ?_) | (refine XS.go ?_) | (refine g_loop ?_) | (refine g_skip ?_; conv => whnf) | (refine g_block ?_) | fail)
 refine XLc.mkL (α := Nat) (fun i => i ≤ m.fAsks.length ∧ validM m = (allN (gF m) (m.fAsks.length - i) i && (m.fUp || (allN (rF m) m.fRuns.length 0 && fin m)))) (fun i => m.fAsks.length - i) (fun i gs => [.any, .cref m.D, .any, .any, .any, .any, .any, .any, .any, .any, .any, .any, .any, .any, .any, .any, .any, .any, .any, .any, .any, .any, .any, .any, .any, .any, .any, .any, .any, .any, .any, .any, .any, .any, .any, .any, .any, .any, .any, .any, .any, .any, .any, .any, .any, .any, .any, .any, .any, .any, .any, .any, .any, .any, .any, .any, .any, .any, .any, .any, .any, .any, .any, .any, .any, .ro 4 (m.fAsks.map MateAsk.D), .int .i64 ((m.fAsks.map MateAsk.D).length : Int), .int .i64 (i : Int)]) (fun i gs => []) 0 ⟨Nat.zero_le _, hv⟩ ?_ ?_
 ·refine ⟨?_, ?_⟩
  ·repeat' (first | exact True.intro | refine And.intro rfl ?_)
  ·repeat' (first | exact True.intro | refine And.intro rfl ?_)
 intro i gs hI
 obtain ⟨hi, hN⟩ := hI
 repeat' (first | (refine g_op ?_; conv => whnf) | (refine And.intro ?_ ?_; (focus exact au0); conv => whnf) | (refine g_seq ?_) | (refine XS.go ?_) | (refine g_ops ?_) | ((first | refine g_nil ?_ | refine g_cond ?_); conv => whnf) | fail)
 refine Br.mk (fun hb => ?_) (fun hb => ?_)
 ·have hlt : i < m.fAsks.length := by simpa using hb
  have hw : IntKind.wrap .i64 ((i : Int) + 1) = ((i + 1 : Nat) : Int) := by rw [wrap_ok (by omega) (by omega)]; rfl
  have hw1 : IntKind.wrap .i64 ((i : Int) - 1) = (i : Int) - 1 := wrap_ok (by omega) (by omega)
  have hbad := fun h => allN_bad (f := gF m) hlt hN h
  have hgood := fun h => allN_good (f := gF m) hlt hN h
  clear hN hb
  all_goals conv => whnf
  repeat' (first | (refine z_ld1 ?_; first | (refine z_ld rfl rfl rfl rfl au1 au2 ?_; conv => whnf) | (refine z_ld0 rfl ?_; conv => whnf)) | (refine z_st1 ?_; first | (refine z_st rfl rfl rfl au1 au2 rfl rfl ?_; conv => whnf) | (refine z_st0 ?_; conv => whnf)) | (refine z_ix1 ?_; first | (refine z_ix rfl rfl rfl rfl rfl ⟨by first | omega | (simp only [decide_eq_true_eq, Bool.not_eq_true', Bool.or_eq_false_iff, decide_eq_false_iff_not, Bool.and_eq_true, Bool.not_eq_false'] at *; omega), by first | omega | (simp only [decide_eq_true_eq, Bool.not_eq_true', Bool.or_eq_false_iff, decide_eq_false_iff_not, Bool.and_eq_true, Bool.not_eq_false'] at *; omega)⟩ ?_; conv => whnf) | (refine z_ix0 rfl rfl ?_; conv => whnf)) | (refine z_op ?_ ?_; (focus exact rfl); conv => whnf) | (refine zs_ops ?_ ?_; (focus exact rfl)) | (refine z_nil fun vals => ?_; conv => whnf) | (refine z_call ?_ ?_; (focus exact rfl)) | (refine z_eff ?_; conv => whnf) | (refine RC.of (impl_AskAt m.fGives _ (by omega)) ?_ ?_; (focus exact rfl); conv => whnf) | (refine g_op ?_; conv => whnf) | (refine And.intro ?_ ?_; (focus exact au0); conv => whnf) | (refine g_seq ?_) | (refine XS.go ?_) | (refine g_ops ?_) | ((first | refine g_nil ?_ | refine g_cond ?_ | refine g_skip ?_ | refine g_ret ?_); conv => whnf) | (refine g_block ?_) | ((first | refine r_t ?_ | refine r_nil ?_ | refine fun _ => ?_); conv => whnf) | (refine Br.mk (fun hb => ?_) (fun hb => ?_) <;> conv => whnf) | fail)
  all_goals
   first
   |(refine ⟨(), hbad ?_, ⟨?_, True.intro⟩⟩
     ·clear hbad hgood hw hfin hv
      first | (first | (refine (Bool.eq_false_iff.mpr fun h => ?_).symm; simp_all [gF]; done) | (refine Bool.eq_false_iff.mpr fun h => ?_; simp_all [gF]; done) | (simp_all [gF]; done) | (simp_all [gF]; omega) | (refine (Bool.eq_false_iff.mpr fun h => ?_).symm; simp_all [gF]; omega) | (refine Bool.eq_false_iff.mpr fun h => ?_; simp_all [gF]; omega) | (rw [Bool.eq_iff_iff]; constructor <;> intro h <;> simp_all [gF] <;> omega) | fail) | (rcases Nat.eq_zero_or_pos i with h0 | h0 <;> simp_all [gF] <;> omega) | (fail) | fail
     ·repeat' (first | exact True.intro | refine And.intro rfl ?_))
   |(conv => lhs; whnf
     refine congrArg D.bool (hbad ?_)
     clear hbad hgood hw hfin hv
     first | (first | (refine (Bool.eq_false_iff.mpr fun h => ?_).symm; simp_all [gF]; done) | (refine Bool.eq_false_iff.mpr fun h => ?_; simp_all [gF]; done) | (simp_all [gF]; done) | (simp_all [gF]; omega) | (refine (Bool.eq_false_iff.mpr fun h => ?_).symm; simp_all [gF]; omega) | (refine Bool.eq_false_iff.mpr fun h => ?_; simp_all [gF]; omega) | (rw [Bool.eq_iff_iff]; constructor <;> intro h <;> simp_all [gF] <;> omega) | fail) | (rcases Nat.eq_zero_or_pos i with h0 | h0 <;> simp_all [gF] <;> omega) | (fail) | fail)
   |(refine ⟨i + 1, ⟨by omega, ?_⟩, by omega, ?_, ?_⟩
     ·refine hgood ?_
      clear hbad hgood hw hfin hv
      first | (first | (refine (Bool.eq_false_iff.mpr fun h => ?_).symm; simp_all [gF]; done) | (refine Bool.eq_false_iff.mpr fun h => ?_; simp_all [gF]; done) | (simp_all [gF]; done) | (simp_all [gF]; omega) | (refine (Bool.eq_false_iff.mpr fun h => ?_).symm; simp_all [gF]; omega) | (refine Bool.eq_false_iff.mpr fun h => ?_; simp_all [gF]; omega) | (rw [Bool.eq_iff_iff]; constructor <;> intro h <;> simp_all [gF] <;> omega) | fail) | (rcases Nat.eq_zero_or_pos i with h0 | h0 <;> simp_all [gF] <;> omega) | (fail) | fail
     ·repeat' (first | exact True.intro | refine And.intro (congrArg (D.int .i64) hw) ?_ | refine And.intro rfl ?_)
     ·repeat' (first | exact True.intro | refine And.intro rfl ?_))
 have hge : ¬ i < m.fAsks.length := by simpa using hb
 have hend : validM m = (m.fUp || (allN (rF m) m.fRuns.length 0 && fin m)) := by rw [hN, allN_end hge, Bool.true_and]
 clear hN
 conv => whnf
 repeat' (first | (refine z_ld1 ?_; first | (refine z_ld rfl rfl rfl rfl au1 au2 ?_; conv => whnf) | (refine z_ld0 rfl ?_; conv => whnf)) | (refine z_op ?_ ?_; (focus exact rfl); conv => whnf) | (refine zs_ops ?_ ?_; (focus exact rfl)) | (refine z_nil fun vals => ?_; conv => whnf) | (refine And.intro ?_ ?_; (focus exact au0); conv => whnf) | (refine g_seq ?_) | (refine XS.go ?_) | ((first | refine g_cond ?_ | refine g_exit ?_); conv => whnf) | fail)
 refine Br.mk (fun hu => ?_) (fun hu => ?_)
 ·conv => whnf
  repeat' (first | (refine g_op ?_; conv => whnf) | (refine And.intro ?_ ?_; (focus exact au0); conv => whnf) | (refine g_seq ?_) | (refine XS.go ?_) | (refine g_ops ?_) | ((first | refine g_nil ?_ | refine g_ret ?_ | refine r_t ?_ | refine r_nil ?_); conv => whnf) | fail)
  (conv => lhs; whnf)
  rw [hend, hu]
  rfl
 have hend2 : validM m = (allN (rF m) m.fRuns.length 0 && fin m) := by rw [hend, hu]; rfl
 clear hend hv
 conv => whnf
 repeat' (first | (refine z_ld1 ?_; first | (refine z_ld rfl rfl rfl rfl au1 au2 ?_; conv => whnf) | (refine z_ld0 rfl ?_; conv => whnf)) | (refine z_ld1g ?_; first | (refine z_ldg rfl rfl rfl rfl rfl rfl rfl (by (repeat intro _); exact ⟨au1, au2⟩) rfl rfl rfl rfl ?_; conv => whnf) | (refine z_ld0g ?_; (conv => whnf); refine And.intro ?_ ?_; (focus exact rfl); conv => whnf)) | (refine z_op ?_ ?_; (focus exact rfl); conv => whnf) | (refine z_opg0 ?_; (conv => whnf); refine And.intro ?_ ?_; (focus exact rfl); conv => whnf) | (refine z_pick ?_ ?_; (focus exact rfl); conv => whnf) | (refine zs_ops ?_ ?_; (focus exact rfl)) | (refine z_nil fun vals => ?_; conv => whnf) | (refine And.intro ?_ ?_; (focus exact au0); conv => whnf) | (refine g_seq ?_) | (refine XS.go ?_) | ((first | refine g_cond ?_ | refine g_skip ?_); conv => whnf) | fail)
 simp only [mlen']
 rw [hfin]
 refine Br.mk (fun hf => ?_) (fun hf => ?_)
 ·conv => whnf
  repeat' (first | (refine g_op ?_; conv => whnf) | (refine And.intro ?_ ?_; (focus exact au0); conv => whnf) | (refine g_seq ?_) | (refine XS.go ?_) | (refine g_ops ?_) | ((first | refine g_nil ?_ | refine g_ret ?_ | refine r_t ?_ | refine r_nil ?_); conv => whnf) | fail)
  (conv => lhs; whnf)
  have hf' : fin m = false := by simpa using hf
  rw [hend2, hf', Bool.and_false]
 have hend3 : validM m = (allN (rF m) m.fRuns.length 0 && true) := by
  have hf' : fin m = true := by simpa using hf
  rw [hend2, hf']
 clear hend2 hf hfin
 conv => whnf
 repeat' (first | (refine z_ld1 ?_; first | (refine z_ld rfl rfl rfl rfl au1 au2 ?_; conv => whnf) | (refine z_ld0 rfl ?_; conv => whnf)) | (refine z_op ?_ ?_; (focus exact rfl); conv => whnf) | (refine zs_ops ?_ ?_; (focus exact rfl)) | (refine z_nil fun vals => ?_; conv => whnf) | (refine And.intro ?_ ?_; (focus exact au0); conv => whnf) | (refine g_seq ?_) | (refine XS.go ?_) | (refine g_loop ?_) | (refine g_skip ?_; conv => whnf) | (refine g_block ?_) | fail)
 refine XLc.mkL (α := Nat) (fun i => i ≤ m.fRuns.length ∧ validM m = (allN (rF m) (m.fRuns.length - i) i && true)) (fun i => m.fRuns.length - i) (fun i gs => [.any, .any, .any, .any, .any, .any, .any, .any, .any, .any, .any, .any, .any, .any, .any, .any, .any, .any, .any, .any, .any, .any, .any, .any, .any, .any, .any, .any, .any, .any, .any, .any, .any, .any, .any, .any, .any, .any, .any, .any, .any, .any, .any, .any, .any, .any, .any, .any, .any, .any, .any, .any, .any, .any, .any, .any, .any, .any, .any, .any, .any, .any, .any, .any, .any, .any, .any, .any, .any, .any, .any, .any, .any, .any, .any, .any, .any, .any, .any, .any, .any, .any, .any, .any, .any, .any, .any, .any, .any, .any, .any, .any, .any, .any, .any, .any, .any, .any, .any, .any, .any, .any, .ro 11 (m.fRuns.map MateRun.D), .int .i64 ((m.fRuns.map MateRun.D).length : Int), .int .i64 (i : Int)]) (fun i gs => []) 0 ⟨Nat.zero_le _, hend3⟩ ?_ ?_
 ·refine ⟨?_, ?_⟩
  ·repeat' (first | exact True.intro | refine And.intro rfl ?_)
  ·repeat' (first | exact True.intro | refine And.intro rfl ?_)
 intro i gs hI
 obtain ⟨hi, hN⟩ := hI
 repeat' (first | (refine g_op ?_; conv => whnf) | (refine And.intro ?_ ?_; (focus exact au0); conv => whnf) | (refine g_seq ?_) | (refine XS.go ?_) | (refine g_ops ?_) | ((first | refine g_nil ?_ | refine g_cond ?_); conv => whnf) | fail)
 refine Br.mk (fun hb => ?_) (fun hb => ?_)
 ·have hlt : i < m.fRuns.length := by simpa using hb
  have hw : IntKind.wrap .i64 ((i : Int) + 1) = ((i + 1 : Nat) : Int) := by rw [wrap_ok (by omega) (by omega)]; rfl
  have hw1 : IntKind.wrap .i64 ((i : Int) - 1) = (i : Int) - 1 := wrap_ok (by omega) (by omega)
  have hbad := fun h => allN_bad (f := rF m) hlt hN h
  have hgood := fun h => allN_good (f := rF m) hlt hN h
  clear hN hb
  all_goals conv => whnf
  repeat' (first | (refine z_ld1 ?_; first | (refine z_ld rfl rfl rfl rfl au1 au2 ?_; conv => whnf) | (refine z_ld0 rfl ?_; conv => whnf)) | (refine z_ld1g ?_; first | (refine z_ldg rfl rfl rfl rfl rfl rfl rfl (by (repeat intro _); exact ⟨au1, au2⟩) rfl rfl rfl rfl ?_; conv => whnf) | (refine z_ld0g ?_; (conv => whnf); refine And.intro ?_ ?_; (focus exact rfl); conv => whnf)) | (refine z_st1 ?_; first | (refine z_st rfl rfl rfl au1 au2 rfl rfl ?_; conv => whnf) | (refine z_st0 ?_; conv => whnf)) | (refine z_ix1 ?_; first | (refine z_ix rfl rfl rfl rfl rfl ⟨by first | omega | (simp only [decide_eq_true_eq, Bool.not_eq_true', Bool.or_eq_false_iff, decide_eq_false_iff_not, Bool.and_eq_true, Bool.not_eq_false'] at *; omega), by first | omega | (simp only [decide_eq_true_eq, Bool.not_eq_true', Bool.or_eq_false_iff, decide_eq_false_iff_not, Bool.and_eq_true, Bool.not_eq_false'] at *; omega)⟩ ?_; conv => whnf) | (refine z_ix0 rfl rfl ?_; conv => whnf)) | (refine z_op ?_ ?_; (focus exact rfl); conv => whnf) | (refine z_opg0 ?_; (conv => whnf); refine And.intro ?_ ?_; (focus exact rfl); conv => whnf) | (refine z_pick ?_ ?_; (focus exact rfl); conv => whnf) | (refine zs_ops ?_ ?_; (focus exact rfl)) | (refine z_nil fun vals => ?_; conv => whnf) | (refine z_call ?_ ?_; (focus exact rfl)) | (refine z_eff ?_; conv => whnf) | (refine RC.of (impl_Alive _) ?_ ?_; (focus exact rfl); conv => whnf) | (refine g_op ?_; conv => whnf) | (refine And.intro ?_ ?_; (focus exact au0); conv => whnf) | (refine g_seq ?_) | (refine XS.go ?_) | (refine g_ops ?_) | ((first | refine g_nil ?_ | refine g_cond ?_ | refine g_skip ?_ | refine g_ret ?_); conv => whnf) | (refine g_block ?_) | ((first | refine r_t ?_ | refine r_nil ?_ | refine fun _ => ?_); conv => whnf) | (refine Br.mk (fun hb => ?_) (fun hb => ?_) <;> conv => whnf) | fail)
  all_goals
   first
   |(refine ⟨(), hbad ?_, ⟨?_, True.intro⟩⟩
     ·clear hbad hgood hw hend3
      first | (first | (refine (Bool.eq_false_iff.mpr fun h => ?_).symm; simp_all [rF]; done) | (refine Bool.eq_false_iff.mpr fun h => ?_; simp_all [rF]; done) | (simp_all [rF]; done) | (simp_all [rF]; omega) | (refine (Bool.eq_false_iff.mpr fun h => ?_).symm; simp_all [rF]; omega) | (refine Bool.eq_false_iff.mpr fun h => ?_; simp_all [rF]; omega) | (rw [Bool.eq_iff_iff]; constructor <;> intro h <;> simp_all [rF] <;> omega) | fail) | (rcases Nat.eq_zero_or_pos i with h0 | h0 <;> simp_all [rF] <;> omega) | (cases ha : alive (m.fRuns.getD i default) <;> by_cases hq : (m.fRuns.getD i default).fWant.fHold.toList = [] <;> first | (simp_all [rF]; done) | (refine Bool.eq_false_iff.mpr fun h => ?_; simp_all [rF]; done) | fail) | fail
     ·repeat' (first | exact True.intro | refine And.intro rfl ?_))
   |(conv => lhs; whnf
     refine congrArg D.bool (hbad ?_)
     clear hbad hgood hw hend3
     first | (first | (refine (Bool.eq_false_iff.mpr fun h => ?_).symm; simp_all [rF]; done) | (refine Bool.eq_false_iff.mpr fun h => ?_; simp_all [rF]; done) | (simp_all [rF]; done) | (simp_all [rF]; omega) | (refine (Bool.eq_false_iff.mpr fun h => ?_).symm; simp_all [rF]; omega) | (refine Bool.eq_false_iff.mpr fun h => ?_; simp_all [rF]; omega) | (rw [Bool.eq_iff_iff]; constructor <;> intro h <;> simp_all [rF] <;> omega) | fail) | (rcases Nat.eq_zero_or_pos i with h0 | h0 <;> simp_all [rF] <;> omega) | (cases ha : alive (m.fRuns.getD i default) <;> by_cases hq : (m.fRuns.getD i default).fWant.fHold.toList = [] <;> first | (simp_all [rF]; done) | (refine Bool.eq_false_iff.mpr fun h => ?_; simp_all [rF]; done) | fail) | fail)
   |(refine ⟨i + 1, ⟨by omega, ?_⟩, by omega, ?_, ?_⟩
     ·refine hgood ?_
      clear hbad hgood hw hend3
      first | (first | (refine (Bool.eq_false_iff.mpr fun h => ?_).symm; simp_all [rF]; done) | (refine Bool.eq_false_iff.mpr fun h => ?_; simp_all [rF]; done) | (simp_all [rF]; done) | (simp_all [rF]; omega) | (refine (Bool.eq_false_iff.mpr fun h => ?_).symm; simp_all [rF]; omega) | (refine Bool.eq_false_iff.mpr fun h => ?_; simp_all [rF]; omega) | (rw [Bool.eq_iff_iff]; constructor <;> intro h <;> simp_all [rF] <;> omega) | fail) | (rcases Nat.eq_zero_or_pos i with h0 | h0 <;> simp_all [rF] <;> omega) | (cases ha : alive (m.fRuns.getD i default) <;> by_cases hq : (m.fRuns.getD i default).fWant.fHold.toList = [] <;> first | (simp_all [rF]; done) | (refine Bool.eq_false_iff.mpr fun h => ?_; simp_all [rF]; done) | fail) | fail
     ·repeat' (first | exact True.intro | refine And.intro (congrArg (D.int .i64) hw) ?_ | refine And.intro rfl ?_)
     ·repeat' (first | exact True.intro | refine And.intro rfl ?_))
 have hge : ¬ i < m.fRuns.length := by simpa using hb
 have hend : validM m = true := by rw [hN, allN_end hge, Bool.true_and]
 clear hN
 conv => whnf
 repeat' (first | (refine g_op ?_; conv => whnf) | (refine And.intro ?_ ?_; (focus exact au0); conv => whnf) | (refine g_seq ?_) | (refine XS.go ?_) | (refine g_ops ?_) | ((first | refine g_nil ?_ | refine g_ret ?_ | refine g_exit ?_ | refine r_t ?_ | refine r_nil ?_); conv => whnf) | fail)
 (conv => lhs; whnf)
 rw [hend]
theorem spec_MateValid (m : Mate) : Rdr Try.prog 45 [m.D] (.bool (validM m)) := by
 refine Rdr.intro' hm c45 (Nat.le_of_ble_eq_true rfl) ?_
 conv => whnf
 repeat' (first | (refine g_op ?_; conv => whnf) | (refine And.intro ?_ ?_; (focus exact au0); conv => whnf) | (refine g_seq ?_) | (refine g_ops ?_) | ((first | refine g_nil ?_ | refine fun _ => ?_); conv => whnf) | fail)
 refine XS.freezeB 1 rfl ?_
 repeat' (first | (refine z_ld1 ?_; first | (refine z_ld rfl rfl rfl rfl au1 au2 ?_; conv => whnf) | (refine z_ld0 rfl ?_; conv => whnf)) | (refine z_ld1g ?_; first | (refine z_ldg rfl rfl rfl rfl rfl rfl rfl (by (repeat intro _); exact ⟨au1, au2⟩) rfl rfl rfl rfl ?_; conv => whnf) | (refine z_ld0g ?_; (conv => whnf); refine And.intro ?_ ?_; (focus exact rfl); conv => whnf)) | (refine z_op ?_ ?_; (focus exact rfl); conv => whnf) | (refine z_opg0 ?_; (conv => whnf); refine And.intro ?_ ?_; (focus exact rfl); conv => whnf) | (refine z_pick ?_ ?_; (focus exact rfl); conv => whnf) | (refine z_pickg ?_; (conv => whnf); refine And.intro ?_ ?_; (focus exact rfl); conv => whnf) | (refine zs_ops ?_ ?_; (focus exact rfl)) | (refine z_nil fun vals => ?_; conv => whnf) | (refine z_call ?_ ?_; (focus exact rfl)) | (refine z_callg0 ?_; (conv => whnf); refine And.intro ?_ ?_; (focus exact rfl)) | (refine RC.of (spec_NameOk _) ?_ ?_; (focus exact rfl); conv => whnf) | (refine RC.of (spec_In _ _ _) ?_ ?_; (focus exact rfl); conv => whnf) | (refine RC.of (spec_WantsOk _) ?_ ?_; (focus exact rfl); conv => whnf) | (refine RC.of (spec_RunsOk _ _) ?_ ?_; (focus exact rfl); conv => whnf) | (refine RC.of (spec_AsksOk _ _) ?_ ?_; (focus exact rfl); conv => whnf) | (refine And.intro ?_ ?_; (focus exact au0); conv => whnf) | (refine g_seq ?_) | (refine XS.go ?_) | (refine g_cond ?_; conv => whnf) | fail)
 simp only [mlen']
 refine Br.mk (fun hb => ?_) (fun hb => ?_)
 ·have hc : c1 m = true := by rw [← hb]; unfold c1; rw [Bool.and_comm (!m.fKnown)]
  conv => whnf
  repeat' (first | (refine g_op ?_; conv => whnf) | (refine And.intro ?_ ?_; (focus exact au0); conv => whnf) | (refine g_seq ?_) | (refine XS.go ?_) | (refine g_ops ?_) | ((first | refine g_nil ?_ | refine g_ret ?_ | refine r_t ?_ | refine r_nil ?_); conv => whnf) | fail)
  (conv => lhs; whnf)
  rw [validM, hc]
  rfl
 have hc : c1 m = false := by rw [← hb]; unfold c1; rw [Bool.and_comm (!m.fKnown)]
 have hv : validM m = (allN (gF m) m.fAsks.length 0 && (m.fUp || (allN (rF m) m.fRuns.length 0 && fin m))) := by rw [validM, hc]; rfl
 obtain ⟨hW, hA, hG, hR, hk⟩ := c1_facts hc
 have hfin : (!m.fKnown && m.fSeen == 0 && IntKind.wrap .i64 ((m.fAsks.length : Int) + (m.fGives.length : Int)) == 0) = fin m := by
  rw [wrap_ok (by omega) (by omega)]
  unfold fin
  generalize m.fAsks.length = A at *
  generalize m.fGives.length = G at *
  cases m.fKnown <;> by_cases h1 : A = 0 <;> by_cases h2 : G = 0 <;> by_cases h3 : m.fSeen = 0 <;> simp [h1, h2, h3] <;> omega
 clear hb hc hk
 conv => whnf
 repeat' (first | (refine g_op ?_; conv => whnf) | (refine And.intro ?_ ?_; (focus exact au0); conv => whnf) | (refine g_seq ?_) | (refine XS.go ?_) | (refine g_ops ?_) | (refine g_loop ?_) | ((first | refine g_nil ?_ | refine g_skip ?_); conv => whnf) | (refine g_block ?_) | fail)
 refine XLc.mkL (α := Nat) (fun i => i ≤ m.fAsks.length ∧ validM m = (allN (gF m) (m.fAsks.length - i) i && (m.fUp || (allN (rF m) m.fRuns.length 0 && fin m)))) (fun i => m.fAsks.length - i) (fun i gs => [.any, .cref m.D, .any, .int .i64 (i : Int)]) (fun i gs => []) 0 ⟨Nat.zero_le _, hv⟩ ?_ ?_
 ·refine ⟨?_, ?_⟩
  ·repeat' (first | exact True.intro | refine And.intro rfl ?_)
  ·repeat' (first | exact True.intro | refine And.intro rfl ?_)
 intro i gs hI
 obtain ⟨hi, hN⟩ := hI
 repeat' (first | (refine z_ld1 ?_; first | (refine z_ld rfl rfl rfl rfl au1 au2 ?_; conv => whnf) | (refine z_ld0 rfl ?_; conv => whnf)) | (refine z_op ?_ ?_; (focus exact rfl); conv => whnf) | (refine zs_ops ?_ ?_; (focus exact rfl)) | (refine z_nil fun vals => ?_; conv => whnf) | (refine And.intro ?_ ?_; (focus exact au0); conv => whnf) | (refine g_seq ?_) | (refine XS.go ?_) | (refine g_cond ?_; conv => whnf) | fail)
 refine Br.mk (fun hb => ?_) (fun hb => ?_)
 ·have hlt : i < m.fAsks.length := by simpa using hb
  have hw : IntKind.wrap .i64 ((i : Int) + 1) = ((i + 1 : Nat) : Int) := by rw [wrap_ok (by omega) (by omega)]; rfl
  have hw1 : IntKind.wrap .i64 ((i : Int) - 1) = (i : Int) - 1 := wrap_ok (by omega) (by omega)
  have hbad := fun h => allN_bad (f := gF m) hlt hN h
  have hgood := fun h => allN_good (f := gF m) hlt hN h
  clear hN hb
  all_goals conv => whnf
  repeat' (first | (refine z_ld1 ?_; first | (refine z_ld rfl rfl rfl rfl au1 au2 ?_; conv => whnf) | (refine z_ld0 rfl ?_; conv => whnf)) | (refine z_ix1 ?_; first | (refine z_ix rfl rfl rfl rfl rfl ⟨by first | omega | (simp only [decide_eq_true_eq, Bool.not_eq_true', Bool.or_eq_false_iff, decide_eq_false_iff_not, Bool.and_eq_true, Bool.not_eq_false'] at *; omega), by first | omega | (simp only [decide_eq_true_eq, Bool.not_eq_true', Bool.or_eq_false_iff, decide_eq_false_iff_not, Bool.and_eq_true, Bool.not_eq_false'] at *; omega)⟩ ?_; conv => whnf) | (refine z_ix0 rfl rfl ?_; conv => whnf)) | (refine z_op ?_ ?_; (focus exact rfl); conv => whnf) | (refine zs_quiet ?_ ?_; (focus exact rfl)) | (refine z_nil fun vals => ?_; conv => whnf) | (refine z_call ?_ ?_; (focus exact rfl)) | (refine RC.of (spec_Ask m.fGives _ (by omega)) ?_ ?_; (focus exact rfl); conv => whnf) | (refine g_op ?_; conv => whnf) | (refine And.intro ?_ ?_; (focus exact au0); conv => whnf) | (refine g_seq ?_) | (refine XS.go ?_) | (refine g_ops ?_) | ((first | refine g_nil ?_ | refine g_cond ?_ | refine g_skip ?_ | refine g_ret ?_); conv => whnf) | (refine g_block ?_) | ((first | refine r_t ?_ | refine r_nil ?_); conv => whnf) | (refine Br.mk (fun hb => ?_) (fun hb => ?_) <;> conv => whnf) | fail)
  all_goals
   first
   |(refine ⟨(), hbad ?_, ⟨?_, True.intro⟩⟩
     ·clear hbad hgood hw hfin hv
      first | (first | (refine (Bool.eq_false_iff.mpr fun h => ?_).symm; simp_all [gF]; done) | (refine Bool.eq_false_iff.mpr fun h => ?_; simp_all [gF]; done) | (simp_all [gF]; done) | (simp_all [gF]; omega) | (refine (Bool.eq_false_iff.mpr fun h => ?_).symm; simp_all [gF]; omega) | (refine Bool.eq_false_iff.mpr fun h => ?_; simp_all [gF]; omega) | (rw [Bool.eq_iff_iff]; constructor <;> intro h <;> simp_all [gF] <;> omega) | fail) | (rcases Nat.eq_zero_or_pos i with h0 | h0 <;> simp_all [gF] <;> omega) | (fail) | fail
     ·repeat' (first | exact True.intro | refine And.intro rfl ?_))
   |(conv => lhs; whnf
     refine congrArg D.bool (hbad ?_)
     clear hbad hgood hw hfin hv
     first | (first | (refine (Bool.eq_false_iff.mpr fun h => ?_).symm; simp_all [gF]; done) | (refine Bool.eq_false_iff.mpr fun h => ?_; simp_all [gF]; done) | (simp_all [gF]; done) | (simp_all [gF]; omega) | (refine (Bool.eq_false_iff.mpr fun h => ?_).symm; simp_all [gF]; omega) | (refine Bool.eq_false_iff.mpr fun h => ?_; simp_all [gF]; omega) | (rw [Bool.eq_iff_iff]; constructor <;> intro h <;> simp_all [gF] <;> omega) | fail) | (rcases Nat.eq_zero_or_pos i with h0 | h0 <;> simp_all [gF] <;> omega) | (fail) | fail)
   |(refine ⟨i + 1, ⟨by omega, ?_⟩, by omega, ?_, ?_⟩
     ·refine hgood ?_
      clear hbad hgood hw hfin hv
      first | (first | (refine (Bool.eq_false_iff.mpr fun h => ?_).symm; simp_all [gF]; done) | (refine Bool.eq_false_iff.mpr fun h => ?_; simp_all [gF]; done) | (simp_all [gF]; done) | (simp_all [gF]; omega) | (refine (Bool.eq_false_iff.mpr fun h => ?_).symm; simp_all [gF]; omega) | (refine Bool.eq_false_iff.mpr fun h => ?_; simp_all [gF]; omega) | (rw [Bool.eq_iff_iff]; constructor <;> intro h <;> simp_all [gF] <;> omega) | fail) | (rcases Nat.eq_zero_or_pos i with h0 | h0 <;> simp_all [gF] <;> omega) | (fail) | fail
     ·repeat' (first | exact True.intro | refine And.intro (congrArg (D.int .i64) hw) ?_ | refine And.intro rfl ?_)
     ·repeat' (first | exact True.intro | refine And.intro rfl ?_))
 have hge : ¬ i < m.fAsks.length := by simpa using hb
 have hend : validM m = (m.fUp || (allN (rF m) m.fRuns.length 0 && fin m)) := by rw [hN, allN_end hge, Bool.true_and]
 clear hN
 conv => whnf
 repeat' (first | (refine z_ld1 ?_; first | (refine z_ld rfl rfl rfl rfl au1 au2 ?_; conv => whnf) | (refine z_ld0 rfl ?_; conv => whnf)) | (refine z_op ?_ ?_; (focus exact rfl); conv => whnf) | (refine zs_ops ?_ ?_; (focus exact rfl)) | (refine z_nil fun vals => ?_; conv => whnf) | (refine And.intro ?_ ?_; (focus exact au0); conv => whnf) | (refine g_seq ?_) | (refine XS.go ?_) | ((first | refine g_cond ?_ | refine g_exit ?_); conv => whnf) | fail)
 refine Br.mk (fun hu => ?_) (fun hu => ?_)
 ·conv => whnf
  repeat' (first | (refine g_op ?_; conv => whnf) | (refine And.intro ?_ ?_; (focus exact au0); conv => whnf) | (refine g_seq ?_) | (refine XS.go ?_) | (refine g_ops ?_) | ((first | refine g_nil ?_ | refine g_ret ?_ | refine r_t ?_ | refine r_nil ?_); conv => whnf) | fail)
  (conv => lhs; whnf)
  rw [hend, hu]
  rfl
 have hend2 : validM m = (allN (rF m) m.fRuns.length 0 && fin m) := by rw [hend, hu]; rfl
 clear hend hv
 conv => whnf
 repeat' (first | (refine g_op ?_; conv => whnf) | (refine And.intro ?_ ?_; (focus exact au0); conv => whnf) | (refine g_seq ?_) | (refine XS.go ?_) | (refine g_ops ?_) | (refine g_loop ?_) | ((first | refine g_nil ?_ | refine g_skip ?_); conv => whnf) | (refine g_block ?_) | fail)
 refine XLc.mkL (α := Nat) (fun i => i ≤ m.fRuns.length ∧ validM m = (allN (rF m) (m.fRuns.length - i) i && fin m)) (fun i => m.fRuns.length - i) (fun i gs => [.any, .cref m.D, .any, .any, .int .i64 (i : Int)]) (fun i gs => []) 0 ⟨Nat.zero_le _, hend2⟩ ?_ ?_
 ·refine ⟨?_, ?_⟩
  ·repeat' (first | exact True.intro | refine And.intro rfl ?_)
  ·repeat' (first | exact True.intro | refine And.intro rfl ?_)
 intro i gs hI
 obtain ⟨hi, hN⟩ := hI
 repeat' (first | (refine z_ld1 ?_; first | (refine z_ld rfl rfl rfl rfl au1 au2 ?_; conv => whnf) | (refine z_ld0 rfl ?_; conv => whnf)) | (refine z_op ?_ ?_; (focus exact rfl); conv => whnf) | (refine zs_ops ?_ ?_; (focus exact rfl)) | (refine z_nil fun vals => ?_; conv => whnf) | (refine And.intro ?_ ?_; (focus exact au0); conv => whnf) | (refine g_seq ?_) | (refine XS.go ?_) | (refine g_cond ?_; conv => whnf) | fail)
 refine Br.mk (fun hb => ?_) (fun hb => ?_)
 ·have hlt : i < m.fRuns.length := by simpa using hb
  have hw : IntKind.wrap .i64 ((i : Int) + 1) = ((i + 1 : Nat) : Int) := by rw [wrap_ok (by omega) (by omega)]; rfl
  have hw1 : IntKind.wrap .i64 ((i : Int) - 1) = (i : Int) - 1 := wrap_ok (by omega) (by omega)
  have hbad := fun h => allN_bad (f := rF m) hlt hN h
  have hgood := fun h => allN_good (f := rF m) hlt hN h
  clear hN hb
  all_goals conv => whnf
  repeat' (first | (refine z_ld1 ?_; first | (refine z_ld rfl rfl rfl rfl au1 au2 ?_; conv => whnf) | (refine z_ld0 rfl ?_; conv => whnf)) | (refine z_ld1g ?_; first | (refine z_ldg rfl rfl rfl rfl rfl rfl rfl (by (repeat intro _); exact ⟨au1, au2⟩) rfl rfl rfl rfl ?_; conv => whnf) | (refine z_ld0g ?_; (conv => whnf); refine And.intro ?_ ?_; (focus exact rfl); conv => whnf)) | (refine z_ix1 ?_; first | (refine z_ix rfl rfl rfl rfl rfl ⟨by first | omega | (simp only [decide_eq_true_eq, Bool.not_eq_true', Bool.or_eq_false_iff, decide_eq_false_iff_not, Bool.and_eq_true, Bool.not_eq_false'] at *; omega), by first | omega | (simp only [decide_eq_true_eq, Bool.not_eq_true', Bool.or_eq_false_iff, decide_eq_false_iff_not, Bool.and_eq_true, Bool.not_eq_false'] at *; omega)⟩ ?_; conv => whnf) | (refine z_ix0 rfl rfl ?_; conv => whnf)) | (refine z_ix1g ?_; refine z_ixg rfl rfl rfl rfl rfl rfl rfl (by (repeat intro _); refine ⟨?_, ?_⟩ <;> first | omega | (simp only [decide_eq_true_eq, Bool.not_eq_true', Bool.or_eq_false_iff, decide_eq_false_iff_not, Bool.and_eq_true, Bool.not_eq_false'] at *; omega)) ?_) | (refine z_op ?_ ?_; (focus exact rfl); conv => whnf) | (refine z_opg0 ?_; (conv => whnf); refine And.intro ?_ ?_; (focus exact rfl); conv => whnf) | (refine z_pick ?_ ?_; (focus exact rfl); conv => whnf) | (refine zs_ops ?_ ?_; (focus exact rfl)) | (refine z_nil fun vals => ?_; conv => whnf) | (refine z_call ?_ ?_; (focus exact rfl)) | (refine RC.of (spec_Alive _) ?_ ?_; (focus exact rfl); conv => whnf) | (refine g_op ?_; conv => whnf) | (refine And.intro ?_ ?_; (focus exact au0); conv => whnf) | (refine g_seq ?_) | (refine XS.go ?_) | (refine g_ops ?_) | ((first | refine g_nil ?_ | refine g_cond ?_ | refine g_skip ?_ | refine g_ret ?_); conv => whnf) | (refine g_block ?_) | ((first | refine r_t ?_ | refine r_nil ?_); conv => whnf) | (refine Br.mk (fun hb => ?_) (fun hb => ?_) <;> conv => whnf) | fail)
  all_goals
   first
   |(refine ⟨(), hbad ?_, ⟨?_, True.intro⟩⟩
     ·clear hbad hgood hw hend2 hfin
      first | (first | (refine (Bool.eq_false_iff.mpr fun h => ?_).symm; simp_all [rF]; done) | (refine Bool.eq_false_iff.mpr fun h => ?_; simp_all [rF]; done) | (simp_all [rF]; done) | (simp_all [rF]; omega) | (refine (Bool.eq_false_iff.mpr fun h => ?_).symm; simp_all [rF]; omega) | (refine Bool.eq_false_iff.mpr fun h => ?_; simp_all [rF]; omega) | (rw [Bool.eq_iff_iff]; constructor <;> intro h <;> simp_all [rF] <;> omega) | fail) | (rcases Nat.eq_zero_or_pos i with h0 | h0 <;> simp_all [rF] <;> omega) | (cases ha : alive (m.fRuns.getD i default) <;> by_cases hq : (m.fRuns.getD i default).fWant.fHold.toList = [] <;> first | (simp_all [rF]; done) | (refine Bool.eq_false_iff.mpr fun h => ?_; simp_all [rF]; done) | fail) | fail
     ·repeat' (first | exact True.intro | refine And.intro rfl ?_))
   |(conv => lhs; whnf
     refine congrArg D.bool (hbad ?_)
     clear hbad hgood hw hend2 hfin
     first | (first | (refine (Bool.eq_false_iff.mpr fun h => ?_).symm; simp_all [rF]; done) | (refine Bool.eq_false_iff.mpr fun h => ?_; simp_all [rF]; done) | (simp_all [rF]; done) | (simp_all [rF]; omega) | (refine (Bool.eq_false_iff.mpr fun h => ?_).symm; simp_all [rF]; omega) | (refine Bool.eq_false_iff.mpr fun h => ?_; simp_all [rF]; omega) | (rw [Bool.eq_iff_iff]; constructor <;> intro h <;> simp_all [rF] <;> omega) | fail) | (rcases Nat.eq_zero_or_pos i with h0 | h0 <;> simp_all [rF] <;> omega) | (cases ha : alive (m.fRuns.getD i default) <;> by_cases hq : (m.fRuns.getD i default).fWant.fHold.toList = [] <;> first | (simp_all [rF]; done) | (refine Bool.eq_false_iff.mpr fun h => ?_; simp_all [rF]; done) | fail) | fail)
   |(refine ⟨i + 1, ⟨by omega, ?_⟩, by omega, ?_, ?_⟩
     ·refine hgood ?_
      clear hbad hgood hw hend2 hfin
      first | (first | (refine (Bool.eq_false_iff.mpr fun h => ?_).symm; simp_all [rF]; done) | (refine Bool.eq_false_iff.mpr fun h => ?_; simp_all [rF]; done) | (simp_all [rF]; done) | (simp_all [rF]; omega) | (refine (Bool.eq_false_iff.mpr fun h => ?_).symm; simp_all [rF]; omega) | (refine Bool.eq_false_iff.mpr fun h => ?_; simp_all [rF]; omega) | (rw [Bool.eq_iff_iff]; constructor <;> intro h <;> simp_all [rF] <;> omega) | fail) | (rcases Nat.eq_zero_or_pos i with h0 | h0 <;> simp_all [rF] <;> omega) | (cases ha : alive (m.fRuns.getD i default) <;> by_cases hq : (m.fRuns.getD i default).fWant.fHold.toList = [] <;> first | (simp_all [rF]; done) | (refine Bool.eq_false_iff.mpr fun h => ?_; simp_all [rF]; done) | fail) | fail
     ·repeat' (first | exact True.intro | refine And.intro (congrArg (D.int .i64) hw) ?_ | refine And.intro rfl ?_)
     ·repeat' (first | exact True.intro | refine And.intro rfl ?_))
 have hge : ¬ i < m.fRuns.length := by simpa using hb
 have hend : validM m = fin m := by rw [hN, allN_end hge, Bool.true_and]
 clear hN
 conv => whnf
 repeat' (first | (refine z_ld1 ?_; first | (refine z_ld rfl rfl rfl rfl au1 au2 ?_; conv => whnf) | (refine z_ld0 rfl ?_; conv => whnf)) | (refine z_ld1g ?_; first | (refine z_ldg rfl rfl rfl rfl rfl rfl rfl (by (repeat intro _); exact ⟨au1, au2⟩) rfl rfl rfl rfl ?_; conv => whnf) | (refine z_ld0g ?_; (conv => whnf); refine And.intro ?_ ?_; (focus exact rfl); conv => whnf)) | (refine z_op ?_ ?_; (focus exact rfl); conv => whnf) | (refine z_opg0 ?_; (conv => whnf); refine And.intro ?_ ?_; (focus exact rfl); conv => whnf) | (refine z_pick ?_ ?_; (focus exact rfl); conv => whnf) | (refine zs_ops ?_ ?_; (focus exact rfl)) | (refine z_nil fun vals => ?_; conv => whnf) | (refine And.intro ?_ ?_; (focus exact au0); conv => whnf) | (refine g_seq ?_) | (refine XS.go ?_) | ((first | refine g_ret ?_ | refine g_exit ?_ | refine r_t ?_ | refine r_nil ?_); conv => whnf) | fail)
 (conv => lhs; whnf)
 rw [hend, ← hfin]
 simp only [mlen']
end Go.Ab
