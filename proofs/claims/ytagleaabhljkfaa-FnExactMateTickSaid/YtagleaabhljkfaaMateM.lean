/- Steps towards the law: the machine, contracts of functions and facts of lists. -/
import Derived.Test.YtagleaabhljkfaaMateS
import Derived.Test.YtagleaabhljkfaaRows
set_option linter.unusedSimpArgs false
set_option linter.unusedVariables false
namespace Go.Ab
open Go Go.RowKit Go.Proofs
attribute [local irreducible] XC Rdr IntKind.wrap xw xos xqs xr xd
set_option maxRecDepth 100000
set_option maxHeartbeats 16000000
def mkM (x : Mate) (k : Int) : Mate := { x with fWants := mkS mk_MateWant 7 x.fWants k, fRuns := mkS mk_MateRun 11 x.fRuns (k + (7 * x.fWants.length : Nat)), fAsks := mkS mk_MateAsk 4 x.fAsks ((k + (7 * x.fWants.length : Nat)) + (11 * x.fRuns.length : Nat)), fGives := mkS mk_MateAsk 4 x.fGives (((k + (7 * x.fWants.length : Nat)) + (11 * x.fRuns.length : Nat)) + (4 * x.fAsks.length : Nat)) }
def mkMK (x : Mate) (k : Int) : Int := ((((k + (7 * x.fWants.length : Nat)) + (11 * x.fRuns.length : Nat)) + (4 * x.fAsks.length : Nat)) + (4 * x.fGives.length : Nat))
theorem Bor.mateM {st : St} {x : Mate} {k : Int} {s1 s2 s3 s4 b1 b2 b3 b4 c1 c2 c3 c4 k1 k2 k3 k4 : Nat} (h1 : st.lc s1 = some (.arr 7 ((mkM x k).fWants.map MateWant.D) k1)) (h2 : st.lc s2 = some (.arr 11 ((mkM x k).fRuns.map MateRun.D) k2)) (h3 : st.lc s3 = some (.arr 4 ((mkM x k).fAsks.map MateAsk.D) k3)) (h4 : st.lc s4 = some (.arr 4 ((mkM x k).fGives.map MateAsk.D) k4))
  (g1 : st.gen s1 = b1) (g2 : st.gen s2 = b2) (g3 : st.gen s3 = b3) (g4 : st.gen s4 = b4) : Bor st (x.O s1 s2 s3 s4 b1 b2 b3 b4 c1 c2 c3 c4) (mkM x k).D :=
 Bor.agg (.cons (Bor.refl _ _) (.cons (Bor.refl _ _) (.cons (Bor.refl _ _) (.cons (Bor.refl _ _) (.cons (Bor.refl _ _) (.cons (Bor.rowM h1 g1 mkS_len.symm (fun _ => rfl)) (.cons (Bor.rowM h2 g2 mkS_len.symm (fun _ => rfl)) (.cons (Bor.rowM h3 g3 mkS_len.symm (fun _ => rfl)) (.cons (Bor.rowM h4 g4 mkS_len.symm (fun _ => rfl)) .nil))))))))) rfl rfl rfl
theorem mark_Mate0 (x : Mate) (b1 b2 b3 b4 c1 c2 c3 c4 : Nat) (k : Int) (hk : 1 ≤ k) (hs : x.small) (hB : mkMK x k ≤ 50000000) : XC Try.prog 41 [x.O 31 32 33 34 b1 b2 b3 b4 c1 c2 c3 c4, .int .i64 k] (x.L 31 32 33 34 b1 b2 b3 b4 c1 c2 c3 c4) (fun d ls => d = .int .i64 (mkMK x k) ∧ ls = (mkM x k).L 31 32 33 34 b1 b2 b3 b4 c1 c2 c3 c4) := by
 have l1 := hs.fWants.1
 have l2 := hs.fRuns.1
 have l3 := hs.fAsks.1
 have l4 := hs.fGives.1
 unfold mkMK at hB
 refine XC.intro' hm [31, 32, 33, 34] rfl c41 (Nat.le_of_ble_eq_true rfl) ?_
 conv => whnf
 repeat' (first | (refine g_op ?_; conv => whnf) | (refine And.intro ?_ ?_; (focus exact au0); conv => whnf) | (refine g_seq ?_) | (refine XS.go ?_) | (refine g_ops ?_) | ((first | refine g_nil ?_ | refine fun _ => ?_); conv => whnf) | fail)
 refine XCL.of_XC (ls := [(31, b1, .arr 7 (x.fWants.map MateWant.D) c1)]) ⟨rfl, rfl, rfl, True.intro⟩ ((markx_MateWantS 31 x.fWants b1 c1 k (by omega) l1 (by omega)).mono fun d ls h => ?_)
 obtain ⟨rfl, rfl⟩ := h
 conv => whnf
 repeat' (first | (refine g_op ?_; conv => whnf) | (refine And.intro ?_ ?_; (focus exact au0); conv => whnf) | (refine g_seq ?_) | (refine XS.go ?_) | (refine g_ops ?_) | (refine g_nil ?_; conv => whnf) | fail)
 refine XCL.of_XC (ls := [(32, b2, .arr 11 (x.fRuns.map MateRun.D) c2)]) ⟨rfl, rfl, rfl, True.intro⟩ ((markx_MateRunS 32 x.fRuns b2 c2 (k + (7 * x.fWants.length : Nat)) (by omega) l2 (by omega)).mono fun d ls h => ?_)
 obtain ⟨rfl, rfl⟩ := h
 conv => whnf
 repeat' (first | (refine g_op ?_; conv => whnf) | (refine And.intro ?_ ?_; (focus exact au0); conv => whnf) | (refine g_seq ?_) | (refine XS.go ?_) | (refine g_ops ?_) | (refine g_nil ?_; conv => whnf) | fail)
 refine XCL.of_XC (ls := [(33, b3, .arr 4 (x.fAsks.map MateAsk.D) c3)]) ⟨rfl, rfl, rfl, True.intro⟩ ((markx_MateAskS 33 x.fAsks b3 c3 ((k + (7 * x.fWants.length : Nat)) + (11 * x.fRuns.length : Nat)) (by omega) l3 (by omega)).mono fun d ls h => ?_)
 obtain ⟨rfl, rfl⟩ := h
 conv => whnf
 repeat' (first | (refine g_op ?_; conv => whnf) | (refine And.intro ?_ ?_; (focus exact au0); conv => whnf) | (refine g_seq ?_) | (refine XS.go ?_) | (refine g_ops ?_) | (refine g_nil ?_; conv => whnf) | fail)
 refine XCL.of_XC (ls := [(34, b4, .arr 4 (x.fGives.map MateAsk.D) c4)]) ⟨rfl, rfl, rfl, True.intro⟩ ((markx_MateAskS 34 x.fGives b4 c4 (((k + (7 * x.fWants.length : Nat)) + (11 * x.fRuns.length : Nat)) + (4 * x.fAsks.length : Nat)) (by omega) l4 (by omega)).mono fun d ls h => ?_)
 obtain ⟨rfl, rfl⟩ := h
 conv => whnf
 repeat' (first | (refine g_op ?_; conv => whnf) | (refine And.intro ?_ ?_; (focus exact au0); conv => whnf) | (refine g_seq ?_) | (refine XS.go ?_) | (refine g_ops ?_) | ((first | refine g_nil ?_ | refine g_ret ?_ | refine r_t ?_ | refine r_nil ?_); conv => whnf) | fail)
 first | exact ⟨rfl, rfl⟩ | exact rfl
theorem mark_MateG (s1 s2 s3 s4 : Nat) (x : Mate) (b1 b2 b3 b4 c1 c2 c3 c4 : Nat) (k : Int) (hk : 1 ≤ k) (hs : x.small) (hB : mkMK x k ≤ 50000000) : XC Try.prog 41 [x.O s1 s2 s3 s4 b1 b2 b3 b4 c1 c2 c3 c4, .int .i64 k] (x.L s1 s2 s3 s4 b1 b2 b3 b4 c1 c2 c3 c4) (fun d ls => d = .int .i64 (mkMK x k) ∧ ls = (mkM x k).L s1 s2 s3 s4 b1 b2 b3 b4 c1 c2 c3 c4) := by
 refine (mark_Mate0 x b1 b2 b3 b4 c1 c2 c3 c4 k hk hs hB).ren (fun _ _ _ h => h) rfl (fun d ls ⟨h1, h2⟩ => ?_)
 subst h1 h2
 exact ⟨_, _, ⟨rfl, rfl⟩, fun _ _ _ h => HolL.ren rfl h, fun _ _ _ h => h⟩
theorem tox_MateG (s1 s2 s3 s4 : Nat) (x : Mate) (hs : x.small) : XC Try.prog 37 [x.D] [] (fun d ls => ∃ b1 b2 b3 b4, d = x.O s1 s2 s3 s4 b1 b2 b3 b4 x.fWants.length x.fRuns.length x.fAsks.length x.fGives.length ∧ ls = x.L s1 s2 s3 s4 b1 b2 b3 b4 x.fWants.length x.fRuns.length x.fAsks.length x.fGives.length) := by
 refine (tox_Mate0 x hs).ren (fun _ _ _ h => h) rfl (fun d ls ⟨b1, b2, b3, b4, h1, h2⟩ => ?_)
 subst h1 h2
 exact ⟨_, _, ⟨b1, b2, b3, b4, rfl, rfl⟩, fun _ _ _ h => HolL.ren rfl h, fun _ _ _ h => h⟩
theorem held_Mate (x : Mate) (k : Int) (hk : 1 ≤ k) (hs : x.small) (hB : mkMK x k ≤ 50000000) : Rdr Try.prog 43 [(mkM x k).D, .int .i64 k] (.int .i64 (mkMK x k)) := by
 have l1 := hs.fWants.1
 have l2 := hs.fRuns.1
 have l3 := hs.fAsks.1
 have l4 := hs.fGives.1
 unfold mkMK at hB
 have q1 := held_MateWantS x.fWants k (by omega) l1 (by omega)
 have p1 : decide ((k + (7 * x.fWants.length : Nat)) < 0) = false := by simp; omega
 have q2 := held_MateRunS x.fRuns (k + (7 * x.fWants.length : Nat)) (by omega) l2 (by omega)
 have p2 : decide (((k + (7 * x.fWants.length : Nat)) + (11 * x.fRuns.length : Nat)) < 0) = false := by simp; omega
 have q3 := held_MateAskS x.fAsks ((k + (7 * x.fWants.length : Nat)) + (11 * x.fRuns.length : Nat)) (by omega) l3 (by omega)
 have p3 : decide ((((k + (7 * x.fWants.length : Nat)) + (11 * x.fRuns.length : Nat)) + (4 * x.fAsks.length : Nat)) < 0) = false := by simp; omega
 have q4 := held_MateAskS x.fGives (((k + (7 * x.fWants.length : Nat)) + (11 * x.fRuns.length : Nat)) + (4 * x.fAsks.length : Nat)) (by omega) l4 (by omega)
 have p4 : decide (((((k + (7 * x.fWants.length : Nat)) + (11 * x.fRuns.length : Nat)) + (4 * x.fAsks.length : Nat)) + (4 * x.fGives.length : Nat)) < 0) = false := by simp; omega
 refine Rdr.intro' hm c43 (Nat.le_of_ble_eq_true rfl) ?_
 conv => whnf
 repeat' (first | (refine g_op ?_; conv => whnf) | (refine And.intro ?_ ?_; (focus exact au0); conv => whnf) | (refine g_seq ?_) | (refine XS.go ?_) | (refine g_ops ?_) | (refine g_nil ?_; conv => whnf) | (refine Br.f ?_ ?_; (focus (first | assumption | exact rfl)); conv => whnf) | ((first | refine g_cond ?_ | refine g_skip ?_ | refine g_ret ?_ | refine r_t ?_ | refine r_nil ?_ | refine fun _ => ?_ | refine XCL.of_rdr (q1) ?_ | refine XCL.of_rdr (q2) ?_ | refine XCL.of_rdr (q3) ?_ | refine XCL.of_rdr (q4) ?_); conv => whnf) | fail)
 rfl
end Go.Ab
