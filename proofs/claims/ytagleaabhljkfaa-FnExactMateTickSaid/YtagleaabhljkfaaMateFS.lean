/- Steps towards the law: the machine, contracts of functions and facts of lists. -/
import Derived.Test.YtagleaabhljkfaaMateFA
import Derived.Test.YtagleaabhljkfaaRows
set_option linter.unusedSimpArgs false
set_option linter.unusedVariables false
namespace Go.Ab
open Go Go.RowKit Go.Proofs
attribute [local irreducible] XC Rdr IntKind.wrap xw xos xqs xr xd
set_option maxRecDepth 100000
set_option maxHeartbeats 16000000
/-- A slice in a box that is nil is an owned row without room. -/
theorem XS.ownB {P : Program} {n : Nat} {st : St} {cc : CC} {Q : Post} (k t es : Nat) (p : List Nat) {c : D} {o : Nat} (hkt : Nat.beq k t = false) (hl : st.lc k = some c) (hmp : c.mpB = false) (hat : c.at p = some (.nil, o)) {c1 : Nat → D} (hset : ∀ b, c.set p (.lsl t b 0 0) = some (c1 b)) (h : ∀ b, XS P n cc { st with gen := upd st.gen t b, lc := upd (upd st.lc k (some (c1 b))) t (some (.arr es [] 0)) } Q) : XS P n cc st Q :=
 (h 0).ghost fun F g a w hH => by
  refine ⟨g, hH.size, hH.defers, hH.slots, fun k' d hk => ?_, hH.uin, hH.ubd, hH.uout, hH.keep⟩
  have hk' : upd (upd st.lc k (some (c1 0))) t (some (.arr es [] 0)) k' = some d := hk
  rw [upd_apply] at hk'
  split at hk'
  ·simp only [Option.some.injEq] at hk'
   subst hk'
   exact ⟨[], .inl ⟨rfl, rfl, rfl⟩, List.nodup_nil, by simp, by simp, by simp⟩
  ·rename_i hne
   rw [upd_apply] at hk'
   have hg : upd st.gen t 0 k' = st.gen k' := by rw [upd_apply, if_neg hne]
   split at hk'
   ·rename_i e
    subst e
    simp only [Option.some.injEq] at hk'
    subst hk'
    obtain ⟨Fs, hO⟩ := hH.locs k' _ hl
    obtain ⟨cells, e1, H, hcell, hR, hFs⟩ := hO.loc.cells hmp
    obtain ⟨H1, q1, _, _⟩ := hR.at hat
    have hrc : RelC g.U w .nil ((cells.toList.drop o).take D.nil.len) := (q1).1
    obtain ⟨H2, q3, q4⟩ := hR.reset hat (nil_lsl (s := t) (b := 0) hrc) (hset 0)
    have hsub : (st.gen k' :: H2).Sublist Fs := by rw [hFs]; exact q4.cons_cons _
    refine ⟨_, ?_, hO.nd.sublist hsub, fun x hx => hO.own x (hsub.subset hx), fun x hx => hO.nu x (hsub.subset hx), fun x hx => hO.lo x (hsub.subset hx)⟩
    show LocO g.U w (upd st.gen t 0 k') (c1 0) _
    rw [hg]
    exact .of hcell q3
   ·obtain ⟨Fs, hO⟩ := hH.locs k' d hk'
    refine ⟨Fs, ?_, hO.nd, hO.own, hO.nu, hO.lo⟩
    show LocO g.U w (upd st.gen t 0 k') d Fs
    rw [hg]
    exact hO.loc
theorem spec_CopyXF (x : Mate) (b1 b2 b3 b4 c1 c2 c3 c4 : Nat) (hs : x.small) : XC Try.prog 79 [x.O 31 32 33 34 b1 b2 b3 b4 c1 c2 c3 c4] (x.L 31 32 33 34 b1 b2 b3 b4 c1 c2 c3 c4) (fun d ls => ∃ d1 d2 d3 d4 e1 e2 e3 e4, d = x.O 6 11 16 21 d1 d2 d3 d4 e1 e2 e3 e4 ∧ ls = x.L 31 32 33 34 b1 b2 b3 b4 c1 c2 c3 c4 ++ x.L 6 11 16 21 d1 d2 d3 d4 e1 e2 e3 e4) := by
 refine XC.intro' hm [31, 32, 33, 34, 6, 11, 16, 21] rfl c79 (Nat.le_of_ble_eq_true rfl) ?_
 conv => whnf
 have l1 := hs.fWants.1
 have l2 := hs.fRuns.1
 have l3 := hs.fAsks.1
 have l4 := hs.fGives.1
 repeat' (first | (refine g_op ?_; conv => whnf) | (refine And.intro ?_ ?_; (focus exact au0); conv => whnf) | (refine g_seq ?_) | (refine XS.go ?_) | (refine g_ops ?_) | ((first | refine g_nil ?_ | refine fun _ => ?_); conv => whnf) | fail)
 refine ⟨by simp, by rw [List.map_map]; rfl, ?_⟩
 conv => whnf
 refine ⟨by show 0 + _ ≤ _; rw [List.length_map]; omega, Nat.le_of_ble_eq_true rfl, by decide, fun n1 d1 e1 hn1 hc1 => ?_⟩
 have hm1 : n1 = x.fWants.length := by rw [hn1]; show 0 + _ = _; simp
 clear hn1
 subst hm1
 conv => whnf
 repeat' (first | (refine g_op ?_; conv => whnf) | (refine And.intro ?_ ?_; (focus exact au0); conv => whnf) | (refine g_seq ?_) | (refine XS.go ?_) | (refine g_ops ?_) | (refine g_nil ?_; conv => whnf) | fail)
 refine ⟨by simp, by rw [List.map_map]; rfl, ?_⟩
 conv => whnf
 refine ⟨by show 0 + _ ≤ _; rw [List.length_map]; omega, Nat.le_of_ble_eq_true rfl, by decide, fun n2 d2 e2 hn2 hc2 => ?_⟩
 have hm2 : n2 = x.fRuns.length := by rw [hn2]; show 0 + _ = _; simp
 clear hn2
 subst hm2
 conv => whnf
 repeat' (first | (refine g_op ?_; conv => whnf) | (refine And.intro ?_ ?_; (focus exact au0); conv => whnf) | (refine g_seq ?_) | (refine XS.go ?_) | (refine g_ops ?_) | (refine g_nil ?_; conv => whnf) | fail)
 refine ⟨by simp, by rw [List.map_map]; rfl, ?_⟩
 conv => whnf
 refine ⟨by show 0 + _ ≤ _; rw [List.length_map]; omega, Nat.le_of_ble_eq_true rfl, by decide, fun n3 d3 e3 hn3 hc3 => ?_⟩
 have hm3 : n3 = x.fAsks.length := by rw [hn3]; show 0 + _ = _; simp
 clear hn3
 subst hm3
 conv => whnf
 repeat' (first | (refine g_op ?_; conv => whnf) | (refine And.intro ?_ ?_; (focus exact au0); conv => whnf) | (refine g_seq ?_) | (refine XS.go ?_) | (refine g_ops ?_) | (refine g_nil ?_; conv => whnf) | fail)
 refine ⟨by simp, by rw [List.map_map]; rfl, ?_⟩
 conv => whnf
 refine ⟨by show 0 + _ ≤ _; rw [List.length_map]; omega, Nat.le_of_ble_eq_true rfl, by decide, fun n4 d4 e4 hn4 hc4 => ?_⟩
 have hm4 : n4 = x.fGives.length := by rw [hn4]; show 0 + _ = _; simp
 clear hn4
 subst hm4
 conv => whnf
 repeat' (first | (refine g_op ?_; conv => whnf) | (refine And.intro ?_ ?_; (focus exact au0); conv => whnf) | (refine g_seq ?_) | (refine XS.go ?_) | (refine g_ops ?_) | ((first | refine g_nil ?_ | refine g_ret ?_ | refine r_c ?_ | refine r_nil ?_); conv => whnf) | fail)
 exact ⟨d1, d2, d3, d4, e1, e2, e3, e4, rfl, rfl⟩
theorem spec_CopyG (s1 s2 s3 s4 : Nat) (x : Mate) (b1 b2 b3 b4 c1 c2 c3 c4 : Nat) (hs : x.small) : XC Try.prog 79 [x.O s1 s2 s3 s4 b1 b2 b3 b4 c1 c2 c3 c4] (x.L s1 s2 s3 s4 b1 b2 b3 b4 c1 c2 c3 c4) (fun d ls => ∃ d1 d2 d3 d4 e1 e2 e3 e4, d = x.O 6 11 16 21 d1 d2 d3 d4 e1 e2 e3 e4 ∧ ls = x.L s1 s2 s3 s4 b1 b2 b3 b4 c1 c2 c3 c4 ++ x.L 6 11 16 21 d1 d2 d3 d4 e1 e2 e3 e4) := by
 refine (spec_CopyXF x b1 b2 b3 b4 c1 c2 c3 c4 hs).ren (fun _ _ _ h => h) rfl (fun d ls ⟨d1, d2, d3, d4, e1, e2, e3, e4, h1, h2⟩ => ?_)
 subst h1 h2
 exact ⟨_, _, ⟨d1, d2, d3, d4, e1, e2, e3, e4, rfl, rfl⟩, fun _ _ _ h => HolL.ren rfl h, fun _ _ _ h => h⟩
theorem fallE_small {m : Bool} {r y : MateRun} (h : r.small) (hy : fallE m r = some y) : y.small := by
 unfold fallE at hy
 split at hy
 ·simp only [Option.some.injEq] at hy
  subst hy
  split
  ·exact ⟨h.fWant⟩
  ·exact h
 ·cases hy
theorem fallR_small {x : Mate} (m : Bool) (hs : x.small) : (fallR x m).small := by
 unfold fallR
 split
 ·constructor
  ·exact ⟨Nat.zero_le _, fun y hy => absurd hy List.not_mem_nil⟩
  ·refine ⟨Nat.le_trans fallL_len hs.fRuns.1, fun y hy => ?_⟩
   simp only [fallL, List.mem_filterMap] at hy
   obtain ⟨r, hr, hy⟩ := hy
   exact fallE_small (hs.fRuns.2 r (List.mem_of_mem_take hr)) hy
  ·exact ⟨Nat.zero_le _, fun y hy => absurd hy List.not_mem_nil⟩
  ·exact ⟨Nat.zero_le _, fun y hy => absurd hy List.not_mem_nil⟩
 ·constructor <;> exact ⟨Nat.zero_le _, fun y hy => absurd hy List.not_mem_nil⟩
theorem spec_Fall (x : Mate) (m : Bool) (hs : x.small) : Rdr Try.prog 51 [x.D, .bool m] (fallR x m).D := by
 have hq := spec_MateValid x
 cases hv : validM x with
 | false =>
  have e : fallR x m = default := by simp [fallR, hv]
  rw [e]
  refine Rdr.imp (d := mateZ) ?_ mateZ_ro
  rw [hv] at hq
  refine Rdr.intro' hm c51 (Nat.le_of_ble_eq_true rfl) ?_
  conv => whnf
  repeat' (first | (refine g_op ?_; conv => whnf) | (refine And.intro ?_ ?_; (focus exact au0); conv => whnf) | (refine g_seq ?_) | (refine XS.go ?_) | (refine g_ops ?_) | (refine g_nil ?_; conv => whnf) | (refine Br.t ?_ ?_; (focus (first | assumption | exact rfl)); conv => whnf) | ((first | refine g_cond ?_ | refine g_ret ?_ | refine r_c ?_ | refine r_nil ?_ | refine fun _ => ?_ | refine XCL.of_rdr (hq) ?_); conv => whnf) | fail)
  rfl
 | true =>
  have e : fallR x m = { fName := x.fName, fUp := false, fClock := x.fClock, fKnown := false, fSeen := 0, fWants := [], fRuns := fallL m x.fRuns x.fRuns.length, fAsks := [], fGives := [] } := by simp [fallR, hv]
  rw [e]
  rw [hv] at hq
  have hl := hs.fRuns.1
  refine Rdr.introF hm [6, 11, 16, 21] rfl c51 (Nat.le_of_ble_eq_true rfl) ?_
  conv => whnf
  repeat' (first | (refine g_op ?_; conv => whnf) | (refine And.intro ?_ ?_; (focus exact au0); conv => whnf) | (refine g_seq ?_) | (refine g_ops ?_) | ((first | refine g_nil ?_ | refine fun _ => ?_); conv => whnf) | fail)
  refine XS.go ?_
  repeat' (first | (refine g_op ?_; conv => whnf) | (refine And.intro ?_ ?_; (focus exact au0); conv => whnf) | (refine g_seq ?_) | (refine g_ops ?_) | ((first | refine g_nil ?_ | refine XCL.of_rdr (hq) ?_); conv => whnf) | fail)
  refine XS.go ?_
  repeat' (first | (refine Br.f ?_ ?_; (focus (first | assumption | exact rfl)); conv => whnf) | ((first | refine g_cond ?_ | refine g_skip ?_); conv => whnf) | fail)
  refine XS.go ?_
  repeat' (first | (refine g_op ?_; conv => whnf) | (refine And.intro ?_ ?_; (focus exact au0); conv => whnf) | (refine g_seq ?_) | (refine g_ops ?_) | ((first | refine g_nil ?_ | refine fun _ => ?_); conv => whnf) | fail)
  refine XS.ownB 5 50 11 [6] rfl rfl rfl rfl (fun b => rfl) fun b => ?_
  refine XS.go ?_
  repeat' (first | (refine g_op ?_; conv => whnf) | (refine And.intro ?_ ?_; (focus exact au0); conv => whnf) | (refine g_seq ?_) | (refine XS.go ?_) | (refine g_ops ?_) | (refine g_loop ?_) | (refine g_nil ?_; conv => whnf) | (refine g_block ?_) | fail)
  refine XLc.mkA (α := Nat × Nat) (fun i => i.1 ≤ x.fRuns.length ∧ (fallL m x.fRuns i.1).length ≤ i.2) (fun i => x.fRuns.length - i.1) (fun i gs => [.any, .bool m, .lref 2 (gs 2) [] 0, .any, .lref 4 (gs 4) [] 0, .lref 5 (gs 5) [] 0, .int .i64 (i.1 : Int)]) (fun i gs => [(2, .agg [.str x.fName, .bool x.fUp, .int .i64 x.fClock, .bool x.fKnown, .int .i64 x.fSeen, .ro 7 (x.fWants.map MateWant.D), .ro 11 (x.fRuns.map MateRun.D), .ro 4 (x.fAsks.map MateAsk.D), .ro 4 (x.fGives.map MateAsk.D)]), (4, .agg [.str ⟨#[]⟩, .bool false, .int .i64 0, .bool false, .int .i64 0, .nil, .nil, .nil, .nil]), (5, .agg [.str x.fName, .bool false, .int .i64 x.fClock, .bool false, .int .i64 0, .nil, .lsl 50 (gs 50) (fallL m x.fRuns i.1).length i.2, .nil, .nil]), (50, .arr 11 ((fallL m x.fRuns i.1).map MateRun.D) i.2)]) (0, 0) ⟨Nat.zero_le _, Nat.le_refl _⟩ ?_ ?_
  ·refine ⟨?_, ?_⟩
   ·repeat' (first | exact True.intro | refine And.intro rfl ?_)
   ·exact ⟨rfl, rfl, rfl, rfl, True.intro⟩
  intro i gs hI
  obtain ⟨i, cp⟩ := i
  obtain ⟨hi0, hi1⟩ := hI
  simp only at hi0 hi1
  dsimp only
  repeat' (first | (refine z_ld1 ?_; first | (refine z_ld rfl rfl rfl rfl au1 au2 ?_; conv => whnf) | (refine z_ld0 rfl ?_; conv => whnf)) | (refine z_op ?_ ?_; (focus exact rfl); conv => whnf) | (refine zs_ops ?_ ?_; (focus exact rfl)) | (refine z_nil fun vals => ?_; conv => whnf) | (refine And.intro ?_ ?_; (focus exact au0); conv => whnf) | (refine g_seq ?_) | (refine XS.go ?_) | (refine g_cond ?_; conv => whnf) | fail)
  refine Br.mk (fun hb => ?_) (fun hb => ?_)
  ·have hlt : i < x.fRuns.length := by simpa using hb
   clear hb
   have hF : (∀ y, fallE m (x.fRuns.getD i default) = some y → fallL m x.fRuns (i + 1) = fallL m x.fRuns i ++ [y]) ∧ (fallE m (x.fRuns.getD i default) = none → fallL m x.fRuns (i + 1) = fallL m x.fRuns i) ∧ (fallL m x.fRuns i).length ≤ x.fRuns.length := ⟨fun y => fallL_some hlt, fallL_none hlt, fallL_len⟩
   generalize fallL m x.fRuns = A at hi1 hF ⊢
   conv => whnf
   repeat' (first | (refine z_ld1 ?_; first | (refine z_ld rfl rfl rfl rfl au1 au2 ?_; conv => whnf) | (refine z_ld0 rfl ?_; conv => whnf)) | (refine z_ld1g ?_; first | (refine z_ldg rfl rfl rfl rfl rfl rfl rfl (by (repeat intro _); exact ⟨au1, au2⟩) rfl rfl rfl rfl ?_; conv => whnf) | (refine z_ld0g ?_; (conv => whnf); refine And.intro ?_ ?_; (focus exact rfl); conv => whnf)) | (refine z_st1 ?_; first | (refine z_st rfl rfl rfl au1 au2 rfl rfl ?_; conv => whnf) | (refine z_st0 ?_; conv => whnf)) | (refine z_ix1 ?_; first | (refine z_ix rfl rfl rfl rfl rfl ⟨by first | omega | (simp only [decide_eq_true_eq, Bool.not_eq_true', Bool.or_eq_false_iff, decide_eq_false_iff_not, Bool.and_eq_true, Bool.not_eq_false'] at *; omega), by first | omega | (simp only [decide_eq_true_eq, Bool.not_eq_true', Bool.or_eq_false_iff, decide_eq_false_iff_not, Bool.and_eq_true, Bool.not_eq_false'] at *; omega)⟩ ?_; conv => whnf) | (refine z_ix0 rfl rfl ?_; conv => whnf)) | (refine z_op ?_ ?_; (focus exact rfl); conv => whnf) | (refine z_opg0 ?_; (conv => whnf); refine And.intro ?_ ?_; (focus exact rfl); conv => whnf) | (refine z_pick ?_ ?_; (focus exact rfl); conv => whnf) | (refine z_pickg ?_; (conv => whnf); refine And.intro ?_ ?_; (focus exact rfl); conv => whnf) | (refine zs_ops ?_ ?_; (focus exact rfl)) | (refine z_nil fun vals => ?_; conv => whnf) | (refine z_call ?_ ?_; (focus exact rfl)) | (refine z_eff ?_; conv => whnf) | (refine RC.of (spec_Alive (x.fRuns.getD i default)) ?_ ?_; (focus exact rfl); conv => whnf) | (refine g_op ?_; conv => whnf) | (refine And.intro ?_ ?_; (focus exact au0); conv => whnf) | (refine g_seq ?_) | (refine XS.go ?_) | (refine g_ops ?_) | ((first | refine g_nil ?_ | refine g_cond ?_ | refine g_skip ?_); conv => whnf) | (refine g_block ?_) | (refine fun _ => ?_; conv => whnf) | (refine Br.mk (fun hb => ?_) (fun hb => ?_) <;> conv => whnf) | fail)
   ·have hm : m = true := by first | assumption | (simp_all; done)
    have he := hF.1 { x.fRuns.getD i default with fState := 2, fLeft := 0 } (by unfold fallE; exact (if_pos hb).trans (by rw [hm]; rfl))
    have hAl := hF.2.2
    have hln : (A i).length + 1 = (A (i + 1)).length := by rw [he]; simp
    have hmp : ∀ d, d = ({ x.fRuns.getD i default with fState := 2, fLeft := 0 } : MateRun).D → (A i).map MateRun.D ++ [d] = (A (i + 1)).map MateRun.D := fun d h => by rw [h, he, List.map_append]; rfl
    refine ⟨by simp, rfl, ?_⟩
    conv => whnf
    refine ⟨rfl, ?_⟩
    conv => whnf
    refine ⟨rfl, rfl, rfl, ?_⟩
    conv => whnf
    refine ⟨?_, Nat.le_of_ble_eq_true rfl, (by decide), fun n' b' c' hn hc => ?_⟩
    ·show _ + 1 ≤ 1073741824
     rw [List.length_map]; omega
    have hn : n' = (A i).length + 1 := by rw [hn, List.length_map]; rfl
    subst hn
    conv => whnf
    repeat' (first | (refine z_st1 ?_; first | (refine z_st rfl rfl rfl au1 au2 rfl rfl ?_; conv => whnf) | (refine z_st0 ?_; conv => whnf)) | (refine z_op ?_ ?_; (focus exact rfl); conv => whnf) | ((first | refine z_nil fun vals => ?_ | refine g_op ?_); conv => whnf) | (refine And.intro ?_ ?_; (focus exact au0); conv => whnf) | (refine XS.go ?_) | (refine g_ops ?_) | (refine g_nil ?_; conv => whnf) | fail)
    refine ⟨(i + 1, c'), ⟨by simp only; omega, by simp only; omega⟩, by simp only; omega, ?_, ?_⟩
    ·have hw : IntKind.wrap .i64 ((i : Int) + 1) = ((i + 1 : Nat) : Int) := by rw [wrap_ok (by omega) (by omega)]; rfl
     repeat' (first | exact True.intro | refine And.intro (congrArg (D.int .i64) hw) ?_ | refine And.intro rfl ?_)
    ·exact ⟨rfl, rfl, congrArg (fun n => some (D.agg [.str x.fName, .bool false, .int .i64 x.fClock, .bool false, .int .i64 0, .nil, .lsl 50 b' n c', .nil, .nil])) hln, congrArg (fun l => some (D.arr 11 l c')) (hmp _ rfl), True.intro⟩
   ·have he := hF.2.1 (by unfold fallE; exact if_neg (fun h => by have h2 := hb.symm.trans h; cases h2))
    refine ⟨(i + 1, cp), ⟨by simp only; omega, by simp only; rw [he]; exact hi1⟩, by simp only; omega, ?_, ?_⟩
    ·have hw : IntKind.wrap .i64 ((i : Int) + 1) = ((i + 1 : Nat) : Int) := by rw [wrap_ok (by omega) (by omega)]; rfl
     repeat' (first | exact True.intro | refine And.intro (congrArg (D.int .i64) hw) ?_ | refine And.intro rfl ?_)
    ·exact ⟨rfl, rfl, congrArg (fun l : List MateRun => some (D.agg [.str x.fName, .bool false, .int .i64 x.fClock, .bool false, .int .i64 0, .nil, .lsl 50 (gs 50) l.length cp, .nil, .nil])) he.symm, congrArg (fun l : List MateRun => some (D.arr 11 (l.map MateRun.D) cp)) he.symm, True.intro⟩
   ·have hm : m = false := by first | assumption | (simp_all; done)
    have he := hF.1 (x.fRuns.getD i default) (by unfold fallE; exact (if_pos hb).trans (by rw [hm]; rfl))
    have hAl := hF.2.2
    have hln : (A i).length + 1 = (A (i + 1)).length := by rw [he]; simp
    have hmp : ∀ d, d = ((x.fRuns.getD i default)).D → (A i).map MateRun.D ++ [d] = (A (i + 1)).map MateRun.D := fun d h => by rw [h, he, List.map_append]; rfl
    refine ⟨by simp, rfl, ?_⟩
    conv => whnf
    refine ⟨rfl, ?_⟩
    conv => whnf
    refine ⟨rfl, rfl, rfl, ?_⟩
    conv => whnf
    refine ⟨?_, Nat.le_of_ble_eq_true rfl, (by decide), fun n' b' c' hn hc => ?_⟩
    ·show _ + 1 ≤ 1073741824
     rw [List.length_map]; omega
    have hn : n' = (A i).length + 1 := by rw [hn, List.length_map]; rfl
    subst hn
    conv => whnf
    repeat' (first | (refine z_st1 ?_; first | (refine z_st rfl rfl rfl au1 au2 rfl rfl ?_; conv => whnf) | (refine z_st0 ?_; conv => whnf)) | (refine z_op ?_ ?_; (focus exact rfl); conv => whnf) | ((first | refine z_nil fun vals => ?_ | refine g_op ?_); conv => whnf) | (refine And.intro ?_ ?_; (focus exact au0); conv => whnf) | (refine XS.go ?_) | (refine g_ops ?_) | (refine g_nil ?_; conv => whnf) | fail)
    refine ⟨(i + 1, c'), ⟨by simp only; omega, by simp only; omega⟩, by simp only; omega, ?_, ?_⟩
    ·have hw : IntKind.wrap .i64 ((i : Int) + 1) = ((i + 1 : Nat) : Int) := by rw [wrap_ok (by omega) (by omega)]; rfl
     repeat' (first | exact True.intro | refine And.intro (congrArg (D.int .i64) hw) ?_ | refine And.intro rfl ?_)
    ·exact ⟨rfl, rfl, congrArg (fun n => some (D.agg [.str x.fName, .bool false, .int .i64 x.fClock, .bool false, .int .i64 0, .nil, .lsl 50 b' n c', .nil, .nil])) hln, congrArg (fun l => some (D.arr 11 l c')) (hmp _ rfl), True.intro⟩
   ·have he := hF.2.1 (by unfold fallE; exact if_neg (fun h => by have h2 := hb.symm.trans h; cases h2))
    refine ⟨(i + 1, cp), ⟨by simp only; omega, by simp only; rw [he]; exact hi1⟩, by simp only; omega, ?_, ?_⟩
    ·have hw : IntKind.wrap .i64 ((i : Int) + 1) = ((i + 1 : Nat) : Int) := by rw [wrap_ok (by omega) (by omega)]; rfl
     repeat' (first | exact True.intro | refine And.intro (congrArg (D.int .i64) hw) ?_ | refine And.intro rfl ?_)
    ·exact ⟨rfl, rfl, congrArg (fun l : List MateRun => some (D.agg [.str x.fName, .bool false, .int .i64 x.fClock, .bool false, .int .i64 0, .nil, .lsl 50 (gs 50) l.length cp, .nil, .nil])) he.symm, congrArg (fun l : List MateRun => some (D.arr 11 (l.map MateRun.D) cp)) he.symm, True.intro⟩
  have hi : i = x.fRuns.length := by
   have : ¬ i < x.fRuns.length := by simpa using hb
   omega
  subst hi
  conv => whnf
  repeat' (first | (refine g_exit ?_; conv => whnf) | fail)
  refine XS.ownB 5 51 7 [5] rfl rfl rfl rfl (fun b => rfl) fun b1 => ?_
  refine XS.ownB 5 52 4 [7] rfl rfl rfl rfl (fun b => rfl) fun b2 => ?_
  refine XS.ownB 5 53 4 [8] rfl rfl rfl rfl (fun b => rfl) fun b3 => ?_
  refine XS.go ?_
  repeat' (first | (refine g_op ?_; conv => whnf) | (refine And.intro ?_ ?_; (focus exact au0); conv => whnf) | (refine g_seq ?_) | (refine g_ops ?_) | fail)
  have hys := fallR_small m hs
  rw [e] at hys
  refine XCL.of_XC (ls := Mate.L ({ fName := x.fName, fUp := false, fClock := x.fClock, fKnown := false, fSeen := 0, fWants := [], fRuns := fallL m x.fRuns x.fRuns.length, fAsks := [], fGives := [] } : Mate) 51 50 52 53 b1 (gs 50) b2 b3 0 cp 0 0) ⟨rfl, rfl, rfl, rfl, rfl, rfl, rfl, rfl, rfl, rfl, rfl, rfl, True.intro⟩ ((spec_CopyG 51 50 52 53 ({ fName := x.fName, fUp := false, fClock := x.fClock, fKnown := false, fSeen := 0, fWants := [], fRuns := fallL m x.fRuns x.fRuns.length, fAsks := [], fGives := [] } : Mate) b1 (gs 50) b2 b3 0 cp 0 0 hys).mono fun d ls h => ?_)
  obtain ⟨d1, d2, d3, d4, e1, e2, e3, e4, rfl, rfl⟩ := h
  conv => whnf
  repeat' (first | (refine g_op ?_; conv => whnf) | (refine And.intro ?_ ?_; (focus exact au0); conv => whnf) | (refine XS.go ?_) | ((first | refine g_nil ?_ | refine g_ret ?_ | refine r_c ?_ | refine r_nil ?_); conv => whnf) | fail)
  have t2 : (D.frozs ((fallL m x.fRuns x.fRuns.length).map MateRun.D)).take (fallL m x.fRuns x.fRuns.length).length = (fallL m x.fRuns x.fRuns.length).map MateRun.D := by rw [D.frozs_map (fun _ => rfl), List.take_of_length_le (by simp)]
  refine ⟨⟨True.intro, True.intro, True.intro, True.intro, True.intro, ⟨rfl, Nat.le_refl _⟩, ⟨rfl, Nat.le_of_eq (by simp)⟩, ⟨rfl, Nat.le_refl _⟩, ⟨rfl, Nat.le_refl _⟩, True.intro⟩, ?_⟩
  show D.agg [.str x.fName, .bool false, .int .i64 x.fClock, .bool false, .int .i64 0, .ro 7 [], .ro 11 ((D.frozs ((fallL m x.fRuns x.fRuns.length).map MateRun.D)).take (fallL m x.fRuns x.fRuns.length).length), .ro 4 [], .ro 4 []] = _
  rw [t2]
  rfl
end Go.Ab
