/- Steps towards the law: the machine, contracts of functions and facts of lists. -/
import Derived.Test.YtagleaabhljkfaaMateKP
import Derived.Test.YtagleaabhljkfaaRows
set_option linter.unusedSimpArgs false
set_option linter.unusedVariables false
namespace Go.Ab
open Go Go.RowKit Go.Proofs
attribute [local irreducible] XC Rdr IntKind.wrap xw xos xqs xr xd
set_option maxRecDepth 100000
set_option maxHeartbeats 16000000
theorem TO.frz {R : Mate × List MateParcel} {d : Go.Ab.D} {ls : List Loan} (h : TO R 41 42 43 44 46 d ls) : okV ls d ∧ frzV ls d = .tup [R.1.D, .ro 7 (R.2.map MateParcel.N)] := by
 obtain ⟨b1, b2, b3, b4, b5, c1, c2, c3, c4, c5, rfl, rfl⟩ := h
 obtain ⟨R, P⟩ := R
 refine ⟨⟨⟨True.intro, True.intro, True.intro, True.intro, True.intro, ⟨rfl, Nat.le_of_eq (by simp)⟩, ⟨rfl, Nat.le_of_eq (by simp)⟩, ⟨rfl, Nat.le_of_eq (by simp)⟩, ⟨rfl, Nat.le_of_eq (by simp)⟩, True.intro⟩, ⟨rfl, Nat.le_of_eq (by simp)⟩, True.intro⟩, ?_⟩
 have t1 : (D.frozs (R.fWants.map MateWant.D)).take R.fWants.length = R.fWants.map MateWant.D := by rw [D.frozs_map (fun _ => rfl), List.take_of_length_le (by simp)]
 have t2 : (D.frozs (R.fRuns.map MateRun.D)).take R.fRuns.length = R.fRuns.map MateRun.D := by rw [D.frozs_map (fun _ => rfl), List.take_of_length_le (by simp)]
 have t3 : (D.frozs (R.fAsks.map MateAsk.D)).take R.fAsks.length = R.fAsks.map MateAsk.D := by rw [D.frozs_map (fun _ => rfl), List.take_of_length_le (by simp)]
 have t4 : (D.frozs (R.fGives.map MateAsk.D)).take R.fGives.length = R.fGives.map MateAsk.D := by rw [D.frozs_map (fun _ => rfl), List.take_of_length_le (by simp)]
 have t5 : (D.frozs (P.map MateParcel.N)).take P.length = P.map MateParcel.N := by rw [D.frozs_map (fun _ => rfl), List.take_of_length_le (by simp)]
 show D.tup [D.agg [.str R.fName, .bool R.fUp, .int .i64 R.fClock, .bool R.fKnown, .int .i64 R.fSeen, .ro 7 ((D.frozs (R.fWants.map MateWant.D)).take R.fWants.length), .ro 11 ((D.frozs (R.fRuns.map MateRun.D)).take R.fRuns.length), .ro 4 ((D.frozs (R.fAsks.map MateAsk.D)).take R.fAsks.length), .ro 4 ((D.frozs (R.fGives.map MateAsk.D)).take R.fGives.length)], D.ro 7 ((D.frozs (P.map MateParcel.N)).take P.length)] = D.tup [R.D, D.ro 7 (P.map MateParcel.N)]
 rw [t1, t2, t3, t4, t5]
 rfl
theorem impl_Tick (m : Mate) (rate : Int) (hs : m.small) : Rdr Try.prog 38 [m.D, .int .i64 rate] (.tup [(tickR m rate).1.D, .ro 7 ((tickR m rate).2.map MateParcel.N)]) := Rdr.of_XCF ((impl_TickX m rate hs).mono fun _ _ h => h.frz)
theorem frz_tick (x : Mate) (rate : Int) (b1 b2 b3 b4 c1 c2 c3 c4 : Nat) : frzVs (x.L 31 32 33 34 b1 b2 b3 b4 c1 c2 c3 c4) [x.O 31 32 33 34 b1 b2 b3 b4 c1 c2 c3 c4, .int .i64 rate] = [x.D, .int .i64 rate] := by
 have t1 : (D.frozs (x.fWants.map MateWant.D)).take x.fWants.length = x.fWants.map MateWant.D := by rw [D.frozs_map (fun _ => rfl), List.take_of_length_le (by simp)]
 have t2 : (D.frozs (x.fRuns.map MateRun.D)).take x.fRuns.length = x.fRuns.map MateRun.D := by rw [D.frozs_map (fun _ => rfl), List.take_of_length_le (by simp)]
 have t3 : (D.frozs (x.fAsks.map MateAsk.D)).take x.fAsks.length = x.fAsks.map MateAsk.D := by rw [D.frozs_map (fun _ => rfl), List.take_of_length_le (by simp)]
 have t4 : (D.frozs (x.fGives.map MateAsk.D)).take x.fGives.length = x.fGives.map MateAsk.D := by rw [D.frozs_map (fun _ => rfl), List.take_of_length_le (by simp)]
 show [D.agg [.str x.fName, .bool x.fUp, .int .i64 x.fClock, .bool x.fKnown, .int .i64 x.fSeen, .ro 7 ((D.frozs (x.fWants.map MateWant.D)).take x.fWants.length), .ro 11 ((D.frozs (x.fRuns.map MateRun.D)).take x.fRuns.length), .ro 4 ((D.frozs (x.fAsks.map MateAsk.D)).take x.fAsks.length), .ro 4 ((D.frozs (x.fGives.map MateAsk.D)).take x.fGives.length)], D.int .i64 rate] = [x.D, D.int .i64 rate]
 rw [t1, t2, t3, t4]
 rfl
theorem ok_tick (x : Mate) (rate : Int) (b1 b2 b3 b4 c1 c2 c3 c4 : Nat) : okVs (x.L 31 32 33 34 b1 b2 b3 b4 c1 c2 c3 c4) [x.O 31 32 33 34 b1 b2 b3 b4 c1 c2 c3 c4, .int .i64 rate] :=
 ⟨⟨True.intro, True.intro, True.intro, True.intro, True.intro, ⟨rfl, Nat.le_of_eq (by simp)⟩, ⟨rfl, Nat.le_of_eq (by simp)⟩, ⟨rfl, Nat.le_of_eq (by simp)⟩, ⟨rfl, Nat.le_of_eq (by simp)⟩, True.intro⟩, True.intro, True.intro⟩
theorem TO.cl {R : Mate × List MateParcel} {s1 s2 s3 s4 s5 : Nat} {d : Go.Ab.D} {l : List Loan} (h : TO R s1 s2 s3 s4 s5 d l) : d.cl = true ∧ clL l = true := by
 obtain ⟨b1, b2, b3, b4, b5, c1, c2, c3, c4, c5, rfl, rfl⟩ := h
 obtain ⟨R, P⟩ := R
 refine ⟨rfl, ?_⟩
 show ((D.arr 7 (R.fWants.map MateWant.D) c1).cl && ((D.arr 11 (R.fRuns.map MateRun.D) c2).cl && ((D.arr 4 (R.fAsks.map MateAsk.D) c3).cl && ((D.arr 4 (R.fGives.map MateAsk.D) c4).cl && ((D.arr 7 (P.map MateParcel.N) c5).cl && true))))) = true
 have q1 : (D.arr 7 (R.fWants.map MateWant.D) c1).cl = true := D.cls_map (fun _ => rfl) _
 have q2 : (D.arr 11 (R.fRuns.map MateRun.D) c2).cl = true := D.cls_map (fun _ => rfl) _
 have q3 : (D.arr 4 (R.fAsks.map MateAsk.D) c3).cl = true := D.cls_map (fun _ => rfl) _
 have q4 : (D.arr 4 (R.fGives.map MateAsk.D) c4).cl = true := D.cls_map (fun _ => rfl) _
 have q5 : (D.arr 7 (P.map MateParcel.N) c5).cl = true := D.cls_map (fun _ => rfl) _
 rw [q1, q2, q3, q4, q5]
 rfl
theorem impl_TickB (x : Mate) (rate : Int) (hs : x.small) (b1 b2 b3 b4 c1 c2 c3 c4 : Nat) : XC Try.prog 38 [x.O 31 32 33 34 b1 b2 b3 b4 c1 c2 c3 c4, .int .i64 rate] (x.L 31 32 33 34 b1 b2 b3 b4 c1 c2 c3 c4) (fun d ls => ∃ l, ls = x.L 31 32 33 34 b1 b2 b3 b4 c1 c2 c3 c4 ++ l ∧ TO (tickR x rate) 41 42 43 44 46 d l) := by
 have h := impl_TickX x rate hs
 rw [← frz_tick x rate b1 b2 b3 b4 c1 c2 c3 c4] at h
 exact XC.bor h (ok_tick x rate b1 b2 b3 b4 c1 c2 c3 c4) (fun d l h => h.cl)
theorem Bor.parM {st : St} {P : List MateParcel} {k : Int} {s b c kk : Nat} (h : st.lc s = some (.arr 7 ((mkS mk_MateParcel 6 P k).map MateParcel.N) kk)) (g : st.gen s = b) : Bor st (.lsl s b P.length c) (.ro 7 ((mkS mk_MateParcel 6 P k).map MateParcel.N)) :=
 Bor.rowM h g mkS_len.symm (fun _ => rfl)
theorem law_Tick (x : Mate) (rate : Int) (hw : x.wf) : Rdr Try.prog 8 [x.D, .int .i64 rate] (.bool true) := by
 refine Rdr.intro' hm c8 (Nat.le_of_ble_eq_true rfl) ?_
 conv => whnf
 repeat' (first | (refine g_op ?_; conv => whnf) | (refine And.intro ?_ ?_; (focus exact au0); conv => whnf) | (refine g_seq ?_) | (refine XS.go ?_) | (refine g_ops ?_) | ((first | refine g_nil ?_ | refine fun _ => ?_); conv => whnf) | fail)
 refine XCL.ask (sz_Mate x _ hw (by decide) (by decide)) (fun d h => ?_)
 obtain ⟨n, rfl, hn⟩ := h
 conv => whnf
 repeat' (first | (refine g_op ?_; conv => whnf) | (refine And.intro ?_ ?_; (focus exact au0); conv => whnf) | (refine g_seq ?_) | (refine XS.go ?_) | (refine g_ops ?_) | ((first | refine g_nil ?_ | refine g_cond ?_); conv => whnf) | fail)
 refine Br.mk (fun hb => ?_) (fun hb => ?_)
 ·conv => whnf
  repeat' (first | (refine g_op ?_; conv => whnf) | (refine And.intro ?_ ?_; (focus exact au0); conv => whnf) | (refine g_seq ?_) | (refine XS.go ?_) | (refine g_ops ?_) | ((first | refine g_nil ?_ | refine g_ret ?_ | refine r_t ?_ | refine r_nil ?_); conv => whnf) | fail)
  rfl
 have hn0 : 0 ≤ n := Int.not_lt.1 (of_decide_eq_false hb)
 have hs := (hn hn0).2
 obtain ⟨hRs, hPl⟩ := tick_ok x rate hs
 have hsp := spec_Tick x rate hs
 have him0 := impl_Tick x rate hs
 have him := fun b1 b2 b3 b4 c1 c2 c3 c4 => impl_TickB x rate hs b1 b2 b3 b4 c1 c2 c3 c4
 generalize tickR x rate = RP at *
 obtain ⟨R, P⟩ := RP
 dsimp only at hRs hPl hsp him0
 have heq := eq_Mate R hRs
 have heqP := eq_ParcelNS P hPl
 have hex := eq_Mate x hs
 clear hn hn0
 conv => whnf
 repeat' (first | (refine g_skip ?_; conv => whnf) | fail)
 refine XS.go ?_
 repeat' (first | (refine g_op ?_; conv => whnf) | (refine And.intro ?_ ?_; (focus exact au0); conv => whnf) | (refine g_seq ?_) | (refine g_ops ?_) | ((first | refine g_nil ?_ | refine fun _ => ?_ | refine XCL.of_rdr (to_Mate x hs) ?_ | refine XCL.of_rdr (hsp) ?_); conv => whnf) | fail)
 refine XS.go ?_
 repeat' (first | (refine g_op ?_; conv => whnf) | (refine And.intro ?_ ?_; (focus exact au0); conv => whnf) | (refine g_seq ?_) | (refine g_ops ?_) | fail)
 refine XCL.of_XC (ls := []) True.intro ((tox_MateG 31 32 33 34 x hs).mono fun d ls h => ?_)
 obtain ⟨b1, b2, b3, b4, rfl, rfl⟩ := h
 conv => whnf
 repeat' (first | (refine g_op ?_; conv => whnf) | (refine And.intro ?_ ?_; (focus exact au0); conv => whnf) | (refine g_seq ?_) | (refine XS.go ?_) | (refine g_ops ?_) | ((first | refine g_nil ?_ | refine fun _ => ?_); conv => whnf) | fail)
 refine XCL.of_XC (ls := x.L 31 32 33 34 b1 b2 b3 b4 _ _ _ _) ⟨rfl, rfl, rfl, rfl, rfl, rfl, rfl, rfl, rfl, rfl, rfl, rfl, True.intro⟩ ((him b1 b2 b3 b4 _ _ _ _).mono fun d ls h => ?_)
 obtain ⟨l, rfl, d1, d2, d3, d4, d5, e1, e2, e3, e4, e5, rfl, rfl⟩ := h
 conv => whnf
 repeat' (first | ((refine XCL.of_rdrB heq (.cons (Bor.mateO rfl rfl rfl rfl rfl rfl rfl rfl) (.cons (Bor.refl _ _) .nil)) rfl ?_; conv => whnf)) | ((refine XCL.of_rdrB heqP (.cons (Bor.rowM rfl rfl rfl (fun _ => rfl)) (.cons (Bor.refl _ _) .nil)) rfl ?_; conv => whnf)) | ((refine QC.of_rdrB hex (.cons (Bor.mateO rfl rfl rfl rfl rfl rfl rfl rfl) (.cons (Bor.refl _ _) .nil)) rfl ?_; conv => whnf)) | (refine g_op ?_; conv => whnf) | (refine And.intro ?_ ?_; (focus exact au0); conv => whnf) | (refine g_seq ?_) | (refine XS.go ?_) | (refine g_ops ?_) | ((first | refine g_nil ?_ | refine g_opg ?_); conv => whnf) | (refine Br.f ?_ ?_; (focus (first | assumption | exact rfl)); conv => whnf) | ((first | refine g_cond ?_ | refine g_skip ?_); conv => whnf) | (refine g_quiet ?_) | ((first | refine q_op ?_ | refine q_nil ?_ | refine fun _ => ?_ | refine QC.of_rdr (to_Mate x hs) ?_); conv => whnf) | fail)
 have l1 := hs.fWants.1
 have l2 := hs.fRuns.1
 have l3 := hs.fAsks.1
 have l4 := hs.fGives.1
 have m1 := hRs.fWants.1
 have m2 := hRs.fRuns.1
 have m3 := hRs.fAsks.1
 have m4 := hRs.fGives.1
 have hB2 : mkMK R 1 ≤ 30000000 := by unfold mkMK; omega
 have h0 : 0 ≤ mkMK x 1 := by unfold mkMK; omega
 have h2 : 1 ≤ mkMK R 1 := by unfold mkMK; omega
 have hmk := fun b1 b2 b3 b4 c1 c2 c3 c4 => mark_MateG 31 32 33 34 x b1 b2 b3 b4 c1 c2 c3 c4 1 (by decide) hs (by unfold mkMK; omega)
 have hmk2 := fun b1 b2 b3 b4 c1 c2 c3 c4 => mark_MateG 41 42 43 44 R b1 b2 b3 b4 c1 c2 c3 c4 1 (by decide) hRs (by omega)
 have hhd := held_Mate R 1 (by decide) hRs (by omega)
 have hmkP := fun b c => markx_MateParcelS 46 P b c (mkMK R 1) h2 hPl (by omega)
 have hhP := held_MateParcelS P (mkMK R 1) h2 hPl (by omega)
 have hM0 : decide (mkMK x 1 < 0) = false := decide_eq_false (by omega)
 have hM2 : decide (mkMK R 1 < 0) = false := decide_eq_false (by omega)
 have hM3 : decide (mkMK R 1 + (6 * P.length : Nat) < 0) = false := decide_eq_false (by omega)
 clear l1 l2 l3 l4 m1 m2 m3 m4
 generalize mkMK x 1 = M at *
 generalize mkMK R 1 = M2 at *
 generalize hM4 : M2 + (6 * P.length : Nat) = M3 at *
 refine XCL.of_XC (ls := x.L 31 32 33 34 b1 b2 b3 b4 _ _ _ _) ⟨rfl, rfl, rfl, rfl, rfl, rfl, rfl, rfl, rfl, rfl, rfl, rfl, True.intro⟩ ((hmk b1 b2 b3 b4 _ _ _ _).mono fun d ls h => ?_)
 obtain ⟨rfl, rfl⟩ := h
 conv => whnf
 repeat' (first | ((refine XCL.of_rdrB heq (.cons (Bor.mateO rfl rfl rfl rfl rfl rfl rfl rfl) (.cons (Bor.refl _ _) .nil)) rfl ?_; conv => whnf)) | ((refine XCL.of_rdrB heqP (.cons (Bor.rowM rfl rfl rfl (fun _ => rfl)) (.cons (Bor.refl _ _) .nil)) rfl ?_; conv => whnf)) | (refine g_op ?_; conv => whnf) | (refine And.intro ?_ ?_; (focus exact au0); conv => whnf) | (refine g_seq ?_) | (refine XS.go ?_) | (refine g_ops ?_) | ((first | refine g_nil ?_ | refine g_opg ?_); conv => whnf) | (refine Br.f ?_ ?_; (focus (first | assumption | exact rfl)); conv => whnf) | ((first | refine g_cond ?_ | refine g_skip ?_); conv => whnf) | fail)
 refine XCL.of_XC (ls := R.L 41 42 43 44 d1 d2 d3 d4 e1 e2 e3 e4) ⟨rfl, rfl, rfl, rfl, rfl, rfl, rfl, rfl, rfl, rfl, rfl, rfl, True.intro⟩ ((hmk2 d1 d2 d3 d4 e1 e2 e3 e4).mono fun d ls h => ?_)
 obtain ⟨rfl, rfl⟩ := h
 conv => whnf
 repeat' (first | (refine g_op ?_; conv => whnf) | (refine And.intro ?_ ?_; (focus exact au0); conv => whnf) | (refine g_seq ?_) | (refine XS.go ?_) | (refine g_ops ?_) | (refine g_nil ?_; conv => whnf) | fail)
 refine XCL.of_XC (ls := [(46, d5, .arr 7 (P.map MateParcel.N) e5)]) ⟨rfl, rfl, rfl, True.intro⟩ ((hmkP d5 e5).mono fun d ls h => ?_)
 obtain ⟨rfl, rfl⟩ := h
 conv => whnf
 repeat' (first | ((refine XCL.of_rdrB hhd (.cons (Bor.mateM rfl rfl rfl rfl rfl rfl rfl rfl) (.cons (Bor.refl _ _) .nil)) rfl ?_; conv => whnf)) | ((refine XCL.of_rdrB hhP (.cons (Bor.parM rfl rfl) (.cons (Bor.refl _ _) .nil)) rfl ?_; conv => whnf)) | (refine g_op ?_; conv => whnf) | (refine And.intro ?_ ?_; (focus exact au0); conv => whnf) | (refine g_seq ?_) | (refine XS.go ?_) | (refine g_ops ?_) | (refine g_nil ?_; conv => whnf) | (refine Br.f ?_ ?_; (focus (first | assumption | exact rfl)); conv => whnf) | ((first | refine g_cond ?_ | refine g_skip ?_); conv => whnf) | fail)
 refine Br.f (by simp) ?_
 conv => whnf
 repeat' (first | (refine g_skip ?_; conv => whnf) | fail)
 refine XS.go ?_
 repeat' (first | (refine g_op ?_; conv => whnf) | (refine And.intro ?_ ?_; (focus exact au0); conv => whnf) | (refine g_seq ?_) | (refine g_ops ?_) | ((first | refine g_nil ?_ | refine fun _ => ?_ | refine XCL.of_rdr (to_Mate x hs) ?_ | refine XCL.of_rdr (him0) ?_); conv => whnf) | fail)
 refine XS.go ?_
 repeat' (first | ((refine XCL.of_rdrB hhd (.cons (Bor.mateM rfl rfl rfl rfl rfl rfl rfl rfl) (.cons (Bor.refl _ _) .nil)) rfl ?_; conv => whnf)) | ((refine XCL.of_rdrB hhP (.cons (Bor.parM rfl rfl) (.cons (Bor.refl _ _) .nil)) rfl ?_; conv => whnf)) | (refine g_op ?_; conv => whnf) | (refine And.intro ?_ ?_; (focus exact au0); conv => whnf) | (refine g_seq ?_) | (refine XS.go ?_) | (refine g_ops ?_) | ((first | refine g_nil ?_ | refine g_opg ?_); conv => whnf) | (refine Br.f ?_ ?_; (focus (first | assumption | exact rfl)); conv => whnf) | ((first | refine g_cond ?_ | refine g_skip ?_ | refine XCL.of_rdr (heq) ?_ | refine XCL.of_rdr (heqP) ?_); conv => whnf) | fail)
 refine Br.f (by simp) ?_
 conv => whnf
 repeat' (first | (refine g_op ?_; conv => whnf) | (refine And.intro ?_ ?_; (focus exact au0); conv => whnf) | (refine g_seq ?_) | (refine XS.go ?_) | (refine g_ops ?_) | ((first | refine g_nil ?_ | refine g_skip ?_ | refine g_ret ?_ | refine r_t ?_ | refine r_nil ?_); conv => whnf) | fail)
 rfl
end Go.Ab
