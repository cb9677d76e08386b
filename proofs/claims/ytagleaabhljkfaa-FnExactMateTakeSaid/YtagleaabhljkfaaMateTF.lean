/- Steps towards the law: contracts of functions and facts of lists. -/
import Derived.Test.YtagleaabhljkfaaMateTE
import Derived.Test.YtagleaabhljkfaaMateM
import Derived.Test.YtagleaabhljkfaaAb11
import Derived.Test.YtagleaabhljkfaaRows
set_option linter.unusedSimpArgs false
set_option linter.unusedVariables false
namespace Go.Ab
open Go Go.RowKit Go.Proofs
attribute [local irreducible] XC Rdr IntKind.wrap xw xos xqs xr xd
set_option maxRecDepth 100000

/-- laws.FnExactMateTake -/
def cf13 : CF := ⟨92, [.t 4],
  (.seq (.ops [⟨some 2, .bx (.t 0), none⟩,
    ⟨some 3, .bx (.t 1), none⟩,
    ⟨some 4, .mv (.k (.bool false)), none⟩])
  (.seq (.ops [⟨some 5, .mv (.k (.int .i64 1048576)), none⟩])
  (.seq (.ops [⟨some 14, .ld 9 true (.t 2), none⟩,
    ⟨some 15, .mv (.t 5), none⟩,
    ⟨some 16, .call 35 [(.t 14), (.t 15)], none⟩,
    ⟨some 5, .mv (.t 16), none⟩])
  (.seq (.seq (.ops [⟨some 17, .mv (.t 5), none⟩,
    ⟨some 18, .bin .lss (.t 17) (.k (.int .i64 0)), none⟩])
  (.cond (.t 18)
  (.seq (.ops [⟨some 4, .mv (.k (.bool true)), none⟩])
  .ret)
  .skip))
  (.seq (.ops [⟨some 19, .ld 7 true (.t 3), none⟩,
    ⟨some 20, .mv (.t 5), none⟩,
    ⟨some 21, .call 54 [(.t 19), (.t 20)], none⟩,
    ⟨some 5, .mv (.t 21), none⟩])
  (.seq (.seq (.ops [⟨some 22, .mv (.t 5), none⟩,
    ⟨some 23, .bin .lss (.t 22) (.k (.int .i64 0)), none⟩])
  (.cond (.t 23)
  (.seq (.ops [⟨some 4, .mv (.k (.bool true)), none⟩])
  .ret)
  .skip))
  (.seq (.decl [⟨some 24, .ld 9 true (.t 2), none⟩,
    ⟨some 25, .call 37 [(.t 24)], none⟩,
    ⟨some 26, .ld 7 true (.t 3), none⟩,
    ⟨some 27, .call 56 [(.t 26)], none⟩,
    ⟨some 28, .call 55 [(.t 25), (.t 27)], none⟩] 6 (.agg [.str ⟨#[]⟩, .bool false, .int .i64 0, .bool false, .int .i64 0, .nil, .nil, .nil, .nil]) 9 (.t 28))
  (.seq (.ops [⟨some 29, .ld 9 true (.t 2), none⟩,
    ⟨some 30, .call 37 [(.t 29)], none⟩,
    ⟨some 7, .al (.agg [.str ⟨#[]⟩, .bool false, .int .i64 0, .bool false, .int .i64 0, .nil, .nil, .nil, .nil]), none⟩,
    ⟨none, .st 9 (.t 7) (.t 30), none⟩])
  (.seq (.ops [⟨some 31, .ld 7 true (.t 3), none⟩,
    ⟨some 32, .call 56 [(.t 31)], none⟩,
    ⟨some 8, .al (.agg [.int .i64 0, .str ⟨#[]⟩, .int .i64 0, .nil, .str ⟨#[]⟩, .str ⟨#[]⟩, .int .i64 0]), none⟩,
    ⟨none, .st 7 (.t 8) (.t 32), none⟩])
  (.seq (.ops [⟨some 33, .ld 9 true (.t 7), none⟩,
    ⟨some 34, .ld 7 true (.t 8), none⟩,
    ⟨some 35, .call 57 [(.t 33), (.t 34)], none⟩,
    ⟨some 9, .al (.agg [.str ⟨#[]⟩, .bool false, .int .i64 0, .bool false, .int .i64 0, .nil, .nil, .nil, .nil]), none⟩,
    ⟨none, .st 9 (.t 9) (.t 35), none⟩])
  (.seq (.seq (.ops [⟨some 36, .ld 9 true (.t 9), none⟩,
    ⟨some 37, .ld 9 true (.t 6), none⟩,
    ⟨some 38, .call 39 [(.t 36), (.t 37)], none⟩,
    ⟨some 39, .not (.t 38), none⟩])
  (.cond (.t 39)
  (.seq (.ops [⟨some 4, .mv (.k (.bool false)), none⟩])
  .ret)
  .skip))
  (.seq (.seq (.quiet [⟨some 40, .ld 9 true (.t 7), none⟩,
    ⟨some 41, .ld 9 true (.t 2), none⟩,
    ⟨some 42, .call 37 [(.t 41)], none⟩,
    ⟨some 43, .call 39 [(.t 40), (.t 42)], none⟩,
    ⟨some 44, .not (.t 43), none⟩])
  (.cond (.t 44)
  (.seq (.ops [⟨some 4, .mv (.k (.bool false)), none⟩])
  .ret)
  .skip))
  (.seq (.seq (.quiet [⟨some 45, .ld 7 true (.t 8), none⟩,
    ⟨some 46, .ld 7 true (.t 3), none⟩,
    ⟨some 47, .call 56 [(.t 46)], none⟩,
    ⟨some 48, .call 58 [(.t 45), (.t 47)], none⟩,
    ⟨some 49, .not (.t 48), none⟩])
  (.cond (.t 49)
  (.seq (.ops [⟨some 4, .mv (.k (.bool false)), none⟩])
  .ret)
  .skip))
  (.seq (.ops [⟨some 10, .mv (.k (.int .i64 1)), none⟩])
  (.seq (.ops [⟨some 50, .ld 9 true (.t 7), none⟩,
    ⟨some 51, .mv (.t 10), none⟩,
    ⟨some 52, .call 41 [(.t 50), (.t 51)], none⟩,
    ⟨some 10, .mv (.t 52), none⟩])
  (.seq (.ops [⟨some 53, .ld 7 true (.t 8), none⟩,
    ⟨some 54, .mv (.t 10), none⟩,
    ⟨some 55, .call 59 [(.t 53), (.t 54)], none⟩,
    ⟨some 10, .mv (.t 55), none⟩])
  (.seq (.seq (.ops [⟨some 56, .mv (.t 10), none⟩,
    ⟨some 57, .bin .lss (.t 56) (.k (.int .i64 0)), none⟩,
    ⟨some 58, .mv (.t 57), none⟩,
    ⟨some 59, .ld 9 true (.t 9), some (58, false)⟩,
    ⟨some 60, .ld 9 true (.t 6), some (58, false)⟩,
    ⟨some 61, .call 39 [(.t 59), (.t 60)], some (58, false)⟩,
    ⟨some 62, .not (.t 61), some (58, false)⟩,
    ⟨some 63, .pick (.t 58) (.k (.bool true)) (.t 62), none⟩])
  (.cond (.t 63)
  (.seq (.ops [⟨some 4, .mv (.k (.bool false)), none⟩])
  .ret)
  .skip))
  (.seq (.ops [⟨some 11, .mv (.k (.int .i64 1)), none⟩])
  (.seq (.ops [⟨some 64, .ld 9 true (.t 9), none⟩,
    ⟨some 65, .mv (.t 11), none⟩,
    ⟨some 66, .call 41 [(.t 64), (.t 65)], none⟩,
    ⟨some 11, .mv (.t 66), none⟩])
  (.seq (.ops [⟨some 12, .mv (.k (.int .i64 1)), none⟩])
  (.seq (.ops [⟨some 67, .ld 9 true (.t 9), none⟩,
    ⟨some 68, .mv (.t 12), none⟩,
    ⟨some 69, .call 43 [(.t 67), (.t 68)], none⟩,
    ⟨some 12, .mv (.t 69), none⟩])
  (.seq (.seq (.ops [⟨some 70, .mv (.t 12), none⟩,
    ⟨some 71, .bin .lss (.t 70) (.k (.int .i64 0)), none⟩])
  (.cond (.t 71)
  (.seq (.ops [⟨some 4, .mv (.k (.bool false)), none⟩])
  .ret)
  .skip))
  (.seq (.seq (.ops [⟨some 72, .mv (.t 12), none⟩,
    ⟨some 73, .mv (.t 11), none⟩,
    ⟨some 74, .bin .neq (.t 72) (.t 73), none⟩])
  (.cond (.t 74)
  (.seq (.ops [⟨some 4, .mv (.k (.bool false)), none⟩])
  .ret)
  .skip))
  (.seq (.decl [⟨some 75, .ld 9 true (.t 2), none⟩,
    ⟨some 76, .call 37 [(.t 75)], none⟩,
    ⟨some 77, .ld 7 true (.t 3), none⟩,
    ⟨some 78, .call 56 [(.t 77)], none⟩,
    ⟨some 79, .call 57 [(.t 76), (.t 78)], none⟩] 13 (.agg [.str ⟨#[]⟩, .bool false, .int .i64 0, .bool false, .int .i64 0, .nil, .nil, .nil, .nil]) 9 (.t 79))
  (.seq (.seq (.ops [⟨some 80, .ld 9 true (.t 13), none⟩,
    ⟨some 81, .ld 9 true (.t 6), none⟩,
    ⟨some 82, .call 39 [(.t 80), (.t 81)], none⟩,
    ⟨some 83, .not (.t 82), none⟩])
  (.cond (.t 83)
  (.seq (.ops [⟨some 4, .mv (.k (.bool false)), none⟩])
  .ret)
  .skip))
  (.seq (.ops [⟨some 12, .mv (.k (.int .i64 1)), none⟩])
  (.seq (.ops [⟨some 84, .ld 9 true (.t 9), none⟩,
    ⟨some 85, .mv (.t 12), none⟩,
    ⟨some 86, .call 43 [(.t 84), (.t 85)], none⟩,
    ⟨some 12, .mv (.t 86), none⟩])
  (.seq (.seq (.ops [⟨some 87, .mv (.t 12), none⟩,
    ⟨some 88, .bin .lss (.t 87) (.k (.int .i64 0)), none⟩])
  (.cond (.t 88)
  (.seq (.ops [⟨some 4, .mv (.k (.bool false)), none⟩])
  .ret)
  .skip))
  (.seq (.seq (.ops [⟨some 89, .mv (.t 12), none⟩,
    ⟨some 90, .mv (.t 11), none⟩,
    ⟨some 91, .bin .neq (.t 89) (.t 90), none⟩])
  (.cond (.t 91)
  (.seq (.ops [⟨some 4, .mv (.k (.bool false)), none⟩])
  .ret)
  .skip))
  (.seq (.ops [⟨some 4, .mv (.k (.bool true)), none⟩])
  .ret))))))))))))))))))))))))))))))⟩
theorem c13 : compileF Try.prog [] 13 = some cf13 := by kernel_rfl
/-- laws.markMateParcel -/
def cf59 : CF := ⟨10, [.t 4],
  (.seq (.ops [⟨some 2, .bx (.t 0), none⟩,
    ⟨some 4, .mv (.k (.int .i64 0)), none⟩])
  (.seq (.ops [⟨some 5, .fa 3 1 3 (.t 2), none⟩,
    ⟨some 6, .ld 1 false (.t 5), none⟩,
    ⟨some 7, .mv (.t 1), none⟩,
    ⟨some 8, .call 87 [(.t 6), (.t 7)], none⟩,
    ⟨some 1, .mv (.t 8), none⟩])
  (.seq (.ops [⟨some 9, .mv (.t 1), none⟩,
    ⟨some 4, .mv (.t 9), none⟩])
  .ret)))⟩
theorem c59 : compileF Try.prog [] 59 = some cf59 := by kernel_rfl
def MateParcel.O (p : MateParcel) (s b c : Nat) : Go.Ab.D := .agg [.int .i64 p.fKind, .str p.fBerth, .int .i64 p.fSeen, .lsl s b p.fWants.length c, .str p.fHold, .str p.fCopy, .int .i64 p.fAt]
def MateParcel.L (p : MateParcel) (s b c : Nat) : List Loan := [(s, b, .arr 7 (p.fWants.map MateWant.D) c)]
theorem Bor.parO {st : St} {p : MateParcel} {s b c k : Nat} (h : st.lc s = some (.arr 7 (p.fWants.map MateWant.D) k)) (g : st.gen s = b) : Bor st (p.O s b c) p.D :=
  Bor.agg (.cons (Bor.refl _ _) (.cons (Bor.refl _ _) (.cons (Bor.refl _ _) (.cons (Bor.rowM h g rfl (fun _ => rfl)) (.cons (Bor.refl _ _) (.cons (Bor.refl _ _) (.cons (Bor.refl _ _) .nil))))))) rfl rfl rfl
set_option maxHeartbeats 4000000 in
theorem tox_Parcel (p : MateParcel) (hs : p.small) : XC Try.prog 56 [p.D] [] (fun d ls => ∃ b, d = p.O 35 b p.fWants.length ∧ ls = p.L 35 b p.fWants.length) := by
  refine XC.intro' hm [35] rfl c56 (Nat.le_of_ble_eq_true rfl) ?_
  conv => whnf
  repeat' (first | (refine g_op ?_; conv => whnf) | (refine And.intro ?_ ?_; (focus (first | exact rfl | exact Nat.le_of_ble_eq_true rfl | decide | omega | fail)); conv => whnf) | (refine g_seq ?_) | (refine XS.go ?_) | (refine g_ops ?_) | (refine g_nil ?_; conv => whnf) | (refine fun _ => ?_; conv => whnf) | fail)
  refine XCL.of_XC (ls := []) True.intro ((tox_MateWantS 35 p.fWants hs.fWants).mono fun d ls h => ?_)
  obtain ⟨b, rfl, rfl⟩ := h
  conv => whnf
  repeat' (first | (refine g_op ?_; conv => whnf) | (refine And.intro ?_ ?_; (focus (first | exact rfl | exact Nat.le_of_ble_eq_true rfl | decide | omega | fail)); conv => whnf) | (refine g_seq ?_) | (refine XS.go ?_) | (refine g_ops ?_) | (refine g_nil ?_; conv => whnf) | (refine g_ret ?_; conv => whnf) | (refine r_c ?_; conv => whnf) | (refine r_nil ?_; conv => whnf) | fail)
  exact ⟨b, rfl, rfl⟩
set_option maxHeartbeats 4000000 in
theorem mark_Parcel (p : MateParcel) (b c : Nat) (k : Int) (hk : 1 ≤ k) (hl : p.fWants.length ≤ 1048576) (hB : k + (7 * p.fWants.length : Nat) ≤ 50000000) : XC Try.prog 59 [p.O 35 b c, .int .i64 k] (p.L 35 b c) (fun d ls => d = .int .i64 (k + (7 * p.fWants.length : Nat)) ∧ ls = [(35, b, .arr 7 ((mkS mk_MateWant 7 p.fWants k).map MateWant.D) c)]) := by
  refine XC.intro' hm [35] rfl c59 (Nat.le_of_ble_eq_true rfl) ?_
  conv => whnf
  repeat' (first | (refine g_op ?_; conv => whnf) | (refine And.intro ?_ ?_; (focus (first | exact rfl | exact Nat.le_of_ble_eq_true rfl | decide | omega | fail)); conv => whnf) | (refine g_seq ?_) | (refine XS.go ?_) | (refine g_ops ?_) | (refine g_nil ?_; conv => whnf) | (refine fun _ => ?_; conv => whnf) | fail)
  refine XCL.of_XC (ls := [(35, b, .arr 7 (p.fWants.map MateWant.D) c)]) ⟨rfl, rfl, rfl, True.intro⟩ ((markx_MateWantS 35 p.fWants b c k hk hl hB).mono fun d ls h => ?_)
  obtain ⟨rfl, rfl⟩ := h
  conv => whnf
  repeat' (first | (refine g_op ?_; conv => whnf) | (refine And.intro ?_ ?_; (focus (first | exact rfl | exact Nat.le_of_ble_eq_true rfl | decide | omega | fail)); conv => whnf) | (refine g_seq ?_) | (refine XS.go ?_) | (refine g_ops ?_) | (refine g_nil ?_; conv => whnf) | (refine g_ret ?_; conv => whnf) | (refine r_t ?_; conv => whnf) | (refine r_nil ?_; conv => whnf) | fail)
  first | exact ⟨rfl, rfl⟩ | exact rfl
theorem frz_two (x : Mate) (p : MateParcel) (b1 b2 b3 b4 c1 c2 c3 c4 b c : Nat) : frzVs (x.L 31 32 33 34 b1 b2 b3 b4 c1 c2 c3 c4 ++ p.L 35 b c) [x.O 31 32 33 34 b1 b2 b3 b4 c1 c2 c3 c4, p.O 35 b c] = [x.D, p.D] := by
  have t1 : (D.frozs (x.fWants.map MateWant.D)).take x.fWants.length = x.fWants.map MateWant.D := by rw [D.frozs_map (fun _ => rfl), List.take_of_length_le (by simp)]
  have t2 : (D.frozs (x.fRuns.map MateRun.D)).take x.fRuns.length = x.fRuns.map MateRun.D := by rw [D.frozs_map (fun _ => rfl), List.take_of_length_le (by simp)]
  have t3 : (D.frozs (x.fAsks.map MateAsk.D)).take x.fAsks.length = x.fAsks.map MateAsk.D := by rw [D.frozs_map (fun _ => rfl), List.take_of_length_le (by simp)]
  have t4 : (D.frozs (x.fGives.map MateAsk.D)).take x.fGives.length = x.fGives.map MateAsk.D := by rw [D.frozs_map (fun _ => rfl), List.take_of_length_le (by simp)]
  have t5 : (D.frozs (p.fWants.map MateWant.D)).take p.fWants.length = p.fWants.map MateWant.D := by rw [D.frozs_map (fun _ => rfl), List.take_of_length_le (by simp)]
  show [D.agg [.str x.fName, .bool x.fUp, .int .i64 x.fClock, .bool x.fKnown, .int .i64 x.fSeen, .ro 7 ((D.frozs (x.fWants.map MateWant.D)).take x.fWants.length), .ro 11 ((D.frozs (x.fRuns.map MateRun.D)).take x.fRuns.length), .ro 4 ((D.frozs (x.fAsks.map MateAsk.D)).take x.fAsks.length), .ro 4 ((D.frozs (x.fGives.map MateAsk.D)).take x.fGives.length)], D.agg [.int .i64 p.fKind, .str p.fBerth, .int .i64 p.fSeen, .ro 7 ((D.frozs (p.fWants.map MateWant.D)).take p.fWants.length), .str p.fHold, .str p.fCopy, .int .i64 p.fAt]] = [x.D, p.D]
  rw [t1, t2, t3, t4, t5]
  rfl
theorem ok_two (x : Mate) (p : MateParcel) (b1 b2 b3 b4 c1 c2 c3 c4 b c : Nat) : okVs (x.L 31 32 33 34 b1 b2 b3 b4 c1 c2 c3 c4 ++ p.L 35 b c) [x.O 31 32 33 34 b1 b2 b3 b4 c1 c2 c3 c4, p.O 35 b c] :=
  ⟨⟨True.intro, True.intro, True.intro, True.intro, True.intro, ⟨rfl, Nat.le_of_eq (by simp)⟩, ⟨rfl, Nat.le_of_eq (by simp)⟩, ⟨rfl, Nat.le_of_eq (by simp)⟩, ⟨rfl, Nat.le_of_eq (by simp)⟩, True.intro⟩, ⟨True.intro, True.intro, True.intro, ⟨rfl, Nat.le_of_eq (by simp)⟩, True.intro, True.intro, True.intro, True.intro⟩, True.intro⟩
theorem KO.cl {R : Mate} {s1 s2 s3 s4 : Nat} {d : Go.Ab.D} {l : List Loan} (h : KO R s1 s2 s3 s4 d l) : d.cl = true ∧ clL l = true := by
  obtain ⟨b1, b2, b3, b4, c1, c2, c3, c4, rfl, rfl⟩ := h
  refine ⟨rfl, ?_⟩
  show ((D.arr 7 (R.fWants.map MateWant.D) c1).cl && ((D.arr 11 (R.fRuns.map MateRun.D) c2).cl && ((D.arr 4 (R.fAsks.map MateAsk.D) c3).cl && ((D.arr 4 (R.fGives.map MateAsk.D) c4).cl && true)))) = true
  have q1 : (D.arr 7 (R.fWants.map MateWant.D) c1).cl = true := D.cls_map (fun _ => rfl) _
  have q2 : (D.arr 11 (R.fRuns.map MateRun.D) c2).cl = true := D.cls_map (fun _ => rfl) _
  have q3 : (D.arr 4 (R.fAsks.map MateAsk.D) c3).cl = true := D.cls_map (fun _ => rfl) _
  have q4 : (D.arr 4 (R.fGives.map MateAsk.D) c4).cl = true := D.cls_map (fun _ => rfl) _
  rw [q1, q2, q3, q4]
  rfl
theorem impl_TakeB (x : Mate) (p : MateParcel) (hs : x.small) (hp : p.fWants.length ≤ 1048576) (b1 b2 b3 b4 c1 c2 c3 c4 b c : Nat) : XC Try.prog 57 [x.O 31 32 33 34 b1 b2 b3 b4 c1 c2 c3 c4, p.O 35 b c] (x.L 31 32 33 34 b1 b2 b3 b4 c1 c2 c3 c4 ++ p.L 35 b c) (fun d ls => ∃ l, ls = x.L 31 32 33 34 b1 b2 b3 b4 c1 c2 c3 c4 ++ p.L 35 b c ++ l ∧ KO (takeR x p) 41 42 43 44 d l) := by
  have h := impl_TakeX x p hs hp
  rw [← frz_two x p b1 b2 b3 b4 c1 c2 c3 c4 b c] at h
  exact XC.bor h (ok_two x p b1 b2 b3 b4 c1 c2 c3 c4 b c) (fun d l h => h.cl)
theorem take_small {x : Mate} {p : MateParcel} (hs : x.small) (hp : p.small) : (takeR x p).small := by
  unfold takeR
  split
  · unfold takeM
    split
    · exact hs
    split
    · split
      · exact ⟨hp.fWants, hs.fRuns, hs.fAsks, hs.fGives⟩
      · exact hs
    split
    · split
      · exact hs
      · exact ⟨hs.fWants, ⟨by show (x.fRuns.map _).length ≤ _; rw [List.length_map]; exact hs.fRuns.1, fun _ _ => ⟨⟨⟩⟩⟩, hs.fAsks, hs.fGives⟩
    split
    · exact ⟨hs.fWants, hs.fRuns, hs.fAsks, ⟨Nat.le_trans (List.length_filter_le _ _) hs.fGives.1, fun _ _ => ⟨⟩⟩⟩
    · exact hs
  · constructor <;> exact ⟨Nat.zero_le _, fun y hy => absurd hy List.not_mem_nil⟩
set_option maxHeartbeats 4000000 in
theorem law_Take (x : Mate) (p : MateParcel) (hw : x.wf) (hwp : p.wf) : Rdr Try.prog 13 [x.D, p.D] (.bool true) := by
  refine Rdr.intro' hm c13 (Nat.le_of_ble_eq_true rfl) ?_
  conv => whnf
  repeat' (first | (refine g_op ?_; conv => whnf) | (refine And.intro ?_ ?_; (focus (first | exact rfl | exact Nat.le_of_ble_eq_true rfl | decide | omega | fail)); conv => whnf) | (refine g_seq ?_) | (refine XS.go ?_) | (refine g_ops ?_) | (refine g_nil ?_; conv => whnf) | (refine fun _ => ?_; conv => whnf) | fail)
  refine XCL.ask (sz_Mate x _ hw (by decide) (by decide)) (fun d h => ?_)
  obtain ⟨n, rfl, hn⟩ := h
  conv => whnf
  repeat' (first | (refine g_op ?_; conv => whnf) | (refine And.intro ?_ ?_; (focus (first | exact rfl | exact Nat.le_of_ble_eq_true rfl | decide | omega | fail)); conv => whnf) | (refine g_seq ?_) | (refine XS.go ?_) | (refine g_ops ?_) | (refine g_nil ?_; conv => whnf) | (refine g_cond ?_; conv => whnf) | fail)
  refine Br.mk (fun hb => ?_) (fun hb => ?_)
  · conv => whnf
    repeat' (first | (refine g_op ?_; conv => whnf) | (refine And.intro ?_ ?_; (focus (first | exact rfl | exact Nat.le_of_ble_eq_true rfl | decide | omega | fail)); conv => whnf) | (refine g_seq ?_) | (refine XS.go ?_) | (refine g_ops ?_) | (refine g_nil ?_; conv => whnf) | (refine g_ret ?_; conv => whnf) | (refine r_t ?_; conv => whnf) | (refine r_nil ?_; conv => whnf) | fail)
    rfl
  have hn0 : 0 ≤ n := Int.not_lt.1 (of_decide_eq_false hb)
  obtain ⟨hn1, hs⟩ := hn hn0
  conv => whnf
  repeat' (first | (refine g_op ?_; conv => whnf) | (refine And.intro ?_ ?_; (focus (first | exact rfl | exact Nat.le_of_ble_eq_true rfl | decide | omega | fail)); conv => whnf) | (refine g_seq ?_) | (refine XS.go ?_) | (refine g_ops ?_) | (refine g_skip ?_; conv => whnf) | fail)
  refine XCL.ask (sz_MateParcel p n hwp hn0 hn1) (fun d h => ?_)
  obtain ⟨n2, rfl, hn2⟩ := h
  conv => whnf
  repeat' (first | (refine g_op ?_; conv => whnf) | (refine And.intro ?_ ?_; (focus (first | exact rfl | exact Nat.le_of_ble_eq_true rfl | decide | omega | fail)); conv => whnf) | (refine g_seq ?_) | (refine XS.go ?_) | (refine g_ops ?_) | (refine g_nil ?_; conv => whnf) | (refine g_cond ?_; conv => whnf) | fail)
  refine Br.mk (fun hb => ?_) (fun hb => ?_)
  · conv => whnf
    repeat' (first | (refine g_op ?_; conv => whnf) | (refine And.intro ?_ ?_; (focus (first | exact rfl | exact Nat.le_of_ble_eq_true rfl | decide | omega | fail)); conv => whnf) | (refine g_seq ?_) | (refine XS.go ?_) | (refine g_ops ?_) | (refine g_nil ?_; conv => whnf) | (refine g_ret ?_; conv => whnf) | (refine r_t ?_; conv => whnf) | (refine r_nil ?_; conv => whnf) | fail)
    rfl
  have hps : p.small := (hn2 (Int.not_lt.1 (of_decide_eq_false hb))).2
  have hRs := take_small hs hps
  have hl := hps.fWants.1
  have hsp := spec_Take x p hs hl
  have him0 := impl_Take x p hs hl
  have him := fun b1 b2 b3 b4 c1 c2 c3 c4 b c => impl_TakeB x p hs hl b1 b2 b3 b4 c1 c2 c3 c4 b c
  have htp := to_MateParcel p hps
  generalize takeR x p = R at *
  have heq := eq_Mate R hRs
  clear hn hn2 hn0 hn1
  conv => whnf
  repeat' (first | (refine g_skip ?_; conv => whnf) | fail)
  refine XS.go ?_
  repeat' (first | (refine z_ld1 ?_; first | (refine z_ld rfl rfl rfl rfl (by first | (simp only [List.length_set]; assumption) | assumption | omega) (by first | exact elt_set (by first | assumption | (simp only [List.length_set]; assumption)) | assumption) ?_; conv => whnf) | (refine z_ld0 rfl ?_; conv => whnf)) | (refine zs_decl ?_) | (refine z_nil fun vals => ?_; conv => whnf) | (refine z_call ?_ ?_; (focus exact rfl)) | (refine RC.of (to_Mate x hs) ?_ ?_; (focus exact rfl); conv => whnf) | (refine RC.of (htp) ?_ ?_; (focus exact rfl); conv => whnf) | (refine RC.of (hsp) ?_ ?_; (focus exact rfl); conv => whnf) | (refine And.intro ?_ ?_; (focus (first | exact rfl | exact Nat.le_of_ble_eq_true rfl | decide | omega | fail)); conv => whnf) | (refine g_seq ?_) | (refine fun _ => ?_; conv => whnf) | fail)
  refine XS.go ?_
  repeat' (first | (refine g_op ?_; conv => whnf) | (refine And.intro ?_ ?_; (focus (first | exact rfl | exact Nat.le_of_ble_eq_true rfl | decide | omega | fail)); conv => whnf) | (refine g_seq ?_) | (refine g_ops ?_) | fail)
  refine XCL.of_XC (ls := []) True.intro ((tox_MateG 31 32 33 34 x hs).mono fun d ls h => ?_)
  obtain ⟨b1, b2, b3, b4, rfl, rfl⟩ := h
  conv => whnf
  repeat' (first | (refine g_op ?_; conv => whnf) | (refine And.intro ?_ ?_; (focus (first | exact rfl | exact Nat.le_of_ble_eq_true rfl | decide | omega | fail)); conv => whnf) | (refine g_seq ?_) | (refine XS.go ?_) | (refine g_ops ?_) | (refine g_nil ?_; conv => whnf) | (refine fun _ => ?_; conv => whnf) | fail)
  refine XCL.of_XC (ls := []) True.intro ((tox_Parcel p hps).mono fun d ls h => ?_)
  obtain ⟨b, rfl, rfl⟩ := h
  conv => whnf
  repeat' (first | (refine g_op ?_; conv => whnf) | (refine And.intro ?_ ?_; (focus (first | exact rfl | exact Nat.le_of_ble_eq_true rfl | decide | omega | fail)); conv => whnf) | (refine g_seq ?_) | (refine XS.go ?_) | (refine g_ops ?_) | (refine g_nil ?_; conv => whnf) | (refine fun _ => ?_; conv => whnf) | fail)
  refine XCL.of_XC (ls := x.L 31 32 33 34 b1 b2 b3 b4 _ _ _ _ ++ p.L 35 b _) ⟨rfl, rfl, rfl, rfl, rfl, rfl, rfl, rfl, rfl, rfl, rfl, rfl, rfl, rfl, rfl, True.intro⟩ ((him b1 b2 b3 b4 _ _ _ _ b _).mono fun d ls h => ?_)
  obtain ⟨l, rfl, d1, d2, d3, d4, e1, e2, e3, e4, rfl, rfl⟩ := h
  conv => whnf
  repeat' (first | (refine g_op ?_; conv => whnf) | (refine And.intro ?_ ?_; (focus (first | exact rfl | exact Nat.le_of_ble_eq_true rfl | decide | omega | fail)); conv => whnf) | (refine g_seq ?_) | (refine XS.go ?_) | (refine g_ops ?_) | (refine g_nil ?_; conv => whnf) | (refine fun _ => ?_; conv => whnf) | fail)
  refine XCL.of_rdrB (eq_Mate R hRs) (.cons (Bor.mateO rfl rfl rfl rfl rfl rfl rfl rfl) (.cons (Bor.refl _ _) .nil)) rfl ?_
  conv => whnf
  repeat' (first | (refine g_op ?_; conv => whnf) | (refine And.intro ?_ ?_; (focus (first | exact rfl | exact Nat.le_of_ble_eq_true rfl | decide | omega | fail)); conv => whnf) | (refine g_seq ?_) | (refine XS.go ?_) | (refine g_nil ?_; conv => whnf) | (refine Br.f ?_ ?_; (focus (first | assumption | exact rfl)); conv => whnf) | (refine g_cond ?_; conv => whnf) | (refine g_skip ?_; conv => whnf) | (refine g_quiet ?_) | (refine q_op ?_; conv => whnf) | (refine QC.of_rdr (to_Mate x hs) ?_; conv => whnf) | fail)
  refine QC.of_rdrB (eq_Mate x hs) (.cons (Bor.mateO rfl rfl rfl rfl rfl rfl rfl rfl) (.cons (Bor.refl _ _) .nil)) rfl ?_
  conv => whnf
  repeat' (first | (refine And.intro ?_ ?_; (focus (first | exact rfl | exact Nat.le_of_ble_eq_true rfl | decide | omega | fail)); conv => whnf) | (refine g_seq ?_) | (refine XS.go ?_) | (refine Br.f ?_ ?_; (focus (first | assumption | exact rfl)); conv => whnf) | (refine g_cond ?_; conv => whnf) | (refine g_skip ?_; conv => whnf) | (refine g_quiet ?_) | (refine q_op ?_; conv => whnf) | (refine q_nil ?_; conv => whnf) | (refine QC.of_rdr (htp) ?_; conv => whnf) | fail)
  refine QC.of_rdrB (eq_MateParcel p hps) (.cons (Bor.parO rfl rfl) (.cons (Bor.refl _ _) .nil)) rfl ?_
  conv => whnf
  repeat' (first | (refine g_op ?_; conv => whnf) | (refine And.intro ?_ ?_; (focus (first | exact rfl | exact Nat.le_of_ble_eq_true rfl | decide | omega | fail)); conv => whnf) | (refine g_seq ?_) | (refine XS.go ?_) | (refine g_ops ?_) | (refine g_nil ?_; conv => whnf) | (refine Br.f ?_ ?_; (focus (first | assumption | exact rfl)); conv => whnf) | (refine g_cond ?_; conv => whnf) | (refine g_skip ?_; conv => whnf) | (refine q_op ?_; conv => whnf) | (refine q_nil ?_; conv => whnf) | fail)
  have l1 := hs.fWants.1
  have l2 := hs.fRuns.1
  have l3 := hs.fAsks.1
  have l4 := hs.fGives.1
  have m1 := hRs.fWants.1
  have m2 := hRs.fRuns.1
  have m3 := hRs.fAsks.1
  have m4 := hRs.fGives.1
  have hB : mkMK x 1 ≤ 40000000 := by unfold mkMK; omega
  have hB2 : mkMK R 1 ≤ 50000000 := by unfold mkMK; omega
  have h0 : 1 ≤ mkMK x 1 := by unfold mkMK; omega
  have h2 : 0 ≤ mkMK R 1 := by unfold mkMK; omega
  have hmk := fun b1 b2 b3 b4 c1 c2 c3 c4 => mark_MateG 31 32 33 34 x b1 b2 b3 b4 c1 c2 c3 c4 1 (by decide) hs (by omega)
  have hmkp := fun b c => mark_Parcel p b c (mkMK x 1) h0 hl (by omega)
  have hmk2 := fun b1 b2 b3 b4 c1 c2 c3 c4 => mark_MateG 41 42 43 44 R b1 b2 b3 b4 c1 c2 c3 c4 1 (by decide) hRs hB2
  have hhd := held_Mate R 1 (by decide) hRs hB2
  have hM0 : decide (mkMK x 1 + (7 * p.fWants.length : Nat) < 0) = false := decide_eq_false (by omega)
  have hM2 : decide (mkMK R 1 < 0) = false := decide_eq_false (by omega)
  clear l1 l2 l3 l4 m1 m2 m3 m4
  generalize mkMK x 1 = M at *
  generalize mkMK R 1 = M2 at *
  refine XCL.of_XC (ls := x.L 31 32 33 34 b1 b2 b3 b4 _ _ _ _) ⟨rfl, rfl, rfl, rfl, rfl, rfl, rfl, rfl, rfl, rfl, rfl, rfl, True.intro⟩ ((hmk b1 b2 b3 b4 _ _ _ _).mono fun d ls h => ?_)
  obtain ⟨rfl, rfl⟩ := h
  conv => whnf
  repeat' (first | (refine g_op ?_; conv => whnf) | (refine And.intro ?_ ?_; (focus (first | exact rfl | exact Nat.le_of_ble_eq_true rfl | decide | omega | fail)); conv => whnf) | (refine g_seq ?_) | (refine XS.go ?_) | (refine g_ops ?_) | (refine g_nil ?_; conv => whnf) | fail)
  refine XCL.of_XC (ls := p.L 35 b _) ⟨rfl, rfl, rfl, True.intro⟩ ((hmkp b _).mono fun d ls h => ?_)
  obtain ⟨rfl, rfl⟩ := h
  conv => whnf
  repeat' (first | (refine g_op ?_; conv => whnf) | (refine And.intro ?_ ?_; (focus (first | exact rfl | exact Nat.le_of_ble_eq_true rfl | decide | omega | fail)); conv => whnf) | (refine g_seq ?_) | (refine XS.go ?_) | (refine g_ops ?_) | (refine g_nil ?_; conv => whnf) | (refine g_opg ?_; conv => whnf) | (refine Br.f ?_ ?_; (focus (first | assumption | exact rfl)); conv => whnf) | fail)
  refine XCL.of_rdrB (eq_Mate R hRs) (.cons (Bor.mateO rfl rfl rfl rfl rfl rfl rfl rfl) (.cons (Bor.refl _ _) .nil)) rfl ?_
  conv => whnf
  repeat' (first | (refine g_op ?_; conv => whnf) | (refine And.intro ?_ ?_; (focus (first | exact rfl | exact Nat.le_of_ble_eq_true rfl | decide | omega | fail)); conv => whnf) | (refine g_seq ?_) | (refine XS.go ?_) | (refine g_ops ?_) | (refine g_nil ?_; conv => whnf) | (refine g_opg ?_; conv => whnf) | (refine Br.f ?_ ?_; (focus (first | assumption | exact rfl)); conv => whnf) | (refine g_cond ?_; conv => whnf) | (refine g_skip ?_; conv => whnf) | fail)
  refine XCL.of_XC (ls := R.L 41 42 43 44 d1 d2 d3 d4 e1 e2 e3 e4) ⟨rfl, rfl, rfl, rfl, rfl, rfl, rfl, rfl, rfl, rfl, rfl, rfl, True.intro⟩ ((hmk2 d1 d2 d3 d4 e1 e2 e3 e4).mono fun d ls h => ?_)
  obtain ⟨rfl, rfl⟩ := h
  conv => whnf
  repeat' (first | (refine g_op ?_; conv => whnf) | (refine And.intro ?_ ?_; (focus (first | exact rfl | exact Nat.le_of_ble_eq_true rfl | decide | omega | fail)); conv => whnf) | (refine g_seq ?_) | (refine XS.go ?_) | (refine g_ops ?_) | (refine g_nil ?_; conv => whnf) | fail)
  refine XCL.of_rdrB hhd (.cons (Bor.mateM rfl rfl rfl rfl rfl rfl rfl rfl) (.cons (Bor.refl _ _) .nil)) rfl ?_
  conv => whnf
  repeat' (first | (refine g_op ?_; conv => whnf) | (refine And.intro ?_ ?_; (focus (first | exact rfl | exact Nat.le_of_ble_eq_true rfl | decide | omega | fail)); conv => whnf) | (refine g_seq ?_) | (refine XS.go ?_) | (refine g_ops ?_) | (refine g_nil ?_; conv => whnf) | (refine Br.f ?_ ?_; (focus (first | assumption | exact rfl)); conv => whnf) | (refine g_cond ?_; conv => whnf) | (refine g_skip ?_; conv => whnf) | fail)
  refine Br.f (by simp) ?_
  conv => whnf
  repeat' (first | (refine g_skip ?_; conv => whnf) | fail)
  refine XS.go ?_
  repeat' (first | (refine z_ld1 ?_; first | (refine z_ld rfl rfl rfl rfl (by first | (simp only [List.length_set]; assumption) | assumption | omega) (by first | exact elt_set (by first | assumption | (simp only [List.length_set]; assumption)) | assumption) ?_; conv => whnf) | (refine z_ld0 rfl ?_; conv => whnf)) | (refine zs_decl ?_) | (refine z_nil fun vals => ?_; conv => whnf) | (refine z_call ?_ ?_; (focus exact rfl)) | (refine RC.of (to_Mate x hs) ?_ ?_; (focus exact rfl); conv => whnf) | (refine RC.of (htp) ?_ ?_; (focus exact rfl); conv => whnf) | (refine RC.of (him0) ?_ ?_; (focus exact rfl); conv => whnf) | (refine And.intro ?_ ?_; (focus (first | exact rfl | exact Nat.le_of_ble_eq_true rfl | decide | omega | fail)); conv => whnf) | (refine g_seq ?_) | (refine fun _ => ?_; conv => whnf) | fail)
  refine XS.go ?_
  repeat' (first | (refine g_op ?_; conv => whnf) | (refine And.intro ?_ ?_; (focus (first | exact rfl | exact Nat.le_of_ble_eq_true rfl | decide | omega | fail)); conv => whnf) | (refine g_seq ?_) | (refine XS.go ?_) | (refine g_ops ?_) | (refine g_nil ?_; conv => whnf) | (refine Br.f ?_ ?_; (focus (first | assumption | exact rfl)); conv => whnf) | (refine g_cond ?_; conv => whnf) | (refine g_skip ?_; conv => whnf) | (refine XCL.of_rdr (heq) ?_; conv => whnf) | fail)
  refine XCL.of_rdrB hhd (.cons (Bor.mateM rfl rfl rfl rfl rfl rfl rfl rfl) (.cons (Bor.refl _ _) .nil)) rfl ?_
  conv => whnf
  repeat' (first | (refine g_op ?_; conv => whnf) | (refine And.intro ?_ ?_; (focus (first | exact rfl | exact Nat.le_of_ble_eq_true rfl | decide | omega | fail)); conv => whnf) | (refine g_seq ?_) | (refine XS.go ?_) | (refine g_ops ?_) | (refine g_nil ?_; conv => whnf) | (refine Br.f ?_ ?_; (focus (first | assumption | exact rfl)); conv => whnf) | (refine g_cond ?_; conv => whnf) | (refine g_skip ?_; conv => whnf) | fail)
  refine Br.f (by simp) ?_
  conv => whnf
  repeat' (first | (refine g_op ?_; conv => whnf) | (refine And.intro ?_ ?_; (focus (first | exact rfl | exact Nat.le_of_ble_eq_true rfl | decide | omega | fail)); conv => whnf) | (refine g_seq ?_) | (refine XS.go ?_) | (refine g_ops ?_) | (refine g_nil ?_; conv => whnf) | (refine g_skip ?_; conv => whnf) | (refine g_ret ?_; conv => whnf) | (refine r_t ?_; conv => whnf) | (refine r_nil ?_; conv => whnf) | fail)
  rfl
end Go.Ab
