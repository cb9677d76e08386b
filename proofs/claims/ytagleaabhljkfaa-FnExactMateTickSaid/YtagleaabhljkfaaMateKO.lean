/- Steps towards the law: the machine, contracts of functions and facts of lists. -/
import Derived.Test.YtagleaabhljkfaaMateKN
import Derived.Test.YtagleaabhljkfaaRows
set_option linter.unusedSimpArgs false
set_option linter.unusedVariables false
namespace Go.Ab
open Go Go.RowKit Go.Proofs
attribute [local irreducible] XC Rdr IntKind.wrap xw xos xqs xr xd
set_option maxRecDepth 100000
set_option maxHeartbeats 16000000
def joinN {α : Type} (E : α → (Nat → Nat) → Prop) (fs : α → (Nat → Nat) → List D) (ls : α → (Nat → Nat) → List (Nat × D)) : Post := fun e st =>
 match e with
 | .normal => ∃ y, E y st.gen ∧ FitA st (fs y st.gen) (ls y st.gen)
 | _ => False
/-- A part of the code with a small goal of its own. -/
theorem XS.join {P : Program} {n : Nat} {st : St} {Q : Post} {α : Type} {cc : CC} (E : α → (Nat → Nat) → Prop) (fs : α → (Nat → Nat) → List D) (ls : α → (Nat → Nat) → List (Nat × D))
  (h1 : XS P n cc st (joinN E fs ls)) (h2 : ∀ y gs, E y gs → Q .normal (St.mkA (fs y gs) gs (ls y gs))) : XS P n cc st Q :=
 ⟨fun hm nq c hc F g a w hH => (h1.sem hm nq c hc F g a w hH) |> fun h => wp_mono h fun e a2 w2 hq => by
  cases e with
  | normal =>
   obtain ⟨g2, st2, hH2, y, hE, hF⟩ := hq
   exact ⟨g2, _, hH2.weaken hF.le, h2 y _ hE⟩
  | exit k => obtain ⟨_, _, _, q⟩ := hq; exact q.elim
  | ret => obtain ⟨_, _, _, q⟩ := hq; exact q.elim
  | goto l => exact hq
  | panic c => exact hq
  | outgrown => exact hq⟩
theorem impl_tick4 (m : Mate) (rate : Int) (b b1 b2 b3 b4 c1 c2 c3 c4 : Nat) (hr : inR rate 1 4 = true) (hm0 : TK m 20 40) (hk : decide (IntKind.wrap .i64 (m.fClock + rate) > 1000000) = false) (hu : m.fUp = true) : XC Try.prog 85 [.lref 6 b [] 0, .int .i64 rate] ((6, b, m.O 31 32 33 34 b1 b2 b3 b4 c1 c2 c3 c4) :: m.L 31 32 33 34 b1 b2 b3 b4 c1 c2 c3 c4) (fun d ls => ∃ bp cp d2 d3 d4 e2 e3 e4, d = .lsl 246 bp (outs (asksR (tickY m rate))).length cp ∧ ls = ((6, b, (asksR (tickY m rate)).1.O 31 45 33 34 b1 d2 d3 d4 c1 e2 e3 e4) :: (asksR (tickY m rate)).1.L 31 45 33 34 b1 d2 d3 d4 c1 e2 e3 e4) ++ [(246, bp, .arr 7 ((outs (asksR (tickY m rate))).map MateParcel.N) cp)]) := by
 have hr2 := rate_lo hr
 have hl : m.fRuns.length ≤ 1048576 := by have := hm0.r; omega
 have hu2 : (!m.fUp) = false := by rw [hu]; rfl
 have hW := wdogF 32 39 32 m.fRuns b2 c2 (IntKind.wrap .i64 (m.fClock + rate)) hl
 have hYK := hm0.tickY rate
 have hXK := hm0.tickX rate
 refine XC.intro' hm [6, 31, 45, 33, 34, 246] rfl c85 (Nat.le_of_ble_eq_true rfl) ?_
 simp only [Mate.O, Mate.L]
 conv => whnf
 repeat' (first | (refine g_op ?_; conv => whnf) | (refine And.intro ?_ ?_; (focus exact au0); conv => whnf) | (refine g_seq ?_) | (refine g_ops ?_) | (refine g_nil ?_; conv => whnf) | fail)
 refine XS.go ?_
 conv => whnf
 repeat' (first | (refine z_op ?_ ?_; (focus exact rfl); conv => whnf) | (refine z_opg0 ?_; (conv => whnf); refine And.intro ?_ ?_; (focus exact rfl); conv => whnf) | (refine z_pick ?_ ?_; (focus exact rfl); conv => whnf) | (refine zs_ops ?_ ?_; (focus exact rfl)) | (refine z_nil fun vals => ?_; conv => whnf) | (refine And.intro ?_ ?_; (focus exact au0); conv => whnf) | (refine g_seq ?_) | fail)
 refine XS.go ?_
 conv => whnf
 repeat' (first | (refine Br.f ?_ ?_; (focus (first | assumption | exact rfl)); conv => whnf) | ((first | refine g_cond ?_ | refine g_skip ?_); conv => whnf) | fail)
 refine XS.go ?_
 conv => whnf
 repeat' (first | (refine z_ld1 ?_; first | (refine z_ld rfl rfl rfl rfl au1 au2 ?_; conv => whnf) | (refine z_ld0 rfl ?_; conv => whnf)) | (refine z_op ?_ ?_; (focus exact rfl); conv => whnf) | (refine zs_ops ?_ ?_; (focus exact rfl)) | (refine z_nil fun vals => ?_; conv => whnf) | (refine And.intro ?_ ?_; (focus exact au0); conv => whnf) | (refine g_seq ?_) | fail)
 refine XS.go ?_
 conv => whnf
 repeat' (first | (refine Br.f ?_ ?_; (focus (first | assumption | exact rfl)); conv => whnf) | ((first | refine g_cond ?_ | refine g_skip ?_); conv => whnf) | fail)
 refine XS.weakenA (fs := [.lref 6 b [] 0, .int .i64 rate]) (ls := [(6, .agg [.str m.fName, .bool m.fUp, .int .i64 m.fClock, .bool m.fKnown, .int .i64 m.fSeen, .lsl 31 b1 m.fWants.length c1, .lsl 32 b2 m.fRuns.length c2, .lsl 33 b3 m.fAsks.length c3, .lsl 34 b4 m.fGives.length c4]), (31, .arr 7 (m.fWants.map MateWant.D) c1), (32, .arr 11 (m.fRuns.map MateRun.D) c2), (33, .arr 4 (m.fAsks.map MateAsk.D) c3), (34, .arr 4 (m.fGives.map MateAsk.D) c4)]) ⟨?_, ?_⟩ ?_
 ·repeat' (first | exact True.intro | refine And.intro rfl ?_)
 ·exact ⟨rfl, rfl, rfl, rfl, rfl, True.intro⟩
 refine XS.go ?_
 conv => whnf
 repeat' (first | (refine z_ld1 ?_; first | (refine z_ld rfl rfl rfl rfl au1 au2 ?_; conv => whnf) | (refine z_ld0 rfl ?_; conv => whnf)) | (refine z_st1 ?_; first | (refine z_st rfl rfl rfl au1 au2 rfl rfl ?_; conv => whnf) | (refine z_st0 ?_; conv => whnf)) | (refine z_op ?_ ?_; (focus exact rfl); conv => whnf) | (refine zs_ops ?_ ?_; (focus exact rfl)) | (refine z_nil fun vals => ?_; conv => whnf) | (refine And.intro ?_ ?_; (focus exact au0); conv => whnf) | (refine g_seq ?_) | fail)
 refine XS.weakenA (fs := [.lref 6 b [] 0, .int .i64 rate]) (ls := [(6, .agg [.str m.fName, .bool m.fUp, .int .i64 (IntKind.wrap .i64 (m.fClock + rate)), .bool m.fKnown, .int .i64 m.fSeen, .lsl 31 b1 m.fWants.length c1, .lsl 32 b2 m.fRuns.length c2, .lsl 33 b3 m.fAsks.length c3, .lsl 34 b4 m.fGives.length c4]), (31, .arr 7 (m.fWants.map MateWant.D) c1), (32, .arr 11 (m.fRuns.map MateRun.D) c2), (33, .arr 4 (m.fAsks.map MateAsk.D) c3), (34, .arr 4 (m.fGives.map MateAsk.D) c4)]) ⟨?_, ?_⟩ ?_
 ·repeat' (first | exact True.intro | refine And.intro rfl ?_)
 ·exact ⟨rfl, rfl, rfl, rfl, rfl, True.intro⟩
 refine XS.go ?_
 conv => whnf
 repeat' (first | (refine And.intro ?_ ?_; (focus exact au0); conv => whnf) | (refine g_seq ?_) | (refine g_drawn ?_) | ((first | refine d_p ?_ | refine d_e ?_); conv => whnf) | fail)
 refine XCL.of_XC (ls := [(32, b2, .arr 11 (m.fRuns.map MateRun.D) c2)]) ⟨rfl, rfl, rfl, True.intro⟩ (hW.mono fun d ls h => ?_)
 obtain ⟨bw, cw, rfl, rfl⟩ := h
 conv => whnf
 repeat' (first | ((refine And.intro True.intro ?_; conv => whnf)) | (refine And.intro ?_ ?_; (focus exact au0); conv => whnf) | ((first | refine d_p ?_ | refine d_e ?_ | refine d_nil ?_); conv => whnf) | fail)
 refine XS.weakenA (fs := [.lref 6 b [] 0, .int .i64 rate]) (ls := [(6, .agg [.str m.fName, .bool m.fUp, .int .i64 (IntKind.wrap .i64 (m.fClock + rate)), .bool m.fKnown, .int .i64 m.fSeen, .lsl 31 b1 m.fWants.length c1, .lsl 32 bw (m.fRuns.map fun r => wdog r (IntKind.wrap .i64 (m.fClock + rate))).length cw, .lsl 33 b3 m.fAsks.length c3, .lsl 34 b4 m.fGives.length c4]), (31, .arr 7 (m.fWants.map MateWant.D) c1), (32, .arr 11 ((m.fRuns.map fun r => wdog r (IntKind.wrap .i64 (m.fClock + rate))).map MateRun.D) cw), (33, .arr 4 (m.fAsks.map MateAsk.D) c3), (34, .arr 4 (m.fGives.map MateAsk.D) c4)]) ⟨?_, ?_⟩ ?_
 ·repeat' (first | exact True.intro | refine And.intro rfl ?_)
 ·exact ⟨rfl, rfl, rfl, rfl, rfl, True.intro⟩
 refine XS.go ?_
 conv => whnf
 repeat' (first | (refine z_ld1 ?_; first | (refine z_ld rfl rfl rfl rfl au1 au2 ?_; conv => whnf) | (refine z_ld0 rfl ?_; conv => whnf)) | (refine z_op ?_ ?_; (focus exact rfl); conv => whnf) | (refine zs_ops ?_ ?_; (focus exact rfl)) | (refine z_nil fun vals => ?_; conv => whnf) | (refine And.intro ?_ ?_; (focus exact au0); conv => whnf) | (refine g_seq ?_) | fail)
 refine XS.go ?_
 conv => whnf
 repeat' (first | (refine Br.f ?_ ?_; (focus (first | assumption | exact rfl)); conv => whnf) | ((first | refine g_cond ?_ | refine g_skip ?_); conv => whnf) | fail)
 refine XS.weakenA (fs := [.lref 6 b [] 0, .int .i64 rate]) (ls := [(6, .agg [.str m.fName, .bool m.fUp, .int .i64 (IntKind.wrap .i64 (m.fClock + rate)), .bool m.fKnown, .int .i64 m.fSeen, .lsl 31 b1 m.fWants.length c1, .lsl 32 bw (m.fRuns.map fun r => wdog r (IntKind.wrap .i64 (m.fClock + rate))).length cw, .lsl 33 b3 m.fAsks.length c3, .lsl 34 b4 m.fGives.length c4]), (31, .arr 7 (m.fWants.map MateWant.D) c1), (32, .arr 11 ((m.fRuns.map fun r => wdog r (IntKind.wrap .i64 (m.fClock + rate))).map MateRun.D) cw), (33, .arr 4 (m.fAsks.map MateAsk.D) c3), (34, .arr 4 (m.fGives.map MateAsk.D) c4)]) ⟨?_, ?_⟩ ?_
 ·repeat' (first | exact True.intro | refine And.intro rfl ?_)
 ·exact ⟨rfl, rfl, rfl, rfl, rfl, True.intro⟩
 have hR := impl_runs (tickX m rate) b b1 bw b3 b4 c1 cw c3 c4 (by have := hXK.w; omega) (by have := hXK.r; omega) (by have := hXK.a; omega) (by have := hXK.g; omega) hXK.ag
 have hYt : m.fKnown = true → tickY m rate = livesR (tickX m rate) := fun h => by unfold tickY; rw [if_pos h]
 have hYf : m.fKnown = false → tickY m rate = tickX m rate := fun h => by unfold tickY; rw [if_neg (by rw [h]; exact Bool.false_ne_true)]
 generalize tickY m rate = Y at hYK hYt hYf ⊢
 refine XS.go ?_
 conv => whnf
 repeat' (first | (refine z_ld1 ?_; first | (refine z_ld rfl rfl rfl rfl au1 au2 ?_; conv => whnf) | (refine z_ld0 rfl ?_; conv => whnf)) | (refine z_op ?_ ?_; (focus exact rfl); conv => whnf) | (refine zs_ops ?_ ?_; (focus exact rfl)) | (refine z_nil fun vals => ?_; conv => whnf) | (refine And.intro ?_ ?_; (focus exact au0); conv => whnf) | (refine g_seq ?_) | fail)
 refine XS.join (α := Nat × Nat × Nat) (fun _ gs => gs 6 = b ∧ gs 31 = b1) (fun x gs => [.lref 6 (gs 6) [] 0]) (fun x gs => [(6, .agg [.str Y.fName, .bool Y.fUp, .int .i64 Y.fClock, .bool Y.fKnown, .int .i64 Y.fSeen, .lsl 31 (gs 31) Y.fWants.length c1, .lsl 45 (gs 45) Y.fRuns.length x.1, .lsl 33 (gs 33) Y.fAsks.length x.2.1, .lsl 34 (gs 34) Y.fGives.length x.2.2]), (31, .arr 7 (Y.fWants.map MateWant.D) c1), (45, .arr 11 (Y.fRuns.map MateRun.D) x.1), (33, .arr 4 (Y.fAsks.map MateAsk.D) x.2.1), (34, .arr 4 (Y.fGives.map MateAsk.D) x.2.2)]) ?_ ?_
 ·rcases Bool.eq_false_or_eq_true m.fKnown with hkn | hkn
  ·have e := hYt hkn
   subst e
   clear hYf hYt
   simp only [Mate.O, Mate.L] at hR
   refine XS.go ?_
   conv => whnf
   repeat' (first | (refine g_op ?_; conv => whnf) | (refine And.intro ?_ ?_; (focus exact au0); conv => whnf) | (refine g_ops ?_) | (refine Br.t ?_ ?_; (focus (first | assumption | exact rfl)); conv => whnf) | (refine g_cond ?_; conv => whnf) | fail)
   refine XCL.of_XC (ls := [(6, b, .agg [.str m.fName, .bool m.fUp, .int .i64 (IntKind.wrap .i64 (m.fClock + rate)), .bool m.fKnown, .int .i64 m.fSeen, .lsl 31 b1 m.fWants.length c1, .lsl 32 bw (m.fRuns.map fun r => wdog r (IntKind.wrap .i64 (m.fClock + rate))).length cw, .lsl 33 b3 m.fAsks.length c3, .lsl 34 b4 m.fGives.length c4]), (31, b1, .arr 7 (m.fWants.map MateWant.D) c1), (32, bw, .arr 11 ((m.fRuns.map fun r => wdog r (IntKind.wrap .i64 (m.fClock + rate))).map MateRun.D) cw), (33, b3, .arr 4 (m.fAsks.map MateAsk.D) c3), (34, b4, .arr 4 (m.fGives.map MateAsk.D) c4)]) ⟨rfl, rfl, rfl, rfl, rfl, rfl, rfl, rfl, rfl, rfl, rfl, rfl, rfl, rfl, rfl, True.intro⟩ (hR.mono fun d ls h => ?_)
   obtain ⟨rfl, d2, d3, d4, e2, e3, e4, rfl⟩ := h
   conv => whnf
   repeat' (first | (refine And.intro ?_ ?_; (focus exact au0); conv => whnf) | (refine g_nil ?_; conv => whnf) | fail)
   refine ⟨(e2, e3, e4), ⟨rfl, rfl⟩, ?_, ?_⟩
   ·repeat' (first | exact True.intro | refine And.intro rfl ?_)
   ·exact ⟨rfl, rfl, rfl, rfl, rfl, True.intro⟩
  ·have e := hYf hkn
   subst e
   clear hYf hYt hR
   refine XS.move 32 45 [] rfl ?_
   refine XS.hintB 6 45 [6] rfl rfl rfl rfl rfl (fun _ _ _ h => by cases h) rfl ?_
   refine XS.go ?_
   conv => whnf
   repeat' (first | (refine Br.f ?_ ?_; (focus (first | assumption | exact rfl)); conv => whnf) | ((first | refine g_cond ?_ | refine g_skip ?_); conv => whnf) | fail)
   refine ⟨(cw, c3, c4), ⟨rfl, rfl⟩, ?_, ?_⟩
   ·repeat' (first | exact True.intro | refine And.intro rfl ?_)
   ·exact ⟨rfl, rfl, rfl, rfl, rfl, True.intro⟩
 intro x gs hE
 obtain ⟨c2, c3, c4⟩ := x
 obtain ⟨hg6, hg31⟩ := hE
 dsimp only
 clear hYt hYf hR hW hXK hm0 hl
 conv => whnf
 skip
 refine XS.go ?_
 conv => whnf
 repeat' (first | (refine g_op ?_; conv => whnf) | (refine And.intro ?_ ?_; (focus exact au0); conv => whnf) | (refine g_seq ?_) | (refine g_ops ?_) | (refine g_nil ?_; conv => whnf) | fail)
 refine XS.own 5 209 7 rfl fun b0 => ?_
 refine XS.go ?_
 repeat' (first | (refine z_ld1 ?_; first | (refine z_ld rfl rfl rfl rfl au1 au2 ?_; conv => whnf) | (refine z_ld0 rfl ?_; conv => whnf)) | (refine z_op ?_ ?_; (focus exact rfl); conv => whnf) | (refine zs_ops ?_ ?_; (focus exact rfl)) | (refine z_nil fun vals => ?_; conv => whnf) | (refine And.intro ?_ ?_; (focus exact au0); conv => whnf) | (refine g_seq ?_) | (refine XS.go ?_) | (refine g_loop ?_) | (refine g_block ?_) | fail)
 refine XLc.mkG (α := Nat × Nat × Nat) (fun x gs => x.1 ≤ Y.fRuns.length ∧ (askL Y x.1).out.length ≤ x.2.1 ∧ gs 6 = b ∧ gs 31 = b1) (fun x => Y.fRuns.length - x.1) (fun x gs => [.lref 6 (gs 6) [] 0, .any, .any, .any, .any, .lsl 209 (gs 209) (askL Y x.1).out.length x.2.1, .any, .any, .any, .any, .any, .any, .any, .any, .any, .any, .any, .any, .any, .any, .any, .any, .any, .any, .any, .any, .any, .any, .any, .any, .any, .any, .any, .any, .any, .any, .any, .any, .any, .any, .any, .any, .any, .any, .any, .any, .any, .any, .any, .any, .any, .any, .any, .any, .any, .any, .any, .any, .any, .any, .any, .any, .any, .any, .any, .any, .lsl 45 (gs 45) Y.fRuns.length c2, .int .i64 (Y.fRuns.length : Int), .int .i64 (x.1 : Int)]) (fun x gs => [(6, .agg [.str Y.fName, .bool Y.fUp, .int .i64 Y.fClock, .bool Y.fKnown, .int .i64 Y.fSeen, .lsl 31 (gs 31) Y.fWants.length c1, .lsl 45 (gs 45) Y.fRuns.length c2, .lsl 33 (gs 33) (askL Y x.1).asks.length x.2.2, .lsl 34 (gs 34) Y.fGives.length c4]), (31, .arr 7 (Y.fWants.map MateWant.D) c1), (45, .arr 11 (Y.fRuns.map MateRun.D) c2), (33, .arr 4 ((askL Y x.1).asks.map MateAsk.D) x.2.2), (34, .arr 4 (Y.fGives.map MateAsk.D) c4), (209, .arr 7 ((askL Y x.1).out.map MateParcel.N) x.2.1)]) (0, 0, c3) ⟨Nat.zero_le _, Nat.le_refl _, hg6, hg31⟩ ⟨?_, ?_⟩ ?_
 ·repeat' (first | exact True.intro | refine And.intro rfl ?_)
 ·exact ⟨rfl, rfl, rfl, rfl, rfl, rfl, True.intro⟩
 clear hg6 hg31
 intro x gs hI
 obtain ⟨i, cp, c3⟩ := x
 obtain ⟨hi0, hi1, hg6, hg31⟩ := hI
 dsimp only at hi0 hi1 ⊢
 have hlen := askL_len Y hi0
 have hAG := askAG Y hYK.ag hi0
 have hnext := fun h : i < Y.fRuns.length => askL_succ Y h
 have kw := hYK.w
 have kr := hYK.r
 have ka := hYK.a
 have kg := hYK.g
 generalize hS : askL Y i = S at hi1 hlen hAG hnext ⊢
 have hAl : S.asks.length ≤ 1048576 := by omega
 repeat' (first | (refine g_op ?_; conv => whnf) | (refine And.intro ?_ ?_; (focus exact au0); conv => whnf) | (refine g_seq ?_) | (refine XS.go ?_) | (refine g_ops ?_) | ((first | refine g_nil ?_ | refine g_cond ?_); conv => whnf) | fail)
 refine Br.mk (fun hb => ?_) (fun hb => ?_)
 ·have hlt : i < Y.fRuns.length := by simpa using hb
  clear hb
  have hnx := hnext hlt
  clear hnext
  have hlm : (Y.fRuns.map MateRun.D).length = Y.fRuns.length := List.length_map ..
  have he2 : (Y.fRuns.map MateRun.D).getD (i : Int).toNat .any = (Y.fRuns.getD i default).D := elt_map hlt
  generalize Y.fRuns.getD i default = r at hnx he2
  have cW := impl_want ⟨Y.fName, Y.fUp, Y.fClock, Y.fKnown, Y.fSeen, Y.fWants, Y.fRuns, S.asks, Y.fGives⟩ r.fWant.fCopy (by show Y.fWants.length ≤ _; omega)
  dsimp only at cW
  have hsk1 := fun q hq h => askStep_skip (m := Y) (s := S) (r := r) (q := q) hq h
  have hsk2 := fun q hq h => askStep_go (m := Y) (s := S) (r := r) (q := q) hq h
  generalize hq : wantR Y.fWants r.fWant.fCopy = q at cW hsk1 hsk2
  have hsk1 := hsk1 q rfl
  have hsk2 := hsk2 q rfl
  have hw1 : IntKind.wrap .i64 ((i : Int) + 1) = ((i + 1 : Nat) : Int) := by rw [wrap_ok (by omega) (by omega)]; rfl
  conv => whnf
  repeat' (first | (refine g_skip ?_; conv => whnf) | fail)
  refine XS.go ?_
  conv => whnf
  repeat' (first | ((rw [he2]; conv => whnf)) | (refine g_op ?_; conv => whnf) | (refine And.intro ?_ ?_; (focus exact au0); conv => whnf) | (refine g_seq ?_) | (refine g_ops ?_) | (refine g_nil ?_; conv => whnf) | (refine g_block ?_) | (refine fun _ => ?_; conv => whnf) | fail)
  rename_i b7
  refine XS.go ?_
  conv => whnf
  repeat' (first | (refine g_op ?_; conv => whnf) | (refine And.intro ?_ ?_; (focus exact au0); conv => whnf) | (refine g_seq ?_) | (refine g_ops ?_) | (refine g_nil ?_; conv => whnf) | fail)
  refine XS.weakenA (fs := [.lref 6 (gs 6) [] 0, .any, .any, .any, .any, .lsl 209 (gs 209) S.out.length cp, .any, .lref 7 b7 [] 0, .str r.fWant.fHold, .any, .any, .any, .any, .any, .any, .any, .any, .any, .any, .any, .any, .any, .any, .any, .any, .any, .any, .any, .any, .any, .any, .any, .any, .any, .any, .any, .any, .any, .any, .any, .any, .any, .any, .any, .any, .any, .any, .any, .any, .any, .any, .any, .any, .any, .any, .any, .any, .any, .any, .any, .any, .any, .any, .any, .any, .any, .lsl 45 (gs 45) Y.fRuns.length c2, .int .i64 (Y.fRuns.length : Int), .int .i64 (i : Int)]) (ls := [(6, .agg [.str Y.fName, .bool Y.fUp, .int .i64 Y.fClock, .bool Y.fKnown, .int .i64 Y.fSeen, .lsl 31 (gs 31) Y.fWants.length c1, .lsl 45 (gs 45) Y.fRuns.length c2, .lsl 33 (gs 33) S.asks.length c3, .lsl 34 (gs 34) Y.fGives.length c4]), (31, .arr 7 (Y.fWants.map MateWant.D) c1), (45, .arr 11 (Y.fRuns.map MateRun.D) c2), (33, .arr 4 (S.asks.map MateAsk.D) c3), (34, .arr 4 (Y.fGives.map MateAsk.D) c4), (209, .arr 7 (S.out.map MateParcel.N) cp), (7, r.D)]) ⟨?_, ?_⟩ ?_
  ·repeat' (first | exact True.intro | refine And.intro rfl ?_)
  ·exact ⟨rfl, rfl, rfl, rfl, rfl, rfl, rfl, True.intro⟩
  refine XS.go ?_
  conv => whnf
  repeat' (first | ((refine XCL.of_rdrB cW (.cons (Bor.mateP rfl rfl rfl rfl rfl rfl rfl rfl rfl rfl) (.cons (Bor.refl _ _) .nil)) rfl ?_; conv => whnf)) | (refine g_op ?_; conv => whnf) | (refine And.intro ?_ ?_; (focus exact au0); conv => whnf) | (refine g_seq ?_) | (refine g_ops ?_) | ((first | refine g_nil ?_ | refine fun _ => ?_); conv => whnf) | fail)
  rename_i b9
  refine XS.weakenA (fs := [.lref 6 (gs 6) [] 0, .any, .any, .any, .any, .lsl 209 (gs 209) S.out.length cp, .any, .lref 7 b7 [] 0, .str r.fWant.fHold, .lref 9 b9 [] 0, .bool q.2, .any, .any, .any, .any, .any, .any, .any, .any, .any, .any, .any, .any, .any, .any, .any, .any, .any, .any, .any, .any, .any, .any, .any, .any, .any, .any, .any, .any, .any, .any, .any, .any, .any, .any, .any, .any, .any, .any, .any, .any, .any, .any, .any, .any, .any, .any, .any, .any, .any, .any, .any, .any, .any, .any, .any, .lsl 45 (gs 45) Y.fRuns.length c2, .int .i64 (Y.fRuns.length : Int), .int .i64 (i : Int)]) (ls := [(6, .agg [.str Y.fName, .bool Y.fUp, .int .i64 Y.fClock, .bool Y.fKnown, .int .i64 Y.fSeen, .lsl 31 (gs 31) Y.fWants.length c1, .lsl 45 (gs 45) Y.fRuns.length c2, .lsl 33 (gs 33) S.asks.length c3, .lsl 34 (gs 34) Y.fGives.length c4]), (31, .arr 7 (Y.fWants.map MateWant.D) c1), (45, .arr 11 (Y.fRuns.map MateRun.D) c2), (33, .arr 4 (S.asks.map MateAsk.D) c3), (34, .arr 4 (Y.fGives.map MateAsk.D) c4), (209, .arr 7 (S.out.map MateParcel.N) cp), (7, r.D), (9, q.1.D)]) ⟨?_, ?_⟩ ?_
  ·repeat' (first | exact True.intro | refine And.intro rfl ?_)
  ·exact ⟨rfl, rfl, rfl, rfl, rfl, rfl, rfl, rfl, True.intro⟩
  have cA := impl_AskAt Y.fGives r.fWant.fHold (by omega)
  refine XS.go ?_
  conv => whnf
  repeat' (first | ((refine RC.ofB cA (.cons (Bor.rowM rfl rfl rfl (fun _ => rfl)) (.cons (Bor.refl _ _) .nil)) rfl ?_; conv => whnf)) | (refine z_ld1g ?_; first | (refine z_ldg rfl rfl rfl rfl rfl rfl rfl (by (repeat intro _); exact ⟨au1, au2⟩) rfl rfl rfl rfl ?_; conv => whnf) | (refine z_ld0g ?_; (conv => whnf); refine And.intro ?_ ?_; (focus exact rfl); conv => whnf)) | (refine z_op ?_ ?_; (focus exact rfl); conv => whnf) | (refine z_opg0 ?_; (conv => whnf); refine And.intro ?_ ?_; (focus exact rfl); conv => whnf) | (refine z_pick ?_ ?_; (focus exact rfl); conv => whnf) | (refine zs_ops ?_ ?_; (focus exact rfl)) | (refine z_nil fun vals => ?_; conv => whnf) | (refine z_callg0 ?_; (conv => whnf); refine And.intro ?_ ?_; (focus exact rfl)) | (refine And.intro ?_ ?_; (focus exact au0); conv => whnf) | (refine g_seq ?_) | (refine XS.go ?_) | (refine g_cond ?_; conv => whnf) | fail)
  refine Br.mk (fun hb => ?_) (fun hb => ?_)
  ·have hsk : askSkip Y r q = true := by rw [← skip_eq]; exact hb
   rw [hsk1 hsk] at hnx
   clear hb
   conv => whnf
   repeat' (first | (refine g_op ?_; conv => whnf) | (refine And.intro ?_ ?_; (focus exact au0); conv => whnf) | (refine XS.go ?_) | (refine g_ops ?_) | ((first | refine g_nil ?_ | refine g_exit ?_); conv => whnf) | fail)
   refine ⟨(i + 1, cp, c3), ⟨hlt, by dsimp only; rw [hnx]; exact hi1, hg6, hg31⟩, by simp only; omega, ?_, ?_⟩
   ·dsimp only
    rw [hnx]
    repeat' (first | exact True.intro | refine And.intro rfl ?_ | refine And.intro (congrArg (D.int .i64) hw1) ?_)
   ·dsimp only
    rw [hnx]
    exact ⟨rfl, rfl, rfl, rfl, rfl, rfl, True.intro⟩
  have hsk : askSkip Y r q = false := by rw [← skip_eq]; exact hb
  obtain ⟨hqe, hgn, hst⟩ := hsk2 hsk
  have hnx : askL Y (i + 1) = askGo Y S r.fWant := by rw [hnx]; exact hst
  clear hb hst hsk1 hsk2 hsk cW hq
  rw [hqe]
  generalize r.fWant = ww at hnx hgn hqe
  conv => whnf
  repeat' (first | (refine g_skip ?_; conv => whnf) | fail)
  refine XS.weakenA (fs := [.lref 6 (gs 6) [] 0, .any, .any, .any, .any, .lsl 209 (gs 209) S.out.length cp, .any, .any, .str ww.fHold, .lref 9 b9 [] 0, .any, .any, .any, .any, .any, .any, .any, .any, .any, .any, .any, .any, .any, .any, .any, .any, .any, .any, .any, .any, .any, .any, .any, .any, .any, .any, .any, .any, .any, .any, .any, .any, .any, .any, .any, .any, .any, .any, .any, .any, .any, .any, .any, .any, .any, .any, .any, .any, .any, .any, .any, .any, .any, .any, .any, .any, .lsl 45 (gs 45) Y.fRuns.length c2, .int .i64 (Y.fRuns.length : Int), .int .i64 (i : Int)]) (ls := [(6, .agg [.str Y.fName, .bool Y.fUp, .int .i64 Y.fClock, .bool Y.fKnown, .int .i64 Y.fSeen, .lsl 31 (gs 31) Y.fWants.length c1, .lsl 45 (gs 45) Y.fRuns.length c2, .lsl 33 (gs 33) S.asks.length c3, .lsl 34 (gs 34) Y.fGives.length c4]), (31, .arr 7 (Y.fWants.map MateWant.D) c1), (45, .arr 11 (Y.fRuns.map MateRun.D) c2), (33, .arr 4 (S.asks.map MateAsk.D) c3), (34, .arr 4 (Y.fGives.map MateAsk.D) c4), (209, .arr 7 (S.out.map MateParcel.N) cp), (9, ww.D)]) ⟨?_, ?_⟩ ?_
  ·repeat' (first | exact True.intro | refine And.intro rfl ?_)
  ·exact ⟨rfl, rfl, rfl, rfl, rfl, rfl, rfl, True.intro⟩
  clear hqe hgn cA
  have cA := impl_AskAt S.asks ww.fHold hAl
  have hlR : S.out.length = (S.out.map MateParcel.N).length := (List.length_map ..).symm
  have hbd : (S.out.map MateParcel.N).length + [(askP Y ww).N].length ≤ 1073741824 := by rw [← hlR]; simp only [List.length_cons, List.length_nil]; omega
  refine XS.go ?_
  conv => whnf
  repeat' (first | ((refine XCL.of_rdrB cA (.cons (Bor.rowM rfl rfl rfl (fun _ => rfl)) (.cons (Bor.refl _ _) .nil)) rfl ?_; conv => whnf)) | (refine g_op ?_; conv => whnf) | (refine And.intro ?_ ?_; (focus exact au0); conv => whnf) | (refine g_seq ?_) | (refine g_ops ?_) | (refine g_nil ?_; conv => whnf) | fail)
  have hcs : askI S.asks ww.fHold = -1 ∨ ∃ k : Nat, askI S.asks ww.fHold = (k : Int) ∧ k < S.asks.length := by
   rcases idxN_cases (f := askF S.asks ww.fHold) (k := S.asks.length) (i := 0) with ⟨h1, _⟩ | ⟨j, h1, _, h3, _⟩
   ·exact .inl h1
   ·exact .inr ⟨j, h1, by omega⟩
  clear cA
  rcases hcs with h1 | ⟨k, h1, hkl⟩
  ·refine XS.weakenA (fs := [.lref 6 (gs 6) [] 0, .any, .any, .any, .any, .lsl 209 (gs 209) S.out.length cp, .any, .any, .str ww.fHold, .lref 9 b9 [] 0, .any, .int .i64 (-1), .any, .any, .any, .any, .any, .any, .any, .any, .any, .any, .any, .any, .any, .any, .any, .any, .any, .any, .any, .any, .any, .any, .any, .any, .any, .any, .any, .any, .any, .any, .any, .any, .any, .any, .any, .any, .any, .any, .any, .any, .any, .any, .any, .any, .any, .any, .any, .any, .any, .any, .any, .any, .any, .any, .lsl 45 (gs 45) Y.fRuns.length c2, .int .i64 (Y.fRuns.length : Int), .int .i64 (i : Int)]) (ls := [(6, .agg [.str Y.fName, .bool Y.fUp, .int .i64 Y.fClock, .bool Y.fKnown, .int .i64 Y.fSeen, .lsl 31 (gs 31) Y.fWants.length c1, .lsl 45 (gs 45) Y.fRuns.length c2, .lsl 33 (gs 33) S.asks.length c3, .lsl 34 (gs 34) Y.fGives.length c4]), (31, .arr 7 (Y.fWants.map MateWant.D) c1), (45, .arr 11 (Y.fRuns.map MateRun.D) c2), (33, .arr 4 (S.asks.map MateAsk.D) c3), (34, .arr 4 (Y.fGives.map MateAsk.D) c4), (209, .arr 7 (S.out.map MateParcel.N) cp), (9, ww.D)]) ⟨?_, ?_⟩ ?_
   ·repeat' (first | exact True.intro | refine And.intro rfl ?_ | refine And.intro (congrArg (D.int .i64) h1) ?_)
   ·exact ⟨rfl, rfl, rfl, rfl, rfl, rfl, rfl, True.intro⟩
   refine XS.go ?_
   conv => whnf
   repeat' (first | (refine g_op ?_; conv => whnf) | (refine And.intro ?_ ?_; (focus exact au0); conv => whnf) | (refine g_seq ?_) | (refine g_ops ?_) | (refine g_nil ?_; conv => whnf) | (refine g_block ?_) | fail)
   refine XS.go ?_
   conv => whnf
   repeat' (first | (refine z_ld1 ?_; first | (refine z_ld rfl rfl rfl rfl au1 au2 ?_; conv => whnf) | (refine z_ld0 rfl ?_; conv => whnf)) | (refine z_op ?_ ?_; (focus exact rfl); conv => whnf) | (refine zs_ops ?_ ?_; (focus exact rfl)) | (refine z_nil fun vals => ?_; conv => whnf) | (refine And.intro ?_ ?_; (focus exact au0); conv => whnf) | (refine g_seq ?_) | (refine XS.go ?_) | (refine Br.t ?_ ?_; (focus (first | assumption | exact rfl)); conv => whnf) | (refine g_cond ?_; conv => whnf) | fail)
   refine Br.mk (fun hb => ?_) (fun hb => ?_)
   ·have h40 : S.asks.length ≥ 40 := by
     have q := hb
     simp only [decide_eq_true_eq] at q
     omega
    rw [askGo_full h1 h40] at hnx
    clear hb
    conv => whnf
    repeat' (first | (refine g_op ?_; conv => whnf) | (refine And.intro ?_ ?_; (focus exact au0); conv => whnf) | (refine XS.go ?_) | (refine g_ops ?_) | ((first | refine g_nil ?_ | refine g_exit ?_); conv => whnf) | fail)
    refine ⟨(i + 1, cp, c3), ⟨hlt, by dsimp only; rw [hnx]; exact hi1, hg6, hg31⟩, by simp only; omega, ?_, ?_⟩
    ·dsimp only
     rw [hnx]
     repeat' (first | exact True.intro | refine And.intro rfl ?_ | refine And.intro (congrArg (D.int .i64) hw1) ?_)
    ·dsimp only
     rw [hnx]
     exact ⟨rfl, rfl, rfl, rfl, rfl, rfl, True.intro⟩
   have h40 : ¬ S.asks.length ≥ 40 := by
    have q := hb
    simp only [decide_eq_false_iff_not] at q
    omega
   rw [askGo_ins h1 h40] at hnx
   clear hb h1
   have cP := fun g : Nat => putAskF 33 33 S.asks ⟨ww.fHold, ww.fCopy, Y.fClock, Y.fClock⟩ g c3 hAl
   generalize insAt S.asks (putI S.asks ⟨ww.fHold, ww.fCopy, Y.fClock, Y.fClock⟩) ⟨ww.fHold, ww.fCopy, Y.fClock, Y.fClock⟩ = A at hnx cP
   conv => whnf
   repeat' (first | (refine g_skip ?_; conv => whnf) | fail)
   refine XS.go ?_
   conv => whnf
   repeat' (first | ((refine XCL.of_XC (ls := [(33, gs 33, .arr 4 (S.asks.map MateAsk.D) c3)]) ⟨rfl, rfl, rfl, True.intro⟩ ((cP (gs 33)).mono fun d ls hd => ?_); obtain ⟨bg, cg, rfl, rfl⟩ := hd; conv => whnf)) | ((refine And.intro True.intro ?_; conv => whnf)) | (refine And.intro ?_ ?_; (focus exact au0); conv => whnf) | (refine g_drawn ?_) | ((first | refine d_p ?_ | refine d_e ?_ | refine d_nil ?_); conv => whnf) | fail)
   refine XS.weakenA (fs := [.lref 6 (gs 6) [] 0, .any, .any, .any, .any, .lsl 209 (gs 209) S.out.length cp, .any, .any, .str ww.fHold, .lref 9 b9 [] 0, .any, .any, .any, .any, .any, .any, .any, .any, .any, .any, .any, .any, .any, .any, .any, .any, .any, .any, .any, .any, .any, .any, .any, .any, .any, .any, .any, .any, .any, .any, .any, .any, .any, .any, .any, .any, .any, .any, .any, .any, .any, .any, .any, .any, .any, .any, .any, .any, .any, .any, .any, .any, .any, .any, .any, .any, .lsl 45 (gs 45) Y.fRuns.length c2, .int .i64 (Y.fRuns.length : Int), .int .i64 (i : Int)]) (ls := [(6, .agg [.str Y.fName, .bool Y.fUp, .int .i64 Y.fClock, .bool Y.fKnown, .int .i64 Y.fSeen, .lsl 31 (gs 31) Y.fWants.length c1, .lsl 45 (gs 45) Y.fRuns.length c2, .lsl 33 bg A.length cg, .lsl 34 (gs 34) Y.fGives.length c4]), (31, .arr 7 (Y.fWants.map MateWant.D) c1), (45, .arr 11 (Y.fRuns.map MateRun.D) c2), (33, .arr 4 (A.map MateAsk.D) cg), (34, .arr 4 (Y.fGives.map MateAsk.D) c4), (209, .arr 7 (S.out.map MateParcel.N) cp), (9, ww.D)]) ⟨?_, ?_⟩ ?_
   ·repeat' (first | exact True.intro | refine And.intro rfl ?_)
   ·exact ⟨rfl, rfl, rfl, rfl, rfl, rfl, rfl, True.intro⟩
   refine XS.go ?_
   conv => whnf
   repeat' (first | ((refine And.intro True.intro ?_; conv => whnf)) | ((refine And.intro hlR ?_; conv => whnf)) | ((refine And.intro hbd ?_; conv => whnf)) | ((refine fun n1 bx cx hn1 hc1 => ?_; conv => whnf)) | (refine g_op ?_; conv => whnf) | (refine And.intro ?_ ?_; (focus exact au0); conv => whnf) | (refine XS.go ?_) | (refine g_ops ?_) | (refine g_nil ?_; conv => whnf) | (refine g_drawn ?_) | ((first | refine d_p ?_ | refine d_e ?_ | refine d_nil ?_); conv => whnf) | fail)
   have hn2 : n1 = (S.out ++ [askP Y ww]).length := by rw [hn1]; simp
   refine ⟨(i + 1, cx, cg), ⟨hlt, by dsimp only; rw [hnx]; dsimp only; rw [← hn2]; exact hc1, hg6, hg31⟩, by simp only; omega, ?_, ?_⟩
   ·dsimp only
    rw [hnx]
    repeat' (first | exact True.intro | refine And.intro (congrArg (fun k => D.lsl 209 _ k cx) hn2) ?_ | refine And.intro (congrArg (D.int .i64) hw1) ?_ | refine And.intro rfl ?_)
   ·dsimp only
    rw [hnx]
    exact ⟨rfl, rfl, rfl, rfl, rfl, congrArg (fun l => some (D.arr 7 l cx)) (by rw [List.map_append]; rfl), True.intro⟩
  ·refine XS.weakenA (fs := [.lref 6 (gs 6) [] 0, .any, .any, .any, .any, .lsl 209 (gs 209) S.out.length cp, .any, .any, .str ww.fHold, .lref 9 b9 [] 0, .any, .int .i64 ((k : Nat) : Int), .any, .any, .any, .any, .any, .any, .any, .any, .any, .any, .any, .any, .any, .any, .any, .any, .any, .any, .any, .any, .any, .any, .any, .any, .any, .any, .any, .any, .any, .any, .any, .any, .any, .any, .any, .any, .any, .any, .any, .any, .any, .any, .any, .any, .any, .any, .any, .any, .any, .any, .any, .any, .any, .any, .lsl 45 (gs 45) Y.fRuns.length c2, .int .i64 (Y.fRuns.length : Int), .int .i64 (i : Int)]) (ls := [(6, .agg [.str Y.fName, .bool Y.fUp, .int .i64 Y.fClock, .bool Y.fKnown, .int .i64 Y.fSeen, .lsl 31 (gs 31) Y.fWants.length c1, .lsl 45 (gs 45) Y.fRuns.length c2, .lsl 33 (gs 33) S.asks.length c3, .lsl 34 (gs 34) Y.fGives.length c4]), (31, .arr 7 (Y.fWants.map MateWant.D) c1), (45, .arr 11 (Y.fRuns.map MateRun.D) c2), (33, .arr 4 (S.asks.map MateAsk.D) c3), (34, .arr 4 (Y.fGives.map MateAsk.D) c4), (209, .arr 7 (S.out.map MateParcel.N) cp), (9, ww.D)]) ⟨?_, ?_⟩ ?_
   ·repeat' (first | exact True.intro | refine And.intro rfl ?_ | refine And.intro (congrArg (D.int .i64) h1) ?_)
   ·exact ⟨rfl, rfl, rfl, rfl, rfl, rfl, rfl, True.intro⟩
   have hk0 : (0 : Int) ≤ ((k : Nat) : Int) := by omega
   have hk1 : ((k : Nat) : Int) < ((S.asks.length : Nat) : Int) := by omega
   have hj0 : k < (S.asks.map MateAsk.D).length := by rw [List.length_map]; exact hkl
   have he0 : (S.asks.map MateAsk.D).getD k .any = S.asks[k].D := by rw [elt_map hkl, getD_of hkl]
   have he3 : (S.asks.map MateAsk.D).getD (k : Int).toNat .any = S.asks[k].D := he0
   refine XS.go ?_
   conv => whnf
   repeat' (first | (refine g_op ?_; conv => whnf) | (refine And.intro ?_ ?_; (focus exact au0); conv => whnf) | (refine g_seq ?_) | (refine g_ops ?_) | (refine g_nil ?_; conv => whnf) | (refine g_block ?_) | fail)
   refine XS.go ?_
   conv => whnf
   repeat' (first | ((refine And.intro hk0 ?_; conv => whnf)) | ((refine And.intro hk1 ?_; conv => whnf)) | (refine z_ld1 ?_; first | (refine z_ld rfl rfl rfl rfl au1 au2 ?_; conv => whnf) | (refine z_ld0 rfl ?_; conv => whnf)) | (refine z_ix1 ?_; first | (refine z_ix rfl rfl rfl rfl rfl ⟨by first | omega | (simp only [decide_eq_true_eq, Bool.not_eq_true', Bool.or_eq_false_iff, decide_eq_false_iff_not, Bool.and_eq_true, Bool.not_eq_false'] at *; omega), by first | omega | (simp only [decide_eq_true_eq, Bool.not_eq_true', Bool.or_eq_false_iff, decide_eq_false_iff_not, Bool.and_eq_true, Bool.not_eq_false'] at *; omega)⟩ ?_; conv => whnf) | (refine z_ix0 rfl rfl ?_; conv => whnf)) | (refine z_op ?_ ?_; (focus exact rfl); conv => whnf) | (refine zs_quiet ?_ ?_; (focus exact rfl)) | (refine z_nil fun vals => ?_; conv => whnf) | (refine And.intro ?_ ?_; (focus exact au0); conv => whnf) | (refine g_seq ?_) | (refine XS.go ?_) | (refine Br.f ?_ ?_; (focus (first | assumption | exact rfl)); conv => whnf) | (refine g_cond ?_; conv => whnf) | fail)
   refine Br.mk (fun hb => ?_) (fun hb => ?_)
   ·have hc : (S.asks[k].fCopy.toList == ww.fCopy.toList) = false := by simpa using hb
    rw [askGo_other hAG.ord h1 hkl hc] at hnx
    have hln : (S.asks.set k ⟨ww.fHold, ww.fCopy, Y.fClock, Y.fClock⟩).length = S.asks.length := List.length_set ..
    have hmap : ∀ d : Go.Ab.D, d = (⟨ww.fHold, ww.fCopy, Y.fClock, Y.fClock⟩ : MateAsk).D → (S.asks.map MateAsk.D).set k d = (S.asks.set k ⟨ww.fHold, ww.fCopy, Y.fClock, Y.fClock⟩).map MateAsk.D := fun d h => by rw [h, List.map_set]
    generalize S.asks.set k ⟨ww.fHold, ww.fCopy, Y.fClock, Y.fClock⟩ = A at hnx hln hmap
    clear hb
    conv => whnf
    repeat' (first | ((refine And.intro hk0 ?_; conv => whnf)) | ((refine And.intro hk1 ?_; conv => whnf)) | ((refine d_st rfl rfl rfl hj0 he0 rfl rfl ?_; conv => whnf)) | (refine And.intro ?_ ?_; (focus exact au0); conv => whnf) | (refine g_drawn ?_) | ((first | refine d_p ?_ | refine d_nil ?_); conv => whnf) | fail)
    refine XS.weakenA (fs := [.lref 6 (gs 6) [] 0, .any, .any, .any, .any, .lsl 209 (gs 209) S.out.length cp, .any, .any, .str ww.fHold, .lref 9 b9 [] 0, .any, .any, .any, .any, .any, .any, .any, .any, .any, .any, .any, .any, .any, .any, .any, .any, .any, .any, .any, .any, .any, .any, .any, .any, .any, .any, .any, .any, .any, .any, .any, .any, .any, .any, .any, .any, .any, .any, .any, .any, .any, .any, .any, .any, .any, .any, .any, .any, .any, .any, .any, .any, .any, .any, .any, .any, .lsl 45 (gs 45) Y.fRuns.length c2, .int .i64 (Y.fRuns.length : Int), .int .i64 (i : Int)]) (ls := [(6, .agg [.str Y.fName, .bool Y.fUp, .int .i64 Y.fClock, .bool Y.fKnown, .int .i64 Y.fSeen, .lsl 31 (gs 31) Y.fWants.length c1, .lsl 45 (gs 45) Y.fRuns.length c2, .lsl 33 (gs 33) A.length c3, .lsl 34 (gs 34) Y.fGives.length c4]), (31, .arr 7 (Y.fWants.map MateWant.D) c1), (45, .arr 11 (Y.fRuns.map MateRun.D) c2), (33, .arr 4 (A.map MateAsk.D) c3), (34, .arr 4 (Y.fGives.map MateAsk.D) c4), (209, .arr 7 (S.out.map MateParcel.N) cp), (9, ww.D)]) ⟨?_, ?_⟩ ?_
    ·repeat' (first | exact True.intro | refine And.intro rfl ?_)
    ·exact ⟨congrArg (fun n => some (D.agg [.str Y.fName, .bool Y.fUp, .int .i64 Y.fClock, .bool Y.fKnown, .int .i64 Y.fSeen, .lsl 31 _ Y.fWants.length c1, .lsl 45 _ Y.fRuns.length c2, .lsl 33 _ n c3, .lsl 34 _ Y.fGives.length c4])) hln.symm, rfl, rfl, congrArg (fun l => some (D.arr 4 l c3)) (hmap _ rfl), rfl, rfl, rfl, True.intro⟩
    refine XS.go ?_
    conv => whnf
    repeat' (first | ((refine And.intro True.intro ?_; conv => whnf)) | ((refine And.intro hlR ?_; conv => whnf)) | ((refine And.intro hbd ?_; conv => whnf)) | ((refine fun n1 bx cx hn1 hc1 => ?_; conv => whnf)) | (refine g_op ?_; conv => whnf) | (refine And.intro ?_ ?_; (focus exact au0); conv => whnf) | (refine XS.go ?_) | (refine g_ops ?_) | (refine g_nil ?_; conv => whnf) | (refine g_drawn ?_) | ((first | refine d_p ?_ | refine d_e ?_ | refine d_nil ?_); conv => whnf) | fail)
    have hn2 : n1 = (S.out ++ [askP Y ww]).length := by rw [hn1]; simp
    refine ⟨(i + 1, cx, c3), ⟨hlt, by dsimp only; rw [hnx]; dsimp only; rw [← hn2]; exact hc1, hg6, hg31⟩, by simp only; omega, ?_, ?_⟩
    ·dsimp only
     rw [hnx]
     repeat' (first | exact True.intro | refine And.intro (congrArg (fun k => D.lsl 209 _ k cx) hn2) ?_ | refine And.intro (congrArg (D.int .i64) hw1) ?_ | refine And.intro rfl ?_)
    ·dsimp only
     rw [hnx]
     exact ⟨rfl, rfl, rfl, rfl, rfl, congrArg (fun l => some (D.arr 7 l cx)) (by rw [List.map_append]; rfl), True.intro⟩
   have hc : (S.asks[k].fCopy.toList == ww.fCopy.toList) = true := by simpa using hb
   clear hb
   conv => whnf
   repeat' (first | (refine z_ld1 ?_; first | (refine z_ld rfl rfl rfl rfl au1 au2 ?_; conv => whnf) | (refine z_ld0 rfl ?_; conv => whnf)) | (refine z_ix1 ?_; first | (refine z_ix rfl rfl rfl rfl rfl ⟨by first | omega | (simp only [decide_eq_true_eq, Bool.not_eq_true', Bool.or_eq_false_iff, decide_eq_false_iff_not, Bool.and_eq_true, Bool.not_eq_false'] at *; omega), by first | omega | (simp only [decide_eq_true_eq, Bool.not_eq_true', Bool.or_eq_false_iff, decide_eq_false_iff_not, Bool.and_eq_true, Bool.not_eq_false'] at *; omega)⟩ ?_; conv => whnf) | (refine z_ix0 rfl rfl ?_; conv => whnf)) | (refine z_op ?_ ?_; (focus exact rfl); conv => whnf) | (refine zs_quiet ?_ ?_; (focus exact rfl)) | (refine z_nil fun vals => ?_; conv => whnf) | (refine And.intro ?_ ?_; (focus exact au0); conv => whnf) | (refine g_seq ?_) | fail)
   refine XS.go ?_
   conv => whnf
   repeat' (first | (refine g_cond ?_; conv => whnf) | fail)
   refine Br.mk (fun hb => ?_) (fun hb => ?_)
   ·have ht : Y.fClock ≥ IntKind.wrap .i64 (S.asks[k].fAt + 6) := of_decide_eq_true hb
    rw [askGo_again hAG.ord h1 hkl hc ht] at hnx
    have hln : (S.asks.set k { S.asks[k] with fAt := Y.fClock }).length = S.asks.length := List.length_set ..
    have hmap : ∀ d : Go.Ab.D, d = ({ S.asks[k] with fAt := Y.fClock } : MateAsk).D → (S.asks.map MateAsk.D).set k d = (S.asks.set k { S.asks[k] with fAt := Y.fClock }).map MateAsk.D := fun d h => by rw [h, List.map_set]
    generalize S.asks.set k { S.asks[k] with fAt := Y.fClock } = A at hnx hln hmap
    clear hb
    conv => whnf
    repeat' (first | ((refine And.intro hk0 ?_; conv => whnf)) | ((refine And.intro hk1 ?_; conv => whnf)) | ((refine d_st rfl rfl rfl hj0 he0 rfl rfl ?_; conv => whnf)) | (refine And.intro ?_ ?_; (focus exact au0); conv => whnf) | (refine g_drawn ?_) | ((first | refine d_p ?_ | refine d_nil ?_); conv => whnf) | fail)
    refine XS.weakenA (fs := [.lref 6 (gs 6) [] 0, .any, .any, .any, .any, .lsl 209 (gs 209) S.out.length cp, .any, .any, .str ww.fHold, .lref 9 b9 [] 0, .any, .any, .any, .any, .any, .any, .any, .any, .any, .any, .any, .any, .any, .any, .any, .any, .any, .any, .any, .any, .any, .any, .any, .any, .any, .any, .any, .any, .any, .any, .any, .any, .any, .any, .any, .any, .any, .any, .any, .any, .any, .any, .any, .any, .any, .any, .any, .any, .any, .any, .any, .any, .any, .any, .any, .any, .lsl 45 (gs 45) Y.fRuns.length c2, .int .i64 (Y.fRuns.length : Int), .int .i64 (i : Int)]) (ls := [(6, .agg [.str Y.fName, .bool Y.fUp, .int .i64 Y.fClock, .bool Y.fKnown, .int .i64 Y.fSeen, .lsl 31 (gs 31) Y.fWants.length c1, .lsl 45 (gs 45) Y.fRuns.length c2, .lsl 33 (gs 33) A.length c3, .lsl 34 (gs 34) Y.fGives.length c4]), (31, .arr 7 (Y.fWants.map MateWant.D) c1), (45, .arr 11 (Y.fRuns.map MateRun.D) c2), (33, .arr 4 (A.map MateAsk.D) c3), (34, .arr 4 (Y.fGives.map MateAsk.D) c4), (209, .arr 7 (S.out.map MateParcel.N) cp), (9, ww.D)]) ⟨?_, ?_⟩ ?_
    ·repeat' (first | exact True.intro | refine And.intro rfl ?_)
    ·exact ⟨congrArg (fun n => some (D.agg [.str Y.fName, .bool Y.fUp, .int .i64 Y.fClock, .bool Y.fKnown, .int .i64 Y.fSeen, .lsl 31 _ Y.fWants.length c1, .lsl 45 _ Y.fRuns.length c2, .lsl 33 _ n c3, .lsl 34 _ Y.fGives.length c4])) hln.symm, rfl, rfl, congrArg (fun l => some (D.arr 4 l c3)) (hmap _ rfl), rfl, rfl, rfl, True.intro⟩
    refine XS.go ?_
    conv => whnf
    repeat' (first | ((refine And.intro True.intro ?_; conv => whnf)) | ((refine And.intro hlR ?_; conv => whnf)) | ((refine And.intro hbd ?_; conv => whnf)) | ((refine fun n1 bx cx hn1 hc1 => ?_; conv => whnf)) | (refine g_op ?_; conv => whnf) | (refine And.intro ?_ ?_; (focus exact au0); conv => whnf) | (refine XS.go ?_) | (refine g_ops ?_) | (refine g_nil ?_; conv => whnf) | (refine g_drawn ?_) | ((first | refine d_p ?_ | refine d_e ?_ | refine d_nil ?_); conv => whnf) | fail)
    have hn2 : n1 = (S.out ++ [askP Y ww]).length := by rw [hn1]; simp
    refine ⟨(i + 1, cx, c3), ⟨hlt, by dsimp only; rw [hnx]; dsimp only; rw [← hn2]; exact hc1, hg6, hg31⟩, by simp only; omega, ?_, ?_⟩
    ·dsimp only
     rw [hnx]
     repeat' (first | exact True.intro | refine And.intro (congrArg (fun k => D.lsl 209 _ k cx) hn2) ?_ | refine And.intro (congrArg (D.int .i64) hw1) ?_ | refine And.intro rfl ?_)
    ·dsimp only
     rw [hnx]
     exact ⟨rfl, rfl, rfl, rfl, rfl, congrArg (fun l => some (D.arr 7 l cx)) (by rw [List.map_append]; rfl), True.intro⟩
   have ht : ¬ Y.fClock ≥ IntKind.wrap .i64 (S.asks[k].fAt + 6) := of_decide_eq_false hb
   rw [askGo_wait h1 hkl hc ht] at hnx
   clear hb
   conv => whnf
   repeat' (first | (refine g_op ?_; conv => whnf) | (refine And.intro ?_ ?_; (focus exact au0); conv => whnf) | (refine XS.go ?_) | (refine g_ops ?_) | ((first | refine g_nil ?_ | refine g_exit ?_); conv => whnf) | fail)
   refine ⟨(i + 1, cp, c3), ⟨hlt, by dsimp only; rw [hnx]; exact hi1, hg6, hg31⟩, by simp only; omega, ?_, ?_⟩
   ·dsimp only
    rw [hnx]
    repeat' (first | exact True.intro | refine And.intro rfl ?_ | refine And.intro (congrArg (D.int .i64) hw1) ?_)
   ·dsimp only
    rw [hnx]
    exact ⟨rfl, rfl, rfl, rfl, rfl, rfl, True.intro⟩
 have hin : i = Y.fRuns.length := by
  have : ¬ i < Y.fRuns.length := by simpa using hb
  omega
 clear hb hnext hAG
 subst hin
 have hol := hlen.2
 have hL : asksR Y = ({ Y with fAsks := S.asks }, S.out) := by unfold asksR; rw [hS]
 rw [hL]
 clear hL hS hlen hi1 hi0
 generalize S.out = P0 at hol ⊢
 generalize S.asks = A at hAl ⊢
 conv => whnf
 repeat' (first | (refine g_exit ?_; conv => whnf) | fail)
 refine XS.move 209 233 [5] rfl ?_
 refine XS.go ?_
 repeat' (first | (refine z_ld1 ?_; first | (refine z_ld rfl rfl rfl rfl au1 au2 ?_; conv => whnf) | (refine z_ld0 rfl ?_; conv => whnf)) | (refine z_op ?_ ?_; (focus exact rfl); conv => whnf) | (refine zs_ops ?_ ?_; (focus exact rfl)) | (refine z_nil fun vals => ?_; conv => whnf) | (refine And.intro ?_ ?_; (focus exact au0); conv => whnf) | (refine g_seq ?_) | (refine XS.go ?_) | (refine g_loop ?_) | (refine g_block ?_) | fail)
 refine XLc.mkG (α := Nat × Nat) (fun x gs => x.1 ≤ Y.fGives.length ∧ gs 6 = b ∧ gs 31 = b1) (fun x => Y.fGives.length - x.1) (fun x gs => [.lref 6 (gs 6) [] 0, .any, .any, .any, .any, .lsl 233 (gs 233) (P0 ++ (Y.fGives.take x.1).map (backP Y)).length x.2, .any, .any, .any, .any, .any, .any, .any, .any, .any, .any, .any, .any, .any, .any, .any, .any, .any, .any, .any, .any, .any, .any, .any, .any, .any, .any, .any, .any, .any, .any, .any, .any, .any, .any, .any, .any, .any, .any, .any, .any, .any, .any, .any, .any, .any, .any, .any, .any, .any, .any, .any, .any, .any, .any, .any, .any, .any, .any, .any, .any, .any, .any, .any, .any, .any, .any, .any, .any, .any, .any, .any, .any, .any, .any, .any, .any, .any, .any, .any, .any, .any, .any, .any, .any, .any, .any, .any, .any, .any, .any, .any, .any, .any, .any, .any, .any, .any, .any, .any, .any, .any, .any, .any, .any, .any, .any, .any, .any, .any, .any, .any, .any, .any, .any, .any, .any, .any, .any, .any, .any, .any, .any, .any, .any, .any, .any, .any, .any, .any, .any, .any, .any, .any, .any, .any, .any, .any, .any, .any, .any, .any, .any, .any, .any, .any, .any, .any, .any, .any, .any, .any, .any, .any, .any, .any, .any, .any, .any, .any, .any, .any, .any, .any, .any, .any, .any, .any, .any, .any, .any, .any, .any, .any, .any, .any, .any, .any, .any, .any, .any, .any, .any, .any, .any, .any, .any, .any, .any, .any, .any, .any, .any, .any, .any, .any, .any, .any, .any, .any, .any, .any, .any, .any, .any, .any, .any, .any, .any, .lsl 34 (gs 34) Y.fGives.length c4, .int .i64 (Y.fGives.length : Int), .int .i64 (x.1 : Int)]) (fun x gs => [(6, .agg [.str Y.fName, .bool Y.fUp, .int .i64 Y.fClock, .bool Y.fKnown, .int .i64 Y.fSeen, .lsl 31 (gs 31) Y.fWants.length c1, .lsl 45 (gs 45) Y.fRuns.length c2, .lsl 33 (gs 33) A.length c3, .lsl 34 (gs 34) Y.fGives.length c4]), (31, .arr 7 (Y.fWants.map MateWant.D) c1), (45, .arr 11 (Y.fRuns.map MateRun.D) c2), (33, .arr 4 (A.map MateAsk.D) c3), (34, .arr 4 (Y.fGives.map MateAsk.D) c4), (233, .arr 7 ((P0 ++ (Y.fGives.take x.1).map (backP Y)).map MateParcel.N) x.2)]) (0, cp) ⟨Nat.zero_le _, hg6, hg31⟩ ⟨?_, ?_⟩ ?_
 ·have e0 : P0.length = (P0 ++ (Y.fGives.take 0).map (backP Y)).length := by simp
  repeat' (first | exact True.intro | refine And.intro rfl ?_ | refine And.intro (congrArg (fun k => D.lsl 233 _ k cp) e0) ?_)
 ·exact ⟨rfl, rfl, rfl, rfl, rfl, congrArg (fun l => some (D.arr 7 l cp)) (by simp), True.intro⟩
 clear hg6 hg31
 intro x gs hI
 obtain ⟨i, cp⟩ := x
 obtain ⟨hi0, hg6, hg31⟩ := hI
 dsimp only at hi0 ⊢
 repeat' (first | (refine g_op ?_; conv => whnf) | (refine And.intro ?_ ?_; (focus exact au0); conv => whnf) | (refine g_seq ?_) | (refine XS.go ?_) | (refine g_ops ?_) | ((first | refine g_nil ?_ | refine g_cond ?_); conv => whnf) | fail)
 refine Br.mk (fun hb => ?_) (fun hb => ?_)
 ·have hlt : i < Y.fGives.length := by simpa using hb
  clear hb
  have hSu : (P0 ++ (Y.fGives.take (i + 1)).map (backP Y)) = (P0 ++ (Y.fGives.take i).map (backP Y)) ++ [backP Y (Y.fGives.getD i default)] := by
   have e : Y.fGives.getD i default = Y.fGives[i] := by simp [hlt]
   rw [e, List.take_succ_eq_append_getElem hlt, List.map_append, List.append_assoc]
   rfl
  have hLl : (P0 ++ (Y.fGives.take i).map (backP Y)).length ≤ 1048576 + 1048576 := by rw [List.length_append, List.length_map, List.length_take]; omega
  have he2 : (Y.fGives.map MateAsk.D).getD (i : Int).toNat .any = (Y.fGives.getD i default).D := elt_map hlt
  have hlm : (Y.fGives.map MateAsk.D).length = Y.fGives.length := List.length_map ..
  generalize Y.fGives.getD i default = gv at hSu he2
  generalize (P0 ++ (Y.fGives.take i).map (backP Y)) = L at hSu hLl ⊢
  have hw1 : IntKind.wrap .i64 ((i : Int) + 1) = ((i + 1 : Nat) : Int) := by rw [wrap_ok (by omega) (by omega)]; rfl
  have hlO : L.length = (L.map MateParcel.N).length := (List.length_map ..).symm
  have hbO : (L.map MateParcel.N).length + [(backP Y gv).N].length ≤ 1073741824 := by rw [← hlO]; simp only [List.length_cons, List.length_nil]; omega
  conv => whnf
  repeat' (first | (refine g_skip ?_; conv => whnf) | fail)
  refine XS.go ?_
  conv => whnf
  repeat' (first | ((rw [he2]; conv => whnf)) | (refine g_op ?_; conv => whnf) | (refine And.intro ?_ ?_; (focus exact au0); conv => whnf) | (refine g_seq ?_) | (refine g_ops ?_) | (refine g_nil ?_; conv => whnf) | (refine g_block ?_) | (refine fun _ => ?_; conv => whnf) | fail)
  rename_i b13
  refine XS.weakenA (fs := [.lref 6 (gs 6) [] 0, .any, .any, .any, .any, .lsl 233 (gs 233) L.length cp, .any, .any, .any, .any, .any, .any, .any, .lref 13 b13 [] 0, .any, .any, .any, .any, .any, .any, .any, .any, .any, .any, .any, .any, .any, .any, .any, .any, .any, .any, .any, .any, .any, .any, .any, .any, .any, .any, .any, .any, .any, .any, .any, .any, .any, .any, .any, .any, .any, .any, .any, .any, .any, .any, .any, .any, .any, .any, .any, .any, .any, .any, .any, .any, .any, .any, .any, .any, .any, .any, .any, .any, .any, .any, .any, .any, .any, .any, .any, .any, .any, .any, .any, .any, .any, .any, .any, .any, .any, .any, .any, .any, .any, .any, .any, .any, .any, .any, .any, .any, .any, .any, .any, .any, .any, .any, .any, .any, .any, .any, .any, .any, .any, .any, .any, .any, .any, .any, .any, .any, .any, .any, .any, .any, .any, .any, .any, .any, .any, .any, .any, .any, .any, .any, .any, .any, .any, .any, .any, .any, .any, .any, .any, .any, .any, .any, .any, .any, .any, .any, .any, .any, .any, .any, .any, .any, .any, .any, .any, .any, .any, .any, .any, .any, .any, .any, .any, .any, .any, .any, .any, .any, .any, .any, .any, .any, .any, .any, .any, .any, .any, .any, .any, .any, .any, .any, .any, .any, .any, .any, .any, .any, .any, .any, .any, .any, .any, .any, .any, .any, .any, .any, .any, .any, .any, .any, .any, .any, .any, .any, .any, .any, .lsl 34 (gs 34) Y.fGives.length c4, .int .i64 (Y.fGives.length : Int), .int .i64 (i : Int)]) (ls := [(6, .agg [.str Y.fName, .bool Y.fUp, .int .i64 Y.fClock, .bool Y.fKnown, .int .i64 Y.fSeen, .lsl 31 (gs 31) Y.fWants.length c1, .lsl 45 (gs 45) Y.fRuns.length c2, .lsl 33 (gs 33) A.length c3, .lsl 34 (gs 34) Y.fGives.length c4]), (31, .arr 7 (Y.fWants.map MateWant.D) c1), (45, .arr 11 (Y.fRuns.map MateRun.D) c2), (33, .arr 4 (A.map MateAsk.D) c3), (34, .arr 4 (Y.fGives.map MateAsk.D) c4), (233, .arr 7 (L.map MateParcel.N) cp), (13, gv.D)]) ⟨?_, ?_⟩ ?_
  ·repeat' (first | exact True.intro | refine And.intro rfl ?_)
  ·exact ⟨rfl, rfl, rfl, rfl, rfl, rfl, rfl, True.intro⟩
  refine XS.go ?_
  conv => whnf
  repeat' (first | ((refine And.intro True.intro ?_; conv => whnf)) | ((refine And.intro hlO ?_; conv => whnf)) | ((refine And.intro hbO ?_; conv => whnf)) | ((refine fun n1 bx cx hn1 hc1 => ?_; conv => whnf)) | (refine g_op ?_; conv => whnf) | (refine And.intro ?_ ?_; (focus exact au0); conv => whnf) | (refine XS.go ?_) | (refine g_ops ?_) | (refine g_nil ?_; conv => whnf) | (refine g_drawn ?_) | ((first | refine d_p ?_ | refine d_e ?_ | refine d_nil ?_); conv => whnf) | fail)
  have hn2 : n1 = (L ++ [backP Y gv]).length := by rw [hn1]; simp
  refine ⟨(i + 1, cx), ⟨hlt, hg6, hg31⟩, by simp only; omega, ?_, ?_⟩
  ·dsimp only
   rw [hSu]
   repeat' (first | exact True.intro | refine And.intro (congrArg (fun k => D.lsl 233 _ k cx) hn2) ?_ | refine And.intro (congrArg (D.int .i64) hw1) ?_ | refine And.intro rfl ?_)
  ·dsimp only
   rw [hSu]
   exact ⟨rfl, rfl, rfl, rfl, rfl, congrArg (fun l => some (D.arr 7 l cx)) (by rw [List.map_append]; rfl), True.intro⟩
 have hin : i = Y.fGives.length := by
  have : ¬ i < Y.fGives.length := by simpa using hb
  omega
 clear hb
 subst hin
 have hT : Y.fGives.take Y.fGives.length = Y.fGives := List.take_length
 have hLl : (P0 ++ (Y.fGives.take Y.fGives.length).map (backP Y)).length ≤ 1048576 + 1048576 := by rw [hT, List.length_append, List.length_map]; omega
 have hO : outs ({ Y with fAsks := A }, P0) = (P0 ++ (Y.fGives.take Y.fGives.length).map (backP Y)) ++ [hereP Y] := by
  rw [hT]
  rfl
 rw [hO]
 generalize (P0 ++ (Y.fGives.take Y.fGives.length).map (backP Y)) = L at hLl ⊢
 have hlO : L.length = (L.map MateParcel.N).length := (List.length_map ..).symm
 have hbO : (L.map MateParcel.N).length + [(hereP Y).N].length ≤ 1073741824 := by rw [← hlO]; simp only [List.length_cons, List.length_nil]; omega
 conv => whnf
 repeat' (first | (refine g_exit ?_; conv => whnf) | fail)
 refine XS.weakenA (fs := [.lref 6 (gs 6) [] 0, .any, .any, .any, .any, .lsl 233 (gs 233) L.length cp]) (ls := [(6, .agg [.str Y.fName, .bool Y.fUp, .int .i64 Y.fClock, .bool Y.fKnown, .int .i64 Y.fSeen, .lsl 31 (gs 31) Y.fWants.length c1, .lsl 45 (gs 45) Y.fRuns.length c2, .lsl 33 (gs 33) A.length c3, .lsl 34 (gs 34) Y.fGives.length c4]), (31, .arr 7 (Y.fWants.map MateWant.D) c1), (45, .arr 11 (Y.fRuns.map MateRun.D) c2), (33, .arr 4 (A.map MateAsk.D) c3), (34, .arr 4 (Y.fGives.map MateAsk.D) c4), (233, .arr 7 (L.map MateParcel.N) cp)]) ⟨?_, ?_⟩ ?_
 ·repeat' (first | exact True.intro | refine And.intro rfl ?_)
 ·exact ⟨rfl, rfl, rfl, rfl, rfl, rfl, True.intro⟩
 subst hg6 hg31
 refine XS.go ?_
 conv => whnf
 repeat' (first | ((refine And.intro True.intro ?_; conv => whnf)) | ((refine And.intro hlO ?_; conv => whnf)) | ((refine And.intro hbO ?_; conv => whnf)) | ((refine fun n1 bx cx hn1 hc1 => ?_; conv => whnf)) | (refine And.intro ?_ ?_; (focus exact au0); conv => whnf) | (refine g_seq ?_) | (refine XS.go ?_) | (refine g_ret ?_; conv => whnf) | (refine g_drawn ?_) | ((first | refine d_p ?_ | refine d_e ?_ | refine d_nil ?_ | refine r_t ?_ | refine r_nil ?_); conv => whnf) | fail)
 have hn2 : n1 = (L ++ [hereP Y]).length := by rw [hn1]; simp
 subst hn2
 have hM : L.map MateParcel.N ++ [(hereP Y).N] = (L ++ [hereP Y]).map MateParcel.N := by rw [List.map_append]; rfl
 rw [← hM]
 exact ⟨bx, cx, gs 45, gs 33, gs 34, c2, c3, c4, rfl, rfl⟩
end Go.Ab
