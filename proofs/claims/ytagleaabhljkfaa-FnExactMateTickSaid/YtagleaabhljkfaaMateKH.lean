/- Steps towards the law: the machine, contracts of functions and facts of lists. -/
import Derived.Test.YtagleaabhljkfaaMateKG
import Derived.Test.YtagleaabhljkfaaRows
set_option linter.unusedSimpArgs false
set_option linter.unusedVariables false
namespace Go.Ab
open Go Go.RowKit Go.Proofs
attribute [local irreducible] XC Rdr IntKind.wrap xw xos xqs xr xd
set_option maxRecDepth 100000
set_option maxHeartbeats 16000000
def tickY (m : Mate) (rate : Int) : Mate := if m.fKnown = true then livesR (tickX m rate) else tickX m rate
def backP (m : Mate) (g : MateAsk) : MateParcel := ⟨4, m.fName, 0, [], g.fHold, g.fCopy, g.fAt⟩
def hereP (m : Mate) : MateParcel := ⟨6, m.fName, m.fSeen, [], ⟨#[]⟩, ⟨#[]⟩, 0⟩
def outs (x : Mate × List MateParcel) : List MateParcel := x.2 ++ x.1.fGives.map (backP x.1) ++ [hereP x.1]
theorem spec_Tick4 (m : Mate) (rate : Int) (hl : m.lenOk) (hlx : (tickX m rate).lenOk) (hly : (tickY m rate).lenOk) (hsum : (tickY m rate).fAsks.length + (tickY m rate).fRuns.length ≤ 1048576) (hlz : (asksR (tickY m rate)).1.lenOk) (hol : (asksR (tickY m rate)).2.length ≤ 1048576) (hv : validM m = true) (hr : inR rate 1 4 = true) (hk : decide (IntKind.wrap .i64 (m.fClock + rate) > 1000000) = false) (hu : m.fUp = true) : Rdr Try.prog 36 [m.D, .int .i64 rate] (.tup [(asksR (tickY m rate)).1.D, .ro 7 ((outs (asksR (tickY m rate))).map MateParcel.N)]) := by
 obtain ⟨a1, a2, a3, a4, a5, a6, a7, a8, a9⟩ := m
 dsimp only at hu
 subst hu
 have hq := spec_MateValid ⟨a1, true, a3, a4, a5, a6, a7, a8, a9⟩
 rw [hv] at hq
 have hc := spec_CopyL ⟨a1, true, a3, a4, a5, a6, a7, a8, a9⟩ hl
 have hi := spec_In rate 1 4
 rw [hr] at hi
 have hw := spec_Watchdog a7 (IntKind.wrap .i64 (a3 + rate)) hl.r.1
 have hL := spec_Lives (tickX ⟨a1, true, a3, a4, a5, a6, a7, a8, a9⟩ rate) hlx
 have hA := spec_Asks (tickY ⟨a1, true, a3, a4, a5, a6, a7, a8, a9⟩ rate) hly hsum
 have hc2 := spec_CopyL (asksR (tickY ⟨a1, true, a3, a4, a5, a6, a7, a8, a9⟩ rate)).1 hlz
 generalize hz : asksR (tickY ⟨a1, true, a3, a4, a5, a6, a7, a8, a9⟩ rate) = z at hA hc2 hlz hol ⊢
 have hol2 := hol
 have hlz0 := hlz
 unfold tickY at hA
 clear hz hly hsum
 refine Rdr.introF hm [89] rfl c36 (Nat.le_of_ble_eq_true rfl) ?_
 conv => whnf
 cases a4 with
 | true =>
  rw [if_pos rfl] at hA
  unfold tickX at hL hA
  dsimp only at hL hA
  generalize livesR _ = y at hL hA
  generalize (a7.map fun r => wdog r (IntKind.wrap .i64 (a3 + rate))) = ys at hw hL
  repeat' (first | ((refine XCL.of_XC (ls := []) True.intro (hA.mono fun d ls h => ?_); obtain ⟨b, c, rfl, rfl⟩ := h; conv => whnf)) | (refine g_op ?_; conv => whnf) | (refine And.intro ?_ ?_; (focus exact au0); conv => whnf) | (refine g_seq ?_) | (refine XS.go ?_) | (refine g_ops ?_) | (refine g_loop ?_) | (refine g_nil ?_; conv => whnf) | (refine Br.t ?_ ?_; (focus (first | assumption | exact rfl)); conv => whnf) | (refine Br.f ?_ ?_; (focus (first | assumption | exact rfl)); conv => whnf) | ((first | refine g_cond ?_ | refine g_skip ?_); conv => whnf) | (refine g_block ?_) | ((first | refine fun _ => ?_ | refine XCL.of_rdr (hq) ?_ | refine XCL.of_rdr (hc) ?_ | refine XCL.of_rdr (hi) ?_ | refine XCL.of_rdr (hw) ?_ | refine XCL.of_rdr (hL) ?_); conv => whnf) | fail)
  have hg := hlz0.g.1
  refine XLc.mkA (α := Nat × Nat) (fun i => i.1 ≤ z.1.fGives.length) (fun i => z.1.fGives.length - i.1) (fun i gs => [.any, .any, .any, .any, .lref 4 (gs 4) [] 0, .any, .lsl 124 (gs 124) (z.2 ++ (z.1.fGives.take i.1).map (backP z.1)).length i.2, .lref 7 (gs 7) [] 0, .int .i64 (i.1 : Int)]) (fun i gs => [(4, .agg [.str ⟨#[]⟩, .bool false, .int .i64 0, .bool false, .int .i64 0, .nil, .nil, .nil, .nil]), (7, .agg [.str z.1.fName, .bool z.1.fUp, .int .i64 z.1.fClock, .bool z.1.fKnown, .int .i64 z.1.fSeen, .ro 7 (z.1.fWants.map MateWant.D), .ro 11 (z.1.fRuns.map MateRun.D), .ro 4 (z.1.fAsks.map MateAsk.D), .ro 4 (z.1.fGives.map MateAsk.D)]), (124, .arr 7 ((z.2 ++ (z.1.fGives.take i.1).map (backP z.1)).map MateParcel.N) i.2)]) (0, c) (Nat.zero_le _) ⟨?_, ?_⟩ ?_
  ·have e0 : z.2.length = (z.2 ++ (z.1.fGives.take 0).map (backP z.1)).length := by simp
   repeat' (first | exact True.intro | refine And.intro (congrArg (fun k => D.lsl 124 b k c) e0) ?_ | refine And.intro rfl ?_)
  ·exact ⟨rfl, rfl, congrArg (fun l => some (D.arr 7 l c)) (by simp), True.intro⟩
  intro x gs hi0
  obtain ⟨i, cp⟩ := x
  dsimp only at hi0 ⊢
  repeat' (first | (refine z_ld1 ?_; first | (refine z_ld rfl rfl rfl rfl au1 au2 ?_; conv => whnf) | (refine z_ld0 rfl ?_; conv => whnf)) | (refine z_op ?_ ?_; (focus exact rfl); conv => whnf) | (refine zs_ops ?_ ?_; (focus exact rfl)) | (refine z_nil fun vals => ?_; conv => whnf) | (refine And.intro ?_ ?_; (focus exact au0); conv => whnf) | (refine g_seq ?_) | (refine XS.go ?_) | (refine g_cond ?_; conv => whnf) | fail)
  refine Br.mk (fun hb => ?_) (fun hb => ?_)
  ·have hlt : i < z.1.fGives.length := by
    have p := hb
    simp at p
    omega
   clear hb
   have hS : (z.2 ++ (z.1.fGives.take (i + 1)).map (backP z.1)) = (z.2 ++ (z.1.fGives.take i).map (backP z.1)) ++ [backP z.1 (z.1.fGives.getD i default)] := by
    have e : z.1.fGives.getD i default = z.1.fGives[i] := by simp [hlt]
    rw [e, List.take_succ_eq_append_getElem hlt, List.map_append, List.append_assoc]
    rfl
   have hLl : (z.2 ++ (z.1.fGives.take i).map (backP z.1)).length ≤ 1048576 + 1048576 := by rw [List.length_append, List.length_map, List.length_take]; omega
   have hla : (z.1.fGives.map MateAsk.D).length = z.1.fGives.length := List.length_map ..
   have he2 : (z.1.fGives.map MateAsk.D).getD (i : Int).toNat .any = (z.1.fGives.getD i default).D := elt_map hlt
   generalize z.1.fGives.getD i default = gv at hS he2
   generalize (z.2 ++ (z.1.fGives.take i).map (backP z.1)) = L at hS hLl ⊢
   have hw1 : IntKind.wrap .i64 ((i : Int) + 1) = ((i + 1 : Nat) : Int) := by rw [wrap_ok (by omega) (by omega)]; rfl
   have hlO : L.length = (L.map MateParcel.N).length := (List.length_map ..).symm
   have hbO : (L.map MateParcel.N).length + [(backP z.1 gv).N].length ≤ 1073741824 := by rw [← hlO]; simp only [List.length_cons, List.length_nil]; omega
   conv => whnf
   repeat' (first | (refine g_skip ?_; conv => whnf) | fail)
   refine XS.go ?_
   conv => whnf
   repeat' (first | ((rw [he2]; conv => whnf)) | (refine g_op ?_; conv => whnf) | (refine And.intro ?_ ?_; (focus exact au0); conv => whnf) | (refine g_seq ?_) | (refine g_ops ?_) | (refine g_nil ?_; conv => whnf) | (refine g_block ?_) | (refine fun _ => ?_; conv => whnf) | fail)
   refine XS.go ?_
   conv => whnf
   repeat' (first | ((refine And.intro hlO ?_; conv => whnf)) | ((refine And.intro hbO ?_; conv => whnf)) | ((refine fun n1 b1 c1 hn1 hc1 => ?_; conv => whnf)) | (refine g_op ?_; conv => whnf) | (refine And.intro ?_ ?_; (focus exact au0); conv => whnf) | (refine g_ops ?_) | ((first | refine g_nil ?_ | refine fun _ => ?_); conv => whnf) | fail)
   have hn2 : n1 = (L ++ [backP z.1 gv]).length := by rw [hn1]; simp
   refine XS.move 81 124 [6] rfl ?_
   refine XS.go ?_
   conv => whnf
   repeat' (first | (refine g_op ?_; conv => whnf) | (refine And.intro ?_ ?_; (focus exact au0); conv => whnf) | (refine g_ops ?_) | (refine g_nil ?_; conv => whnf) | fail)
   refine ⟨(i + 1, c1), by dsimp only; omega, by simp only; omega, ?_, ?_⟩
   ·dsimp only
    rw [hS]
    repeat' (first | exact True.intro | refine And.intro (congrArg (fun k => D.lsl 124 _ k c1) hn2) ?_ | refine And.intro (congrArg (D.int .i64) hw1) ?_ | refine And.intro rfl ?_)
   ·dsimp only
    rw [hS]
    exact ⟨rfl, rfl, congrArg (fun l => some (D.arr 7 l c1)) (by rw [List.map_append]; rfl), True.intro⟩
  have hin : i = z.1.fGives.length := by
   have p := hb
   simp at p
   omega
  clear hb
  subst hin
  conv => whnf
  repeat' (first | (refine g_exit ?_; conv => whnf) | fail)
  have hT : z.1.fGives.take z.1.fGives.length = z.1.fGives := List.take_length
  have hLl : (z.2 ++ (z.1.fGives.take z.1.fGives.length).map (backP z.1)).length ≤ 1048576 + 1048576 := by rw [hT, List.length_append, List.length_map]; omega
  have hO : outs z = (z.2 ++ (z.1.fGives.take z.1.fGives.length).map (backP z.1)) ++ [hereP z.1] := by
   unfold outs
   rw [hT]
  rw [hO]
  generalize (z.2 ++ (z.1.fGives.take z.1.fGives.length).map (backP z.1)) = L at hLl ⊢
  have hlO : L.length = (L.map MateParcel.N).length := (List.length_map ..).symm
  have hbO : (L.map MateParcel.N).length + [(hereP z.1).N].length ≤ 1073741824 := by rw [← hlO]; simp only [List.length_cons, List.length_nil]; omega
  refine XS.weakenA (fs := [.any, .any, .any, .any, .lref 4 (gs 4) [] 0, .any, .lsl 124 (gs 124) L.length cp, .lref 7 (gs 7) [] 0]) (ls := [(4, .agg [.str ⟨#[]⟩, .bool false, .int .i64 0, .bool false, .int .i64 0, .nil, .nil, .nil, .nil]), (7, .agg [.str z.1.fName, .bool z.1.fUp, .int .i64 z.1.fClock, .bool z.1.fKnown, .int .i64 z.1.fSeen, .ro 7 (z.1.fWants.map MateWant.D), .ro 11 (z.1.fRuns.map MateRun.D), .ro 4 (z.1.fAsks.map MateAsk.D), .ro 4 (z.1.fGives.map MateAsk.D)]), (124, .arr 7 (L.map MateParcel.N) cp)]) ⟨?_, ?_⟩ ?_
  ·repeat' (first | exact True.intro | refine And.intro rfl ?_)
  ·exact ⟨rfl, rfl, rfl, True.intro⟩
  refine XS.go ?_
  conv => whnf
  repeat' (first | ((refine And.intro hlO ?_; conv => whnf)) | ((refine And.intro hbO ?_; conv => whnf)) | ((refine fun n1 b1 c1 hn1 hc1 => ?_; conv => whnf)) | (refine g_op ?_; conv => whnf) | (refine And.intro ?_ ?_; (focus exact au0); conv => whnf) | (refine g_seq ?_) | (refine XS.go ?_) | (refine g_ops ?_) | ((first | refine g_nil ?_ | refine g_ret ?_ | refine r_t ?_ | refine r_c ?_ | refine r_nil ?_ | refine fun _ => ?_ | refine XCL.of_rdr (hc2) ?_); conv => whnf) | fail)
  have hn2 : n1 = (L.map MateParcel.N ++ [(hereP z.1).N]).length := by rw [hn1]; exact (List.length_append ..).symm
  have hf : (D.frozs (L.map MateParcel.N ++ [(hereP z.1).N])).take n1 = (L ++ [hereP z.1]).map MateParcel.N := by
   have e : L.map MateParcel.N ++ [(hereP z.1).N] = (L ++ [hereP z.1]).map MateParcel.N := by rw [List.map_append]; rfl
   rw [hn2, e, D.frozs_map (fun (_ : MateParcel) => rfl), List.take_of_length_le (Nat.le_refl _)]
  refine ⟨⟨?_, ⟨rfl, Nat.le_of_eq hn2⟩, True.intro⟩, congrArg (fun l => D.tup [z.1.D, D.ro 7 l]) hf⟩
  repeat' (first | exact True.intro | refine And.intro ?_ ?_)
 | false =>
  rw [if_neg Bool.false_ne_true] at hA
  clear hL
  unfold tickX at hA
  dsimp only at hA
  generalize (a7.map fun r => wdog r (IntKind.wrap .i64 (a3 + rate))) = ys at hw hA
  repeat' (first | ((refine XCL.of_XC (ls := []) True.intro (hA.mono fun d ls h => ?_); obtain ⟨b, c, rfl, rfl⟩ := h; conv => whnf)) | (refine g_op ?_; conv => whnf) | (refine And.intro ?_ ?_; (focus exact au0); conv => whnf) | (refine g_seq ?_) | (refine XS.go ?_) | (refine g_ops ?_) | (refine g_loop ?_) | (refine g_nil ?_; conv => whnf) | (refine Br.f ?_ ?_; (focus (first | assumption | exact rfl)); conv => whnf) | ((first | refine g_cond ?_ | refine g_skip ?_); conv => whnf) | (refine g_block ?_) | ((first | refine fun _ => ?_ | refine XCL.of_rdr (hq) ?_ | refine XCL.of_rdr (hc) ?_ | refine XCL.of_rdr (hi) ?_ | refine XCL.of_rdr (hw) ?_); conv => whnf) | fail)
  have hg := hlz0.g.1
  refine XLc.mkA (α := Nat × Nat) (fun i => i.1 ≤ z.1.fGives.length) (fun i => z.1.fGives.length - i.1) (fun i gs => [.any, .any, .any, .any, .lref 4 (gs 4) [] 0, .any, .lsl 124 (gs 124) (z.2 ++ (z.1.fGives.take i.1).map (backP z.1)).length i.2, .lref 7 (gs 7) [] 0, .int .i64 (i.1 : Int)]) (fun i gs => [(4, .agg [.str ⟨#[]⟩, .bool false, .int .i64 0, .bool false, .int .i64 0, .nil, .nil, .nil, .nil]), (7, .agg [.str z.1.fName, .bool z.1.fUp, .int .i64 z.1.fClock, .bool z.1.fKnown, .int .i64 z.1.fSeen, .ro 7 (z.1.fWants.map MateWant.D), .ro 11 (z.1.fRuns.map MateRun.D), .ro 4 (z.1.fAsks.map MateAsk.D), .ro 4 (z.1.fGives.map MateAsk.D)]), (124, .arr 7 ((z.2 ++ (z.1.fGives.take i.1).map (backP z.1)).map MateParcel.N) i.2)]) (0, c) (Nat.zero_le _) ⟨?_, ?_⟩ ?_
  ·have e0 : z.2.length = (z.2 ++ (z.1.fGives.take 0).map (backP z.1)).length := by simp
   repeat' (first | exact True.intro | refine And.intro (congrArg (fun k => D.lsl 124 b k c) e0) ?_ | refine And.intro rfl ?_)
  ·exact ⟨rfl, rfl, congrArg (fun l => some (D.arr 7 l c)) (by simp), True.intro⟩
  intro x gs hi0
  obtain ⟨i, cp⟩ := x
  dsimp only at hi0 ⊢
  repeat' (first | (refine z_ld1 ?_; first | (refine z_ld rfl rfl rfl rfl au1 au2 ?_; conv => whnf) | (refine z_ld0 rfl ?_; conv => whnf)) | (refine z_op ?_ ?_; (focus exact rfl); conv => whnf) | (refine zs_ops ?_ ?_; (focus exact rfl)) | (refine z_nil fun vals => ?_; conv => whnf) | (refine And.intro ?_ ?_; (focus exact au0); conv => whnf) | (refine g_seq ?_) | (refine XS.go ?_) | (refine g_cond ?_; conv => whnf) | fail)
  refine Br.mk (fun hb => ?_) (fun hb => ?_)
  ·have hlt : i < z.1.fGives.length := by
    have p := hb
    simp at p
    omega
   clear hb
   have hS : (z.2 ++ (z.1.fGives.take (i + 1)).map (backP z.1)) = (z.2 ++ (z.1.fGives.take i).map (backP z.1)) ++ [backP z.1 (z.1.fGives.getD i default)] := by
    have e : z.1.fGives.getD i default = z.1.fGives[i] := by simp [hlt]
    rw [e, List.take_succ_eq_append_getElem hlt, List.map_append, List.append_assoc]
    rfl
   have hLl : (z.2 ++ (z.1.fGives.take i).map (backP z.1)).length ≤ 1048576 + 1048576 := by rw [List.length_append, List.length_map, List.length_take]; omega
   have hla : (z.1.fGives.map MateAsk.D).length = z.1.fGives.length := List.length_map ..
   have he2 : (z.1.fGives.map MateAsk.D).getD (i : Int).toNat .any = (z.1.fGives.getD i default).D := elt_map hlt
   generalize z.1.fGives.getD i default = gv at hS he2
   generalize (z.2 ++ (z.1.fGives.take i).map (backP z.1)) = L at hS hLl ⊢
   have hw1 : IntKind.wrap .i64 ((i : Int) + 1) = ((i + 1 : Nat) : Int) := by rw [wrap_ok (by omega) (by omega)]; rfl
   have hlO : L.length = (L.map MateParcel.N).length := (List.length_map ..).symm
   have hbO : (L.map MateParcel.N).length + [(backP z.1 gv).N].length ≤ 1073741824 := by rw [← hlO]; simp only [List.length_cons, List.length_nil]; omega
   conv => whnf
   repeat' (first | (refine g_skip ?_; conv => whnf) | fail)
   refine XS.go ?_
   conv => whnf
   repeat' (first | ((rw [he2]; conv => whnf)) | (refine g_op ?_; conv => whnf) | (refine And.intro ?_ ?_; (focus exact au0); conv => whnf) | (refine g_seq ?_) | (refine g_ops ?_) | (refine g_nil ?_; conv => whnf) | (refine g_block ?_) | (refine fun _ => ?_; conv => whnf) | fail)
   refine XS.go ?_
   conv => whnf
   repeat' (first | ((refine And.intro hlO ?_; conv => whnf)) | ((refine And.intro hbO ?_; conv => whnf)) | ((refine fun n1 b1 c1 hn1 hc1 => ?_; conv => whnf)) | (refine g_op ?_; conv => whnf) | (refine And.intro ?_ ?_; (focus exact au0); conv => whnf) | (refine g_ops ?_) | ((first | refine g_nil ?_ | refine fun _ => ?_); conv => whnf) | fail)
   have hn2 : n1 = (L ++ [backP z.1 gv]).length := by rw [hn1]; simp
   refine XS.move 81 124 [6] rfl ?_
   refine XS.go ?_
   conv => whnf
   repeat' (first | (refine g_op ?_; conv => whnf) | (refine And.intro ?_ ?_; (focus exact au0); conv => whnf) | (refine g_ops ?_) | (refine g_nil ?_; conv => whnf) | fail)
   refine ⟨(i + 1, c1), by dsimp only; omega, by simp only; omega, ?_, ?_⟩
   ·dsimp only
    rw [hS]
    repeat' (first | exact True.intro | refine And.intro (congrArg (fun k => D.lsl 124 _ k c1) hn2) ?_ | refine And.intro (congrArg (D.int .i64) hw1) ?_ | refine And.intro rfl ?_)
   ·dsimp only
    rw [hS]
    exact ⟨rfl, rfl, congrArg (fun l => some (D.arr 7 l c1)) (by rw [List.map_append]; rfl), True.intro⟩
  have hin : i = z.1.fGives.length := by
   have p := hb
   simp at p
   omega
  clear hb
  subst hin
  conv => whnf
  repeat' (first | (refine g_exit ?_; conv => whnf) | fail)
  have hT : z.1.fGives.take z.1.fGives.length = z.1.fGives := List.take_length
  have hLl : (z.2 ++ (z.1.fGives.take z.1.fGives.length).map (backP z.1)).length ≤ 1048576 + 1048576 := by rw [hT, List.length_append, List.length_map]; omega
  have hO : outs z = (z.2 ++ (z.1.fGives.take z.1.fGives.length).map (backP z.1)) ++ [hereP z.1] := by
   unfold outs
   rw [hT]
  rw [hO]
  generalize (z.2 ++ (z.1.fGives.take z.1.fGives.length).map (backP z.1)) = L at hLl ⊢
  have hlO : L.length = (L.map MateParcel.N).length := (List.length_map ..).symm
  have hbO : (L.map MateParcel.N).length + [(hereP z.1).N].length ≤ 1073741824 := by rw [← hlO]; simp only [List.length_cons, List.length_nil]; omega
  refine XS.weakenA (fs := [.any, .any, .any, .any, .lref 4 (gs 4) [] 0, .any, .lsl 124 (gs 124) L.length cp, .lref 7 (gs 7) [] 0]) (ls := [(4, .agg [.str ⟨#[]⟩, .bool false, .int .i64 0, .bool false, .int .i64 0, .nil, .nil, .nil, .nil]), (7, .agg [.str z.1.fName, .bool z.1.fUp, .int .i64 z.1.fClock, .bool z.1.fKnown, .int .i64 z.1.fSeen, .ro 7 (z.1.fWants.map MateWant.D), .ro 11 (z.1.fRuns.map MateRun.D), .ro 4 (z.1.fAsks.map MateAsk.D), .ro 4 (z.1.fGives.map MateAsk.D)]), (124, .arr 7 (L.map MateParcel.N) cp)]) ⟨?_, ?_⟩ ?_
  ·repeat' (first | exact True.intro | refine And.intro rfl ?_)
  ·exact ⟨rfl, rfl, rfl, True.intro⟩
  refine XS.go ?_
  conv => whnf
  repeat' (first | ((refine And.intro hlO ?_; conv => whnf)) | ((refine And.intro hbO ?_; conv => whnf)) | ((refine fun n1 b1 c1 hn1 hc1 => ?_; conv => whnf)) | (refine g_op ?_; conv => whnf) | (refine And.intro ?_ ?_; (focus exact au0); conv => whnf) | (refine g_seq ?_) | (refine XS.go ?_) | (refine g_ops ?_) | ((first | refine g_nil ?_ | refine g_ret ?_ | refine r_t ?_ | refine r_c ?_ | refine r_nil ?_ | refine fun _ => ?_ | refine XCL.of_rdr (hc2) ?_); conv => whnf) | fail)
  have hn2 : n1 = (L.map MateParcel.N ++ [(hereP z.1).N]).length := by rw [hn1]; exact (List.length_append ..).symm
  have hf : (D.frozs (L.map MateParcel.N ++ [(hereP z.1).N])).take n1 = (L ++ [hereP z.1]).map MateParcel.N := by
   have e : L.map MateParcel.N ++ [(hereP z.1).N] = (L ++ [hereP z.1]).map MateParcel.N := by rw [List.map_append]; rfl
   rw [hn2, e, D.frozs_map (fun (_ : MateParcel) => rfl), List.take_of_length_le (Nat.le_refl _)]
  refine ⟨⟨?_, ⟨rfl, Nat.le_of_eq hn2⟩, True.intro⟩, congrArg (fun l => D.tup [z.1.D, D.ro 7 l]) hf⟩
  repeat' (first | exact True.intro | refine And.intro ?_ ?_)
end Go.Ab
