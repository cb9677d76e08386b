/- Steps towards the law: contracts of functions and facts of lists. -/
import Derived.Test.YtlnemfcpflcfpaaLandV
import Derived.Test.YtlnemfcpflcfpaaRows
set_option linter.unusedSimpArgs false
set_option linter.unusedVariables false
namespace Go.Ab
open Go Go.RowKit Go.Proofs
attribute [local irreducible] XC Rdr IntKind.wrap xw xos xqs xr xd
set_option maxRecDepth 100000

/-- laws.FnExactMateNewWorld -/
def cf7 : CF := ⟨69, [.t 2],
  (.seq (.ops [⟨some 2, .mv (.k (.bool false)), none⟩])
  (.seq (.ops [⟨some 3, .mv (.k (.int .i64 1048576)), none⟩])
  (.seq (.ops [⟨some 11, .mv (.t 0), none⟩,
    ⟨some 12, .mv (.t 3), none⟩,
    ⟨some 13, .call 36 [(.t 11), (.t 12)], none⟩,
    ⟨some 3, .mv (.t 13), none⟩])
  (.seq (.seq (.ops [⟨some 14, .mv (.t 3), none⟩,
    ⟨some 15, .bin .lss (.t 14) (.k (.int .i64 0)), none⟩])
  (.cond (.t 15)
  (.seq (.ops [⟨some 2, .mv (.k (.bool true)), none⟩])
  .ret)
  .skip))
  (.seq (.ops [⟨some 16, .mv (.t 0), none⟩,
    ⟨some 17, .call 38 [(.t 16)], none⟩,
    ⟨some 18, .call 37 [(.t 17)], none⟩,
    ⟨some 4, .al (.agg [.agg [.int .i64 0, .nil, .nil], .nil, .nil]), none⟩,
    ⟨none, .st 5 (.t 4) (.t 18), none⟩])
  (.seq (.ops [⟨some 19, .mv (.t 0), none⟩,
    ⟨some 20, .call 38 [(.t 19)], none⟩,
    ⟨some 5, .mv (.t 20), none⟩])
  (.seq (.ops [⟨some 21, .mv (.t 5), none⟩,
    ⟨some 22, .call 39 [(.t 21)], none⟩,
    ⟨some 6, .al (.agg [.agg [.int .i64 0, .nil, .nil], .nil, .nil]), none⟩,
    ⟨none, .st 5 (.t 6) (.t 22), none⟩])
  (.seq (.seq (.ops [⟨some 23, .ld 5 true (.t 6), none⟩,
    ⟨some 24, .ld 5 true (.t 4), none⟩,
    ⟨some 25, .call 40 [(.t 23), (.t 24)], none⟩,
    ⟨some 26, .not (.t 25), none⟩])
  (.cond (.t 26)
  (.seq (.ops [⟨some 2, .mv (.k (.bool false)), none⟩])
  .ret)
  .skip))
  (.seq (.seq (.ops [⟨some 27, .mv (.t 5), none⟩,
    ⟨some 28, .mv (.t 0), none⟩,
    ⟨some 29, .call 38 [(.t 28)], none⟩,
    ⟨some 30, .call 41 [(.t 27), (.t 29)], none⟩,
    ⟨some 31, .not (.t 30), none⟩])
  (.cond (.t 31)
  (.seq (.ops [⟨some 2, .mv (.k (.bool false)), none⟩])
  .ret)
  .skip))
  (.seq (.ops [⟨some 7, .mv (.k (.int .i64 1)), none⟩])
  (.seq (.ops [⟨some 32, .mv (.t 5), none⟩,
    ⟨some 33, .mv (.t 7), none⟩,
    ⟨some 34, .call 42 [(.t 32), (.t 33)], none⟩,
    ⟨some 7, .mv (.t 34), none⟩])
  (.seq (.seq (.ops [⟨some 35, .mv (.t 7), none⟩,
    ⟨some 36, .bin .lss (.t 35) (.k (.int .i64 0)), none⟩,
    ⟨some 37, .mv (.t 36), none⟩,
    ⟨some 38, .ld 5 true (.t 6), some (37, false)⟩,
    ⟨some 39, .ld 5 true (.t 4), some (37, false)⟩,
    ⟨some 40, .call 40 [(.t 38), (.t 39)], some (37, false)⟩,
    ⟨some 41, .not (.t 40), some (37, false)⟩,
    ⟨some 42, .pick (.t 37) (.k (.bool true)) (.t 41), none⟩])
  (.cond (.t 42)
  (.seq (.ops [⟨some 2, .mv (.k (.bool false)), none⟩])
  .ret)
  .skip))
  (.seq (.ops [⟨some 8, .mv (.k (.int .i64 1)), none⟩])
  (.seq (.ops [⟨some 43, .ld 5 true (.t 6), none⟩,
    ⟨some 44, .mv (.t 8), none⟩,
    ⟨some 45, .call 43 [(.t 43), (.t 44)], none⟩,
    ⟨some 8, .mv (.t 45), none⟩])
  (.seq (.ops [⟨some 9, .mv (.k (.int .i64 1)), none⟩])
  (.seq (.ops [⟨some 46, .ld 5 true (.t 6), none⟩,
    ⟨some 47, .mv (.t 9), none⟩,
    ⟨some 48, .call 44 [(.t 46), (.t 47)], none⟩,
    ⟨some 9, .mv (.t 48), none⟩])
  (.seq (.seq (.ops [⟨some 49, .mv (.t 9), none⟩,
    ⟨some 50, .bin .lss (.t 49) (.k (.int .i64 0)), none⟩])
  (.cond (.t 50)
  (.seq (.ops [⟨some 2, .mv (.k (.bool false)), none⟩])
  .ret)
  .skip))
  (.seq (.seq (.ops [⟨some 51, .mv (.t 9), none⟩,
    ⟨some 52, .mv (.t 8), none⟩,
    ⟨some 53, .bin .neq (.t 51) (.t 52), none⟩])
  (.cond (.t 53)
  (.seq (.ops [⟨some 2, .mv (.k (.bool false)), none⟩])
  .ret)
  .skip))
  (.seq (.ops [⟨some 54, .mv (.t 0), none⟩,
    ⟨some 55, .call 38 [(.t 54)], none⟩,
    ⟨some 56, .call 39 [(.t 55)], none⟩,
    ⟨some 10, .al (.agg [.agg [.int .i64 0, .nil, .nil], .nil, .nil]), none⟩,
    ⟨none, .st 5 (.t 10) (.t 56), none⟩])
  (.seq (.seq (.ops [⟨some 57, .ld 5 true (.t 10), none⟩,
    ⟨some 58, .ld 5 true (.t 4), none⟩,
    ⟨some 59, .call 40 [(.t 57), (.t 58)], none⟩,
    ⟨some 60, .not (.t 59), none⟩])
  (.cond (.t 60)
  (.seq (.ops [⟨some 2, .mv (.k (.bool false)), none⟩])
  .ret)
  .skip))
  (.seq (.ops [⟨some 9, .mv (.k (.int .i64 1)), none⟩])
  (.seq (.ops [⟨some 61, .ld 5 true (.t 6), none⟩,
    ⟨some 62, .mv (.t 9), none⟩,
    ⟨some 63, .call 44 [(.t 61), (.t 62)], none⟩,
    ⟨some 9, .mv (.t 63), none⟩])
  (.seq (.seq (.ops [⟨some 64, .mv (.t 9), none⟩,
    ⟨some 65, .bin .lss (.t 64) (.k (.int .i64 0)), none⟩])
  (.cond (.t 65)
  (.seq (.ops [⟨some 2, .mv (.k (.bool false)), none⟩])
  .ret)
  .skip))
  (.seq (.seq (.ops [⟨some 66, .mv (.t 9), none⟩,
    ⟨some 67, .mv (.t 8), none⟩,
    ⟨some 68, .bin .neq (.t 66) (.t 67), none⟩])
  (.cond (.t 68)
  (.seq (.ops [⟨some 2, .mv (.k (.bool false)), none⟩])
  .ret)
  .skip))
  (.seq (.ops [⟨some 2, .mv (.k (.bool true)), none⟩])
  .ret)))))))))))))))))))))))))⟩
theorem c7 : compileF Try.prog [] 7 = some cf7 := by kernel_rfl
def mk_Str (x : ByteArray) (k : Int) : ByteArray := mtext k
set_option maxHeartbeats 8000000 in
theorem mark_StringS (xs : List ByteArray) (b0 c0 : Nat) (k : Int) (hk : 1 ≤ k) (hl : xs.length ≤ 1048576) (hB : k + (1 * xs.length : Nat) ≤ 50000000) : XC Try.prog 42 [.lsl 0 b0 xs.length c0, .int .i64 k] [(0, b0, .arr 1 (xs.map D.str) c0)] (fun d ls => d = .int .i64 (k + (1 * xs.length : Nat)) ∧ ls = [(0, b0, .arr 1 ((mkS mk_Str 1 xs k).map D.str) c0)]) := by
  refine XC.intro' hm [0] rfl c42 (Nat.le_of_ble_eq_true rfl) ?_
  conv => whnf
  repeat' (first | (refine g_op ?_; conv => whnf) | (refine And.intro ?_ ?_; (focus (first | exact rfl | exact Nat.le_of_ble_eq_true rfl | decide | omega | fail)); conv => whnf) | (refine g_seq ?_) | (refine XS.go ?_) | (refine g_ops ?_) | (refine g_loop ?_) | (refine g_nil ?_; conv => whnf) | (refine g_block ?_) | fail)
  refine XLc.mkG (α := Nat) (fun i gs => i ≤ xs.length ∧ gs 0 = b0) (fun i => xs.length - i) (fun i gs => [.lsl 0 (gs 0) xs.length c0, .int .i64 (k + (1 * i : Nat)), .any, .any, .any, .int .i64 (i : Int)]) (fun i gs => [(0, .arr 1 ((mkP mk_Str 1 xs k i).map D.str) c0)]) 0 ⟨Nat.zero_le _, rfl⟩ ?_ ?_
  · refine ⟨?_, ?_⟩
    · repeat' (first | exact True.intro | refine And.intro rfl ?_ | refine And.intro (congrArg (D.int .i64) (by simp)) ?_)
    · exact And.intro (by rw [mkP_zero]; rfl) True.intro
  intro i gs hI
  obtain ⟨hi0, hg⟩ := hI
  subst hg
  repeat' (first | (refine g_op ?_; conv => whnf) | (refine And.intro ?_ ?_; (focus (first | exact rfl | exact Nat.le_of_ble_eq_true rfl | decide | omega | fail)); conv => whnf) | (refine g_seq ?_) | (refine XS.go ?_) | (refine g_ops ?_) | (refine g_nil ?_; conv => whnf) | (refine g_cond ?_; conv => whnf) | fail)
  refine Br.mk (fun hb => ?_) (fun hb => ?_)
  · have hlt : i < xs.length := by simpa using hb
    have hj0 : i < ((mkP mk_Str 1 xs k i).map D.str).length := by rw [List.length_map, mkP_len]; exact hlt
    have he0 : ((mkP mk_Str 1 xs k i).map D.str).getD i .any = D.str (xs.getD i default) := by
      rw [elt_map (by rw [mkP_len]; exact hlt), mkP_get _ hlt]
    have hfin : ∀ d, d = D.str (mk_Str (xs.getD i default) (k + (1 * i : Nat))) → ((mkP mk_Str 1 xs k i).map D.str).set i d = (mkP mk_Str 1 xs k (i + 1)).map D.str := fun d h => by
      rw [h, ← mkP_set default hlt, List.map_set]
    have hKe : k + (1 * (i + 1) : Nat) = k + (1 * i : Nat) + 1 := by omega
    have hK0 : 1 ≤ k + (1 * i : Nat) := by omega
    have hK1 : k + (1 * i : Nat) + 1 ≤ 50000000 := by omega
    generalize hK : k + (1 * i : Nat) = K at hfin hK0 hK1 hKe ⊢
    have hw1 : IntKind.wrap .i64 (K + 1) = (K + 1) := wrap_ok (by omega) (by omega)
    have ht0 := mark_text K (by omega) (by omega)
    conv => whnf
    repeat' (first | (refine z_st1 ?_; first | (refine z_st rfl rfl rfl (by first | (simp only [List.length_set]; assumption) | assumption | omega) (by first | exact elt_set (by first | assumption | (simp only [List.length_set]; assumption)) | assumption) rfl rfl ?_; conv => whnf) | (refine z_st0 ?_; conv => whnf)) | (refine z_ix1 ?_; first | (refine z_ix rfl rfl rfl rfl rfl ⟨by first | omega | (simp only [decide_eq_true_eq, Bool.not_eq_true', Bool.or_eq_false_iff, decide_eq_false_iff_not, Bool.and_eq_true, Bool.not_eq_false'] at *; omega), by first | omega | (simp only [decide_eq_true_eq, Bool.not_eq_true', Bool.or_eq_false_iff, decide_eq_false_iff_not, Bool.and_eq_true, Bool.not_eq_false'] at *; omega)⟩ ?_; conv => whnf) | (refine z_ix0 rfl rfl ?_; conv => whnf)) | (refine z_op ?_ ?_; (focus exact rfl); conv => whnf) | (refine zs_ops ?_ ?_; (focus exact rfl)) | (refine z_nil fun vals => ?_; conv => whnf) | (refine z_call ?_ ?_; (focus exact rfl)) | (refine RC.of (ht0) ?_ ?_; (focus exact rfl); conv => whnf) | (refine g_op ?_; conv => whnf) | (refine And.intro ?_ ?_; (focus (first | exact rfl | exact Nat.le_of_ble_eq_true rfl | decide | omega | fail)); conv => whnf) | (refine g_seq ?_) | (refine XS.go ?_) | (refine g_ops ?_) | (refine g_nil ?_; conv => whnf) | (refine g_skip ?_; conv => whnf) | (refine g_block ?_) | fail)
    have hw : IntKind.wrap .i64 ((i : Int) + 1) = ((i + 1 : Nat) : Int) := by rw [wrap_ok (by omega) (by omega)]; rfl
    refine ⟨i + 1, ⟨by omega, rfl⟩, by omega, ?_, ?_⟩
    · repeat' (first | exact True.intro | refine And.intro (congrArg (D.int .i64) hw) ?_ | refine And.intro rfl ?_ | refine And.intro (congrArg (D.int .i64) (by simp only [hw1]; omega)) ?_)
    · refine And.intro ?_ True.intro
      refine congrArg (fun l => some (D.arr 1 l c0)) ?_
      exact hfin _ rfl
  have hi : i = xs.length := by
    have : ¬ i < xs.length := by simpa using hb
    omega
  subst hi
  rw [mkP_all]
  conv => whnf
  repeat' (first | (refine g_op ?_; conv => whnf) | (refine And.intro ?_ ?_; (focus (first | exact rfl | exact Nat.le_of_ble_eq_true rfl | decide | omega | fail)); conv => whnf) | (refine g_seq ?_) | (refine XS.go ?_) | (refine g_ops ?_) | (refine g_nil ?_; conv => whnf) | (refine g_ret ?_; conv => whnf) | (refine g_exit ?_; conv => whnf) | (refine r_t ?_; conv => whnf) | (refine r_nil ?_; conv => whnf) | fail)
  first | exact ⟨rfl, rfl⟩ | exact rfl
theorem markx_StringS (s : Nat) (xs : List ByteArray) (b0 c0 : Nat) (k : Int) (hk : 1 ≤ k) (hl : xs.length ≤ 1048576) (hB : k + (1 * xs.length : Nat) ≤ 50000000) : XC Try.prog 42 [.lsl s b0 xs.length c0, .int .i64 k] [(s, b0, .arr 1 (xs.map D.str) c0)] (fun d ls => d = .int .i64 (k + (1 * xs.length : Nat)) ∧ ls = [(s, b0, .arr 1 ((mkS mk_Str 1 xs k).map D.str) c0)]) := by
  refine (mark_StringS xs b0 c0 k hk hl hB).ren (fun _ _ _ h => h) rfl (fun d ls ⟨h1, h2⟩ => ?_)
  subst h1 h2
  exact ⟨_, _, ⟨rfl, rfl⟩, fun _ _ _ h => HolL.ren rfl h, fun _ _ _ h => h⟩
theorem tox_StringS (t : Nat) (l : List ByteArray) (hl : l.length ≤ 1048576) : XC Try.prog 38 [.ro 1 (l.map D.str)] [] (fun d ls => ∃ b, d = .lsl t b l.length l.length ∧ ls = [(t, b, .arr 1 (l.map D.str) l.length)]) := by
  have h := toStr_xc hm c38 (ds := l.map D.str) (by decide) (by rw [List.length_map]; exact hl) (fun d hd => by obtain ⟨x, _, rfl⟩ := List.mem_map.1 hd; exact ⟨x, rfl⟩)
  rw [List.length_map] at h
  refine h.ren (fun _ _ _ h => h) rfl (fun d ls ⟨b, h1, h2⟩ => ?_)
  subst h1 h2
  exact ⟨_, _, ⟨b, rfl, rfl⟩, fun _ _ _ h => HolL.ren rfl h, fun _ _ _ h => h⟩
theorem spec_NWG (s : Nat) (l : List ByteArray) (hl : l.length ≤ 1048576) : XC Try.prog 37 [.ro 1 (l.map D.str)] [] (fun d ls => ∃ b c, d = nwO s b (nwL l).length c ∧ ls = [(s, b, .arr 9 (((nwL l).map newM).map Mate.D) c)]) := by
  refine (spec_NW l hl).ren (fun _ _ _ h => h) rfl (fun d ls ⟨b, c, h1, h2⟩ => ?_)
  subst h1 h2
  exact ⟨_, _, ⟨b, c, rfl, rfl⟩, fun _ _ _ h => HolL.ren rfl h, fun _ _ _ h => h⟩
theorem impl_NWG (s : Nat) (l : List ByteArray) (hl : l.length ≤ 1048576) : XC Try.prog 39 [.ro 1 (l.map D.str)] [] (fun d ls => ∃ b c, d = nwO s b (nwL l).length c ∧ ls = [(s, b, .arr 9 ((nwL l).map mateN) c)]) := by
  refine (impl_NW l hl).ren (fun _ _ _ h => h) rfl (fun d ls ⟨b, c, h1, h2⟩ => ?_)
  subst h1 h2
  exact ⟨_, _, ⟨b, c, rfl, rfl⟩, fun _ _ _ h => HolL.ren rfl h, fun _ _ _ h => h⟩
theorem frz_strs (s b c e : Nat) (l : List ByteArray) : frzVs [(s, b, .arr 1 (l.map D.str) e)] [.lsl s b l.length c] = [.ro 1 (l.map D.str)] := by
  have t1 : (D.frozs (l.map D.str)).take l.length = l.map D.str := by rw [D.frozs_map (fun _ => rfl), List.take_of_length_le (by simp)]
  have e1 : frzVs [(s, b, .arr 1 (l.map D.str) e)] [.lsl s b l.length c] = [.ro 1 ((D.frozs (l.map D.str)).take l.length)] := by
    simp [frzVs, frzV, frzL]
  rw [e1, t1]
theorem impl_NWB (l : List ByteArray) (hl : l.length ≤ 1048576) (b1 c1 : Nat) : XC Try.prog 39 [.lsl 31 b1 l.length c1] [(31, b1, .arr 1 (l.map D.str) c1)] (fun d ls => ∃ b c, d = nwO 41 b (nwL l).length c ∧ ls = [(31, b1, .arr 1 (l.map D.str) c1), (41, b, .arr 9 ((nwL l).map mateN) c)]) := by
  have h := impl_NWG 41 l hl
  rw [← frz_strs 31 b1 c1 c1 l] at h
  refine (XC.bor h ⟨⟨rfl, Nat.le_of_eq (by simp)⟩, True.intro⟩ (fun d l2 ⟨b, c, h1, h2⟩ => by subst h1 h2; exact ⟨rfl, by show ((D.arr 9 ((nwL l).map mateN) c).cl && true) = true; rw [Bool.and_true]; exact D.cls_map (fun _ => rfl) _⟩)).mono fun d ls ⟨l2, h1, b, c, h2, h3⟩ => ?_
  subst h1 h2 h3
  exact ⟨b, c, rfl, rfl⟩
theorem nwL_len (l : List ByteArray) : (nwL l).length ≤ l.length := by
  unfold nwL
  split
  · exact Nat.le_refl _
  · exact Nat.zero_le _
theorem nw_small {L : List ByteArray} (hl : L.length ≤ 1048576) : (nwW L).small := by
  have hn : ∀ n : ByteArray, (newM n).small := fun n => by
    constructor <;> exact ⟨Nat.zero_le _, fun y hy => absurd hy List.not_mem_nil⟩
  constructor
  · constructor <;> exact ⟨Nat.zero_le _, fun y hy => absurd hy List.not_mem_nil⟩
  · refine ⟨by show (L.map newM).length ≤ _; rw [List.length_map]; exact hl, fun y hy => ?_⟩
    obtain ⟨n, _, rfl⟩ := List.mem_map.1 hy
    exact hn n
  · exact ⟨Nat.zero_le _, fun y hy => absurd hy List.not_mem_nil⟩
set_option maxHeartbeats 4000000 in
theorem law_NW (l : List ByteArray) (hw : l.length ≤ 9223372036854775807 ∧ ∀ y ∈ l, y.size ≤ 9223372036854775807) : Rdr Try.prog 7 [.ro 1 (l.map D.str)] (.bool true) := by
  refine Rdr.intro' hm c7 (Nat.le_of_ble_eq_true rfl) ?_
  conv => whnf
  repeat' (first | (refine g_op ?_; conv => whnf) | (refine And.intro ?_ ?_; (focus (first | exact rfl | exact Nat.le_of_ble_eq_true rfl | decide | omega | fail)); conv => whnf) | (refine g_seq ?_) | (refine XS.go ?_) | (refine g_ops ?_) | (refine g_nil ?_; conv => whnf) | fail)
  refine XCL.ask (sz_StringS l _ hw (by decide) (by decide)) (fun d h => ?_)
  obtain ⟨n, rfl, hn⟩ := h
  conv => whnf
  repeat' (first | (refine g_op ?_; conv => whnf) | (refine And.intro ?_ ?_; (focus (first | exact rfl | exact Nat.le_of_ble_eq_true rfl | decide | omega | fail)); conv => whnf) | (refine g_seq ?_) | (refine XS.go ?_) | (refine g_ops ?_) | (refine g_nil ?_; conv => whnf) | (refine g_cond ?_; conv => whnf) | fail)
  refine Br.mk (fun hb => ?_) (fun hb => ?_)
  · conv => whnf
    repeat' (first | (refine g_op ?_; conv => whnf) | (refine And.intro ?_ ?_; (focus (first | exact rfl | exact Nat.le_of_ble_eq_true rfl | decide | omega | fail)); conv => whnf) | (refine g_seq ?_) | (refine XS.go ?_) | (refine g_ops ?_) | (refine g_nil ?_; conv => whnf) | (refine g_ret ?_; conv => whnf) | (refine r_t ?_; conv => whnf) | (refine r_nil ?_; conv => whnf) | fail)
    rfl
  have hs := (hn (Int.not_lt.1 (of_decide_eq_false hb))).2
  have hl := hs.1
  have hLl := nwL_len l
  have hsp := spec_NWG 71 l hl
  have him := impl_NWB l hl
  have him2 := impl_NWG 51 l hl
  generalize nwL l = L at *
  have hR := nw_small (L := L) (by omega)
  have hmm : L.map (fun n => (newM n).D) = (L.map newM).map Mate.D := by rw [List.map_map]; rfl
  conv => whnf
  repeat' (first | (refine g_skip ?_; conv => whnf) | fail)
  refine XS.go ?_
  repeat' (first | (refine g_op ?_; conv => whnf) | (refine And.intro ?_ ?_; (focus (first | exact rfl | exact Nat.le_of_ble_eq_true rfl | decide | omega | fail)); conv => whnf) | (refine g_seq ?_) | (refine g_ops ?_) | (refine XCL.of_rdr (to_StringS l hs) ?_; conv => whnf) | fail)
  refine XCL.of_XC (ls := []) True.intro (hsp.mono fun d ls h => ?_)
  obtain ⟨p1, q1, rfl, rfl⟩ := h
  conv => whnf
  repeat' (first | (refine g_op ?_; conv => whnf) | (refine And.intro ?_ ?_; (focus (first | exact rfl | exact Nat.le_of_ble_eq_true rfl | decide | omega | fail)); conv => whnf) | (refine g_seq ?_) | (refine XS.go ?_) | (refine g_ops ?_) | (refine g_nil ?_; conv => whnf) | (refine fun _ => ?_; conv => whnf) | fail)
  refine XCL.of_XC (ls := []) True.intro ((tox_StringS 31 l hl).mono fun d ls h => ?_)
  obtain ⟨b1, rfl, rfl⟩ := h
  conv => whnf
  repeat' (first | (refine g_op ?_; conv => whnf) | (refine And.intro ?_ ?_; (focus (first | exact rfl | exact Nat.le_of_ble_eq_true rfl | decide | omega | fail)); conv => whnf) | (refine g_seq ?_) | (refine XS.go ?_) | (refine g_ops ?_) | (refine g_nil ?_; conv => whnf) | fail)
  refine XCL.of_XC (ls := [(31, b1, .arr 1 (l.map D.str) l.length)]) ⟨rfl, rfl, rfl, True.intro⟩ ((him b1 _).mono fun d ls h => ?_)
  obtain ⟨d1, e1, rfl, rfl⟩ := h
  conv => whnf
  repeat' (first | (refine g_op ?_; conv => whnf) | (refine And.intro ?_ ?_; (focus (first | exact rfl | exact Nat.le_of_ble_eq_true rfl | decide | omega | fail)); conv => whnf) | (refine g_nil ?_; conv => whnf) | (refine fun _ => ?_; conv => whnf) | fail)
  refine XS.wkRow 41 mateN (fun n => (newM n).D) L rfl mateN_imp ?_
  rw [hmm]
  refine XS.go ?_
  repeat' (first | (refine g_op ?_; conv => whnf) | (refine And.intro ?_ ?_; (focus (first | exact rfl | exact Nat.le_of_ble_eq_true rfl | decide | omega | fail)); conv => whnf) | (refine g_seq ?_) | (refine g_ops ?_) | fail)
  refine XCL.of_rdrB (eq_MateWorld (nwW L) hR) (.cons (Bor.nw rfl rfl rfl) (.cons (Bor.nw rfl rfl rfl) .nil)) rfl ?_
  conv => whnf
  repeat' (first | (refine g_op ?_; conv => whnf) | (refine And.intro ?_ ?_; (focus (first | exact rfl | exact Nat.le_of_ble_eq_true rfl | decide | omega | fail)); conv => whnf) | (refine g_seq ?_) | (refine XS.go ?_) | (refine g_ops ?_) | (refine g_nil ?_; conv => whnf) | (refine Br.f ?_ ?_; (focus (first | assumption | exact rfl)); conv => whnf) | (refine g_cond ?_; conv => whnf) | (refine g_skip ?_; conv => whnf) | (refine XCL.of_rdr (to_StringS l hs) ?_; conv => whnf) | fail)
  refine XCL.of_rdrB (eq_StringS l hs) (.cons (Bor.rowM rfl rfl rfl (fun _ => rfl)) (.cons (Bor.refl _ _) .nil)) rfl ?_
  conv => whnf
  repeat' (first | (refine g_op ?_; conv => whnf) | (refine And.intro ?_ ?_; (focus (first | exact rfl | exact Nat.le_of_ble_eq_true rfl | decide | omega | fail)); conv => whnf) | (refine g_seq ?_) | (refine XS.go ?_) | (refine g_ops ?_) | (refine g_nil ?_; conv => whnf) | (refine Br.f ?_ ?_; (focus (first | assumption | exact rfl)); conv => whnf) | (refine g_cond ?_; conv => whnf) | (refine g_skip ?_; conv => whnf) | fail)
  have hB : 1 + (1 * l.length : Nat) ≤ (50000000 : Int) := by omega
  have hB2 : 1 + (5 * L.length : Nat) ≤ (50000000 : Int) := by omega
  have h0 : 0 ≤ (1 + (1 * l.length : Nat) : Int) := by omega
  have h2 : 0 ≤ (1 + (5 * L.length : Nat) : Int) := by omega
  have hM0 : decide ((1 + (1 * l.length : Nat) : Int) < 0) = false := decide_eq_false (by omega)
  have hM2 : decide ((1 + (5 * L.length : Nat) : Int) < 0) = false := decide_eq_false (by omega)
  have hmk := markx_StringS 31 l b1 l.length 1 (by decide) hl hB
  have hmk2 := mark_World L d1 e1 1 (by decide) (by omega) hB2
  have hhd := held_World L 1 (by decide) (by omega) hB2
  generalize (1 + (1 * l.length : Nat) : Int) = M at *
  generalize (1 + (5 * L.length : Nat) : Int) = M2 at *
  refine XCL.of_XC (ls := [(31, b1, .arr 1 (l.map D.str) l.length)]) ⟨rfl, rfl, rfl, True.intro⟩ (hmk.mono fun d ls h => ?_)
  obtain ⟨rfl, rfl⟩ := h
  conv => whnf
  repeat' (first | (refine g_op ?_; conv => whnf) | (refine And.intro ?_ ?_; (focus (first | exact rfl | exact Nat.le_of_ble_eq_true rfl | decide | omega | fail)); conv => whnf) | (refine g_seq ?_) | (refine XS.go ?_) | (refine g_ops ?_) | (refine g_nil ?_; conv => whnf) | (refine g_opg ?_; conv => whnf) | (refine Br.f ?_ ?_; (focus (first | assumption | exact rfl)); conv => whnf) | fail)
  refine XCL.of_rdrB (eq_MateWorld (nwW L) hR) (.cons (Bor.nw rfl rfl rfl) (.cons (Bor.nw rfl rfl rfl) .nil)) rfl ?_
  conv => whnf
  repeat' (first | (refine g_op ?_; conv => whnf) | (refine And.intro ?_ ?_; (focus (first | exact rfl | exact Nat.le_of_ble_eq_true rfl | decide | omega | fail)); conv => whnf) | (refine g_seq ?_) | (refine XS.go ?_) | (refine g_ops ?_) | (refine g_nil ?_; conv => whnf) | (refine g_opg ?_; conv => whnf) | (refine Br.f ?_ ?_; (focus (first | assumption | exact rfl)); conv => whnf) | (refine g_cond ?_; conv => whnf) | (refine g_skip ?_; conv => whnf) | fail)
  refine XCL.of_XC (ls := [(41, d1, .arr 9 ((L.map newM).map Mate.D) e1)]) ⟨rfl, rfl, rfl, True.intro⟩ (hmk2.mono fun d ls h => ?_)
  obtain ⟨rfl, rfl⟩ := h
  conv => whnf
  repeat' (first | (refine g_op ?_; conv => whnf) | (refine And.intro ?_ ?_; (focus (first | exact rfl | exact Nat.le_of_ble_eq_true rfl | decide | omega | fail)); conv => whnf) | (refine g_seq ?_) | (refine XS.go ?_) | (refine g_ops ?_) | (refine g_nil ?_; conv => whnf) | fail)
  refine XCL.of_rdrB hhd (.cons (Bor.nwM rfl rfl rfl) (.cons (Bor.refl _ _) .nil)) rfl ?_
  conv => whnf
  repeat' (first | (refine g_op ?_; conv => whnf) | (refine And.intro ?_ ?_; (focus (first | exact rfl | exact Nat.le_of_ble_eq_true rfl | decide | omega | fail)); conv => whnf) | (refine g_seq ?_) | (refine XS.go ?_) | (refine g_ops ?_) | (refine g_nil ?_; conv => whnf) | (refine Br.f ?_ ?_; (focus (first | assumption | exact rfl)); conv => whnf) | (refine g_cond ?_; conv => whnf) | (refine g_skip ?_; conv => whnf) | fail)
  refine Br.f (by simp) ?_
  conv => whnf
  repeat' (first | (refine g_op ?_; conv => whnf) | (refine And.intro ?_ ?_; (focus (first | exact rfl | exact Nat.le_of_ble_eq_true rfl | decide | omega | fail)); conv => whnf) | (refine g_seq ?_) | (refine XS.go ?_) | (refine g_ops ?_) | (refine g_skip ?_; conv => whnf) | (refine XCL.of_rdr (to_StringS l hs) ?_; conv => whnf) | fail)
  refine XCL.of_XC (ls := []) True.intro (him2.mono fun d ls h => ?_)
  obtain ⟨v1, w1, rfl, rfl⟩ := h
  conv => whnf
  repeat' (first | (refine g_op ?_; conv => whnf) | (refine And.intro ?_ ?_; (focus (first | exact rfl | exact Nat.le_of_ble_eq_true rfl | decide | omega | fail)); conv => whnf) | (refine g_nil ?_; conv => whnf) | (refine fun _ => ?_; conv => whnf) | fail)
  refine XS.wkRow 51 mateN (fun n => (newM n).D) L rfl mateN_imp ?_
  rw [hmm]
  refine XS.go ?_
  repeat' (first | (refine g_op ?_; conv => whnf) | (refine And.intro ?_ ?_; (focus (first | exact rfl | exact Nat.le_of_ble_eq_true rfl | decide | omega | fail)); conv => whnf) | (refine g_seq ?_) | (refine g_ops ?_) | fail)
  refine XCL.of_rdrB (eq_MateWorld (nwW L) hR) (.cons (Bor.nw rfl rfl rfl) (.cons (Bor.nw rfl rfl rfl) .nil)) rfl ?_
  conv => whnf
  repeat' (first | (refine g_op ?_; conv => whnf) | (refine And.intro ?_ ?_; (focus (first | exact rfl | exact Nat.le_of_ble_eq_true rfl | decide | omega | fail)); conv => whnf) | (refine g_seq ?_) | (refine XS.go ?_) | (refine g_ops ?_) | (refine g_nil ?_; conv => whnf) | (refine Br.f ?_ ?_; (focus (first | assumption | exact rfl)); conv => whnf) | (refine g_cond ?_; conv => whnf) | (refine g_skip ?_; conv => whnf) | fail)
  refine XCL.of_rdrB hhd (.cons (Bor.nwM rfl rfl rfl) (.cons (Bor.refl _ _) .nil)) rfl ?_
  conv => whnf
  repeat' (first | (refine g_op ?_; conv => whnf) | (refine And.intro ?_ ?_; (focus (first | exact rfl | exact Nat.le_of_ble_eq_true rfl | decide | omega | fail)); conv => whnf) | (refine g_seq ?_) | (refine XS.go ?_) | (refine g_ops ?_) | (refine g_nil ?_; conv => whnf) | (refine Br.f ?_ ?_; (focus (first | assumption | exact rfl)); conv => whnf) | (refine g_cond ?_; conv => whnf) | (refine g_skip ?_; conv => whnf) | fail)
  refine Br.f (by simp) ?_
  conv => whnf
  repeat' (first | (refine g_op ?_; conv => whnf) | (refine And.intro ?_ ?_; (focus (first | exact rfl | exact Nat.le_of_ble_eq_true rfl | decide | omega | fail)); conv => whnf) | (refine g_seq ?_) | (refine XS.go ?_) | (refine g_ops ?_) | (refine g_nil ?_; conv => whnf) | (refine g_skip ?_; conv => whnf) | (refine g_ret ?_; conv => whnf) | (refine r_t ?_; conv => whnf) | (refine r_nil ?_; conv => whnf) | fail)
  rfl
end Go.Ab
