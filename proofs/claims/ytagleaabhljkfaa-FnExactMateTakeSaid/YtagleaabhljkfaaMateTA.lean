/- Steps towards the law: contracts of functions and facts of lists. -/
import Derived.Test.YtagleaabhljkfaaMateS
import Derived.Test.YtagleaabhljkfaaRows
set_option linter.unusedSimpArgs false
set_option linter.unusedVariables false
namespace Go.Ab
open Go Go.RowKit Go.Proofs
attribute [local irreducible] XC Rdr IntKind.wrap xw xos xqs xr xd
set_option maxRecDepth 100000

theorem XS.capLe {P : Program} {n : Nat} {st : St} {cc : CC} {Q : Post} (s : Nat) {es cp : Nat} {ds : List Go.Ab.D} (hl : st.lc s = some (.arr es ds cp)) (h : ds.length ≤ cp → XS P n cc st Q) : XS P n cc st Q :=
  ⟨fun hm nq c hc F g a w hH => by
    obtain ⟨Fs, hO⟩ := hH.locs s _ hl
    have hle : ds.length ≤ cp := by
      rcases hO.loc with ⟨_, rfl, _⟩ | ⟨_, _, _, _, _, _, q, _⟩
      · exact Nat.zero_le _
      · exact q
    exact (h hle).sem hm nq c hc F g a w hH⟩
theorem noL_app {xs caps : List Go.Ab.D} (h1 : xs.all D.noL = true) (h2 : caps.all D.noL = true) : (xs.all D.noL && caps.all D.noL) = true := by rw [h1, h2]; rfl
theorem idxN_first {f : Nat → Bool} : ∀ {k i j : Nat}, idxN f k i = (j : Int) → ∀ m, i ≤ m → m < j → f m = false
  | 0, i, j, h, m, h1, h2 => by
    have : (-1 : Int) = (j : Int) := h
    omega
  | k + 1, i, j, h, m, h1, h2 => by
    have e : idxN f (k + 1) i = if f i then (i : Int) else idxN f k (i + 1) := rfl
    rw [e] at h
    split at h
    · omega
    · rename_i hf
      by_cases hm : m = i
      · subst hm; simpa using hf
      · exact idxN_first h m (by omega) h2
theorem take_filter {α : Type} [Inhabited α] (p : α → Bool) {xs : List α} {j : Nat} (h : j < xs.length) : (xs.take (j + 1)).filter p = (xs.take j).filter p ++ if p (xs.getD j default) = true then [xs.getD j default] else [] := by
  have e : xs.getD j default = xs[j] := by simp [h]
  rw [e, List.take_succ_eq_append_getElem h, List.filter_append]
  congr 1
  simp only [List.filter_cons, List.filter_nil]
theorem filter_all {α : Type} [Inhabited α] (p : α → Bool) {xs : List α} : ∀ {j : Nat}, j ≤ xs.length → (∀ m, m < j → p (xs.getD m default) = true) → (xs.take j).filter p = xs.take j
  | 0, _, _ => by simp
  | j + 1, hj, h => by
    rw [take_filter p (by omega), filter_all p (by omega) (fun m hm => h m (by omega)), if_pos (h j (by omega))]
    have e : xs.getD j default = xs[j] := by simp [show j < xs.length by omega]
    rw [e, List.take_succ_eq_append_getElem (by omega)]
/-- The rounds of slices.DeleteFunc: i places are written, j are read. -/
structure DelI {α : Type} [Inhabited α] (p : α → Bool) (xs : List α) (i j : Nat) (C : List α) : Prop where
  le : i < j
  ji : j ≤ xs.length
  len : C.length = xs.length
  done : C.take i = (xs.take j).filter p
  rest : C.drop j = xs.drop j
theorem DelI.get {α : Type} [Inhabited α] {p : α → Bool} {xs : List α} {i j : Nat} {C : List α} (h : DelI p xs i j C) (hj : j < xs.length) : C.getD j default = xs.getD j default := by
  have e : ∀ (l : List α), l.getD j default = (l.drop j).getD 0 default := fun l => by simp [List.getD_eq_getElem?_getD, List.getElem?_drop]
  rw [e C, e xs, h.rest]
theorem DelI.keep {α : Type} [Inhabited α] {p : α → Bool} {xs : List α} {i j : Nat} {C : List α} (h : DelI p xs i j C) (hj : j < xs.length) (hp : p (xs.getD j default) = true) : DelI p xs (i + 1) (j + 1) (C.set i (xs.getD j default)) := by
  have hi : i < C.length := by have := h.le; have := h.len; omega
  refine ⟨by have := h.le; omega, by omega, by rw [List.length_set, h.len], ?_, ?_⟩
  · rw [take_filter p hj, if_pos hp, ← h.done, List.take_succ_eq_append_getElem (by rw [List.length_set]; exact hi)]
    congr 1
    · rw [List.take_set_of_le (Nat.le_refl _)]
    · simp
  · rw [List.drop_set_of_lt (by have := h.le; omega), ← List.drop_drop, ← List.drop_drop, h.rest]
theorem DelI.skip {α : Type} [Inhabited α] {p : α → Bool} {xs : List α} {i j : Nat} {C : List α} (h : DelI p xs i j C) (hj : j < xs.length) (hp : p (xs.getD j default) = false) : DelI p xs i (j + 1) C :=
  ⟨by have := h.le; omega, by omega, h.len, by rw [take_filter p hj, hp, if_neg Bool.false_ne_true, List.append_nil, h.done], by rw [← List.drop_drop, ← List.drop_drop, h.rest]⟩
theorem DelI.start {α : Type} [Inhabited α] {p : α → Bool} {xs : List α} {i : Nat} (hi : i < xs.length) (h : ∀ m, m < i → p (xs.getD m default) = true) (hp : p (xs.getD i default) = false) : DelI p xs i (i + 1) xs :=
  ⟨by omega, by omega, rfl, by rw [take_filter p hi, hp, if_neg Bool.false_ne_true, List.append_nil, filter_all p (by omega) h], rfl⟩
/-- slices.DeleteFunc[[]impl.MateAsk,impl.MateAsk] -/
def cf119 : CF := ⟨42, [.t 4],
  (.seq (.ops [⟨some 4, .mv (.k (.nil)), none⟩])
  (.seq (.ops [⟨some 8, .mv (.t 0), none⟩,
    ⟨some 9, .mv (.t 1), none⟩,
    ⟨some 10, .call 115 [(.t 8), (.t 9)], none⟩,
    ⟨some 5, .mv (.t 10), none⟩])
  (.seq (.seq (.ops [⟨some 11, .mv (.t 5), none⟩,
    ⟨some 12, .bin .eql (.t 11) (.k (.int .i64 (-1))), none⟩])
  (.cond (.t 12)
  (.seq (.ops [⟨some 13, .mv (.t 0), none⟩,
    ⟨some 4, .mv (.t 13), none⟩])
  .ret)
  .skip))
  (.seq (.seq (.ops [⟨some 14, .mv (.t 5), none⟩,
    ⟨some 15, .bin .add (.t 14) (.k (.int .i64 1)), none⟩,
    ⟨some 6, .mv (.t 15), none⟩])
  (.block 0 (.loop (.seq (.seq (.ops [⟨some 16, .mv (.t 6), none⟩,
    ⟨some 17, .mv (.t 0), none⟩,
    ⟨some 18, .lenl (.t 17), none⟩,
    ⟨some 19, .bin .lss (.t 16) (.t 18), none⟩])
  (.cond (.t 19)
  .skip
  (.exit 0)))
  (.seq (.block 1 (.seq (.ops [⟨some 22, .mv (.t 0), none⟩,
    ⟨some 23, .mv (.t 6), none⟩,
    ⟨some 24, .ix 4 (.t 22) (.t 23), none⟩,
    ⟨some 25, .ld 4 true (.t 24), none⟩,
    ⟨some 7, .al (.agg [.str ⟨#[]⟩, .str ⟨#[]⟩, .int .i64 0, .int .i64 0]), none⟩,
    ⟨none, .st 4 (.t 7) (.t 25), none⟩])
  (.seq (.ops [⟨some 26, .mv (.t 1), none⟩,
    ⟨some 27, .ld 4 true (.t 7), none⟩,
    ⟨some 28, .callv (.t 26) [(.t 27)], none⟩,
    ⟨some 29, .not (.t 28), none⟩])
  (.cond (.t 29)
  (.seq (.ops [⟨some 30, .mv (.t 0), none⟩,
    ⟨some 31, .mv (.t 5), none⟩,
    ⟨some 32, .ld 4 true (.t 7), none⟩,
    ⟨some 33, .ix 4 (.t 30) (.t 31), none⟩,
    ⟨none, .st 4 (.t 33) (.t 32), none⟩])
  (.ops [⟨some 34, .mv (.t 5), none⟩,
    ⟨some 35, .bin .add (.t 34) (.k (.int .i64 1)), none⟩,
    ⟨some 5, .mv (.t 35), none⟩]))
  .skip))))
  (.ops [⟨some 20, .mv (.t 6), none⟩,
    ⟨some 21, .bin .add (.t 20) (.k (.int .i64 1)), none⟩,
    ⟨some 6, .mv (.t 21), none⟩]))))))
  (.seq (.ops [⟨some 36, .mv (.t 0), none⟩,
    ⟨some 37, .mv (.t 5), none⟩,
    ⟨some 38, .slc 4 false (.t 36) (some (.t 37)) none, none⟩,
    ⟨none, .clr 4 (.t 38), none⟩])
  (.seq (.ops [⟨some 39, .mv (.t 0), none⟩,
    ⟨some 40, .mv (.t 5), none⟩,
    ⟨some 41, .slc 4 false (.t 39) none (some (.t 40)), none⟩,
    ⟨some 4, .mv (.t 41), none⟩])
  .ret))))))⟩
theorem c119 : compileF Try.prog [] 119 = some cf119 := by kernel_rfl
set_option maxHeartbeats 8000000 in
theorem indexF_MateAsk (f : Nat) (caps : List Go.Ab.D) (q : MateAsk → Bool) (hn : caps.all D.noL = true) (hq : ∀ a : MateAsk, Rdr Try.prog f (a.D :: caps) (.bool (q a))) (xs : List MateAsk) (hl : xs.length ≤ 1048576) : Rdr Try.prog 115 [.ro 4 (xs.map MateAsk.D), .fn f caps] (.int .i64 (idxN (fun i => q (xs.getD i default)) xs.length 0)) := by
  refine Rdr.intro' hm c115 (Nat.le_of_ble_eq_true rfl) ?_
  conv => whnf
  repeat' (first | (refine g_op ?_; conv => whnf) | (refine And.intro ?_ ?_; (focus (first | exact rfl | exact Nat.le_of_ble_eq_true rfl | decide | omega | fail)); conv => whnf) | (refine g_seq ?_) | (refine XS.go ?_) | (refine g_ops ?_) | (refine g_loop ?_) | (refine g_nil ?_; conv => whnf) | (refine g_block ?_) | fail)
  refine XLc.mkL (α := Nat) (fun i => i ≤ xs.length ∧ idxN (fun i => q (xs.getD i default)) xs.length 0 = idxN (fun i => q (xs.getD i default)) (xs.length - i) i) (fun i => xs.length - i) (fun i gs => [.ro 4 (xs.map MateAsk.D), .fn f caps, .any, .any, .any, .any, .any, .int .i64 ((xs.map MateAsk.D).length : Int), .int .i64 (i : Int)]) (fun i gs => []) 0 ⟨Nat.zero_le _, rfl⟩ ?_ ?_
  · refine ⟨?_, ?_⟩
    · repeat' (first | exact True.intro | refine And.intro rfl ?_)
    · repeat' (first | exact True.intro | refine And.intro rfl ?_)
  intro i gs hI
  obtain ⟨hi, hN⟩ := hI
  repeat' (first | (refine g_op ?_; conv => whnf) | (refine And.intro ?_ ?_; (focus (first | exact rfl | exact Nat.le_of_ble_eq_true rfl | decide | omega | fail)); conv => whnf) | (refine g_seq ?_) | (refine XS.go ?_) | (refine g_ops ?_) | (refine g_nil ?_; conv => whnf) | (refine g_cond ?_; conv => whnf) | fail)
  refine Br.mk (fun hb => ?_) (fun hb => ?_)
  · have hlt : i < xs.length := by simpa using hb
    have hw : IntKind.wrap .i64 ((i : Int) + 1) = ((i + 1 : Nat) : Int) := by rw [wrap_ok (by omega) (by omega)]; rfl
    have hit := fun h => idxN_hit (f := fun i => q (xs.getD i default)) hlt hN h
    have miss := fun h => idxN_miss (f := fun i => q (xs.getD i default)) hlt hN h
    clear hN hb
    conv => whnf
    repeat' (first | ((refine And.intro (noL_app rfl hn) ?_; conv => whnf)) | (refine z_ld1 ?_; first | (refine z_ld rfl rfl rfl rfl (by first | (simp only [List.length_set]; assumption) | assumption | omega) (by first | exact elt_set (by first | assumption | (simp only [List.length_set]; assumption)) | assumption) ?_; conv => whnf) | (refine z_ld0 rfl ?_; conv => whnf)) | (refine z_ix1 ?_; first | (refine z_ix rfl rfl rfl rfl rfl ⟨by first | omega | (simp only [decide_eq_true_eq, Bool.not_eq_true', Bool.or_eq_false_iff, decide_eq_false_iff_not, Bool.and_eq_true, Bool.not_eq_false'] at *; omega), by first | omega | (simp only [decide_eq_true_eq, Bool.not_eq_true', Bool.or_eq_false_iff, decide_eq_false_iff_not, Bool.and_eq_true, Bool.not_eq_false'] at *; omega)⟩ ?_; conv => whnf) | (refine z_ix0 rfl rfl ?_; conv => whnf)) | (refine z_op ?_ ?_; (focus exact rfl); conv => whnf) | (refine zs_ops ?_ ?_; (focus exact rfl)) | (refine z_nil fun vals => ?_; conv => whnf) | (refine z_eff ?_; conv => whnf) | (refine g_op ?_; conv => whnf) | (refine And.intro ?_ ?_; (focus (first | exact rfl | exact Nat.le_of_ble_eq_true rfl | decide | omega | fail)); conv => whnf) | (refine g_seq ?_) | (refine XS.go ?_) | (refine g_ops ?_) | (refine g_nil ?_; conv => whnf) | (refine g_cond ?_; conv => whnf) | (refine g_skip ?_; conv => whnf) | (refine g_ret ?_; conv => whnf) | (refine g_block ?_) | (refine r_t ?_; conv => whnf) | (refine r_nil ?_; conv => whnf) | (refine Br.mk (fun hb => ?_) (fun hb => ?_) <;> conv => whnf) | (refine XCL.of_rdr (hq (xs.getD (i : Int).toNat default)) ?_; conv => whnf) | fail)
    all_goals
      first
      | ((conv => lhs; whnf); first | (rw [hit hb]; done) | (rw [hit hb]; rfl) | fail)
      | (refine ⟨i + 1, ⟨by omega, miss hb⟩, by omega, ?_, ?_⟩
         · repeat' (first | exact True.intro | refine And.intro (congrArg (D.int .i64) hw) ?_ | refine And.intro rfl ?_)
         · repeat' (first | exact True.intro | refine And.intro rfl ?_))
  have hge : ¬ i < xs.length := by simpa using hb
  have hend : idxN (fun i => q (xs.getD i default)) xs.length 0 = -1 := by rw [hN, idxN_end hge]
  clear hN
  conv => whnf
  repeat' (first | (refine g_op ?_; conv => whnf) | (refine And.intro ?_ ?_; (focus (first | exact rfl | exact Nat.le_of_ble_eq_true rfl | decide | omega | fail)); conv => whnf) | (refine g_seq ?_) | (refine XS.go ?_) | (refine g_ops ?_) | (refine g_nil ?_; conv => whnf) | (refine g_ret ?_; conv => whnf) | (refine g_exit ?_; conv => whnf) | (refine r_t ?_; conv => whnf) | (refine r_nil ?_; conv => whnf) | fail)
  ((conv => lhs; whnf); first | (rw [hend]; done) | (rw [hend]; rfl))
set_option maxHeartbeats 8000000 in
theorem delF0_MateAsk (f : Nat) (caps : List Go.Ab.D) (q : MateAsk → Bool) (hn : caps.all D.noL = true) (hq : ∀ a : MateAsk, Rdr Try.prog f (a.D :: caps) (.bool (q a))) (xs : List MateAsk) (b c : Nat) (hl : xs.length ≤ 1048576) :
    XC Try.prog 119 [.lsl 0 b xs.length c, .fn f caps] [(0, b, .arr 4 (xs.map MateAsk.D) c)] (fun d ls => (d = .lsl 0 b (xs.filter fun a => !q a).length c ∨ d = .lvw 0 b 0 0 (xs.filter fun a => !q a).length c) ∧ ls = [(0, b, .arr 4 ((xs.filter fun a => !q a).map MateAsk.D) c)]) := by
  refine XC.intro' hm [0] rfl c119 (Nat.le_of_ble_eq_true rfl) ?_
  conv => whnf
  repeat' (first | (refine g_op ?_; conv => whnf) | (refine And.intro ?_ ?_; (focus (first | exact rfl | exact Nat.le_of_ble_eq_true rfl | decide | omega | fail)); conv => whnf) | (refine g_seq ?_) | (refine g_ops ?_) | (refine g_nil ?_; conv => whnf) | fail)
  refine XS.capLe 0 rfl fun hcp => ?_
  rw [List.length_map] at hcp
  have hix := indexF_MateAsk f caps q hn hq xs hl
  refine XS.go ?_
  repeat' (first | (refine g_op ?_; conv => whnf) | (refine And.intro ?_ ?_; (focus (first | exact rfl | exact Nat.le_of_ble_eq_true rfl | decide | omega | fail)); conv => whnf) | (refine g_seq ?_) | (refine g_ops ?_) | fail)
  refine XCL.of_rdrB hix (.cons (Bor.rowM rfl rfl rfl (fun _ => rfl)) (.cons (Bor.refl _ _) .nil)) rfl ?_
  rcases idxN_cases (f := fun i => q (xs.getD i default)) (k := xs.length) (i := 0) with ⟨h1, h2⟩ | ⟨j0, h1, _, h3, h4⟩
  · rw [h1]
    have hf : (xs.filter fun a => !q a) = xs := by
      have := filter_all (fun a => !q a) (xs := xs) (j := xs.length) (Nat.le_refl _) (fun m hm => by have := h2 m (Nat.zero_le _) (by omega); simp only [Bool.not_eq_true']; exact this)
      rwa [List.take_length] at this
    rw [hf]
    conv => whnf
    repeat' (first | (refine g_op ?_; conv => whnf) | (refine And.intro ?_ ?_; (focus (first | exact rfl | exact Nat.le_of_ble_eq_true rfl | decide | omega | fail)); conv => whnf) | (refine g_seq ?_) | (refine XS.go ?_) | (refine g_ops ?_) | (refine g_nil ?_; conv => whnf) | (refine Br.t ?_ ?_; (focus (first | assumption | exact rfl)); conv => whnf) | (refine g_cond ?_; conv => whnf) | (refine g_ret ?_; conv => whnf) | (refine r_t ?_; conv => whnf) | (refine r_nil ?_; conv => whnf) | fail)
    exact ⟨.inl rfl, rfl⟩
  have hmin := idxN_first h1
  rw [h1]
  have hd0 : DelI (fun a => !q a) xs j0 (j0 + 1) xs := DelI.start (by omega) (fun m hm => by have := hmin m (Nat.zero_le _) hm; simp only [Bool.not_eq_true']; exact this) (by simp only [Bool.not_eq_false']; exact h4)
  have hw0 : IntKind.wrap .i64 ((j0 : Int) + 1) = ((j0 + 1 : Nat) : Int) := by rw [wrap_ok (by omega) (by omega)]; rfl
  clear h1 h4 hmin hix
  conv => whnf
  repeat' (first | (refine g_op ?_; conv => whnf) | (refine And.intro ?_ ?_; (focus (first | exact rfl | exact Nat.le_of_ble_eq_true rfl | decide | omega | fail)); conv => whnf) | (refine g_seq ?_) | (refine XS.go ?_) | (refine g_ops ?_) | (refine g_loop ?_) | (refine g_nil ?_; conv => whnf) | (refine Br.f ?_ ?_; (focus (first | assumption | exact rfl)); conv => whnf) | (refine g_cond ?_; conv => whnf) | (refine g_skip ?_; conv => whnf) | (refine g_block ?_) | fail)
  refine XLc.mkG (α := Nat × Nat × List MateAsk) (fun y gs => DelI (fun a => !q a) xs y.1 y.2.1 y.2.2 ∧ gs 0 = b) (fun y => xs.length - y.2.1) (fun y gs => [.lsl 0 (gs 0) xs.length c, .fn f caps, .any, .any, .any, .int .i64 (y.1 : Int), .int .i64 (y.2.1 : Int)]) (fun y gs => [(0, .arr 4 (y.2.2.map MateAsk.D) c)]) (j0, j0 + 1, xs) ⟨hd0, rfl⟩ ?_ ?_
  · refine ⟨?_, ?_⟩
    · repeat' (first | exact True.intro | refine And.intro rfl ?_ | refine And.intro (congrArg (D.int .i64) hw0) ?_)
    · exact ⟨rfl, True.intro⟩
  intro y gs hI
  obtain ⟨i, j, C⟩ := y
  obtain ⟨hD, hg⟩ := hI
  dsimp only at hD hg ⊢
  subst hg
  have hlen := hD.len
  have hij := hD.le
  have hjn := hD.ji
  repeat' (first | (refine g_op ?_; conv => whnf) | (refine And.intro ?_ ?_; (focus (first | exact rfl | exact Nat.le_of_ble_eq_true rfl | decide | omega | fail)); conv => whnf) | (refine g_seq ?_) | (refine XS.go ?_) | (refine g_ops ?_) | (refine g_nil ?_; conv => whnf) | (refine g_cond ?_; conv => whnf) | fail)
  refine Br.mk (fun hb => ?_) (fun hb => ?_)
  · have hlt : j < xs.length := by simpa using hb
    clear hb
    have hj0 : j < (C.map MateAsk.D).length := by rw [List.length_map]; omega
    have he0 : (C.map MateAsk.D).getD j .any = (xs.getD j default).D := by rw [elt_map (by omega), hD.get hlt]
    have hj1 : i < (C.map MateAsk.D).length := by rw [List.length_map]; omega
    have he1 : (C.map MateAsk.D).getD i .any = (C.getD i default).D := elt_map (by omega)
    have hwj : IntKind.wrap .i64 ((j : Int) + 1) = ((j + 1 : Nat) : Int) := by rw [wrap_ok (by omega) (by omega)]; rfl
    have hwi : IntKind.wrap .i64 ((i : Int) + 1) = ((i + 1 : Nat) : Int) := by rw [wrap_ok (by omega) (by omega)]; rfl
    have hqj := hq (xs.getD j default)
    have hset : (C.map MateAsk.D).set i (xs.getD j default).D = (C.set i (xs.getD j default)).map MateAsk.D := by rw [List.map_set]
    cases hp : q (xs.getD j default) with
    | true =>
      rw [hp] at hqj
      conv => whnf
      repeat' (first | ((refine And.intro (noL_app rfl hn) ?_; conv => whnf)) | (refine z_ld1 ?_; first | (refine z_ld rfl rfl rfl rfl (by first | (simp only [List.length_set]; assumption) | assumption | omega) (by first | exact elt_set (by first | assumption | (simp only [List.length_set]; assumption)) | assumption) ?_; conv => whnf) | (refine z_ld0 rfl ?_; conv => whnf)) | (refine z_st1 ?_; first | (refine z_st rfl rfl rfl (by first | (simp only [List.length_set]; assumption) | assumption | omega) (by first | exact elt_set (by first | assumption | (simp only [List.length_set]; assumption)) | assumption) rfl rfl ?_; conv => whnf) | (refine z_st0 ?_; conv => whnf)) | (refine z_ix1 ?_; first | (refine z_ix rfl rfl rfl rfl rfl ⟨by first | omega | (simp only [decide_eq_true_eq, Bool.not_eq_true', Bool.or_eq_false_iff, decide_eq_false_iff_not, Bool.and_eq_true, Bool.not_eq_false'] at *; omega), by first | omega | (simp only [decide_eq_true_eq, Bool.not_eq_true', Bool.or_eq_false_iff, decide_eq_false_iff_not, Bool.and_eq_true, Bool.not_eq_false'] at *; omega)⟩ ?_; conv => whnf) | (refine z_ix0 rfl rfl ?_; conv => whnf)) | (refine z_op ?_ ?_; (focus exact rfl); conv => whnf) | (refine zs_ops ?_ ?_; (focus exact rfl)) | (refine z_nil fun vals => ?_; conv => whnf) | (refine z_eff ?_; conv => whnf) | (refine g_op ?_; conv => whnf) | (refine And.intro ?_ ?_; (focus (first | exact rfl | exact Nat.le_of_ble_eq_true rfl | decide | omega | fail)); conv => whnf) | (refine g_seq ?_) | (refine XS.go ?_) | (refine g_ops ?_) | (refine g_nil ?_; conv => whnf) | (refine Br.f ?_ ?_; (focus (first | assumption | exact rfl)); conv => whnf) | (refine g_cond ?_; conv => whnf) | (refine g_skip ?_; conv => whnf) | (refine g_block ?_) | (refine fun _ => ?_; conv => whnf) | (refine XCL.of_rdr (hqj) ?_; conv => whnf) | fail)
      refine ⟨(i, j + 1, C), ⟨hD.skip hlt (by rw [hp]; rfl), rfl⟩, by simp only; omega, ?_, ?_⟩
      · repeat' (first | exact True.intro | refine And.intro (congrArg (D.int .i64) hwj) ?_ | refine And.intro rfl ?_)
      · exact ⟨rfl, True.intro⟩
    | false =>
      rw [hp] at hqj
      conv => whnf
      repeat' (first | ((refine And.intro (noL_app rfl hn) ?_; conv => whnf)) | (refine z_ld1 ?_; first | (refine z_ld rfl rfl rfl rfl (by first | (simp only [List.length_set]; assumption) | assumption | omega) (by first | exact elt_set (by first | assumption | (simp only [List.length_set]; assumption)) | assumption) ?_; conv => whnf) | (refine z_ld0 rfl ?_; conv => whnf)) | (refine z_st1 ?_; first | (refine z_st rfl rfl rfl (by first | (simp only [List.length_set]; assumption) | assumption | omega) (by first | exact elt_set (by first | assumption | (simp only [List.length_set]; assumption)) | assumption) rfl rfl ?_; conv => whnf) | (refine z_st0 ?_; conv => whnf)) | (refine z_ix1 ?_; first | (refine z_ix rfl rfl rfl rfl rfl ⟨by first | omega | (simp only [decide_eq_true_eq, Bool.not_eq_true', Bool.or_eq_false_iff, decide_eq_false_iff_not, Bool.and_eq_true, Bool.not_eq_false'] at *; omega), by first | omega | (simp only [decide_eq_true_eq, Bool.not_eq_true', Bool.or_eq_false_iff, decide_eq_false_iff_not, Bool.and_eq_true, Bool.not_eq_false'] at *; omega)⟩ ?_; conv => whnf) | (refine z_ix0 rfl rfl ?_; conv => whnf)) | (refine z_op ?_ ?_; (focus exact rfl); conv => whnf) | (refine zs_ops ?_ ?_; (focus exact rfl)) | (refine z_nil fun vals => ?_; conv => whnf) | (refine z_eff ?_; conv => whnf) | (refine g_op ?_; conv => whnf) | (refine And.intro ?_ ?_; (focus (first | exact rfl | exact Nat.le_of_ble_eq_true rfl | decide | omega | fail)); conv => whnf) | (refine g_seq ?_) | (refine XS.go ?_) | (refine g_ops ?_) | (refine g_nil ?_; conv => whnf) | (refine Br.t ?_ ?_; (focus (first | assumption | exact rfl)); conv => whnf) | (refine g_cond ?_; conv => whnf) | (refine g_skip ?_; conv => whnf) | (refine g_block ?_) | (refine fun _ => ?_; conv => whnf) | (refine XCL.of_rdr (hqj) ?_; conv => whnf) | fail)
      refine ⟨(i + 1, j + 1, C.set i (xs.getD j default)), ⟨hD.keep hlt (by rw [hp]; rfl), rfl⟩, by simp only; omega, ?_, ?_⟩
      · repeat' (first | exact True.intro | refine And.intro (congrArg (D.int .i64) hwj) ?_ | refine And.intro (congrArg (D.int .i64) hwi) ?_ | refine And.intro rfl ?_)
      · exact ⟨congrArg (fun l => some (D.arr 4 l c)) hset, True.intro⟩
  have hj : j = xs.length := by
    have : ¬ j < xs.length := by simpa using hb
    omega
  subst hj
  clear hb
  have hfin : C.take i = xs.filter (fun a => !q a) := by rw [hD.done, List.take_length]
  have hfl : (xs.filter fun a => !q a).length = i := by rw [← hfin, List.length_take]; omega
  conv => whnf
  repeat' (first | (refine g_exit ?_; conv => whnf) | fail)
  refine XS.cut 0 i rfl (by rw [← List.map_take, hfin]) ?_
  refine XS.go ?_
  rw [← hfl] at hij ⊢
  have hle : (((xs.filter fun a => !q a).length : Nat) : Int) ≤ ((xs.length : Nat) : Int) := by omega
  have hlc : ((xs.length : Nat) : Int) ≤ ((c : Nat) : Int) := by omega
  have hkn : ((xs.filter fun a => !q a).map MateAsk.D).length ≤ (((xs.filter fun a => !q a).length : Nat) : Int).toNat := by simp
  have hup : (((xs.filter fun a => !q a).length : Nat) : Int).toNat + (((xs.length : Nat) : Int) - (((xs.filter fun a => !q a).length : Nat) : Int)).toNat ≤ c := by omega
  have h0c : (((xs.filter fun a => !q a).length : Nat) : Int) ≤ ((c : Nat) : Int) := by omega
  repeat' (first | ((refine And.intro hle ?_; conv => whnf)) | ((refine And.intro hlc ?_; conv => whnf)) | ((refine And.intro hkn ?_; conv => whnf)) | ((refine And.intro hup ?_; conv => whnf)) | ((refine And.intro h0c ?_; conv => whnf)) | (refine g_op ?_; conv => whnf) | (refine And.intro ?_ ?_; (focus (first | exact rfl | exact Nat.le_of_ble_eq_true rfl | decide | omega | fail)); conv => whnf) | (refine g_seq ?_) | (refine XS.go ?_) | (refine g_ops ?_) | (refine g_nil ?_; conv => whnf) | (refine g_ret ?_; conv => whnf) | (refine r_t ?_; conv => whnf) | (refine r_nil ?_; conv => whnf) | fail)
  exact ⟨.inr rfl, rfl⟩
theorem delF_MateAsk (f : Nat) (caps : List Go.Ab.D) (q : MateAsk → Bool) (hn : caps.all D.noL = true) (hq : ∀ a : MateAsk, Rdr Try.prog f (a.D :: caps) (.bool (q a))) (s : Nat) (xs : List MateAsk) (b c : Nat) (hl : xs.length ≤ 1048576) :
    XC Try.prog 119 [.lsl s b xs.length c, .fn f caps] [(s, b, .arr 4 (xs.map MateAsk.D) c)] (fun d ls => d = .lsl s b (xs.filter fun a => !q a).length c ∧ ls = [(s, b, .arr 4 ((xs.filter fun a => !q a).map MateAsk.D) c)]) := by
  refine (delF0_MateAsk f caps q hn hq xs b c hl).ren (fun _ _ _ h => h) rfl (fun d ls ⟨h1, h2⟩ => ?_)
  subst h2
  refine ⟨_, _, ⟨rfl, rfl⟩, fun _ _ _ h => HolL.ren rfl h, fun U w v hv => ?_⟩
  rcases h1 with h1 | h1
  · subst h1
    exact hv
  · subst h1
    exact hv
end Go.Ab
