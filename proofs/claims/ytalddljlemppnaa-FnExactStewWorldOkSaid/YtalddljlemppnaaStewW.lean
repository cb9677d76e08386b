/- Parts of the proofs of the steward laws. -/
import Derived.Test.YtalddljlemppnaaStewE
import Derived.Test.YtalddljlemppnaaRows
set_option linter.unusedSimpArgs false
set_option linter.unusedVariables false
namespace Go.Ab
open Go Go.RowKit Go.Proofs
attribute [local irreducible] XC Rdr IntKind.wrap xw xos xqs xr
set_option maxRecDepth 100000

/-- laws.szStewBookS -/
def cf90 : CF := ⟨27, [.t 4],
  (.seq (.ops [⟨some 4, .mv (.k (.int .i64 0)), none⟩])
  (.seq (.ops [⟨some 6, .mv (.t 1), none⟩,
    ⟨some 7, .mv (.t 0), none⟩,
    ⟨some 8, .lenl (.t 7), none⟩,
    ⟨some 9, .bin .sub (.t 6) (.t 8), none⟩,
    ⟨some 1, .mv (.t 9), none⟩])
  (.seq (.seq (.ops [⟨some 10, .mv (.t 1), none⟩,
    ⟨some 11, .bin .lss (.t 10) (.k (.int .i64 0)), none⟩])
  (.cond (.t 11)
  (.seq (.ops [⟨some 4, .mv (.k (.int .i64 (-1))), none⟩])
  .ret)
  .skip))
  (.seq (.seq (.ops [⟨some 5, .mv (.k (.int .i64 0)), none⟩])
  (.block 0 (.loop (.seq (.seq (.ops [⟨some 12, .mv (.t 5), none⟩,
    ⟨some 13, .mv (.t 0), none⟩,
    ⟨some 14, .lenl (.t 13), none⟩,
    ⟨some 15, .bin .lss (.t 12) (.t 14), none⟩])
  (.cond (.t 15)
  .skip
  (.exit 0)))
  (.seq (.block 1 (.seq (.ops [⟨some 18, .mv (.t 0), none⟩,
    ⟨some 19, .mv (.t 5), none⟩,
    ⟨some 20, .ix 4 (.t 18) (.t 19), none⟩,
    ⟨some 21, .ld 4 true (.t 20), none⟩,
    ⟨some 22, .mv (.t 1), none⟩,
    ⟨some 23, .call 22 [(.t 21), (.t 22)], none⟩,
    ⟨some 1, .mv (.t 23), none⟩])
  (.seq (.ops [⟨some 24, .mv (.t 1), none⟩,
    ⟨some 25, .bin .lss (.t 24) (.k (.int .i64 0)), none⟩])
  (.cond (.t 25)
  (.seq (.ops [⟨some 4, .mv (.k (.int .i64 (-1))), none⟩])
  .ret)
  .skip))))
  (.ops [⟨some 16, .mv (.t 5), none⟩,
    ⟨some 17, .bin .add (.t 16) (.k (.int .i64 1)), none⟩,
    ⟨some 5, .mv (.t 17), none⟩]))))))
  (.seq (.ops [⟨some 26, .mv (.t 1), none⟩,
    ⟨some 4, .mv (.t 26), none⟩])
  .ret)))))⟩
theorem c90 : compileF Try.prog [] 90 = some cf90 := by kernel_rfl
/-- laws.toStewBookS -/
def cf91 : CF := ⟨23, [.t 2],
  (.seq (.ops [⟨some 2, .mv (.k (.nil)), none⟩])
  (.seq (.ops [⟨some 5, .mv (.t 0), none⟩,
    ⟨some 6, .lenl (.t 5), none⟩,
    ⟨some 7, .mk (.agg [.int .i64 0, .nil, .nil, .nil]) 80 (.t 6) (.t 6), none⟩,
    ⟨some 3, .mv (.t 7), none⟩])
  (.seq (.seq (.ops [⟨some 4, .mv (.k (.int .i64 0)), none⟩])
  (.block 0 (.loop (.seq (.seq (.ops [⟨some 8, .mv (.t 4), none⟩,
    ⟨some 9, .mv (.t 0), none⟩,
    ⟨some 10, .lenl (.t 9), none⟩,
    ⟨some 11, .bin .lss (.t 8) (.t 10), none⟩])
  (.cond (.t 11)
  .skip
  (.exit 0)))
  (.seq (.block 1 (.ops [⟨some 14, .mv (.t 3), none⟩,
    ⟨some 15, .mv (.t 4), none⟩,
    ⟨some 16, .mv (.t 0), none⟩,
    ⟨some 17, .mv (.t 4), none⟩,
    ⟨some 18, .ix 4 (.t 16) (.t 17), none⟩,
    ⟨some 19, .ld 4 true (.t 18), none⟩,
    ⟨some 20, .call 23 [(.t 19)], none⟩,
    ⟨some 21, .ix 4 (.t 14) (.t 15), none⟩,
    ⟨none, .st 4 (.t 21) (.t 20), none⟩]))
  (.ops [⟨some 12, .mv (.t 4), none⟩,
    ⟨some 13, .bin .add (.t 12) (.k (.int .i64 1)), none⟩,
    ⟨some 4, .mv (.t 13), none⟩]))))))
  (.seq (.ops [⟨some 22, .mv (.t 3), none⟩,
    ⟨some 2, .mv (.t 22), none⟩])
  .ret))))⟩
theorem c91 : compileF Try.prog [] 91 = some cf91 := by kernel_rfl
/-- laws.eqStewBookS -/
def cf92 : CF := ⟨27, [.t 4],
  (.seq (.ops [⟨some 4, .mv (.k (.bool false)), none⟩])
  (.seq (.seq (.ops [⟨some 6, .mv (.t 0), none⟩,
    ⟨some 7, .lenl (.t 6), none⟩,
    ⟨some 8, .mv (.t 1), none⟩,
    ⟨some 9, .lenl (.t 8), none⟩,
    ⟨some 10, .bin .neq (.t 7) (.t 9), none⟩])
  (.cond (.t 10)
  (.seq (.ops [⟨some 4, .mv (.k (.bool false)), none⟩])
  .ret)
  .skip))
  (.seq (.seq (.ops [⟨some 5, .mv (.k (.int .i64 0)), none⟩])
  (.block 0 (.loop (.seq (.seq (.ops [⟨some 11, .mv (.t 5), none⟩,
    ⟨some 12, .mv (.t 0), none⟩,
    ⟨some 13, .lenl (.t 12), none⟩,
    ⟨some 14, .bin .lss (.t 11) (.t 13), none⟩])
  (.cond (.t 14)
  .skip
  (.exit 0)))
  (.seq (.block 1 (.seq (.quiet [⟨some 17, .mv (.t 0), none⟩,
    ⟨some 18, .mv (.t 5), none⟩,
    ⟨some 19, .ix 4 (.t 17) (.t 18), none⟩,
    ⟨some 20, .ld 4 true (.t 19), none⟩,
    ⟨some 21, .mv (.t 1), none⟩,
    ⟨some 22, .mv (.t 5), none⟩,
    ⟨some 23, .ix 4 (.t 21) (.t 22), none⟩,
    ⟨some 24, .ld 4 true (.t 23), none⟩,
    ⟨some 25, .call 24 [(.t 20), (.t 24)], none⟩,
    ⟨some 26, .not (.t 25), none⟩])
  (.cond (.t 26)
  (.seq (.ops [⟨some 4, .mv (.k (.bool false)), none⟩])
  .ret)
  .skip)))
  (.ops [⟨some 15, .mv (.t 5), none⟩,
    ⟨some 16, .bin .add (.t 15) (.k (.int .i64 1)), none⟩,
    ⟨some 5, .mv (.t 16), none⟩]))))))
  (.seq (.ops [⟨some 4, .mv (.k (.bool true)), none⟩])
  .ret))))⟩
theorem c92 : compileF Try.prog [] 92 = some cf92 := by kernel_rfl
/-- laws.szStewWorld -/
def cf25 : CF := ⟨18, [.t 4],
  (.seq (.ops [⟨some 2, .bx (.t 0), none⟩,
    ⟨some 4, .mv (.k (.int .i64 0)), none⟩])
  (.seq (.ops [⟨some 5, .fa 0 1 0 (.t 2), none⟩,
    ⟨some 6, .ld 1 false (.t 5), none⟩,
    ⟨some 7, .mv (.t 1), none⟩,
    ⟨some 8, .call 90 [(.t 6), (.t 7)], none⟩,
    ⟨some 1, .mv (.t 8), none⟩])
  (.seq (.seq (.ops [⟨some 9, .mv (.t 1), none⟩,
    ⟨some 10, .bin .lss (.t 9) (.k (.int .i64 0)), none⟩])
  (.cond (.t 10)
  (.seq (.ops [⟨some 4, .mv (.k (.int .i64 (-1))), none⟩])
  .ret)
  .skip))
  (.seq (.ops [⟨some 11, .fa 1 4 1 (.t 2), none⟩,
    ⟨some 12, .ld 4 true (.t 11), none⟩,
    ⟨some 13, .mv (.t 1), none⟩,
    ⟨some 14, .call 22 [(.t 12), (.t 13)], none⟩,
    ⟨some 1, .mv (.t 14), none⟩])
  (.seq (.seq (.ops [⟨some 15, .mv (.t 1), none⟩,
    ⟨some 16, .bin .lss (.t 15) (.k (.int .i64 0)), none⟩])
  (.cond (.t 16)
  (.seq (.ops [⟨some 4, .mv (.k (.int .i64 (-1))), none⟩])
  .ret)
  .skip))
  (.seq (.ops [⟨some 17, .mv (.t 1), none⟩,
    ⟨some 4, .mv (.t 17), none⟩])
  .ret))))))⟩
theorem c25 : compileF Try.prog [] 25 = some cf25 := by kernel_rfl
/-- laws.toStewWorld -/
def cf27 : CF := ⟨13, [.c 2 5 true],
  (.seq (.ops [⟨some 1, .bx (.t 0), none⟩,
    ⟨some 2, .al (.agg [.nil, .agg [.int .i64 0, .nil, .nil, .nil]]), none⟩])
  (.seq (.ops [⟨some 3, .al (.agg [.nil, .agg [.int .i64 0, .nil, .nil, .nil]]), none⟩])
  (.seq (.ops [⟨some 4, .fa 0 1 0 (.t 1), none⟩,
    ⟨some 5, .ld 1 false (.t 4), none⟩,
    ⟨some 6, .call 91 [(.t 5)], none⟩,
    ⟨some 7, .fa 0 1 0 (.t 3), none⟩,
    ⟨none, .st 1 (.t 7) (.t 6), none⟩])
  (.seq (.ops [⟨some 8, .fa 1 4 1 (.t 1), none⟩,
    ⟨some 9, .ld 4 true (.t 8), none⟩,
    ⟨some 10, .call 23 [(.t 9)], none⟩,
    ⟨some 11, .fa 1 4 1 (.t 3), none⟩,
    ⟨none, .st 4 (.t 11) (.t 10), none⟩])
  (.seq (.ops [⟨some 12, .ld 5 true (.t 3), none⟩,
    ⟨none, .st 5 (.t 2) (.t 12), none⟩])
  .ret)))))⟩
theorem c27 : compileF Try.prog [] 27 = some cf27 := by kernel_rfl
/-- laws.eqStewWorld -/
def cf29 : CF := ⟨17, [.t 4],
  (.seq (.ops [⟨some 2, .bx (.t 0), none⟩,
    ⟨some 3, .bx (.t 1), none⟩,
    ⟨some 4, .mv (.k (.bool false)), none⟩])
  (.seq (.seq (.ops [⟨some 5, .fa 0 1 0 (.t 2), none⟩,
    ⟨some 6, .ld 1 false (.t 5), none⟩,
    ⟨some 7, .fa 0 1 0 (.t 3), none⟩,
    ⟨some 8, .ld 1 false (.t 7), none⟩,
    ⟨some 9, .call 92 [(.t 6), (.t 8)], none⟩,
    ⟨some 10, .not (.t 9), none⟩])
  (.cond (.t 10)
  (.seq (.ops [⟨some 4, .mv (.k (.bool false)), none⟩])
  .ret)
  .skip))
  (.seq (.seq (.ops [⟨some 11, .fa 1 4 1 (.t 2), none⟩,
    ⟨some 12, .ld 4 true (.t 11), none⟩,
    ⟨some 13, .fa 1 4 1 (.t 3), none⟩,
    ⟨some 14, .ld 4 true (.t 13), none⟩,
    ⟨some 15, .call 24 [(.t 12), (.t 14)], none⟩,
    ⟨some 16, .not (.t 15), none⟩])
  (.cond (.t 16)
  (.seq (.ops [⟨some 4, .mv (.k (.bool false)), none⟩])
  .ret)
  .skip))
  (.seq (.ops [⟨some 4, .mv (.k (.bool true)), none⟩])
  .ret))))⟩
theorem c29 : compileF Try.prog [] 29 = some cf29 := by kernel_rfl
theorem args_StewBookS {d : D} (h : Has (.sl 4 (.st [.int .i64, .sl 13 (.st [.str, .int .i64, .bool, .int .i64, .int .i64, .int .i64, .int .i64, .int .i64, .int .i64, .int .i64, .int .i64, .int .i64, .int .i64]), .sl 7 (.st [.str, .int .i64, .int .i64, .int .i64, .int .i64, .bool, .str]), .sl 2 (.st [.str, .bool])])) d) : ∃ l : (List StewBook), d = .ro 4 (l.map StewBook.D) ∧ l.length ≤ 9223372036854775807 ∧ ∀ y ∈ l, y.wf := by
  rw [Has] at h
  obtain ⟨ds, rfl, hm, hd⟩ := h
  have : ∃ l : (List StewBook), ds = l.map StewBook.D ∧ ∀ y ∈ l, y.wf := by
    clear hm
    induction ds with
    | nil => exact ⟨[], rfl, by simp⟩
    | cons d ds ih =>
      obtain ⟨l, rfl, hl⟩ := ih (fun x hx => hd x (List.mem_cons_of_mem _ hx))
      obtain ⟨v, rfl, wv⟩ : ∃ v : StewBook, d = StewBook.D v ∧ v.wf := args_StewBook (hd _ (List.mem_cons_self ..))
      exact ⟨v :: l, rfl, fun y hy => by rcases List.mem_cons.1 hy with rfl | hy <;> first | exact wv | exact hl y hy⟩
  obtain ⟨l, rfl, hl⟩ := this
  exact ⟨l, rfl, by rw [List.length_map] at hm; exact hm, hl⟩
theorem to_StewBookS (l : (List StewBook)) (hs : l.length ≤ 1048576 ∧ ∀ y ∈ l, y.small) : Rdr Try.prog 91 [.ro 4 (l.map StewBook.D)] (.ro 4 (l.map StewBook.D)) :=
  toS_rdr hm c91 (zs := [.int .i64 0, .nil, .nil, .nil]) rfl (by decide) (by decide) (by simpa using hs.1) (fun d hd => by obtain ⟨x, hx, rfl⟩ := List.mem_map.1 hd; exact ⟨_, rfl, rfl, to_StewBook x (hs.2 x hx)⟩)
theorem eq_StewBookS (l : (List StewBook)) (hs : l.length ≤ 1048576 ∧ ∀ y ∈ l, y.small) : Rdr Try.prog 92 [.ro 4 (l.map StewBook.D), .ro 4 (l.map StewBook.D)] (.bool true) :=
  eqS_rdr hm c92 (by decide) (by rw [List.length_map]; exact Nat.le_trans hs.1 (by decide)) (fun d hd => by obtain ⟨x, hx, rfl⟩ := List.mem_map.1 hd; exact ⟨_, rfl, rfl, eq_StewBook x (hs.2 x hx)⟩)
theorem sz_StewBookS (l : (List StewBook)) (k : Int) (hp : Nat → Option Row) (hw : l.length ≤ 9223372036854775807 ∧ ∀ y ∈ l, y.wf) (h0 : 0 ≤ k) (h1 : k ≤ 1048576) : XC Try.prog 90 [.ro 4 (l.map StewBook.D), .int .i64 k] hp (fun d hp' => hp' = hp ∧ ∃ n, d = .int .i64 n ∧ (0 ≤ n → n ≤ k ∧ l.length ≤ 1048576 ∧ ∀ y ∈ l, y.small)) :=
  szS_xc hm c90 (fun x : StewBook => [.int .i64 x.fNow, .ro 13 (x.fServices.map StewService.D), .ro 7 (x.fCopies.map StewCopy.D), .ro 2 (x.fBerths.map StewBerth.D)]) (fun x => x.small) l k hp (by decide) (fun x => rfl) hw.1 h0 h1 (fun x hx k' h0' h1' => sz_StewBook x k' hp (hw.2 x hx) h0' h1')
structure StewWorld where
  fPast : (List StewBook)
  fBook : StewBook
def StewWorld.D (x : StewWorld) : D := .agg [.ro 4 (x.fPast.map StewBook.D), x.fBook.D]
instance : Inhabited StewWorld := ⟨⟨[], ⟨0, [], [], []⟩⟩⟩
structure StewWorld.wf (x : StewWorld) : Prop where
  fPast : x.fPast.length ≤ 9223372036854775807 ∧ ∀ y ∈ x.fPast, y.wf
  fBook : x.fBook.wf
structure StewWorld.small (x : StewWorld) : Prop where
  fPast : x.fPast.length ≤ 1048576 ∧ ∀ y ∈ x.fPast, y.small
  fBook : x.fBook.small
theorem StewWorld.len (x : StewWorld) : x.D.len = 5 := by rfl
theorem args_StewWorld {d : D} (h : Has (.st [.sl 4 (.st [.int .i64, .sl 13 (.st [.str, .int .i64, .bool, .int .i64, .int .i64, .int .i64, .int .i64, .int .i64, .int .i64, .int .i64, .int .i64, .int .i64, .int .i64]), .sl 7 (.st [.str, .int .i64, .int .i64, .int .i64, .int .i64, .bool, .str]), .sl 2 (.st [.str, .bool])]), .st [.int .i64, .sl 13 (.st [.str, .int .i64, .bool, .int .i64, .int .i64, .int .i64, .int .i64, .int .i64, .int .i64, .int .i64, .int .i64, .int .i64, .int .i64]), .sl 7 (.st [.str, .int .i64, .int .i64, .int .i64, .int .i64, .bool, .str]), .sl 2 (.st [.str, .bool])]]) d) : ∃ x : StewWorld, d = x.D ∧ x.wf := by
  rw [Has] at h
  obtain ⟨_, rfl, h⟩ := h
  simp only [HasF] at h
  obtain ⟨_, _, rfl, hPast, _, _, rfl, hBook, rfl⟩ := h
  obtain ⟨vPast, rfl, wPast⟩ := args_StewBookS hPast
  obtain ⟨vBook, rfl, wBook⟩ := args_StewBook hBook
  exact ⟨⟨vPast, vBook⟩, rfl, ⟨wPast, wBook⟩⟩
theorem sz_StewWorld (x : StewWorld) (k : Int) (hp : Nat → Option Row) (hw : x.wf) (h0 : 0 ≤ k) (h1 : k ≤ 1048576) : XC Try.prog 25 [x.D, .int .i64 k] hp (fun d hp' => hp' = hp ∧ ∃ n, d = .int .i64 n ∧ (0 ≤ n → n ≤ k ∧ x.small)) := by
  refine XC.intro' hm c25 (Nat.le_of_ble_eq_true rfl) ?_
  conv => whnf
  repeat' (first
    | (refine g_op ?_; conv => whnf)
    | (refine And.intro ?_ ?_; (focus (first | exact rfl | exact Nat.le_of_ble_eq_true rfl | decide | omega | fail)); conv => whnf)
    | (refine g_seq ?_)
    | (refine XS.go ?_)
    | (refine g_ops ?_)
    | (refine g_loop ?_)
    | (refine g_nil ?_; conv => whnf)
    | (refine g_opg ?_; conv => whnf)
    | (refine Br.t ?_ ?_; (focus (first | assumption | exact rfl)); conv => whnf)
    | (refine Br.f ?_ ?_; (focus (first | assumption | exact rfl)); conv => whnf)
    | (refine g_cond ?_; conv => whnf)
    | (refine g_skip ?_; conv => whnf)
    | (refine g_ret ?_; conv => whnf)
    | (refine g_exit ?_; conv => whnf)
    | (refine g_block ?_)
    | (refine g_quiet ?_)
    | (refine q_op ?_; conv => whnf)
    | (refine q_nil ?_; conv => whnf)
    | (refine q_opg ?_; conv => whnf)
    | (refine r_t ?_; conv => whnf)
    | (refine r_c ?_; conv => whnf)
    | (refine r_nil ?_; conv => whnf)
    | fail)
  refine XC.mono (fun d hp' h => ?_) (sz_StewBookS x.fPast _ _ hw.fPast (by omega) (by omega))
  obtain ⟨rfl, n1, rfl, m1⟩ := h
  conv => whnf
  repeat' (first
    | (refine g_op ?_; conv => whnf)
    | (refine And.intro ?_ ?_; (focus (first | exact rfl | exact Nat.le_of_ble_eq_true rfl | decide | omega | fail)); conv => whnf)
    | (refine g_seq ?_)
    | (refine XS.go ?_)
    | (refine g_ops ?_)
    | (refine g_loop ?_)
    | (refine g_nil ?_; conv => whnf)
    | (refine g_opg ?_; conv => whnf)
    | (refine Br.t ?_ ?_; (focus (first | assumption | exact rfl)); conv => whnf)
    | (refine Br.f ?_ ?_; (focus (first | assumption | exact rfl)); conv => whnf)
    | (refine g_cond ?_; conv => whnf)
    | (refine g_skip ?_; conv => whnf)
    | (refine g_ret ?_; conv => whnf)
    | (refine g_exit ?_; conv => whnf)
    | (refine g_block ?_)
    | (refine g_quiet ?_)
    | (refine q_op ?_; conv => whnf)
    | (refine q_nil ?_; conv => whnf)
    | (refine q_opg ?_; conv => whnf)
    | (refine r_t ?_; conv => whnf)
    | (refine r_c ?_; conv => whnf)
    | (refine r_nil ?_; conv => whnf)
    | fail)
  refine Br.mk (fun hb => ?_) (fun hb => ?_)
  · conv => whnf
    repeat' (first
      | (refine g_op ?_; conv => whnf)
      | (refine And.intro ?_ ?_; (focus (first | exact rfl | exact Nat.le_of_ble_eq_true rfl | decide | omega | fail)); conv => whnf)
      | (refine g_seq ?_)
      | (refine XS.go ?_)
      | (refine g_ops ?_)
      | (refine g_loop ?_)
      | (refine g_nil ?_; conv => whnf)
      | (refine g_opg ?_; conv => whnf)
      | (refine Br.t ?_ ?_; (focus (first | assumption | exact rfl)); conv => whnf)
      | (refine Br.f ?_ ?_; (focus (first | assumption | exact rfl)); conv => whnf)
      | (refine g_cond ?_; conv => whnf)
      | (refine g_skip ?_; conv => whnf)
      | (refine g_ret ?_; conv => whnf)
      | (refine g_exit ?_; conv => whnf)
      | (refine g_block ?_)
      | (refine g_quiet ?_)
      | (refine q_op ?_; conv => whnf)
      | (refine q_nil ?_; conv => whnf)
      | (refine q_opg ?_; conv => whnf)
      | (refine r_t ?_; conv => whnf)
      | (refine r_c ?_; conv => whnf)
      | (refine r_nil ?_; conv => whnf)
      | fail)
    exact ⟨_, rfl, fun h => absurd h (by decide)⟩
  have p1 : 0 ≤ n1 := Int.not_lt.1 (of_decide_eq_false hb)
  obtain ⟨l1, s1⟩ := m1 p1
  conv => whnf
  repeat' (first
    | (refine g_op ?_; conv => whnf)
    | (refine And.intro ?_ ?_; (focus (first | exact rfl | exact Nat.le_of_ble_eq_true rfl | decide | omega | fail)); conv => whnf)
    | (refine g_seq ?_)
    | (refine XS.go ?_)
    | (refine g_ops ?_)
    | (refine g_loop ?_)
    | (refine g_nil ?_; conv => whnf)
    | (refine g_opg ?_; conv => whnf)
    | (refine Br.t ?_ ?_; (focus (first | assumption | exact rfl)); conv => whnf)
    | (refine Br.f ?_ ?_; (focus (first | assumption | exact rfl)); conv => whnf)
    | (refine g_cond ?_; conv => whnf)
    | (refine g_skip ?_; conv => whnf)
    | (refine g_ret ?_; conv => whnf)
    | (refine g_exit ?_; conv => whnf)
    | (refine g_block ?_)
    | (refine g_quiet ?_)
    | (refine q_op ?_; conv => whnf)
    | (refine q_nil ?_; conv => whnf)
    | (refine q_opg ?_; conv => whnf)
    | (refine r_t ?_; conv => whnf)
    | (refine r_c ?_; conv => whnf)
    | (refine r_nil ?_; conv => whnf)
    | fail)
  refine XC.mono (fun d hp' h => ?_) (sz_StewBook x.fBook _ _ hw.fBook (by omega) (by omega))
  obtain ⟨rfl, n2, rfl, m2⟩ := h
  conv => whnf
  repeat' (first
    | (refine g_op ?_; conv => whnf)
    | (refine And.intro ?_ ?_; (focus (first | exact rfl | exact Nat.le_of_ble_eq_true rfl | decide | omega | fail)); conv => whnf)
    | (refine g_seq ?_)
    | (refine XS.go ?_)
    | (refine g_ops ?_)
    | (refine g_loop ?_)
    | (refine g_nil ?_; conv => whnf)
    | (refine g_opg ?_; conv => whnf)
    | (refine Br.t ?_ ?_; (focus (first | assumption | exact rfl)); conv => whnf)
    | (refine Br.f ?_ ?_; (focus (first | assumption | exact rfl)); conv => whnf)
    | (refine g_cond ?_; conv => whnf)
    | (refine g_skip ?_; conv => whnf)
    | (refine g_ret ?_; conv => whnf)
    | (refine g_exit ?_; conv => whnf)
    | (refine g_block ?_)
    | (refine g_quiet ?_)
    | (refine q_op ?_; conv => whnf)
    | (refine q_nil ?_; conv => whnf)
    | (refine q_opg ?_; conv => whnf)
    | (refine r_t ?_; conv => whnf)
    | (refine r_c ?_; conv => whnf)
    | (refine r_nil ?_; conv => whnf)
    | fail)
  refine Br.mk (fun hb => ?_) (fun hb => ?_)
  · conv => whnf
    repeat' (first
      | (refine g_op ?_; conv => whnf)
      | (refine And.intro ?_ ?_; (focus (first | exact rfl | exact Nat.le_of_ble_eq_true rfl | decide | omega | fail)); conv => whnf)
      | (refine g_seq ?_)
      | (refine XS.go ?_)
      | (refine g_ops ?_)
      | (refine g_loop ?_)
      | (refine g_nil ?_; conv => whnf)
      | (refine g_opg ?_; conv => whnf)
      | (refine Br.t ?_ ?_; (focus (first | assumption | exact rfl)); conv => whnf)
      | (refine Br.f ?_ ?_; (focus (first | assumption | exact rfl)); conv => whnf)
      | (refine g_cond ?_; conv => whnf)
      | (refine g_skip ?_; conv => whnf)
      | (refine g_ret ?_; conv => whnf)
      | (refine g_exit ?_; conv => whnf)
      | (refine g_block ?_)
      | (refine g_quiet ?_)
      | (refine q_op ?_; conv => whnf)
      | (refine q_nil ?_; conv => whnf)
      | (refine q_opg ?_; conv => whnf)
      | (refine r_t ?_; conv => whnf)
      | (refine r_c ?_; conv => whnf)
      | (refine r_nil ?_; conv => whnf)
      | fail)
    exact ⟨_, rfl, fun h => absurd h (by decide)⟩
  have p2 : 0 ≤ n2 := Int.not_lt.1 (of_decide_eq_false hb)
  obtain ⟨l2, s2⟩ := m2 p2
  conv => whnf
  repeat' (first
    | (refine g_op ?_; conv => whnf)
    | (refine And.intro ?_ ?_; (focus (first | exact rfl | exact Nat.le_of_ble_eq_true rfl | decide | omega | fail)); conv => whnf)
    | (refine g_seq ?_)
    | (refine XS.go ?_)
    | (refine g_ops ?_)
    | (refine g_loop ?_)
    | (refine g_nil ?_; conv => whnf)
    | (refine g_opg ?_; conv => whnf)
    | (refine Br.t ?_ ?_; (focus (first | assumption | exact rfl)); conv => whnf)
    | (refine Br.f ?_ ?_; (focus (first | assumption | exact rfl)); conv => whnf)
    | (refine g_cond ?_; conv => whnf)
    | (refine g_skip ?_; conv => whnf)
    | (refine g_ret ?_; conv => whnf)
    | (refine g_exit ?_; conv => whnf)
    | (refine g_block ?_)
    | (refine g_quiet ?_)
    | (refine q_op ?_; conv => whnf)
    | (refine q_nil ?_; conv => whnf)
    | (refine q_opg ?_; conv => whnf)
    | (refine r_t ?_; conv => whnf)
    | (refine r_c ?_; conv => whnf)
    | (refine r_nil ?_; conv => whnf)
    | fail)
  exact ⟨_, rfl, fun _ => ⟨by omega, ⟨s1, s2⟩⟩⟩
theorem to_StewWorld (x : StewWorld) (hs : x.small) : Rdr Try.prog 27 [x.D] x.D := by
  refine Rdr.intro' hm c27 (Nat.le_of_ble_eq_true rfl) ?_
  conv => whnf
  repeat' (first
    | (refine g_op ?_; conv => whnf)
    | (refine And.intro ?_ ?_; (focus (first | exact rfl | exact Nat.le_of_ble_eq_true rfl | decide | omega | fail)); conv => whnf)
    | (refine g_seq ?_)
    | (refine XS.go ?_)
    | (refine g_ops ?_)
    | (refine g_loop ?_)
    | (refine g_nil ?_; conv => whnf)
    | (refine g_opg ?_; conv => whnf)
    | (refine Br.t ?_ ?_; (focus (first | assumption | exact rfl)); conv => whnf)
    | (refine Br.f ?_ ?_; (focus (first | assumption | exact rfl)); conv => whnf)
    | (refine g_cond ?_; conv => whnf)
    | (refine g_skip ?_; conv => whnf)
    | (refine g_ret ?_; conv => whnf)
    | (refine g_exit ?_; conv => whnf)
    | (refine g_block ?_)
    | (refine g_quiet ?_)
    | (refine q_op ?_; conv => whnf)
    | (refine q_nil ?_; conv => whnf)
    | (refine q_opg ?_; conv => whnf)
    | (refine r_t ?_; conv => whnf)
    | (refine r_c ?_; conv => whnf)
    | (refine r_nil ?_; conv => whnf)
    | (refine XC.of_rdr (to_StewBookS x.fPast hs.fPast) ?_; conv => whnf)
    | (refine XC.of_rdr (to_StewBook x.fBook hs.fBook) ?_; conv => whnf)
    | (refine QC.of_rdr (to_StewBookS x.fPast hs.fPast) rfl ?_; conv => whnf)
    | (refine QC.of_rdr (to_StewBook x.fBook hs.fBook) rfl ?_; conv => whnf)
    | fail)
  all_goals rfl
theorem eq_StewWorld (x : StewWorld) (hs : x.small) : Rdr Try.prog 29 [x.D, x.D] (.bool true) := by
  refine Rdr.intro' hm c29 (Nat.le_of_ble_eq_true rfl) ?_
  conv => whnf
  repeat' (first
    | (refine g_op ?_; conv => whnf)
    | (refine And.intro ?_ ?_; (focus (first | exact rfl | exact Nat.le_of_ble_eq_true rfl | decide | omega | fail)); conv => whnf)
    | (refine g_seq ?_)
    | (refine XS.go ?_)
    | (refine g_ops ?_)
    | (refine g_loop ?_)
    | (refine g_nil ?_; conv => whnf)
    | (refine g_opg ?_; conv => whnf)
    | (refine Br.t ?_ ?_; (focus (first | assumption | exact rfl)); conv => whnf)
    | (refine Br.f ?_ ?_; (focus (first | assumption | exact rfl)); conv => whnf)
    | (refine g_cond ?_; conv => whnf)
    | (refine g_skip ?_; conv => whnf)
    | (refine g_ret ?_; conv => whnf)
    | (refine g_exit ?_; conv => whnf)
    | (refine g_block ?_)
    | (refine g_quiet ?_)
    | (refine q_op ?_; conv => whnf)
    | (refine q_nil ?_; conv => whnf)
    | (refine q_opg ?_; conv => whnf)
    | (refine r_t ?_; conv => whnf)
    | (refine r_c ?_; conv => whnf)
    | (refine r_nil ?_; conv => whnf)
    | (refine Br.f (by simp) ?_; conv => whnf)
    | (refine XC.of_rdr (eq_StewBookS x.fPast hs.fPast) ?_; conv => whnf)
    | (refine XC.of_rdr (eq_StewBook x.fBook hs.fBook) ?_; conv => whnf)
    | (refine QC.of_rdr (eq_StewBookS x.fPast hs.fPast) rfl ?_; conv => whnf)
    | (refine QC.of_rdr (eq_StewBook x.fBook hs.fBook) rfl ?_; conv => whnf)
    | fail)
  all_goals rfl
/-- impl.StewWorldOk -/
def cf28 : CF := ⟨51, [.t 2],
  (.seq (.ops [⟨some 1, .bx (.t 0), none⟩,
    ⟨some 2, .mv (.k (.bool false)), none⟩])
  (.seq (.seq (.ops [⟨some 5, .fa 1 4 1 (.t 1), none⟩,
    ⟨some 6, .ld 4 true (.t 5), none⟩,
    ⟨some 7, .call 20 [(.t 6)], none⟩,
    ⟨some 8, .not (.t 7), none⟩,
    ⟨some 9, .mv (.t 8), none⟩,
    ⟨some 10, .fa 0 1 0 (.t 1), some (9, false)⟩,
    ⟨some 11, .ld 1 false (.t 10), some (9, false)⟩,
    ⟨some 12, .lenl (.t 11), some (9, false)⟩,
    ⟨some 13, .bin .gtr (.t 12) (.k (.int .i64 8)), some (9, false)⟩,
    ⟨some 14, .pick (.t 9) (.k (.bool true)) (.t 13), none⟩])
  (.cond (.t 14)
  (.seq (.ops [⟨some 2, .mv (.k (.bool false)), none⟩])
  .ret)
  .skip))
  (.seq (.seq (.ops [⟨some 15, .fa 0 1 0 (.t 1), none⟩,
    ⟨some 16, .ld 1 false (.t 15), none⟩,
    ⟨some 17, .lenl (.t 16), none⟩,
    ⟨some 18, .mv (.k (.int .i64 0)), none⟩])
  (.block 0 (.loop (.seq (.ops [⟨some 19, .bin .lss (.t 18) (.t 17), none⟩])
  (.seq (.cond (.t 19)
  .skip
  (.exit 0))
  (.seq (.block 1 (.seq (.ops [⟨some 20, .mv (.t 18), none⟩,
    ⟨some 21, .ix 4 (.t 16) (.t 18), none⟩,
    ⟨some 22, .ld 4 true (.t 21), none⟩,
    ⟨some 4, .al (.agg [.int .i64 0, .nil, .nil, .nil]), none⟩,
    ⟨some 3, .mv (.t 20), none⟩,
    ⟨none, .st 4 (.t 4) (.t 22), none⟩])
  (.seq (.quiet [⟨some 23, .ld 4 true (.t 4), none⟩,
    ⟨some 24, .call 20 [(.t 23)], none⟩,
    ⟨some 25, .not (.t 24), none⟩,
    ⟨some 26, .mv (.t 25), none⟩,
    ⟨some 27, .fa 0 1 0 (.t 4), some (26, false)⟩,
    ⟨some 28, .ld 1 false (.t 27), some (26, false)⟩,
    ⟨some 29, .fa 1 4 1 (.t 1), some (26, false)⟩,
    ⟨some 30, .fa 0 1 0 (.t 29), some (26, false)⟩,
    ⟨some 31, .ld 1 false (.t 30), some (26, false)⟩,
    ⟨some 32, .bin .gtr (.t 28) (.t 31), some (26, false)⟩,
    ⟨some 33, .pick (.t 26) (.k (.bool true)) (.t 32), none⟩,
    ⟨some 34, .mv (.t 33), none⟩,
    ⟨some 35, .mv (.t 3), some (34, false)⟩,
    ⟨some 36, .bin .gtr (.t 35) (.k (.int .i64 0)), some (34, false)⟩,
    ⟨some 37, .mv (.t 36), some (34, false)⟩,
    ⟨some 38, .fa 0 1 0 (.t 4), some (37, true)⟩,
    ⟨some 39, .ld 1 false (.t 38), some (37, true)⟩,
    ⟨some 40, .fa 0 1 0 (.t 1), some (37, true)⟩,
    ⟨some 41, .ld 1 false (.t 40), some (37, true)⟩,
    ⟨some 42, .mv (.t 3), some (37, true)⟩,
    ⟨some 43, .bin .sub (.t 42) (.k (.int .i64 1)), some (37, true)⟩,
    ⟨some 44, .ix 4 (.t 41) (.t 43), some (37, true)⟩,
    ⟨some 45, .fa 0 1 0 (.t 44), some (37, true)⟩,
    ⟨some 46, .ld 1 false (.t 45), some (37, true)⟩,
    ⟨some 47, .bin .lss (.t 39) (.t 46), some (37, true)⟩,
    ⟨some 48, .pick (.t 37) (.t 47) (.k (.bool false)), some (34, false)⟩,
    ⟨some 49, .pick (.t 34) (.k (.bool true)) (.t 48), none⟩])
  (.cond (.t 49)
  (.seq (.ops [⟨some 2, .mv (.k (.bool false)), none⟩])
  .ret)
  .skip))))
  (.ops [⟨some 50, .bin .add (.t 18) (.k (.int .i64 1)), none⟩,
    ⟨some 18, .mv (.t 50), none⟩])))))))
  (.seq (.ops [⟨some 2, .mv (.k (.bool true)), none⟩])
  .ret))))⟩
theorem c28 : compileF Try.prog [] 28 = some cf28 := by kernel_rfl
/-- spec.StewWorldOk -/
def cf26 : CF := ⟨60, [.t 2],
  (.seq (.ops [⟨some 1, .bx (.t 0), none⟩,
    ⟨some 2, .mv (.k (.bool false)), none⟩])
  (.seq (.seq (.ops [⟨some 4, .fa 1 4 1 (.t 1), none⟩,
    ⟨some 5, .ld 4 true (.t 4), none⟩,
    ⟨some 6, .call 19 [(.t 5)], none⟩,
    ⟨some 7, .not (.t 6), none⟩,
    ⟨some 8, .mv (.t 7), none⟩,
    ⟨some 9, .fa 0 1 0 (.t 1), some (8, false)⟩,
    ⟨some 10, .ld 1 false (.t 9), some (8, false)⟩,
    ⟨some 11, .lenl (.t 10), some (8, false)⟩,
    ⟨some 12, .bin .gtr (.t 11) (.k (.int .i64 8)), some (8, false)⟩,
    ⟨some 13, .pick (.t 8) (.k (.bool true)) (.t 12), none⟩])
  (.cond (.t 13)
  (.seq (.ops [⟨some 2, .mv (.k (.bool false)), none⟩])
  .ret)
  .skip))
  (.seq (.seq (.ops [⟨some 3, .mv (.k (.int .i64 0)), none⟩])
  (.block 0 (.loop (.seq (.seq (.ops [⟨some 14, .mv (.t 3), none⟩,
    ⟨some 15, .fa 0 1 0 (.t 1), none⟩,
    ⟨some 16, .ld 1 false (.t 15), none⟩,
    ⟨some 17, .lenl (.t 16), none⟩,
    ⟨some 18, .bin .lss (.t 14) (.t 17), none⟩])
  (.cond (.t 18)
  .skip
  (.exit 0)))
  (.seq (.block 1 (.seq (.quiet [⟨some 21, .fa 0 1 0 (.t 1), none⟩,
    ⟨some 22, .ld 1 false (.t 21), none⟩,
    ⟨some 23, .mv (.t 3), none⟩,
    ⟨some 24, .ix 4 (.t 22) (.t 23), none⟩,
    ⟨some 25, .ld 4 true (.t 24), none⟩,
    ⟨some 26, .call 19 [(.t 25)], none⟩,
    ⟨some 27, .not (.t 26), none⟩,
    ⟨some 28, .mv (.t 27), none⟩,
    ⟨some 29, .fa 0 1 0 (.t 1), some (28, false)⟩,
    ⟨some 30, .ld 1 false (.t 29), some (28, false)⟩,
    ⟨some 31, .mv (.t 3), some (28, false)⟩,
    ⟨some 32, .ix 4 (.t 30) (.t 31), some (28, false)⟩,
    ⟨some 33, .fa 0 1 0 (.t 32), some (28, false)⟩,
    ⟨some 34, .ld 1 false (.t 33), some (28, false)⟩,
    ⟨some 35, .fa 1 4 1 (.t 1), some (28, false)⟩,
    ⟨some 36, .fa 0 1 0 (.t 35), some (28, false)⟩,
    ⟨some 37, .ld 1 false (.t 36), some (28, false)⟩,
    ⟨some 38, .bin .gtr (.t 34) (.t 37), some (28, false)⟩,
    ⟨some 39, .pick (.t 28) (.k (.bool true)) (.t 38), none⟩,
    ⟨some 40, .mv (.t 39), none⟩,
    ⟨some 41, .mv (.t 3), some (40, false)⟩,
    ⟨some 42, .bin .gtr (.t 41) (.k (.int .i64 0)), some (40, false)⟩,
    ⟨some 43, .mv (.t 42), some (40, false)⟩,
    ⟨some 44, .fa 0 1 0 (.t 1), some (43, true)⟩,
    ⟨some 45, .ld 1 false (.t 44), some (43, true)⟩,
    ⟨some 46, .mv (.t 3), some (43, true)⟩,
    ⟨some 47, .bin .sub (.t 46) (.k (.int .i64 1)), some (43, true)⟩,
    ⟨some 48, .ix 4 (.t 45) (.t 47), some (43, true)⟩,
    ⟨some 49, .fa 0 1 0 (.t 48), some (43, true)⟩,
    ⟨some 50, .ld 1 false (.t 49), some (43, true)⟩,
    ⟨some 51, .fa 0 1 0 (.t 1), some (43, true)⟩,
    ⟨some 52, .ld 1 false (.t 51), some (43, true)⟩,
    ⟨some 53, .mv (.t 3), some (43, true)⟩,
    ⟨some 54, .ix 4 (.t 52) (.t 53), some (43, true)⟩,
    ⟨some 55, .fa 0 1 0 (.t 54), some (43, true)⟩,
    ⟨some 56, .ld 1 false (.t 55), some (43, true)⟩,
    ⟨some 57, .bin .gtr (.t 50) (.t 56), some (43, true)⟩,
    ⟨some 58, .pick (.t 43) (.t 57) (.k (.bool false)), some (40, false)⟩,
    ⟨some 59, .pick (.t 40) (.k (.bool true)) (.t 58), none⟩])
  (.cond (.t 59)
  (.seq (.ops [⟨some 2, .mv (.k (.bool false)), none⟩])
  .ret)
  .skip)))
  (.ops [⟨some 19, .mv (.t 3), none⟩,
    ⟨some 20, .bin .add (.t 19) (.k (.int .i64 1)), none⟩,
    ⟨some 3, .mv (.t 20), none⟩]))))))
  (.seq (.ops [⟨some 2, .mv (.k (.bool true)), none⟩])
  .ret))))⟩
theorem c26 : compileF Try.prog [] 26 = some cf26 := by kernel_rfl
/-- laws.FnExactStewWorldOk -/
def cf5 : CF := ⟨27, [.t 2],
  (.seq (.ops [⟨some 1, .bx (.t 0), none⟩,
    ⟨some 2, .mv (.k (.bool false)), none⟩])
  (.seq (.ops [⟨some 3, .mv (.k (.int .i64 1048576)), none⟩])
  (.seq (.ops [⟨some 7, .ld 5 true (.t 1), none⟩,
    ⟨some 8, .mv (.t 3), none⟩,
    ⟨some 9, .call 25 [(.t 7), (.t 8)], none⟩,
    ⟨some 3, .mv (.t 9), none⟩])
  (.seq (.seq (.ops [⟨some 10, .mv (.t 3), none⟩,
    ⟨some 11, .bin .lss (.t 10) (.k (.int .i64 0)), none⟩])
  (.cond (.t 11)
  (.seq (.ops [⟨some 2, .mv (.k (.bool true)), none⟩])
  .ret)
  .skip))
  (.seq (.ops [⟨some 12, .ld 5 true (.t 1), none⟩,
    ⟨some 13, .call 27 [(.t 12)], none⟩,
    ⟨some 14, .call 26 [(.t 13)], none⟩,
    ⟨some 4, .mv (.t 14), none⟩])
  (.seq (.ops [⟨some 15, .ld 5 true (.t 1), none⟩,
    ⟨some 16, .call 27 [(.t 15)], none⟩,
    ⟨some 5, .al (.agg [.nil, .agg [.int .i64 0, .nil, .nil, .nil]]), none⟩,
    ⟨none, .st 5 (.t 5) (.t 16), none⟩])
  (.seq (.ops [⟨some 17, .ld 5 true (.t 5), none⟩,
    ⟨some 18, .call 28 [(.t 17)], none⟩,
    ⟨some 6, .mv (.t 18), none⟩])
  (.seq (.seq (.ops [⟨some 19, .mv (.t 6), none⟩,
    ⟨some 20, .mv (.t 4), none⟩,
    ⟨some 21, .binb true (.t 19) (.t 20), none⟩])
  (.cond (.t 21)
  (.seq (.ops [⟨some 2, .mv (.k (.bool false)), none⟩])
  .ret)
  .skip))
  (.seq (.seq (.quiet [⟨some 22, .ld 5 true (.t 5), none⟩,
    ⟨some 23, .ld 5 true (.t 1), none⟩,
    ⟨some 24, .call 27 [(.t 23)], none⟩,
    ⟨some 25, .call 29 [(.t 22), (.t 24)], none⟩,
    ⟨some 26, .not (.t 25), none⟩])
  (.cond (.t 26)
  (.seq (.ops [⟨some 2, .mv (.k (.bool false)), none⟩])
  .ret)
  .skip))
  (.seq (.ops [⟨some 2, .mv (.k (.bool true)), none⟩])
  .ret))))))))))⟩
theorem c5 : compileF Try.prog [] 5 = some cf5 := by kernel_rfl
def wF (w : StewWorld) (i : Nat) : Bool := valid (w.fPast.getD i default) && !decide ((w.fPast.getD i default).fNow > w.fBook.fNow) && !(decide ((i : Int) > 0) && decide ((w.fPast.getD i default).fNow < (w.fPast.getD (pr i) default).fNow))
def worldOk (w : StewWorld) : Bool := !(!valid w.fBook || decide ((w.fPast.length : Int) > 8)) && (allN (wF w) w.fPast.length 0 && true)
theorem getD_mem {α : Type} {xs : List α} {i : Nat} {d : α} (h : i < xs.length) : xs.getD i d ∈ xs := by simp [h]
set_option maxHeartbeats 8000000 in
theorem spec_WorldOk (w : StewWorld) (hs : w.small) : Rdr Try.prog 26 [w.D] (.bool (worldOk w)) := by
  refine Rdr.intro' hm c26 (Nat.le_of_ble_eq_true rfl) ?_
  conv => whnf
  repeat' (first
    | (refine g_op ?_; conv => whnf)
    | (refine And.intro ?_ ?_; (focus (first | exact rfl | exact Nat.le_of_ble_eq_true rfl | decide | omega | fail)); conv => whnf)
    | (refine g_seq ?_)
    | (refine g_ops ?_)
    | (refine g_loop ?_)
    | (refine g_nil ?_; conv => whnf)
    | (refine g_opg ?_; conv => whnf)
    | (refine Br.t ?_ ?_; (focus (first | assumption | exact rfl)); conv => whnf)
    | (refine Br.f ?_ ?_; (focus (first | assumption | exact rfl)); conv => whnf)
    | (refine g_cond ?_; conv => whnf)
    | (refine g_skip ?_; conv => whnf)
    | (refine g_ret ?_; conv => whnf)
    | (refine g_exit ?_; conv => whnf)
    | (refine g_block ?_)
    | (refine g_quiet ?_)
    | (refine q_op ?_; conv => whnf)
    | (refine q_nil ?_; conv => whnf)
    | (refine q_opg ?_; conv => whnf)
    | (refine r_t ?_; conv => whnf)
    | (refine r_c ?_; conv => whnf)
    | (refine r_nil ?_; conv => whnf)
    | fail)
  refine XS.freezeB 1 rfl ?_
  repeat' (first
    | (refine z_ix1 ?_; first | (refine z_ix rfl rfl rfl rfl rfl ⟨by first | omega | (simp only [decide_eq_true_eq, Bool.not_eq_true', Bool.or_eq_false_iff, decide_eq_false_iff_not, Bool.and_eq_true, Bool.not_eq_false'] at *; omega), by first | omega | (simp only [decide_eq_true_eq, Bool.not_eq_true', Bool.or_eq_false_iff, decide_eq_false_iff_not, Bool.and_eq_true, Bool.not_eq_false'] at *; omega)⟩ ?_; conv => whnf) | (refine z_ix0 rfl rfl ?_; conv => whnf))
    | (refine z_ix1g ?_; refine z_ixg rfl rfl rfl rfl rfl rfl rfl (by (repeat intro _); refine ⟨?_, ?_⟩ <;> first | omega | (simp only [decide_eq_true_eq, Bool.not_eq_true', Bool.or_eq_false_iff, decide_eq_false_iff_not, Bool.and_eq_true, Bool.not_eq_false'] at *; omega)) ?_)
    | (refine z_op ?_ ?_; (focus exact rfl); conv => whnf)
    | (refine z_opg0 ?_; (conv => whnf); refine And.intro ?_ ?_; (focus exact rfl); conv => whnf)
    | (refine z_pick ?_ ?_; (focus exact rfl); conv => whnf)
    | (refine z_pickg ?_; (conv => whnf); refine And.intro ?_ ?_; (focus exact rfl); conv => whnf)
    | (refine zs_ops ?_ ?_; (focus exact rfl))
    | (refine zs_quiet ?_ ?_; (focus exact rfl))
    | (refine z_nil fun vals => ?_; conv => whnf)
    | (refine z_call ?_ ?_; (focus exact rfl))
    | (refine z_eff ?_; conv => whnf)
    | (refine z_callg0 ?_; (conv => whnf); refine And.intro ?_ ?_; (focus exact rfl))
    | (refine RC.of (spec_Valid w.fBook hs.fBook.fServices.1 hs.fBook.fBerths.1 hs.fBook.fCopies.1) ?_ ?_; (focus exact rfl); conv => whnf)
    | (refine g_op ?_; conv => whnf)
    | (refine And.intro ?_ ?_; (focus (first | exact rfl | exact Nat.le_of_ble_eq_true rfl | decide | omega | fail)); conv => whnf)
    | (refine g_seq ?_)
    | (refine XS.go ?_)
    | (refine g_ops ?_)
    | (refine g_loop ?_)
    | (refine g_nil ?_; conv => whnf)
    | (refine g_opg ?_; conv => whnf)
    | (refine Br.t ?_ ?_; (focus (first | assumption | exact rfl)); conv => whnf)
    | (refine Br.f ?_ ?_; (focus (first | assumption | exact rfl)); conv => whnf)
    | (refine g_cond ?_; conv => whnf)
    | (refine g_skip ?_; conv => whnf)
    | (refine g_ret ?_; conv => whnf)
    | (refine g_exit ?_; conv => whnf)
    | (refine g_block ?_)
    | (refine g_quiet ?_)
    | (refine q_op ?_; conv => whnf)
    | (refine q_nil ?_; conv => whnf)
    | (refine q_opg ?_; conv => whnf)
    | (refine r_t ?_; conv => whnf)
    | (refine r_c ?_; conv => whnf)
    | (refine r_nil ?_; conv => whnf)
    | (refine XC.of_rdr (spec_Valid w.fBook hs.fBook.fServices.1 hs.fBook.fBerths.1 hs.fBook.fCopies.1) ?_; conv => whnf)
    | (refine QC.of_rdr (spec_Valid w.fBook hs.fBook.fServices.1 hs.fBook.fBerths.1 hs.fBook.fCopies.1) rfl ?_; conv => whnf)
    | fail)
  simp only [mlen']
  refine Br.mk (fun hb => ?_) (fun hb => ?_)
  · conv => whnf
    repeat' (first
      | (refine z_ix1 ?_; first | (refine z_ix rfl rfl rfl rfl rfl ⟨by first | omega | (simp only [decide_eq_true_eq, Bool.not_eq_true', Bool.or_eq_false_iff, decide_eq_false_iff_not, Bool.and_eq_true, Bool.not_eq_false'] at *; omega), by first | omega | (simp only [decide_eq_true_eq, Bool.not_eq_true', Bool.or_eq_false_iff, decide_eq_false_iff_not, Bool.and_eq_true, Bool.not_eq_false'] at *; omega)⟩ ?_; conv => whnf) | (refine z_ix0 rfl rfl ?_; conv => whnf))
      | (refine z_ix1g ?_; refine z_ixg rfl rfl rfl rfl rfl rfl rfl (by (repeat intro _); refine ⟨?_, ?_⟩ <;> first | omega | (simp only [decide_eq_true_eq, Bool.not_eq_true', Bool.or_eq_false_iff, decide_eq_false_iff_not, Bool.and_eq_true, Bool.not_eq_false'] at *; omega)) ?_)
      | (refine z_op ?_ ?_; (focus exact rfl); conv => whnf)
      | (refine z_opg0 ?_; (conv => whnf); refine And.intro ?_ ?_; (focus exact rfl); conv => whnf)
      | (refine z_pick ?_ ?_; (focus exact rfl); conv => whnf)
      | (refine z_pickg ?_; (conv => whnf); refine And.intro ?_ ?_; (focus exact rfl); conv => whnf)
      | (refine zs_ops ?_ ?_; (focus exact rfl))
      | (refine zs_quiet ?_ ?_; (focus exact rfl))
      | (refine z_nil fun vals => ?_; conv => whnf)
      | (refine z_call ?_ ?_; (focus exact rfl))
      | (refine z_eff ?_; conv => whnf)
      | (refine z_callg0 ?_; (conv => whnf); refine And.intro ?_ ?_; (focus exact rfl))
      | (refine g_op ?_; conv => whnf)
      | (refine And.intro ?_ ?_; (focus (first | exact rfl | exact Nat.le_of_ble_eq_true rfl | decide | omega | fail)); conv => whnf)
      | (refine g_seq ?_)
      | (refine XS.go ?_)
      | (refine g_ops ?_)
      | (refine g_loop ?_)
      | (refine g_nil ?_; conv => whnf)
      | (refine g_opg ?_; conv => whnf)
      | (refine Br.t ?_ ?_; (focus (first | assumption | exact rfl)); conv => whnf)
      | (refine Br.f ?_ ?_; (focus (first | assumption | exact rfl)); conv => whnf)
      | (refine g_cond ?_; conv => whnf)
      | (refine g_skip ?_; conv => whnf)
      | (refine g_ret ?_; conv => whnf)
      | (refine g_exit ?_; conv => whnf)
      | (refine g_block ?_)
      | (refine g_quiet ?_)
      | (refine q_op ?_; conv => whnf)
      | (refine q_nil ?_; conv => whnf)
      | (refine q_opg ?_; conv => whnf)
      | (refine r_t ?_; conv => whnf)
      | (refine r_c ?_; conv => whnf)
      | (refine r_nil ?_; conv => whnf)
      | fail)
    (conv => lhs; whnf)
    rw [worldOk, hb]
    rfl
  have hv : worldOk w = (allN (wF w) w.fPast.length 0 && true) := by rw [worldOk, hb]; rfl
  have hp := hs.fPast
  clear hb
  conv => whnf
  repeat' (first
    | (refine z_ix1 ?_; first | (refine z_ix rfl rfl rfl rfl rfl ⟨by first | omega | (simp only [decide_eq_true_eq, Bool.not_eq_true', Bool.or_eq_false_iff, decide_eq_false_iff_not, Bool.and_eq_true, Bool.not_eq_false'] at *; omega), by first | omega | (simp only [decide_eq_true_eq, Bool.not_eq_true', Bool.or_eq_false_iff, decide_eq_false_iff_not, Bool.and_eq_true, Bool.not_eq_false'] at *; omega)⟩ ?_; conv => whnf) | (refine z_ix0 rfl rfl ?_; conv => whnf))
    | (refine z_ix1g ?_; refine z_ixg rfl rfl rfl rfl rfl rfl rfl (by (repeat intro _); refine ⟨?_, ?_⟩ <;> first | omega | (simp only [decide_eq_true_eq, Bool.not_eq_true', Bool.or_eq_false_iff, decide_eq_false_iff_not, Bool.and_eq_true, Bool.not_eq_false'] at *; omega)) ?_)
    | (refine z_op ?_ ?_; (focus exact rfl); conv => whnf)
    | (refine z_opg0 ?_; (conv => whnf); refine And.intro ?_ ?_; (focus exact rfl); conv => whnf)
    | (refine z_pick ?_ ?_; (focus exact rfl); conv => whnf)
    | (refine z_pickg ?_; (conv => whnf); refine And.intro ?_ ?_; (focus exact rfl); conv => whnf)
    | (refine zs_ops ?_ ?_; (focus exact rfl))
    | (refine zs_quiet ?_ ?_; (focus exact rfl))
    | (refine z_nil fun vals => ?_; conv => whnf)
    | (refine z_call ?_ ?_; (focus exact rfl))
    | (refine z_eff ?_; conv => whnf)
    | (refine z_callg0 ?_; (conv => whnf); refine And.intro ?_ ?_; (focus exact rfl))
    | (refine g_op ?_; conv => whnf)
    | (refine And.intro ?_ ?_; (focus (first | exact rfl | exact Nat.le_of_ble_eq_true rfl | decide | omega | fail)); conv => whnf)
    | (refine g_seq ?_)
    | (refine XS.go ?_)
    | (refine g_ops ?_)
    | (refine g_loop ?_)
    | (refine g_nil ?_; conv => whnf)
    | (refine g_opg ?_; conv => whnf)
    | (refine Br.t ?_ ?_; (focus (first | assumption | exact rfl)); conv => whnf)
    | (refine Br.f ?_ ?_; (focus (first | assumption | exact rfl)); conv => whnf)
    | (refine g_cond ?_; conv => whnf)
    | (refine g_skip ?_; conv => whnf)
    | (refine g_ret ?_; conv => whnf)
    | (refine g_exit ?_; conv => whnf)
    | (refine g_block ?_)
    | (refine g_quiet ?_)
    | (refine q_op ?_; conv => whnf)
    | (refine q_nil ?_; conv => whnf)
    | (refine q_opg ?_; conv => whnf)
    | (refine r_t ?_; conv => whnf)
    | (refine r_c ?_; conv => whnf)
    | (refine r_nil ?_; conv => whnf)
    | fail)
  refine XLc.mkL (α := Nat) (fun i => i ≤ w.fPast.length ∧ worldOk w = (allN (wF w) (w.fPast.length - i) i && true)) (fun i => w.fPast.length - i) (fun i gs => [.any, .cref w.D, .any, .int .i64 (i : Int)]) (fun i gs => []) (fun _ => none) 0 ⟨Nat.zero_le _, hv⟩ ?_ ?_
  · refine ⟨?_, ?_, rfl⟩
    · repeat' (first | exact True.intro | refine And.intro rfl ?_)
    · repeat' (first | exact True.intro | refine And.intro rfl ?_)
  intro i gs hI
  obtain ⟨hi, hN⟩ := hI
  repeat' (first
    | (refine z_ix1 ?_; first | (refine z_ix rfl rfl rfl rfl rfl ⟨by first | omega | (simp only [decide_eq_true_eq, Bool.not_eq_true', Bool.or_eq_false_iff, decide_eq_false_iff_not, Bool.and_eq_true, Bool.not_eq_false'] at *; omega), by first | omega | (simp only [decide_eq_true_eq, Bool.not_eq_true', Bool.or_eq_false_iff, decide_eq_false_iff_not, Bool.and_eq_true, Bool.not_eq_false'] at *; omega)⟩ ?_; conv => whnf) | (refine z_ix0 rfl rfl ?_; conv => whnf))
    | (refine z_ix1g ?_; refine z_ixg rfl rfl rfl rfl rfl rfl rfl (by (repeat intro _); refine ⟨?_, ?_⟩ <;> first | omega | (simp only [decide_eq_true_eq, Bool.not_eq_true', Bool.or_eq_false_iff, decide_eq_false_iff_not, Bool.and_eq_true, Bool.not_eq_false'] at *; omega)) ?_)
    | (refine z_op ?_ ?_; (focus exact rfl); conv => whnf)
    | (refine z_opg0 ?_; (conv => whnf); refine And.intro ?_ ?_; (focus exact rfl); conv => whnf)
    | (refine z_pick ?_ ?_; (focus exact rfl); conv => whnf)
    | (refine z_pickg ?_; (conv => whnf); refine And.intro ?_ ?_; (focus exact rfl); conv => whnf)
    | (refine zs_ops ?_ ?_; (focus exact rfl))
    | (refine zs_quiet ?_ ?_; (focus exact rfl))
    | (refine z_nil fun vals => ?_; conv => whnf)
    | (refine z_call ?_ ?_; (focus exact rfl))
    | (refine z_eff ?_; conv => whnf)
    | (refine z_callg0 ?_; (conv => whnf); refine And.intro ?_ ?_; (focus exact rfl))
    | (refine g_op ?_; conv => whnf)
    | (refine And.intro ?_ ?_; (focus (first | exact rfl | exact Nat.le_of_ble_eq_true rfl | decide | omega | fail)); conv => whnf)
    | (refine g_seq ?_)
    | (refine XS.go ?_)
    | (refine g_ops ?_)
    | (refine g_loop ?_)
    | (refine g_nil ?_; conv => whnf)
    | (refine g_opg ?_; conv => whnf)
    | (refine Br.t ?_ ?_; (focus (first | assumption | exact rfl)); conv => whnf)
    | (refine Br.f ?_ ?_; (focus (first | assumption | exact rfl)); conv => whnf)
    | (refine g_cond ?_; conv => whnf)
    | (refine g_skip ?_; conv => whnf)
    | (refine g_ret ?_; conv => whnf)
    | (refine g_exit ?_; conv => whnf)
    | (refine g_block ?_)
    | (refine g_quiet ?_)
    | (refine q_op ?_; conv => whnf)
    | (refine q_nil ?_; conv => whnf)
    | (refine q_opg ?_; conv => whnf)
    | (refine r_t ?_; conv => whnf)
    | (refine r_c ?_; conv => whnf)
    | (refine r_nil ?_; conv => whnf)
    | fail)
  refine Br.mk (fun hb => ?_) (fun hb => ?_)
  · have hlt : i < w.fPast.length := by simpa using hb
    have hw : IntKind.wrap .i64 ((i : Int) + 1) = ((i + 1 : Nat) : Int) := by rw [wrap_ok (by omega) (by omega)]; rfl
    have hw1 : IntKind.wrap .i64 ((i : Int) - 1) = (i : Int) - 1 := wrap_ok (by omega) (by omega)
    have hbad := fun h => allN_bad (f := wF w) hlt hN h
    have hgood := fun h => allN_good (f := wF w) hlt hN h
    clear hN hb
    have hm : (w.fPast.getD (i : Int).toNat default).small := hp.2 _ (getD_mem hlt)
    have hl := hp.1
    clear hp hs
    all_goals conv => whnf
    repeat' (first
      | (refine z_ix1 ?_; first | (refine z_ix rfl rfl rfl rfl rfl ⟨by first | omega | (simp only [decide_eq_true_eq, Bool.not_eq_true', Bool.or_eq_false_iff, decide_eq_false_iff_not, Bool.and_eq_true, Bool.not_eq_false'] at *; omega), by first | omega | (simp only [decide_eq_true_eq, Bool.not_eq_true', Bool.or_eq_false_iff, decide_eq_false_iff_not, Bool.and_eq_true, Bool.not_eq_false'] at *; omega)⟩ ?_; conv => whnf) | (refine z_ix0 rfl rfl ?_; conv => whnf))
      | (refine z_ix1g ?_; refine z_ixg rfl rfl rfl rfl rfl rfl rfl (by (repeat intro _); refine ⟨?_, ?_⟩ <;> first | omega | (simp only [decide_eq_true_eq, Bool.not_eq_true', Bool.or_eq_false_iff, decide_eq_false_iff_not, Bool.and_eq_true, Bool.not_eq_false'] at *; omega)) ?_)
      | (refine z_op ?_ ?_; (focus exact rfl); conv => whnf)
      | (refine z_opg0 ?_; (conv => whnf); refine And.intro ?_ ?_; (focus exact rfl); conv => whnf)
      | (refine z_pick ?_ ?_; (focus exact rfl); conv => whnf)
      | (refine z_pickg ?_; (conv => whnf); refine And.intro ?_ ?_; (focus exact rfl); conv => whnf)
      | (refine zs_ops ?_ ?_; (focus exact rfl))
      | (refine zs_quiet ?_ ?_; (focus exact rfl))
      | (refine z_nil fun vals => ?_; conv => whnf)
      | (refine z_call ?_ ?_; (focus exact rfl))
      | (refine z_eff ?_; conv => whnf)
      | (refine z_callg0 ?_; (conv => whnf); refine And.intro ?_ ?_; (focus exact rfl))
      | (refine RC.of (spec_Valid _ hm.fServices.1 hm.fBerths.1 hm.fCopies.1) ?_ ?_; (focus exact rfl); conv => whnf)
      | (refine g_op ?_; conv => whnf)
      | (refine And.intro ?_ ?_; (focus (first | exact rfl | exact Nat.le_of_ble_eq_true rfl | decide | omega | fail)); conv => whnf)
      | (refine g_seq ?_)
      | (refine XS.go ?_)
      | (refine g_ops ?_)
      | (refine g_loop ?_)
      | (refine g_nil ?_; conv => whnf)
      | (refine g_opg ?_; conv => whnf)
      | (refine Br.t ?_ ?_; (focus (first | assumption | exact rfl)); conv => whnf)
      | (refine Br.f ?_ ?_; (focus (first | assumption | exact rfl)); conv => whnf)
      | (refine g_cond ?_; conv => whnf)
      | (refine g_skip ?_; conv => whnf)
      | (refine g_ret ?_; conv => whnf)
      | (refine g_exit ?_; conv => whnf)
      | (refine g_block ?_)
      | (refine g_quiet ?_)
      | (refine q_op ?_; conv => whnf)
      | (refine q_nil ?_; conv => whnf)
      | (refine q_opg ?_; conv => whnf)
      | (refine r_t ?_; conv => whnf)
      | (refine r_c ?_; conv => whnf)
      | (refine r_nil ?_; conv => whnf)
      | (refine Br.mk (fun hb => ?_) (fun hb => ?_) <;> conv => whnf)
      | (refine XC.of_rdr (spec_Valid _ hm.fServices.1 hm.fBerths.1 hm.fCopies.1) ?_; conv => whnf)
      | (refine QC.of_rdr (spec_Valid _ hm.fServices.1 hm.fBerths.1 hm.fCopies.1) rfl ?_; conv => whnf)
      | fail)
    all_goals
      first
      | (conv => lhs; whnf
         refine congrArg D.bool (hbad ?_)
         clear hbad hgood hw hm
         first | (first | (refine (Bool.eq_false_iff.mpr fun h => ?_).symm; simp_all [wF, pr]; done) | (refine Bool.eq_false_iff.mpr fun h => ?_; simp_all [wF, pr]; done) | (simp_all [wF, pr]; done) | (simp_all [wF, pr]; omega) | (refine (Bool.eq_false_iff.mpr fun h => ?_).symm; simp_all [wF, pr]; omega) | (refine Bool.eq_false_iff.mpr fun h => ?_; simp_all [wF, pr]; omega) | (rw [Bool.eq_iff_iff]; constructor <;> intro h <;> simp_all [wF, pr] <;> omega) | fail) | (rcases Nat.eq_zero_or_pos i with h0 | h0 <;> simp_all [wF, pr] <;> omega) | fail)
      | (refine ⟨i + 1, ⟨by omega, ?_⟩, by omega, ?_, ?_, rfl⟩
         · refine hgood ?_
           clear hbad hgood hw hm
           first | (first | (refine (Bool.eq_false_iff.mpr fun h => ?_).symm; simp_all [wF, pr]; done) | (refine Bool.eq_false_iff.mpr fun h => ?_; simp_all [wF, pr]; done) | (simp_all [wF, pr]; done) | (simp_all [wF, pr]; omega) | (refine (Bool.eq_false_iff.mpr fun h => ?_).symm; simp_all [wF, pr]; omega) | (refine Bool.eq_false_iff.mpr fun h => ?_; simp_all [wF, pr]; omega) | (rw [Bool.eq_iff_iff]; constructor <;> intro h <;> simp_all [wF, pr] <;> omega) | fail) | (rcases Nat.eq_zero_or_pos i with h0 | h0 <;> simp_all [wF, pr] <;> omega) | fail
         · repeat' (first | exact True.intro | refine And.intro (congrArg (D.int .i64) hw) ?_ | refine And.intro rfl ?_)
         · repeat' (first | exact True.intro | refine And.intro rfl ?_))
  have hge : ¬ i < w.fPast.length := by simpa using hb
  have hend : worldOk w = true := by rw [hN, allN_end hge, Bool.true_and]
  clear hN
  conv => whnf
  repeat' (first
    | (refine z_ix1 ?_; first | (refine z_ix rfl rfl rfl rfl rfl ⟨by first | omega | (simp only [decide_eq_true_eq, Bool.not_eq_true', Bool.or_eq_false_iff, decide_eq_false_iff_not, Bool.and_eq_true, Bool.not_eq_false'] at *; omega), by first | omega | (simp only [decide_eq_true_eq, Bool.not_eq_true', Bool.or_eq_false_iff, decide_eq_false_iff_not, Bool.and_eq_true, Bool.not_eq_false'] at *; omega)⟩ ?_; conv => whnf) | (refine z_ix0 rfl rfl ?_; conv => whnf))
    | (refine z_ix1g ?_; refine z_ixg rfl rfl rfl rfl rfl rfl rfl (by (repeat intro _); refine ⟨?_, ?_⟩ <;> first | omega | (simp only [decide_eq_true_eq, Bool.not_eq_true', Bool.or_eq_false_iff, decide_eq_false_iff_not, Bool.and_eq_true, Bool.not_eq_false'] at *; omega)) ?_)
    | (refine z_op ?_ ?_; (focus exact rfl); conv => whnf)
    | (refine z_opg0 ?_; (conv => whnf); refine And.intro ?_ ?_; (focus exact rfl); conv => whnf)
    | (refine z_pick ?_ ?_; (focus exact rfl); conv => whnf)
    | (refine z_pickg ?_; (conv => whnf); refine And.intro ?_ ?_; (focus exact rfl); conv => whnf)
    | (refine zs_ops ?_ ?_; (focus exact rfl))
    | (refine zs_quiet ?_ ?_; (focus exact rfl))
    | (refine z_nil fun vals => ?_; conv => whnf)
    | (refine z_call ?_ ?_; (focus exact rfl))
    | (refine z_eff ?_; conv => whnf)
    | (refine z_callg0 ?_; (conv => whnf); refine And.intro ?_ ?_; (focus exact rfl))
    | (refine g_op ?_; conv => whnf)
    | (refine And.intro ?_ ?_; (focus (first | exact rfl | exact Nat.le_of_ble_eq_true rfl | decide | omega | fail)); conv => whnf)
    | (refine g_seq ?_)
    | (refine XS.go ?_)
    | (refine g_ops ?_)
    | (refine g_loop ?_)
    | (refine g_nil ?_; conv => whnf)
    | (refine g_opg ?_; conv => whnf)
    | (refine Br.t ?_ ?_; (focus (first | assumption | exact rfl)); conv => whnf)
    | (refine Br.f ?_ ?_; (focus (first | assumption | exact rfl)); conv => whnf)
    | (refine g_cond ?_; conv => whnf)
    | (refine g_skip ?_; conv => whnf)
    | (refine g_ret ?_; conv => whnf)
    | (refine g_exit ?_; conv => whnf)
    | (refine g_block ?_)
    | (refine g_quiet ?_)
    | (refine q_op ?_; conv => whnf)
    | (refine q_nil ?_; conv => whnf)
    | (refine q_opg ?_; conv => whnf)
    | (refine r_t ?_; conv => whnf)
    | (refine r_c ?_; conv => whnf)
    | (refine r_nil ?_; conv => whnf)
    | fail)
  (conv => lhs; whnf)
  rw [hend]
set_option maxHeartbeats 8000000 in
theorem impl_WorldOk (w : StewWorld) (hs : w.small) : Rdr Try.prog 28 [w.D] (.bool (worldOk w)) := by
  refine Rdr.intro' hm c28 (Nat.le_of_ble_eq_true rfl) ?_
  conv => whnf
  repeat' (first
    | (refine g_op ?_; conv => whnf)
    | (refine And.intro ?_ ?_; (focus (first | exact rfl | exact Nat.le_of_ble_eq_true rfl | decide | omega | fail)); conv => whnf)
    | (refine g_seq ?_)
    | (refine g_ops ?_)
    | (refine g_loop ?_)
    | (refine g_nil ?_; conv => whnf)
    | (refine g_opg ?_; conv => whnf)
    | (refine Br.t ?_ ?_; (focus (first | assumption | exact rfl)); conv => whnf)
    | (refine Br.f ?_ ?_; (focus (first | assumption | exact rfl)); conv => whnf)
    | (refine g_cond ?_; conv => whnf)
    | (refine g_skip ?_; conv => whnf)
    | (refine g_ret ?_; conv => whnf)
    | (refine g_exit ?_; conv => whnf)
    | (refine g_block ?_)
    | (refine g_quiet ?_)
    | (refine q_op ?_; conv => whnf)
    | (refine q_nil ?_; conv => whnf)
    | (refine q_opg ?_; conv => whnf)
    | (refine r_t ?_; conv => whnf)
    | (refine r_c ?_; conv => whnf)
    | (refine r_nil ?_; conv => whnf)
    | fail)
  refine XS.freezeB 1 rfl ?_
  repeat' (first
    | (refine z_ix1 ?_; first | (refine z_ix rfl rfl rfl rfl rfl ⟨by first | omega | (simp only [decide_eq_true_eq, Bool.not_eq_true', Bool.or_eq_false_iff, decide_eq_false_iff_not, Bool.and_eq_true, Bool.not_eq_false'] at *; omega), by first | omega | (simp only [decide_eq_true_eq, Bool.not_eq_true', Bool.or_eq_false_iff, decide_eq_false_iff_not, Bool.and_eq_true, Bool.not_eq_false'] at *; omega)⟩ ?_; conv => whnf) | (refine z_ix0 rfl rfl ?_; conv => whnf))
    | (refine z_ix1g ?_; refine z_ixg rfl rfl rfl rfl rfl rfl rfl (by (repeat intro _); refine ⟨?_, ?_⟩ <;> first | omega | (simp only [decide_eq_true_eq, Bool.not_eq_true', Bool.or_eq_false_iff, decide_eq_false_iff_not, Bool.and_eq_true, Bool.not_eq_false'] at *; omega)) ?_)
    | (refine z_op ?_ ?_; (focus exact rfl); conv => whnf)
    | (refine z_opg0 ?_; (conv => whnf); refine And.intro ?_ ?_; (focus exact rfl); conv => whnf)
    | (refine z_pick ?_ ?_; (focus exact rfl); conv => whnf)
    | (refine z_pickg ?_; (conv => whnf); refine And.intro ?_ ?_; (focus exact rfl); conv => whnf)
    | (refine zs_ops ?_ ?_; (focus exact rfl))
    | (refine zs_quiet ?_ ?_; (focus exact rfl))
    | (refine z_nil fun vals => ?_; conv => whnf)
    | (refine z_call ?_ ?_; (focus exact rfl))
    | (refine z_eff ?_; conv => whnf)
    | (refine z_callg0 ?_; (conv => whnf); refine And.intro ?_ ?_; (focus exact rfl))
    | (refine RC.of (impl_Valid w.fBook hs.fBook.fServices.1 hs.fBook.fBerths.1 hs.fBook.fCopies.1) ?_ ?_; (focus exact rfl); conv => whnf)
    | (refine g_op ?_; conv => whnf)
    | (refine And.intro ?_ ?_; (focus (first | exact rfl | exact Nat.le_of_ble_eq_true rfl | decide | omega | fail)); conv => whnf)
    | (refine g_seq ?_)
    | (refine XS.go ?_)
    | (refine g_ops ?_)
    | (refine g_loop ?_)
    | (refine g_nil ?_; conv => whnf)
    | (refine g_opg ?_; conv => whnf)
    | (refine Br.t ?_ ?_; (focus (first | assumption | exact rfl)); conv => whnf)
    | (refine Br.f ?_ ?_; (focus (first | assumption | exact rfl)); conv => whnf)
    | (refine g_cond ?_; conv => whnf)
    | (refine g_skip ?_; conv => whnf)
    | (refine g_ret ?_; conv => whnf)
    | (refine g_exit ?_; conv => whnf)
    | (refine g_block ?_)
    | (refine g_quiet ?_)
    | (refine q_op ?_; conv => whnf)
    | (refine q_nil ?_; conv => whnf)
    | (refine q_opg ?_; conv => whnf)
    | (refine r_t ?_; conv => whnf)
    | (refine r_c ?_; conv => whnf)
    | (refine r_nil ?_; conv => whnf)
    | (refine XC.of_rdr (impl_Valid w.fBook hs.fBook.fServices.1 hs.fBook.fBerths.1 hs.fBook.fCopies.1) ?_; conv => whnf)
    | (refine QC.of_rdr (impl_Valid w.fBook hs.fBook.fServices.1 hs.fBook.fBerths.1 hs.fBook.fCopies.1) rfl ?_; conv => whnf)
    | fail)
  simp only [mlen']
  refine Br.mk (fun hb => ?_) (fun hb => ?_)
  · conv => whnf
    repeat' (first
      | (refine z_ix1 ?_; first | (refine z_ix rfl rfl rfl rfl rfl ⟨by first | omega | (simp only [decide_eq_true_eq, Bool.not_eq_true', Bool.or_eq_false_iff, decide_eq_false_iff_not, Bool.and_eq_true, Bool.not_eq_false'] at *; omega), by first | omega | (simp only [decide_eq_true_eq, Bool.not_eq_true', Bool.or_eq_false_iff, decide_eq_false_iff_not, Bool.and_eq_true, Bool.not_eq_false'] at *; omega)⟩ ?_; conv => whnf) | (refine z_ix0 rfl rfl ?_; conv => whnf))
      | (refine z_ix1g ?_; refine z_ixg rfl rfl rfl rfl rfl rfl rfl (by (repeat intro _); refine ⟨?_, ?_⟩ <;> first | omega | (simp only [decide_eq_true_eq, Bool.not_eq_true', Bool.or_eq_false_iff, decide_eq_false_iff_not, Bool.and_eq_true, Bool.not_eq_false'] at *; omega)) ?_)
      | (refine z_op ?_ ?_; (focus exact rfl); conv => whnf)
      | (refine z_opg0 ?_; (conv => whnf); refine And.intro ?_ ?_; (focus exact rfl); conv => whnf)
      | (refine z_pick ?_ ?_; (focus exact rfl); conv => whnf)
      | (refine z_pickg ?_; (conv => whnf); refine And.intro ?_ ?_; (focus exact rfl); conv => whnf)
      | (refine zs_ops ?_ ?_; (focus exact rfl))
      | (refine zs_quiet ?_ ?_; (focus exact rfl))
      | (refine z_nil fun vals => ?_; conv => whnf)
      | (refine z_call ?_ ?_; (focus exact rfl))
      | (refine z_eff ?_; conv => whnf)
      | (refine z_callg0 ?_; (conv => whnf); refine And.intro ?_ ?_; (focus exact rfl))
      | (refine g_op ?_; conv => whnf)
      | (refine And.intro ?_ ?_; (focus (first | exact rfl | exact Nat.le_of_ble_eq_true rfl | decide | omega | fail)); conv => whnf)
      | (refine g_seq ?_)
      | (refine XS.go ?_)
      | (refine g_ops ?_)
      | (refine g_loop ?_)
      | (refine g_nil ?_; conv => whnf)
      | (refine g_opg ?_; conv => whnf)
      | (refine Br.t ?_ ?_; (focus (first | assumption | exact rfl)); conv => whnf)
      | (refine Br.f ?_ ?_; (focus (first | assumption | exact rfl)); conv => whnf)
      | (refine g_cond ?_; conv => whnf)
      | (refine g_skip ?_; conv => whnf)
      | (refine g_ret ?_; conv => whnf)
      | (refine g_exit ?_; conv => whnf)
      | (refine g_block ?_)
      | (refine g_quiet ?_)
      | (refine q_op ?_; conv => whnf)
      | (refine q_nil ?_; conv => whnf)
      | (refine q_opg ?_; conv => whnf)
      | (refine r_t ?_; conv => whnf)
      | (refine r_c ?_; conv => whnf)
      | (refine r_nil ?_; conv => whnf)
      | fail)
    (conv => lhs; whnf)
    rw [worldOk, hb]
    rfl
  have hv : worldOk w = (allN (wF w) w.fPast.length 0 && true) := by rw [worldOk, hb]; rfl
  have hp := hs.fPast
  clear hb
  conv => whnf
  repeat' (first
    | (refine z_ix1 ?_; first | (refine z_ix rfl rfl rfl rfl rfl ⟨by first | omega | (simp only [decide_eq_true_eq, Bool.not_eq_true', Bool.or_eq_false_iff, decide_eq_false_iff_not, Bool.and_eq_true, Bool.not_eq_false'] at *; omega), by first | omega | (simp only [decide_eq_true_eq, Bool.not_eq_true', Bool.or_eq_false_iff, decide_eq_false_iff_not, Bool.and_eq_true, Bool.not_eq_false'] at *; omega)⟩ ?_; conv => whnf) | (refine z_ix0 rfl rfl ?_; conv => whnf))
    | (refine z_ix1g ?_; refine z_ixg rfl rfl rfl rfl rfl rfl rfl (by (repeat intro _); refine ⟨?_, ?_⟩ <;> first | omega | (simp only [decide_eq_true_eq, Bool.not_eq_true', Bool.or_eq_false_iff, decide_eq_false_iff_not, Bool.and_eq_true, Bool.not_eq_false'] at *; omega)) ?_)
    | (refine z_op ?_ ?_; (focus exact rfl); conv => whnf)
    | (refine z_opg0 ?_; (conv => whnf); refine And.intro ?_ ?_; (focus exact rfl); conv => whnf)
    | (refine z_pick ?_ ?_; (focus exact rfl); conv => whnf)
    | (refine z_pickg ?_; (conv => whnf); refine And.intro ?_ ?_; (focus exact rfl); conv => whnf)
    | (refine zs_ops ?_ ?_; (focus exact rfl))
    | (refine zs_quiet ?_ ?_; (focus exact rfl))
    | (refine z_nil fun vals => ?_; conv => whnf)
    | (refine z_call ?_ ?_; (focus exact rfl))
    | (refine z_eff ?_; conv => whnf)
    | (refine z_callg0 ?_; (conv => whnf); refine And.intro ?_ ?_; (focus exact rfl))
    | (refine g_op ?_; conv => whnf)
    | (refine And.intro ?_ ?_; (focus (first | exact rfl | exact Nat.le_of_ble_eq_true rfl | decide | omega | fail)); conv => whnf)
    | (refine g_seq ?_)
    | (refine XS.go ?_)
    | (refine g_ops ?_)
    | (refine g_loop ?_)
    | (refine g_nil ?_; conv => whnf)
    | (refine g_opg ?_; conv => whnf)
    | (refine Br.t ?_ ?_; (focus (first | assumption | exact rfl)); conv => whnf)
    | (refine Br.f ?_ ?_; (focus (first | assumption | exact rfl)); conv => whnf)
    | (refine g_cond ?_; conv => whnf)
    | (refine g_skip ?_; conv => whnf)
    | (refine g_ret ?_; conv => whnf)
    | (refine g_exit ?_; conv => whnf)
    | (refine g_block ?_)
    | (refine g_quiet ?_)
    | (refine q_op ?_; conv => whnf)
    | (refine q_nil ?_; conv => whnf)
    | (refine q_opg ?_; conv => whnf)
    | (refine r_t ?_; conv => whnf)
    | (refine r_c ?_; conv => whnf)
    | (refine r_nil ?_; conv => whnf)
    | fail)
  refine XLc.mkL (α := Nat) (fun i => i ≤ w.fPast.length ∧ worldOk w = (allN (wF w) (w.fPast.length - i) i && true)) (fun i => w.fPast.length - i) (fun i gs => [.any, .cref w.D, .any, .any, .any, .any, .any, .any, .any, .any, .any, .any, .any, .any, .any, .any, .ro 4 (w.fPast.map StewBook.D), .int .i64 ((w.fPast.map StewBook.D).length : Int), .int .i64 (i : Int)]) (fun i gs => []) (fun _ => none) 0 ⟨Nat.zero_le _, hv⟩ ?_ ?_
  · refine ⟨?_, ?_, rfl⟩
    · repeat' (first | exact True.intro | refine And.intro rfl ?_)
    · repeat' (first | exact True.intro | refine And.intro rfl ?_)
  intro i gs hI
  obtain ⟨hi, hN⟩ := hI
  repeat' (first
    | (refine z_ix1 ?_; first | (refine z_ix rfl rfl rfl rfl rfl ⟨by first | omega | (simp only [decide_eq_true_eq, Bool.not_eq_true', Bool.or_eq_false_iff, decide_eq_false_iff_not, Bool.and_eq_true, Bool.not_eq_false'] at *; omega), by first | omega | (simp only [decide_eq_true_eq, Bool.not_eq_true', Bool.or_eq_false_iff, decide_eq_false_iff_not, Bool.and_eq_true, Bool.not_eq_false'] at *; omega)⟩ ?_; conv => whnf) | (refine z_ix0 rfl rfl ?_; conv => whnf))
    | (refine z_ix1g ?_; refine z_ixg rfl rfl rfl rfl rfl rfl rfl (by (repeat intro _); refine ⟨?_, ?_⟩ <;> first | omega | (simp only [decide_eq_true_eq, Bool.not_eq_true', Bool.or_eq_false_iff, decide_eq_false_iff_not, Bool.and_eq_true, Bool.not_eq_false'] at *; omega)) ?_)
    | (refine z_op ?_ ?_; (focus exact rfl); conv => whnf)
    | (refine z_opg0 ?_; (conv => whnf); refine And.intro ?_ ?_; (focus exact rfl); conv => whnf)
    | (refine z_pick ?_ ?_; (focus exact rfl); conv => whnf)
    | (refine z_pickg ?_; (conv => whnf); refine And.intro ?_ ?_; (focus exact rfl); conv => whnf)
    | (refine zs_ops ?_ ?_; (focus exact rfl))
    | (refine zs_quiet ?_ ?_; (focus exact rfl))
    | (refine z_nil fun vals => ?_; conv => whnf)
    | (refine z_call ?_ ?_; (focus exact rfl))
    | (refine z_eff ?_; conv => whnf)
    | (refine z_callg0 ?_; (conv => whnf); refine And.intro ?_ ?_; (focus exact rfl))
    | (refine g_op ?_; conv => whnf)
    | (refine And.intro ?_ ?_; (focus (first | exact rfl | exact Nat.le_of_ble_eq_true rfl | decide | omega | fail)); conv => whnf)
    | (refine g_seq ?_)
    | (refine XS.go ?_)
    | (refine g_ops ?_)
    | (refine g_loop ?_)
    | (refine g_nil ?_; conv => whnf)
    | (refine g_opg ?_; conv => whnf)
    | (refine Br.t ?_ ?_; (focus (first | assumption | exact rfl)); conv => whnf)
    | (refine Br.f ?_ ?_; (focus (first | assumption | exact rfl)); conv => whnf)
    | (refine g_cond ?_; conv => whnf)
    | (refine g_skip ?_; conv => whnf)
    | (refine g_ret ?_; conv => whnf)
    | (refine g_exit ?_; conv => whnf)
    | (refine g_block ?_)
    | (refine g_quiet ?_)
    | (refine q_op ?_; conv => whnf)
    | (refine q_nil ?_; conv => whnf)
    | (refine q_opg ?_; conv => whnf)
    | (refine r_t ?_; conv => whnf)
    | (refine r_c ?_; conv => whnf)
    | (refine r_nil ?_; conv => whnf)
    | fail)
  refine Br.mk (fun hb => ?_) (fun hb => ?_)
  · have hlt : i < w.fPast.length := by simpa using hb
    have hw : IntKind.wrap .i64 ((i : Int) + 1) = ((i + 1 : Nat) : Int) := by rw [wrap_ok (by omega) (by omega)]; rfl
    have hw1 : IntKind.wrap .i64 ((i : Int) - 1) = (i : Int) - 1 := wrap_ok (by omega) (by omega)
    have hbad := fun h => allN_bad (f := wF w) hlt hN h
    have hgood := fun h => allN_good (f := wF w) hlt hN h
    clear hN hb
    have hm : (w.fPast.getD (i : Int).toNat default).small := hp.2 _ (getD_mem hlt)
    have hl := hp.1
    clear hp hs
    all_goals conv => whnf
    repeat' (first
      | (refine z_ix1 ?_; first | (refine z_ix rfl rfl rfl rfl rfl ⟨by first | omega | (simp only [decide_eq_true_eq, Bool.not_eq_true', Bool.or_eq_false_iff, decide_eq_false_iff_not, Bool.and_eq_true, Bool.not_eq_false'] at *; omega), by first | omega | (simp only [decide_eq_true_eq, Bool.not_eq_true', Bool.or_eq_false_iff, decide_eq_false_iff_not, Bool.and_eq_true, Bool.not_eq_false'] at *; omega)⟩ ?_; conv => whnf) | (refine z_ix0 rfl rfl ?_; conv => whnf))
      | (refine z_ix1g ?_; refine z_ixg rfl rfl rfl rfl rfl rfl rfl (by (repeat intro _); refine ⟨?_, ?_⟩ <;> first | omega | (simp only [decide_eq_true_eq, Bool.not_eq_true', Bool.or_eq_false_iff, decide_eq_false_iff_not, Bool.and_eq_true, Bool.not_eq_false'] at *; omega)) ?_)
      | (refine z_op ?_ ?_; (focus exact rfl); conv => whnf)
      | (refine z_opg0 ?_; (conv => whnf); refine And.intro ?_ ?_; (focus exact rfl); conv => whnf)
      | (refine z_pick ?_ ?_; (focus exact rfl); conv => whnf)
      | (refine z_pickg ?_; (conv => whnf); refine And.intro ?_ ?_; (focus exact rfl); conv => whnf)
      | (refine zs_ops ?_ ?_; (focus exact rfl))
      | (refine zs_quiet ?_ ?_; (focus exact rfl))
      | (refine z_nil fun vals => ?_; conv => whnf)
      | (refine z_call ?_ ?_; (focus exact rfl))
      | (refine z_eff ?_; conv => whnf)
      | (refine z_callg0 ?_; (conv => whnf); refine And.intro ?_ ?_; (focus exact rfl))
      | (refine RC.of (impl_Valid _ hm.fServices.1 hm.fBerths.1 hm.fCopies.1) ?_ ?_; (focus exact rfl); conv => whnf)
      | (refine g_op ?_; conv => whnf)
      | (refine And.intro ?_ ?_; (focus (first | exact rfl | exact Nat.le_of_ble_eq_true rfl | decide | omega | fail)); conv => whnf)
      | (refine g_seq ?_)
      | (refine XS.go ?_)
      | (refine g_ops ?_)
      | (refine g_loop ?_)
      | (refine g_nil ?_; conv => whnf)
      | (refine g_opg ?_; conv => whnf)
      | (refine Br.t ?_ ?_; (focus (first | assumption | exact rfl)); conv => whnf)
      | (refine Br.f ?_ ?_; (focus (first | assumption | exact rfl)); conv => whnf)
      | (refine g_cond ?_; conv => whnf)
      | (refine g_skip ?_; conv => whnf)
      | (refine g_ret ?_; conv => whnf)
      | (refine g_exit ?_; conv => whnf)
      | (refine g_block ?_)
      | (refine g_quiet ?_)
      | (refine q_op ?_; conv => whnf)
      | (refine q_nil ?_; conv => whnf)
      | (refine q_opg ?_; conv => whnf)
      | (refine r_t ?_; conv => whnf)
      | (refine r_c ?_; conv => whnf)
      | (refine r_nil ?_; conv => whnf)
      | (refine Br.mk (fun hb => ?_) (fun hb => ?_) <;> conv => whnf)
      | (refine XC.of_rdr (impl_Valid _ hm.fServices.1 hm.fBerths.1 hm.fCopies.1) ?_; conv => whnf)
      | (refine QC.of_rdr (impl_Valid _ hm.fServices.1 hm.fBerths.1 hm.fCopies.1) rfl ?_; conv => whnf)
      | fail)
    all_goals
      first
      | (conv => lhs; whnf
         refine congrArg D.bool (hbad ?_)
         clear hbad hgood hw hm
         first | (first | (refine (Bool.eq_false_iff.mpr fun h => ?_).symm; simp_all [wF, pr]; done) | (refine Bool.eq_false_iff.mpr fun h => ?_; simp_all [wF, pr]; done) | (simp_all [wF, pr]; done) | (simp_all [wF, pr]; omega) | (refine (Bool.eq_false_iff.mpr fun h => ?_).symm; simp_all [wF, pr]; omega) | (refine Bool.eq_false_iff.mpr fun h => ?_; simp_all [wF, pr]; omega) | (rw [Bool.eq_iff_iff]; constructor <;> intro h <;> simp_all [wF, pr] <;> omega) | fail) | (rcases Nat.eq_zero_or_pos i with h0 | h0 <;> simp_all [wF, pr] <;> omega) | fail)
      | (refine ⟨i + 1, ⟨by omega, ?_⟩, by omega, ?_, ?_, rfl⟩
         · refine hgood ?_
           clear hbad hgood hw hm
           first | (first | (refine (Bool.eq_false_iff.mpr fun h => ?_).symm; simp_all [wF, pr]; done) | (refine Bool.eq_false_iff.mpr fun h => ?_; simp_all [wF, pr]; done) | (simp_all [wF, pr]; done) | (simp_all [wF, pr]; omega) | (refine (Bool.eq_false_iff.mpr fun h => ?_).symm; simp_all [wF, pr]; omega) | (refine Bool.eq_false_iff.mpr fun h => ?_; simp_all [wF, pr]; omega) | (rw [Bool.eq_iff_iff]; constructor <;> intro h <;> simp_all [wF, pr] <;> omega) | fail) | (rcases Nat.eq_zero_or_pos i with h0 | h0 <;> simp_all [wF, pr] <;> omega) | fail
         · repeat' (first | exact True.intro | refine And.intro (congrArg (D.int .i64) hw) ?_ | refine And.intro rfl ?_)
         · repeat' (first | exact True.intro | refine And.intro rfl ?_))
  have hge : ¬ i < w.fPast.length := by simpa using hb
  have hend : worldOk w = true := by rw [hN, allN_end hge, Bool.true_and]
  clear hN
  conv => whnf
  repeat' (first
    | (refine z_ix1 ?_; first | (refine z_ix rfl rfl rfl rfl rfl ⟨by first | omega | (simp only [decide_eq_true_eq, Bool.not_eq_true', Bool.or_eq_false_iff, decide_eq_false_iff_not, Bool.and_eq_true, Bool.not_eq_false'] at *; omega), by first | omega | (simp only [decide_eq_true_eq, Bool.not_eq_true', Bool.or_eq_false_iff, decide_eq_false_iff_not, Bool.and_eq_true, Bool.not_eq_false'] at *; omega)⟩ ?_; conv => whnf) | (refine z_ix0 rfl rfl ?_; conv => whnf))
    | (refine z_ix1g ?_; refine z_ixg rfl rfl rfl rfl rfl rfl rfl (by (repeat intro _); refine ⟨?_, ?_⟩ <;> first | omega | (simp only [decide_eq_true_eq, Bool.not_eq_true', Bool.or_eq_false_iff, decide_eq_false_iff_not, Bool.and_eq_true, Bool.not_eq_false'] at *; omega)) ?_)
    | (refine z_op ?_ ?_; (focus exact rfl); conv => whnf)
    | (refine z_opg0 ?_; (conv => whnf); refine And.intro ?_ ?_; (focus exact rfl); conv => whnf)
    | (refine z_pick ?_ ?_; (focus exact rfl); conv => whnf)
    | (refine z_pickg ?_; (conv => whnf); refine And.intro ?_ ?_; (focus exact rfl); conv => whnf)
    | (refine zs_ops ?_ ?_; (focus exact rfl))
    | (refine zs_quiet ?_ ?_; (focus exact rfl))
    | (refine z_nil fun vals => ?_; conv => whnf)
    | (refine z_call ?_ ?_; (focus exact rfl))
    | (refine z_eff ?_; conv => whnf)
    | (refine z_callg0 ?_; (conv => whnf); refine And.intro ?_ ?_; (focus exact rfl))
    | (refine g_op ?_; conv => whnf)
    | (refine And.intro ?_ ?_; (focus (first | exact rfl | exact Nat.le_of_ble_eq_true rfl | decide | omega | fail)); conv => whnf)
    | (refine g_seq ?_)
    | (refine XS.go ?_)
    | (refine g_ops ?_)
    | (refine g_loop ?_)
    | (refine g_nil ?_; conv => whnf)
    | (refine g_opg ?_; conv => whnf)
    | (refine Br.t ?_ ?_; (focus (first | assumption | exact rfl)); conv => whnf)
    | (refine Br.f ?_ ?_; (focus (first | assumption | exact rfl)); conv => whnf)
    | (refine g_cond ?_; conv => whnf)
    | (refine g_skip ?_; conv => whnf)
    | (refine g_ret ?_; conv => whnf)
    | (refine g_exit ?_; conv => whnf)
    | (refine g_block ?_)
    | (refine g_quiet ?_)
    | (refine q_op ?_; conv => whnf)
    | (refine q_nil ?_; conv => whnf)
    | (refine q_opg ?_; conv => whnf)
    | (refine r_t ?_; conv => whnf)
    | (refine r_c ?_; conv => whnf)
    | (refine r_nil ?_; conv => whnf)
    | fail)
  (conv => lhs; whnf)
  rw [hend]
set_option maxHeartbeats 4000000 in
theorem law_StewWorldOk (x : StewWorld) (hw : x.wf) : Rdr Try.prog 5 [x.D] (.bool true) := by
  refine Rdr.intro' hm c5 (Nat.le_of_ble_eq_true rfl) ?_
  conv => whnf
  repeat' (first
    | (refine g_op ?_; conv => whnf)
    | (refine And.intro ?_ ?_; (focus (first | exact rfl | exact Nat.le_of_ble_eq_true rfl | decide | omega | fail)); conv => whnf)
    | (refine g_seq ?_)
    | (refine g_ops ?_)
    | (refine g_loop ?_)
    | (refine g_nil ?_; conv => whnf)
    | (refine g_opg ?_; conv => whnf)
    | (refine Br.t ?_ ?_; (focus (first | assumption | exact rfl)); conv => whnf)
    | (refine Br.f ?_ ?_; (focus (first | assumption | exact rfl)); conv => whnf)
    | (refine g_cond ?_; conv => whnf)
    | (refine g_skip ?_; conv => whnf)
    | (refine g_ret ?_; conv => whnf)
    | (refine g_exit ?_; conv => whnf)
    | (refine g_block ?_)
    | (refine g_quiet ?_)
    | (refine q_op ?_; conv => whnf)
    | (refine q_nil ?_; conv => whnf)
    | (refine q_opg ?_; conv => whnf)
    | (refine r_t ?_; conv => whnf)
    | (refine r_c ?_; conv => whnf)
    | (refine r_nil ?_; conv => whnf)
    | fail)
  refine XS.freezeB 1 rfl ?_
  repeat' (first
    | (refine g_op ?_; conv => whnf)
    | (refine And.intro ?_ ?_; (focus (first | exact rfl | exact Nat.le_of_ble_eq_true rfl | decide | omega | fail)); conv => whnf)
    | (refine g_seq ?_)
    | (refine XS.go ?_)
    | (refine g_ops ?_)
    | (refine g_loop ?_)
    | (refine g_nil ?_; conv => whnf)
    | (refine g_opg ?_; conv => whnf)
    | (refine Br.t ?_ ?_; (focus (first | assumption | exact rfl)); conv => whnf)
    | (refine Br.f ?_ ?_; (focus (first | assumption | exact rfl)); conv => whnf)
    | (refine g_cond ?_; conv => whnf)
    | (refine g_skip ?_; conv => whnf)
    | (refine g_ret ?_; conv => whnf)
    | (refine g_exit ?_; conv => whnf)
    | (refine g_block ?_)
    | (refine g_quiet ?_)
    | (refine q_op ?_; conv => whnf)
    | (refine q_nil ?_; conv => whnf)
    | (refine q_opg ?_; conv => whnf)
    | (refine r_t ?_; conv => whnf)
    | (refine r_c ?_; conv => whnf)
    | (refine r_nil ?_; conv => whnf)
    | fail)
  refine XC.mono (fun d hp' h => ?_) (sz_StewWorld x _ _ hw (by decide) (by decide))
  obtain ⟨rfl, n, rfl, hn⟩ := h
  conv => whnf
  repeat' (first
    | (refine g_op ?_; conv => whnf)
    | (refine And.intro ?_ ?_; (focus (first | exact rfl | exact Nat.le_of_ble_eq_true rfl | decide | omega | fail)); conv => whnf)
    | (refine g_seq ?_)
    | (refine XS.go ?_)
    | (refine g_ops ?_)
    | (refine g_loop ?_)
    | (refine g_nil ?_; conv => whnf)
    | (refine g_opg ?_; conv => whnf)
    | (refine Br.t ?_ ?_; (focus (first | assumption | exact rfl)); conv => whnf)
    | (refine Br.f ?_ ?_; (focus (first | assumption | exact rfl)); conv => whnf)
    | (refine g_cond ?_; conv => whnf)
    | (refine g_skip ?_; conv => whnf)
    | (refine g_ret ?_; conv => whnf)
    | (refine g_exit ?_; conv => whnf)
    | (refine g_block ?_)
    | (refine g_quiet ?_)
    | (refine q_op ?_; conv => whnf)
    | (refine q_nil ?_; conv => whnf)
    | (refine q_opg ?_; conv => whnf)
    | (refine r_t ?_; conv => whnf)
    | (refine r_c ?_; conv => whnf)
    | (refine r_nil ?_; conv => whnf)
    | fail)
  refine Br.mk (fun hb => ?_) (fun hb => ?_)
  · conv => whnf
    repeat' (first
      | (refine g_op ?_; conv => whnf)
      | (refine And.intro ?_ ?_; (focus (first | exact rfl | exact Nat.le_of_ble_eq_true rfl | decide | omega | fail)); conv => whnf)
      | (refine g_seq ?_)
      | (refine XS.go ?_)
      | (refine g_ops ?_)
      | (refine g_loop ?_)
      | (refine g_nil ?_; conv => whnf)
      | (refine g_opg ?_; conv => whnf)
      | (refine Br.t ?_ ?_; (focus (first | assumption | exact rfl)); conv => whnf)
      | (refine Br.f ?_ ?_; (focus (first | assumption | exact rfl)); conv => whnf)
      | (refine g_cond ?_; conv => whnf)
      | (refine g_skip ?_; conv => whnf)
      | (refine g_ret ?_; conv => whnf)
      | (refine g_exit ?_; conv => whnf)
      | (refine g_block ?_)
      | (refine g_quiet ?_)
      | (refine q_op ?_; conv => whnf)
      | (refine q_nil ?_; conv => whnf)
      | (refine q_opg ?_; conv => whnf)
      | (refine r_t ?_; conv => whnf)
      | (refine r_c ?_; conv => whnf)
      | (refine r_nil ?_; conv => whnf)
      | fail)
    rfl
  have hs := (hn (Int.not_lt.1 (of_decide_eq_false hb))).2
  conv => whnf
  repeat' (first
    | (refine g_op ?_; conv => whnf)
    | (refine And.intro ?_ ?_; (focus (first | exact rfl | exact Nat.le_of_ble_eq_true rfl | decide | omega | fail)); conv => whnf)
    | (refine g_seq ?_)
    | (refine XS.go ?_)
    | (refine g_ops ?_)
    | (refine g_loop ?_)
    | (refine g_nil ?_; conv => whnf)
    | (refine g_opg ?_; conv => whnf)
    | (refine Br.t ?_ ?_; (focus (first | assumption | exact rfl)); conv => whnf)
    | (refine Br.f ?_ ?_; (focus (first | assumption | exact rfl)); conv => whnf)
    | (refine g_cond ?_; conv => whnf)
    | (refine g_skip ?_; conv => whnf)
    | (refine g_ret ?_; conv => whnf)
    | (refine g_exit ?_; conv => whnf)
    | (refine g_block ?_)
    | (refine g_quiet ?_)
    | (refine q_op ?_; conv => whnf)
    | (refine q_nil ?_; conv => whnf)
    | (refine q_opg ?_; conv => whnf)
    | (refine r_t ?_; conv => whnf)
    | (refine r_c ?_; conv => whnf)
    | (refine r_nil ?_; conv => whnf)
    | (refine Br.f (by simp) ?_; conv => whnf)
    | (refine XC.of_rdr (to_StewWorld x hs) ?_; conv => whnf)
    | (refine XC.of_rdr (spec_WorldOk x hs) ?_; conv => whnf)
    | (refine XC.of_rdr (impl_WorldOk x hs) ?_; conv => whnf)
    | (refine XC.of_rdr (eq_StewWorld x hs) ?_; conv => whnf)
    | (refine QC.of_rdr (to_StewWorld x hs) rfl ?_; conv => whnf)
    | (refine QC.of_rdr (spec_WorldOk x hs) rfl ?_; conv => whnf)
    | (refine QC.of_rdr (impl_WorldOk x hs) rfl ?_; conv => whnf)
    | (refine QC.of_rdr (eq_StewWorld x hs) rfl ?_; conv => whnf)
    | fail)
  rfl
end Go.Ab
