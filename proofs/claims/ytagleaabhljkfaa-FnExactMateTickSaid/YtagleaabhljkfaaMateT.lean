/- Steps towards the law: the machine, contracts of functions and facts of lists. -/
import Derived.Test.YtagleaabhljkfaaAb10
import Derived.Test.YtagleaabhljkfaaRows
set_option linter.unusedSimpArgs false
set_option linter.unusedVariables false
namespace Go.Ab
open Go Go.RowKit Go.Proofs
attribute [local irreducible] XC Rdr IntKind.wrap xw xos xqs xr xd
set_option maxRecDepth 100000
theorem hm : Try.prog.follows .mixedOrders = true := by kernel_rfl
def cf60 : CF := ⟨20,[.t 4],(.seq (.ops [Oo 2 (.bx (.t 0)),Ok 4 (.int .i64 0)]) (.seq (.ops [Om 5 1,Of 6 0 2,Ol 7 6,Oo 8 (.lens (.t 7)),Ob 9 .sub 5 8,Om 1 9]) (.seq (.seq (.ops [Om 10 1,Oo 11 (.bin .lss (.t 10) (.k (.int .i64 0)))]) (.cond (.t 11) (.seq (.ops [Ok 4 (.int .i64 (-1))]) .ret) .skip)) (.seq (.ops [Om 12 1,Of 13 2 2,Ol 14 13,Oo 15 (.lens (.t 14)),Ob 16 .sub 12 15,Om 1 16]) (.seq (.seq (.ops [Om 17 1,Oo 18 (.bin .lss (.t 17) (.k (.int .i64 0)))]) (.cond (.t 18) (.seq (.ops [Ok 4 (.int .i64 (-1))]) .ret) .skip)) (.seq (.ops [Om 19 1,Om 4 19]) .ret))))))⟩
theorem c60 : compileF Try.prog [] 60 = some cf60 := by kernel_rfl
def cf61 : CF := ⟨26,[.c 2 7 true],(.seq (.ops [Oo 1 (.bx (.t 0)),Oo 2 (.al (.agg [.str ⟨#[]⟩,.int .i64 0,.str ⟨#[]⟩,.int .i64 0,.int .i64 0,.int .i64 0,.int .i64 0]))]) (.seq (.ops [Oo 3 (.al (.agg [.str ⟨#[]⟩,.int .i64 0,.str ⟨#[]⟩,.int .i64 0,.int .i64 0,.int .i64 0,.int .i64 0]))]) (.seq (.ops [Of 4 0 1,Ol 5 4,Of 6 0 3,Os 1 6 5]) (.seq (.ops [Of 7 1 1,Ol 8 7,Of 9 1 3,Os 1 9 8]) (.seq (.ops [Of 10 2 1,Ol 11 10,Of 12 2 3,Os 1 12 11]) (.seq (.ops [Of 13 3 1,Ol 14 13,Of 15 3 3,Os 1 15 14]) (.seq (.ops [Of 16 4 1,Ol 17 16,Of 18 4 3,Os 1 18 17]) (.seq (.ops [Of 19 5 1,Ol 20 19,Of 21 5 3,Os 1 21 20]) (.seq (.ops [Of 22 6 1,Ol 23 22,Of 24 6 3,Os 1 24 23]) (.seq (.ops [Od 25 7 3,Os 7 2 25]) .ret))))))))))⟩
theorem c61 : compileF Try.prog [] 61 = some cf61 := by kernel_rfl
def cf64 : CF := ⟨40,[.t 4],(.seq (.ops [Oo 2 (.bx (.t 0)),Oo 3 (.bx (.t 1)),Ok 4 (.bool false)]) (.seq (.seq (.ops [Of 5 0 2,Ol 6 5,Of 7 0 3,Ol 8 7,Ob 9 .neq 6 8]) (.cond (.t 9) (.seq (.ops [Ok 4 (.bool false)]) .ret) .skip)) (.seq (.seq (.ops [Of 10 1 2,Ol 11 10,Of 12 1 3,Ol 13 12,Ob 14 .neq 11 13]) (.cond (.t 14) (.seq (.ops [Ok 4 (.bool false)]) .ret) .skip)) (.seq (.seq (.ops [Of 15 2 2,Ol 16 15,Of 17 2 3,Ol 18 17,Ob 19 .neq 16 18]) (.cond (.t 19) (.seq (.ops [Ok 4 (.bool false)]) .ret) .skip)) (.seq (.seq (.ops [Of 20 3 2,Ol 21 20,Of 22 3 3,Ol 23 22,Ob 24 .neq 21 23]) (.cond (.t 24) (.seq (.ops [Ok 4 (.bool false)]) .ret) .skip)) (.seq (.seq (.ops [Of 25 4 2,Ol 26 25,Of 27 4 3,Ol 28 27,Ob 29 .neq 26 28]) (.cond (.t 29) (.seq (.ops [Ok 4 (.bool false)]) .ret) .skip)) (.seq (.seq (.ops [Of 30 5 2,Ol 31 30,Of 32 5 3,Ol 33 32,Ob 34 .neq 31 33]) (.cond (.t 34) (.seq (.ops [Ok 4 (.bool false)]) .ret) .skip)) (.seq (.seq (.ops [Of 35 6 2,Ol 36 35,Of 37 6 3,Ol 38 37,Ob 39 .neq 36 38]) (.cond (.t 39) (.seq (.ops [Ok 4 (.bool false)]) .ret) .skip)) (.seq (.ops [Ok 4 (.bool true)]) .ret)))))))))⟩
theorem c64 : compileF Try.prog [] 64 = some cf64 := by kernel_rfl
def cf18 : CF := ⟨27,[.t 4],(.seq (.ops [Ok 4 (.int .i64 0)]) (.seq (.ops [Om 6 1,Om 7 0,Og 8 7,Ob 9 .sub 6 8,Om 1 9]) (.seq (.seq (.ops [Om 10 1,Oo 11 (.bin .lss (.t 10) (.k (.int .i64 0)))]) (.cond (.t 11) (.seq (.ops [Ok 4 (.int .i64 (-1))]) .ret) .skip)) (.seq (.seq (.ops [Ok 5 (.int .i64 0)]) (.block 0 (.loop (.seq (.seq (.ops [Om 12 5,Om 13 0,Og 14 13,Ob 15 .lss 12 14]) (.cond (.t 15) .skip (.exit 0))) (.seq (.block 1 (.seq (.ops [Om 18 0,Om 19 5,Ox 20 7 18 19,Od 21 7 20,Om 22 1,Oc 23 60 [.t 21,.t 22],Om 1 23]) (.seq (.ops [Om 24 1,Oo 25 (.bin .lss (.t 24) (.k (.int .i64 0)))]) (.cond (.t 25) (.seq (.ops [Ok 4 (.int .i64 (-1))]) .ret) .skip)))) (.ops [Om 16 5,Oi 17 16,Om 5 17])))))) (.seq (.ops [Om 26 1,Om 4 26]) .ret)))))⟩
theorem c18 : compileF Try.prog [] 18 = some cf18 := by kernel_rfl
def cf20 : CF := ⟨23,[.t 2],(.seq (.ops [Ok 2 (.nil)]) (.seq (.ops [Om 5 0,Og 6 5,Oo 7 (.mk (.agg [.str ⟨#[]⟩,.int .i64 0,.str ⟨#[]⟩,.int .i64 0,.int .i64 0,.int .i64 0,.int .i64 0]) 72 (.t 6) (.t 6)),Om 3 7]) (.seq (.seq (.ops [Ok 4 (.int .i64 0)]) (.block 0 (.loop (.seq (.seq (.ops [Om 8 4,Om 9 0,Og 10 9,Ob 11 .lss 8 10]) (.cond (.t 11) .skip (.exit 0))) (.seq (.block 1 (.ops [Om 14 3,Om 15 4,Om 16 0,Om 17 4,Ox 18 7 16 17,Od 19 7 18,Oc 20 61 [.t 19],Ox 21 7 14 15,Os 7 21 20])) (.ops [Om 12 4,Oi 13 12,Om 4 13])))))) (.seq (.ops [Om 22 3,Om 2 22]) .ret))))⟩
theorem c20 : compileF Try.prog [] 20 = some cf20 := by kernel_rfl
def cf22 : CF := ⟨27,[.t 4],(.seq (.ops [Ok 4 (.bool false)]) (.seq (.seq (.ops [Om 6 0,Og 7 6,Om 8 1,Og 9 8,Ob 10 .neq 7 9]) (.cond (.t 10) (.seq (.ops [Ok 4 (.bool false)]) .ret) .skip)) (.seq (.seq (.ops [Ok 5 (.int .i64 0)]) (.block 0 (.loop (.seq (.seq (.ops [Om 11 5,Om 12 0,Og 13 12,Ob 14 .lss 11 13]) (.cond (.t 14) .skip (.exit 0))) (.seq (.block 1 (.seq (.quiet [Om 17 0,Om 18 5,Ox 19 7 17 18,Od 20 7 19,Om 21 1,Om 22 5,Ox 23 7 21 22,Od 24 7 23,Oc 25 64 [.t 20,.t 24],Oo 26 (.not (.t 25))]) (.cond (.t 26) (.seq (.ops [Ok 4 (.bool false)]) .ret) .skip))) (.ops [Om 15 5,Oi 16 15,Om 5 16])))))) (.seq (.ops [Ok 4 (.bool true)]) .ret))))⟩
theorem c22 : compileF Try.prog [] 22 = some cf22 := by kernel_rfl
structure MateWant where
 fCopy : ByteArray
 fVersion : Int
 fHold : ByteArray
 fPull : Int
 fStart : Int
 fDies : Int
 fGrace : Int
def MateWant.D (x : MateWant) : D := .agg [.str x.fCopy, .int .i64 x.fVersion, .str x.fHold, .int .i64 x.fPull, .int .i64 x.fStart, .int .i64 x.fDies, .int .i64 x.fGrace]
instance : Inhabited MateWant := ⟨⟨⟨#[]⟩, 0, ⟨#[]⟩, 0, 0, 0, 0⟩⟩
structure MateWant.wf (x : MateWant) : Prop where
 fCopy : x.fCopy.size ≤ 9223372036854775807
 fHold : x.fHold.size ≤ 9223372036854775807
structure MateWant.small (x : MateWant) : Prop where
theorem MateWant.len (x : MateWant) : x.D.len = 7 := rfl
theorem args_MateWant {d : D} (h : Has (.st [.str, .int .i64, .str, .int .i64, .int .i64, .int .i64, .int .i64]) d) : ∃ x : MateWant, d = x.D ∧ x.wf := by
 rw [Has] at h
 obtain ⟨_, rfl, h⟩ := h
 simp only [HasF] at h
 obtain ⟨_, _, rfl, hCopy, _, _, rfl, hVersion, _, _, rfl, hHold, _, _, rfl, hPull, _, _, rfl, hStart, _, _, rfl, hDies, _, _, rfl, hGrace, rfl⟩ := h
 rw [Has] at hCopy
 obtain ⟨vCopy, rfl, wCopy⟩ := hCopy
 rw [Has] at hVersion
 obtain ⟨vVersion, rfl, _⟩ := hVersion
 rw [Has] at hHold
 obtain ⟨vHold, rfl, wHold⟩ := hHold
 rw [Has] at hPull
 obtain ⟨vPull, rfl, _⟩ := hPull
 rw [Has] at hStart
 obtain ⟨vStart, rfl, _⟩ := hStart
 rw [Has] at hDies
 obtain ⟨vDies, rfl, _⟩ := hDies
 rw [Has] at hGrace
 obtain ⟨vGrace, rfl, _⟩ := hGrace
 exact ⟨⟨vCopy, vVersion, vHold, vPull, vStart, vDies, vGrace⟩, rfl, ⟨wCopy, wHold⟩⟩
theorem sz_MateWant (x : MateWant) (k : Int) (hw : x.wf) (h0 : 0 ≤ k) (h1 : k ≤ 1048576) : XC Try.prog 60 [x.D, .int .i64 k] [] (fun d ls => ls = [] ∧ ∃ n, d = .int .i64 n ∧ (0 ≤ n → n ≤ k ∧ x.small)) := by
 refine XC.intro' hm [] rfl c60 (Nat.le_of_ble_eq_true rfl) ?_
 conv => whnf
 repeat' (first | (refine g_op ?_; conv => whnf) | (refine And.intro ?_ ?_; (focus exact au0); conv => whnf) | (refine g_seq ?_) | (refine XS.go ?_) | (refine g_ops ?_) | ((first | refine g_nil ?_ | refine g_cond ?_ | refine fun _ => ?_); conv => whnf) | fail)
 have q1 := hw.fCopy
 have e1 : IntKind.wrap .i64 (k - (x.fCopy.size : Int)) = k - (x.fCopy.size : Int) := wrap_ok (by omega) (by omega)
 rw [e1]
 refine Br.mk (fun hb => ?_) (fun hb => ?_)
 ·conv => whnf
  repeat' (first | (refine g_op ?_; conv => whnf) | (refine And.intro ?_ ?_; (focus exact au0); conv => whnf) | (refine g_seq ?_) | (refine XS.go ?_) | (refine g_ops ?_) | ((first | refine g_nil ?_ | refine g_ret ?_ | refine r_t ?_ | refine r_nil ?_); conv => whnf) | fail)
  exact ⟨_, rfl, fun h => absurd h (by decide)⟩
 have p1 : 0 ≤ (k - (x.fCopy.size : Int)) := Int.not_lt.1 (of_decide_eq_false hb)
 conv => whnf
 repeat' (first | (refine g_op ?_; conv => whnf) | (refine And.intro ?_ ?_; (focus exact au0); conv => whnf) | (refine g_seq ?_) | (refine XS.go ?_) | (refine g_ops ?_) | ((first | refine g_nil ?_ | refine g_cond ?_ | refine g_skip ?_); conv => whnf) | fail)
 have q2 := hw.fHold
 have e2 : IntKind.wrap .i64 ((k - (x.fCopy.size : Int)) - (x.fHold.size : Int)) = (k - (x.fCopy.size : Int)) - (x.fHold.size : Int) := wrap_ok (by omega) (by omega)
 rw [e2]
 refine Br.mk (fun hb => ?_) (fun hb => ?_)
 ·conv => whnf
  repeat' (first | (refine g_op ?_; conv => whnf) | (refine And.intro ?_ ?_; (focus exact au0); conv => whnf) | (refine g_seq ?_) | (refine XS.go ?_) | (refine g_ops ?_) | ((first | refine g_nil ?_ | refine g_ret ?_ | refine r_t ?_ | refine r_nil ?_); conv => whnf) | fail)
  exact ⟨_, rfl, fun h => absurd h (by decide)⟩
 have p2 : 0 ≤ ((k - (x.fCopy.size : Int)) - (x.fHold.size : Int)) := Int.not_lt.1 (of_decide_eq_false hb)
 conv => whnf
 repeat' (first | (refine g_op ?_; conv => whnf) | (refine And.intro ?_ ?_; (focus exact au0); conv => whnf) | (refine g_seq ?_) | (refine XS.go ?_) | (refine g_ops ?_) | ((first | refine g_nil ?_ | refine g_skip ?_ | refine g_ret ?_ | refine r_t ?_ | refine r_nil ?_); conv => whnf) | fail)
 exact ⟨_, rfl, fun _ => ⟨by omega, ⟨⟩⟩⟩
theorem to_MateWant (x : MateWant) (hs : x.small) : Rdr Try.prog 61 [x.D] x.D := by
 refine Rdr.intro' hm c61 (Nat.le_of_ble_eq_true rfl) ?_
 conv => whnf
 repeat' (first | (refine g_op ?_; conv => whnf) | (refine And.intro ?_ ?_; (focus exact au0); conv => whnf) | (refine g_seq ?_) | (refine XS.go ?_) | (refine g_ops ?_) | ((first | refine g_nil ?_ | refine g_ret ?_ | refine r_c ?_ | refine r_nil ?_ | refine fun _ => ?_); conv => whnf) | fail)
 all_goals rfl
theorem eq_MateWant (x : MateWant) (hs : x.small) : Rdr Try.prog 64 [x.D, x.D] (.bool true) := by
 refine Rdr.intro' hm c64 (Nat.le_of_ble_eq_true rfl) ?_
 conv => whnf
 repeat' (first | (refine g_op ?_; conv => whnf) | (refine And.intro ?_ ?_; (focus exact au0); conv => whnf) | (refine g_seq ?_) | (refine XS.go ?_) | (refine g_ops ?_) | ((first | refine g_nil ?_ | refine g_cond ?_ | refine g_skip ?_ | refine g_ret ?_ | refine r_t ?_ | refine r_nil ?_ | refine fun _ => ?_ | refine Br.f (by simp) ?_); conv => whnf) | fail)
 all_goals rfl
theorem args_MateWantS {d : D} (h : Has (.sl 7 (.st [.str, .int .i64, .str, .int .i64, .int .i64, .int .i64, .int .i64])) d) : ∃ l : (List MateWant), d = .ro 7 (l.map MateWant.D) ∧ l.length ≤ 9223372036854775807 ∧ ∀ y ∈ l, y.wf := by
 rw [Has] at h
 obtain ⟨ds, rfl, hm, hd⟩ := h
 have : ∃ l : (List MateWant), ds = l.map MateWant.D ∧ ∀ y ∈ l, y.wf := by
  clear hm
  induction ds with
  | nil => exact ⟨[], rfl, by simp⟩
  | cons d ds ih =>
   obtain ⟨l, rfl, hl⟩ := ih (fun x hx => hd x (List.mem_cons_of_mem _ hx))
   obtain ⟨v, rfl, wv⟩ : ∃ v : MateWant, d = MateWant.D v ∧ v.wf := args_MateWant (hd _ (List.mem_cons_self ..))
   exact ⟨v :: l, rfl, fun y hy => by rcases List.mem_cons.1 hy with rfl | hy <;> first | exact wv | exact hl y hy⟩
 obtain ⟨l, rfl, hl⟩ := this
 exact ⟨l, rfl, by rw [List.length_map] at hm; exact hm, hl⟩
theorem to_MateWantS (l : (List MateWant)) (hs : l.length ≤ 1048576 ∧ ∀ y ∈ l, y.small) : Rdr Try.prog 20 [.ro 7 (l.map MateWant.D)] (.ro 7 (l.map MateWant.D)) :=
 toS_rdr hm c20 (zs := [.str ⟨#[]⟩, .int .i64 0, .str ⟨#[]⟩, .int .i64 0, .int .i64 0, .int .i64 0, .int .i64 0]) rfl (by decide) (by decide) (by simpa using hs.1) (fun d hd => by obtain ⟨x, hx, rfl⟩ := List.mem_map.1 hd; exact ⟨_, rfl, rfl, to_MateWant x (hs.2 x hx)⟩) (D.frozs_map (fun _ => rfl) _)
theorem eq_MateWantS (l : (List MateWant)) (hs : l.length ≤ 1048576 ∧ ∀ y ∈ l, y.small) : Rdr Try.prog 22 [.ro 7 (l.map MateWant.D), .ro 7 (l.map MateWant.D)] (.bool true) :=
 eqS_rdr hm c22 (by decide) (by rw [List.length_map]; exact Nat.le_trans hs.1 (by decide)) (fun d hd => by obtain ⟨x, hx, rfl⟩ := List.mem_map.1 hd; exact ⟨_, rfl, rfl, eq_MateWant x (hs.2 x hx)⟩)
theorem sz_MateWantS (l : (List MateWant)) (k : Int) (hw : l.length ≤ 9223372036854775807 ∧ ∀ y ∈ l, y.wf) (h0 : 0 ≤ k) (h1 : k ≤ 1048576) : XC Try.prog 18 [.ro 7 (l.map MateWant.D), .int .i64 k] [] (fun d ls => ls = [] ∧ ∃ n, d = .int .i64 n ∧ (0 ≤ n → n ≤ k ∧ l.length ≤ 1048576 ∧ ∀ y ∈ l, y.small)) :=
 szS_xc hm c18 (fun x : MateWant => [.str x.fCopy, .int .i64 x.fVersion, .str x.fHold, .int .i64 x.fPull, .int .i64 x.fStart, .int .i64 x.fDies, .int .i64 x.fGrace]) (fun x => x.small) l k (by decide) (fun x => rfl) hw.1 h0 h1 (fun x hx k' h0' h1' => sz_MateWant x k' (hw.2 x hx) h0' h1')
end Go.Ab
