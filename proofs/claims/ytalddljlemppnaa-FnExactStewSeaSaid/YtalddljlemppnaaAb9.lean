/- Steps towards the law: the machine, contracts of functions and facts of lists. -/
import Derived.Test.YtalddljlemppnaaAb8
set_option linter.unusedSimpArgs false
set_option linter.unusedVariables false
namespace Go.Ab
open Go Go.RowKit
attribute [local irreducible] IntKind.wrap xw xos xqs xr xd
set_option maxRecDepth 100000
/-! ### Loops that are alike for all types -/
def cfToS (g es bytes : Nat) (z : D) : CF := ⟨23, [.t 2],
 (.seq (.ops [⟨some 2, .mv (.k (.nil)), none⟩])
 (.seq (.ops [⟨some 5, .mv (.t 0), none⟩,
  ⟨some 6, .lenl (.t 5), none⟩,
  ⟨some 7, .mk z bytes (.t 6) (.t 6), none⟩,
  ⟨some 3, .mv (.t 7), none⟩])
 (.seq (.seq (.ops [⟨some 4, .mv (.k (.int .i64 0)), none⟩])
 (.block 0 (.loop (.seq (.seq (.ops [⟨some 8, .mv (.t 4), none⟩,
  ⟨some 9, .mv (.t 0), none⟩,
  ⟨some 10, .lenl (.t 9), none⟩,
  ⟨some 11, .bin .lss (.t 8) (.t 10), none⟩])
 (.cond (.t 11)
 .skip
 (.exit 0)))
 (.seq (.block 1 (.ops [⟨some 14, .mv (.t 3), none⟩,
  ⟨some 15, .mv (.t 4), none⟩,
  ⟨some 16, .mv (.t 0), none⟩,
  ⟨some 17, .mv (.t 4), none⟩,
  ⟨some 18, .ix es (.t 16) (.t 17), none⟩,
  ⟨some 19, .ld es true (.t 18), none⟩,
  ⟨some 20, .call g [(.t 19)], none⟩,
  ⟨some 21, .ix es (.t 14) (.t 15), none⟩,
  ⟨none, .st es (.t 21) (.t 20), none⟩]))
 (.ops [⟨some 12, .mv (.t 4), none⟩,
  ⟨some 13, .bin .add (.t 12) (.k (.int .i64 1)), none⟩,
  ⟨some 4, .mv (.t 13), none⟩]))))))
 (.seq (.ops [⟨some 22, .mv (.t 3), none⟩,
  ⟨some 2, .mv (.t 22), none⟩])
 .ret))))⟩
section
variable {P : Program} (hm : P.follows .mixedOrders = true)
include hm
omit hm in
theorem XCL.ask {f : FuncId} {ds : List D} {st : St} {K : D → St → Prop} {R : D → Prop} (h : XC P f ds [] fun d ls => ls = [] ∧ R d) (hk : ∀ d, R d → K d st) : XCL P f ds st K :=
 .of_XC (ls := []) trivial (h.mono fun d ls ⟨e, r⟩ => by subst e; exact hk d r)
theorem toS_xc {f g es bytes : Nat} {zs ds : List D} (hc : compileF P [] f = some (cfToS g es bytes (.agg zs))) (hz : D.lens zs = es) (hes : es ≠ 0) (hb : bytes ≤ 10000) (hl : ds.length ≤ 1048576)
  (hd : ∀ d ∈ ds, ∃ fs, d = .agg fs ∧ D.lens fs = es ∧ Rdr P g [.agg fs] (.agg fs)) : XC P f [.ro es ds] [] fun d ls => ∃ b, d = .lsl 7 b ds.length ds.length ∧ ls = [(7, b, .arr es ds ds.length)] := by
 have hlen : ∀ d ∈ ds, d.len = es := fun d h => by obtain ⟨v, rfl, h1, _⟩ := hd d h; exact h1
 have hbb : (bytes : Int) * (ds.length : Int) ≤ 140737488355328 := by
  have h1 : (bytes : Int) * (ds.length : Int) ≤ 10000 * (ds.length : Int) := Int.mul_le_mul_of_nonneg_right (by omega) (by omega)
  omega
 subst hz
 refine XC.intro' hm [7] rfl hc (Nat.le_of_ble_eq_true rfl) ?_
 conv => whnf
 repeat' (first | (refine g_op ?_; conv => whnf) | (refine And.intro ?_ ?_; (focus exact au0); conv => whnf) | (refine g_seq ?_) | (refine XS.go ?_) | (refine g_ops ?_) | (refine g_loop ?_) | (refine g_nil ?_; conv => whnf) | (refine g_block ?_) | (refine fun _ => ?_; conv => whnf) | fail)
 refine XLc.mkA (α := Nat) (fun i => i ≤ ds.length) (fun i => ds.length - i) (fun i gs => [.ro (D.lens zs) ds, .any, .nil, .lsl 7 (gs 7) (ds.length : Int).toNat (ds.length : Int).toNat, .int .i64 (i : Int)]) (fun i gs => [(7, .arr (D.lens zs) (fill (.agg zs) ds i) (ds.length : Int).toNat)]) 0 (Nat.zero_le _) ?_ ?_
 ·refine ⟨?_, ?_⟩
  ·repeat' (first | exact True.intro | refine And.intro rfl ?_)
  ·refine And.intro ?_ True.intro
   rw [fill_zero]
   rfl
 intro i gs hi
 repeat' (first | (refine g_op ?_; conv => whnf) | (refine And.intro ?_ ?_; (focus exact au0); conv => whnf) | (refine g_seq ?_) | (refine XS.go ?_) | (refine g_ops ?_) | ((first | refine g_nil ?_ | refine g_cond ?_); conv => whnf) | fail)
 refine Br.mk (fun hb => ?_) (fun hb => ?_)
 ·have hlt : i < ds.length := by simpa using hb
  obtain ⟨fs, hv, hfl, hR⟩ : ∃ fs, ds.getD (i : Int).toNat .any = .agg fs ∧ D.lens fs = D.lens zs ∧ Rdr P g [.agg fs] (.agg fs) := by
   have e : ds.getD (i : Int).toNat .any = ds[i] := by simp [hlt]
   rw [e]
   exact hd _ (List.getElem_mem _)
  conv => whnf
  repeat' (first | (refine g_op ?_; conv => whnf) | (refine And.intro ?_ ?_; (focus exact au0); conv => whnf) | (refine g_seq ?_) | (refine XS.go ?_) | (refine g_ops ?_) | (refine g_skip ?_; conv => whnf) | (refine g_block ?_) | fail)
  rw [hv]
  refine And.intro hfl ?_
  repeat' (first | (refine And.intro ?_ ?_; (focus exact au0); conv => whnf) | fail)
  refine (deepsK_eq _ _).mpr ?_
  conv => whnf
  repeat' (first | (refine g_op ?_; conv => whnf) | (refine And.intro ?_ ?_; (focus exact au0); conv => whnf) | fail)
  refine XCL.of_rdr hR ?_
  conv => whnf
  refine (deepsK_eq _ _).mpr ?_
  conv => whnf
  repeat' (first | (refine g_op ?_; conv => whnf) | (refine And.intro ?_ ?_; (focus exact au0); conv => whnf) | fail)
  refine (deepsK_eq _ _).mpr ?_
  conv => whnf
  refine And.intro rfl ?_
  refine And.intro hfl ?_
  repeat' (first | (refine And.intro ?_ ?_; (focus exact au0); conv => whnf) | fail)
  have hzl : ∀ d ∈ fill (.agg zs) ds i, d.len = D.lens zs := fill_lens rfl hlen
  have hel : (fill (.agg zs) ds i).getD (i : Int).toNat .any = .agg zs := by
   have := fill_get (z := .agg zs) hlt
   simp [this]
  refine And.intro ?_ ?_
  ·show i < _
   rw [fill_length hi]; exact hlt
  rw [hel]
  refine And.intro rfl ?_
  have hset : D.set (.agg zs) [] (.agg fs) = some (.agg fs) := by
   show (if D.lens zs = D.lens fs ∧ true = true then some (D.agg fs) else none) = _
   rw [if_pos ⟨hfl.symm, rfl⟩]
  rw [hset]
  refine (deepK_eq _ _).mpr ?_
  conv => whnf
  repeat' (first | (refine g_op ?_; conv => whnf) | (refine And.intro ?_ ?_; (focus exact au0); conv => whnf) | (refine XS.go ?_) | (refine g_ops ?_) | (refine g_nil ?_; conv => whnf) | fail)
  have hw : IntKind.wrap .i64 ((i : Int) + 1) = ((i + 1 : Nat) : Int) := by rw [wrap_ok (by omega) (by omega)]; rfl
  refine ⟨i + 1, by omega, by omega, ?_, ?_⟩
  ·refine And.intro rfl ?_
   refine And.intro rfl ?_
   refine And.intro rfl ?_
   exact And.intro (congrArg (D.int .i64) hw) True.intro
  ·refine And.intro ?_ True.intro
   have e : (fill (.agg zs) ds i).set i (.agg fs) = fill (.agg zs) ds (i + 1) := by rw [← hv]; exact fill_set hlt
   exact congrArg (fun l => some (D.arr (D.lens zs) l ds.length)) e
 ·have he : i = ds.length := by
                 have : ¬ ((i : Int) < ds.length) := by simpa using hb
                 omega
  conv => whnf
  repeat' (first | (refine g_op ?_; conv => whnf) | (refine And.intro ?_ ?_; (focus exact au0); conv => whnf) | (refine g_seq ?_) | (refine XS.go ?_) | (refine g_ops ?_) | ((first | refine g_nil ?_ | refine g_ret ?_ | refine g_exit ?_ | refine r_t ?_ | refine r_nil ?_); conv => whnf) | fail)
  rw [he, fill_all]
  exact ⟨_, rfl, rfl⟩
theorem toS_rdr {f g es bytes : Nat} {zs ds : List D} (hc : compileF P [] f = some (cfToS g es bytes (.agg zs))) (hz : D.lens zs = es) (hes : es ≠ 0) (hb : bytes ≤ 10000) (hl : ds.length ≤ 1048576)
  (hd : ∀ d ∈ ds, ∃ fs, d = .agg fs ∧ D.lens fs = es ∧ Rdr P g [.agg fs] (.agg fs)) (hf : D.frozs ds = ds) : Rdr P f [.ro es ds] (.ro es ds) :=
 .of_XCF ((toS_xc hm hc hz hes hb hl hd).mono fun d ls ⟨b, h1, h2⟩ => by
  subst h1 h2
  refine ⟨⟨rfl, Nat.le_refl _⟩, ?_⟩
  show D.ro es ((D.frozs ds).take ds.length) = _
  rw [hf, List.take_length])
def cfEqS (g es : Nat) : CF := ⟨27, [.t 4],
 (.seq (.ops [⟨some 4, .mv (.k (.bool false)), none⟩])
 (.seq (.seq (.ops [⟨some 6, .mv (.t 0), none⟩,
  ⟨some 7, .lenl (.t 6), none⟩,
  ⟨some 8, .mv (.t 1), none⟩,
  ⟨some 9, .lenl (.t 8), none⟩,
  ⟨some 10, .bin .neq (.t 7) (.t 9), none⟩])
 (.cond (.t 10)
 (.seq (.ops [⟨some 4, .mv (.k (.bool false)), none⟩])
 .ret)
 .skip))
 (.seq (.seq (.ops [⟨some 5, .mv (.k (.int .i64 0)), none⟩])
 (.block 0 (.loop (.seq (.seq (.ops [⟨some 11, .mv (.t 5), none⟩,
  ⟨some 12, .mv (.t 0), none⟩,
  ⟨some 13, .lenl (.t 12), none⟩,
  ⟨some 14, .bin .lss (.t 11) (.t 13), none⟩])
 (.cond (.t 14)
 .skip
 (.exit 0)))
 (.seq (.block 1 (.seq (.quiet [⟨some 17, .mv (.t 0), none⟩,
  ⟨some 18, .mv (.t 5), none⟩,
  ⟨some 19, .ix es (.t 17) (.t 18), none⟩,
  ⟨some 20, .ld es true (.t 19), none⟩,
  ⟨some 21, .mv (.t 1), none⟩,
  ⟨some 22, .mv (.t 5), none⟩,
  ⟨some 23, .ix es (.t 21) (.t 22), none⟩,
  ⟨some 24, .ld es true (.t 23), none⟩,
  ⟨some 25, .call g [(.t 20), (.t 24)], none⟩,
  ⟨some 26, .not (.t 25), none⟩])
 (.cond (.t 26)
 (.seq (.ops [⟨some 4, .mv (.k (.bool false)), none⟩])
 .ret)
 .skip)))
 (.ops [⟨some 15, .mv (.t 5), none⟩,
  ⟨some 16, .bin .add (.t 15) (.k (.int .i64 1)), none⟩,
  ⟨some 5, .mv (.t 16), none⟩]))))))
 (.seq (.ops [⟨some 4, .mv (.k (.bool true)), none⟩])
 .ret))))⟩
theorem eqS_rdr {f g es : Nat} {ds : List D} (hc : compileF P [] f = some (cfEqS g es)) (hes : es ≠ 0) (hl : ds.length ≤ 9223372036854775807)
  (hd : ∀ d ∈ ds, ∃ fs, d = .agg fs ∧ D.lens fs = es ∧ Rdr P g [.agg fs, .agg fs] (.bool true)) : Rdr P f [.ro es ds, .ro es ds] (.bool true) := by
 refine Rdr.intro' hm hc (Nat.le_of_ble_eq_true rfl) ?_
 conv => whnf
 repeat' (first | (refine g_op ?_; conv => whnf) | (refine And.intro ?_ ?_; (focus exact au0); conv => whnf) | (refine g_seq ?_) | (refine XS.go ?_) | (refine g_ops ?_) | ((first | refine g_nil ?_ | refine g_cond ?_); conv => whnf) | fail)
 refine Br.mk (fun hb => ?_) (fun hb => ?_)
 ·simp at hb
 conv => whnf
 repeat' (first | (refine g_op ?_; conv => whnf) | (refine And.intro ?_ ?_; (focus exact au0); conv => whnf) | (refine g_seq ?_) | (refine XS.go ?_) | (refine g_ops ?_) | (refine g_loop ?_) | ((first | refine g_nil ?_ | refine g_skip ?_); conv => whnf) | (refine g_block ?_) | fail)
 refine XLc.mkL (α := Nat) (fun i => i ≤ ds.length) (fun i => ds.length - i) (fun i gs => [.ro es ds, .ro es ds, .any, .any, .bool false, .int .i64 (i : Int)]) (fun i gs => []) 0 (Nat.zero_le _) ?_ ?_
 ·refine ⟨?_, True.intro⟩
  repeat' (first | exact True.intro | refine And.intro rfl ?_)
 intro i gs hi
 repeat' (first | (refine g_op ?_; conv => whnf) | (refine And.intro ?_ ?_; (focus exact au0); conv => whnf) | (refine g_seq ?_) | (refine XS.go ?_) | (refine g_ops ?_) | ((first | refine g_nil ?_ | refine g_cond ?_); conv => whnf) | fail)
 refine Br.mk (fun hb => ?_) (fun hb => ?_)
 ·have hlt : i < ds.length := by simpa using hb
  obtain ⟨fs, hv, hfl, hR⟩ : ∃ fs, ds.getD (i : Int).toNat .any = .agg fs ∧ D.lens fs = es ∧ Rdr P g [.agg fs, .agg fs] (.bool true) := by
   have e : ds.getD (i : Int).toNat .any = ds[i] := by simp [hlt]
   rw [e]
   exact hd _ (List.getElem_mem _)
  conv => whnf
  repeat' (first | (refine And.intro ?_ ?_; (focus exact au0); conv => whnf) | (refine g_seq ?_) | (refine XS.go ?_) | (refine g_skip ?_; conv => whnf) | (refine g_block ?_) | (refine g_quiet ?_) | (refine q_op ?_; conv => whnf) | fail)
  rw [hv]
  refine And.intro hfl ?_
  repeat' (first | (refine And.intro ?_ ?_; (focus exact au0); conv => whnf) | fail)
  refine (deepsK_eq _ _).mpr ?_
  conv => whnf
  repeat' (first | (refine And.intro ?_ ?_; (focus exact au0); conv => whnf) | (refine q_op ?_; conv => whnf) | fail)
  rw [hv]
  refine And.intro hfl ?_
  repeat' (first | (refine And.intro ?_ ?_; (focus exact au0); conv => whnf) | fail)
  refine (deepsK_eq _ _).mpr ?_
  conv => whnf
  repeat' (first | (refine And.intro ?_ ?_; (focus exact au0); conv => whnf) | (refine q_op ?_; conv => whnf) | fail)
  refine QC.of_rdr hR ?_
  conv => whnf
  repeat' (first | (refine g_op ?_; conv => whnf) | (refine And.intro ?_ ?_; (focus exact au0); conv => whnf) | (refine XS.go ?_) | (refine g_ops ?_) | (refine g_nil ?_; conv => whnf) | (refine Br.f ?_ ?_; (focus (first | assumption | exact rfl)); conv => whnf) | ((first | refine g_cond ?_ | refine g_skip ?_ | refine q_op ?_ | refine q_nil ?_); conv => whnf) | fail)
  have hw : IntKind.wrap .i64 ((i : Int) + 1) = ((i + 1 : Nat) : Int) := by rw [wrap_ok (by omega) (by omega)]; rfl
  refine ⟨i + 1, by omega, by omega, ?_, True.intro⟩
  refine And.intro rfl ?_
  refine And.intro rfl ?_
  refine And.intro rfl ?_
  exact And.intro (congrArg (D.int .i64) hw) True.intro
 ·conv => whnf
  repeat' (first | (refine g_op ?_; conv => whnf) | (refine And.intro ?_ ?_; (focus exact au0); conv => whnf) | (refine g_seq ?_) | (refine XS.go ?_) | (refine g_ops ?_) | ((first | refine g_nil ?_ | refine g_ret ?_ | refine g_exit ?_ | refine r_t ?_ | refine r_nil ?_); conv => whnf) | fail)
  rfl
def cfSzS (g es : Nat) : CF := ⟨27, [.t 4],
 (.seq (.ops [⟨some 4, .mv (.k (.int .i64 0)), none⟩])
 (.seq (.ops [⟨some 6, .mv (.t 1), none⟩,
  ⟨some 7, .mv (.t 0), none⟩,
  ⟨some 8, .lenl (.t 7), none⟩,
  ⟨some 9, .bin .sub (.t 6) (.t 8), none⟩,
  ⟨some 1, .mv (.t 9), none⟩])
 (.seq (.seq (.ops [⟨some 10, .mv (.t 1), none⟩,
  ⟨some 11, .bin .lss (.t 10) (.k (.int .i64 0)), none⟩])
 (.cond (.t 11)
 (.seq (.ops [⟨some 4, .mv (.k (.int .i64 (-1))), none⟩])
 .ret)
 .skip))
 (.seq (.seq (.ops [⟨some 5, .mv (.k (.int .i64 0)), none⟩])
 (.block 0 (.loop (.seq (.seq (.ops [⟨some 12, .mv (.t 5), none⟩,
  ⟨some 13, .mv (.t 0), none⟩,
  ⟨some 14, .lenl (.t 13), none⟩,
  ⟨some 15, .bin .lss (.t 12) (.t 14), none⟩])
 (.cond (.t 15)
 .skip
 (.exit 0)))
 (.seq (.block 1 (.seq (.ops [⟨some 18, .mv (.t 0), none⟩,
  ⟨some 19, .mv (.t 5), none⟩,
  ⟨some 20, .ix es (.t 18) (.t 19), none⟩,
  ⟨some 21, .ld es true (.t 20), none⟩,
  ⟨some 22, .mv (.t 1), none⟩,
  ⟨some 23, .call g [(.t 21), (.t 22)], none⟩,
  ⟨some 1, .mv (.t 23), none⟩])
 (.seq (.ops [⟨some 24, .mv (.t 1), none⟩,
  ⟨some 25, .bin .lss (.t 24) (.k (.int .i64 0)), none⟩])
 (.cond (.t 25)
 (.seq (.ops [⟨some 4, .mv (.k (.int .i64 (-1))), none⟩])
 .ret)
 .skip))))
 (.ops [⟨some 16, .mv (.t 5), none⟩,
  ⟨some 17, .bin .add (.t 16) (.k (.int .i64 1)), none⟩,
  ⟨some 5, .mv (.t 17), none⟩]))))))
 (.seq (.ops [⟨some 26, .mv (.t 1), none⟩,
  ⟨some 4, .mv (.t 26), none⟩])
 .ret)))))⟩
theorem szS_xc {f g es : Nat} {α : Type} (hc : compileF P [] f = some (cfSzS g es)) (F : α → List D) (S : α → Prop) (l : List α) (k : Int) (hes : es ≠ 0) (hF : ∀ x, D.lens (F x) = es) (hl : l.length ≤ 9223372036854775807) (h0 : 0 ≤ k) (h1 : k ≤ 1048576)
  (hd : ∀ x ∈ l, ∀ k', 0 ≤ k' → k' ≤ 1048576 → XC P g [.agg (F x), .int .i64 k'] [] (fun d ls => ls = [] ∧ ∃ n, d = .int .i64 n ∧ (0 ≤ n → n ≤ k' ∧ S x))) :
  XC P f [.ro es (l.map fun x => .agg (F x)), .int .i64 k] [] (fun d ls => ls = [] ∧ ∃ n, d = .int .i64 n ∧ (0 ≤ n → n ≤ k ∧ l.length ≤ 1048576 ∧ ∀ x ∈ l, S x)) := by
 have hlen : ((l.map fun x => D.agg (F x)).length : Int) = (l.length : Int) := by simp
 refine XC.intro' hm [] rfl hc (Nat.le_of_ble_eq_true rfl) ?_
 conv => whnf
 repeat' (first | (refine g_op ?_; conv => whnf) | (refine And.intro ?_ ?_; (focus exact au0); conv => whnf) | (refine g_seq ?_) | (refine XS.go ?_) | (refine g_ops ?_) | ((first | refine g_nil ?_ | refine g_cond ?_); conv => whnf) | fail)
 have e0 : IntKind.wrap .i64 (k - (l.length : Int)) = k - (l.length : Int) := wrap_ok (by omega) (by omega)
 rw [hlen, e0]
 refine Br.mk (fun hb => ?_) (fun hb => ?_)
 ·conv => whnf
  repeat' (first | (refine g_op ?_; conv => whnf) | (refine And.intro ?_ ?_; (focus exact au0); conv => whnf) | (refine g_seq ?_) | (refine XS.go ?_) | (refine g_ops ?_) | ((first | refine g_nil ?_ | refine g_ret ?_ | refine r_t ?_ | refine r_nil ?_); conv => whnf) | fail)
  exact ⟨_, rfl, fun h => absurd h (by decide)⟩
 have hk0 : 0 ≤ k - (l.length : Int) := Int.not_lt.1 (of_decide_eq_false hb)
 conv => whnf
 repeat' (first | (refine g_op ?_; conv => whnf) | (refine And.intro ?_ ?_; (focus exact au0); conv => whnf) | (refine g_seq ?_) | (refine XS.go ?_) | (refine g_ops ?_) | (refine g_loop ?_) | ((first | refine g_nil ?_ | refine g_skip ?_); conv => whnf) | (refine g_block ?_) | fail)
 refine XLc.mkL (α := Nat × Int) (fun p => p.1 ≤ l.length ∧ 0 ≤ p.2 ∧ p.2 ≤ k ∧ ∀ x ∈ l.take p.1, S x) (fun p => l.length - p.1) (fun p gs => [.ro es (l.map fun x => .agg (F x)), .int .i64 p.2, .any, .any, .int .i64 0, .int .i64 (p.1 : Int)]) (fun i gs => []) (0, k - (l.length : Int)) ⟨Nat.zero_le _, hk0, by simp only; omega, by simp⟩ ?_ ?_
 ·refine ⟨?_, True.intro⟩
  repeat' (first | exact True.intro | refine And.intro rfl ?_)
 intro p gs hi
 obtain ⟨i, q⟩ := p
 obtain ⟨hi, hq0, hqk, hS⟩ := hi
 simp only at hi hq0 hqk hS
 repeat' (first | (refine g_op ?_; conv => whnf) | (refine And.intro ?_ ?_; (focus exact au0); conv => whnf) | (refine g_seq ?_) | (refine XS.go ?_) | (refine g_ops ?_) | ((first | refine g_nil ?_ | refine g_cond ?_); conv => whnf) | fail)
 rw [hlen]
 refine Br.mk (fun hb => ?_) (fun hb => ?_)
 ·have hlt : i < l.length := by simpa using hb
  have hlt' : (i : Int) < ((l.map fun x => D.agg (F x)).length : Int) := by simpa using hlt
  have hv : (l.map fun x => D.agg (F x)).getD (i : Int).toNat .any = .agg (F l[i]) := by simp [hlt]
  have hmem : l[i] ∈ l := List.getElem_mem _
  have htk : l.take (i + 1) = l.take i ++ [l[i]] := List.take_succ_eq_append_getElem hlt
  conv => whnf
  repeat' (first | (refine g_op ?_; conv => whnf) | (refine And.intro ?_ ?_; (focus exact au0); conv => whnf) | (refine g_seq ?_) | (refine XS.go ?_) | (refine g_ops ?_) | (refine g_skip ?_; conv => whnf) | (refine g_block ?_) | fail)
  rw [hv]
  refine And.intro (hF _) ?_
  repeat' (first | (refine And.intro ?_ ?_; (focus exact au0); conv => whnf) | fail)
  refine (deepsK_eq _ _).mpr ?_
  conv => whnf
  repeat' (first | (refine g_op ?_; conv => whnf) | (refine And.intro ?_ ?_; (focus exact au0); conv => whnf) | fail)
  refine XCL.ask (hd l[i] hmem q hq0 (by omega)) (fun d h => ?_)
  obtain ⟨n, rfl, hn⟩ := h
  conv => whnf
  repeat' (first | (refine g_op ?_; conv => whnf) | (refine And.intro ?_ ?_; (focus exact au0); conv => whnf) | (refine g_seq ?_) | (refine XS.go ?_) | (refine g_ops ?_) | ((first | refine g_nil ?_ | refine g_cond ?_); conv => whnf) | fail)
  refine Br.mk (fun hc => ?_) (fun hc => ?_)
  ·conv => whnf
   repeat' (first | (refine g_op ?_; conv => whnf) | (refine And.intro ?_ ?_; (focus exact au0); conv => whnf) | (refine g_seq ?_) | (refine XS.go ?_) | (refine g_ops ?_) | ((first | refine g_nil ?_ | refine g_ret ?_ | refine r_t ?_ | refine r_nil ?_); conv => whnf) | fail)
   exact ⟨_, rfl, fun h => absurd h (by decide)⟩
  have hn0 : 0 ≤ n := Int.not_lt.1 (of_decide_eq_false hc)
  obtain ⟨hnq, hSx⟩ := hn hn0
  conv => whnf
  repeat' (first | (refine g_op ?_; conv => whnf) | (refine And.intro ?_ ?_; (focus exact au0); conv => whnf) | (refine XS.go ?_) | (refine g_ops ?_) | ((first | refine g_nil ?_ | refine g_skip ?_); conv => whnf) | fail)
  have hw : IntKind.wrap .i64 ((i : Int) + 1) = ((i + 1 : Nat) : Int) := by rw [wrap_ok (by omega) (by omega)]; rfl
  refine ⟨(i + 1, n), ⟨by simp only; omega, hn0, by simp only; omega, fun x hx => ?_⟩, by simp only; omega, ?_, True.intro⟩
  ·simp only [htk, List.mem_append, List.mem_singleton] at hx
   rcases hx with hx | rfl
   ·exact hS x hx
   ·exact hSx
  refine And.intro rfl ?_
  refine And.intro rfl ?_
  refine And.intro rfl ?_
  exact And.intro (congrArg (D.int .i64) hw) True.intro
 ·have hge : l.length ≤ i := by
                 have : ¬ ((i : Int) < l.length) := by simpa using hb
                 omega
  conv => whnf
  repeat' (first | (refine g_op ?_; conv => whnf) | (refine And.intro ?_ ?_; (focus exact au0); conv => whnf) | (refine g_seq ?_) | (refine XS.go ?_) | (refine g_ops ?_) | ((first | refine g_nil ?_ | refine g_ret ?_ | refine g_exit ?_ | refine r_t ?_ | refine r_nil ?_); conv => whnf) | fail)
  refine ⟨_, rfl, fun _ => ⟨hqk, by omega, fun x hx => hS x (by rw [List.take_of_length_le hge]; exact hx)⟩⟩
end
def allN (f : Nat → Bool) : Nat → Nat → Bool
 | 0, _ => true
 | k + 1, i => f i && allN f k (i + 1)
theorem allN_step {f : Nat → Bool} {n i : Nat} (h : i < n) : allN f (n - i) i = (f i && allN f (n - (i + 1)) (i + 1)) := by
 have e : n - i = (n - (i + 1)) + 1 := by omega
 rw [e, allN]
theorem allN_end {f : Nat → Bool} {n i : Nat} (h : ¬ i < n) : allN f (n - i) i = true := by
 have e : n - i = 0 := by omega
 rw [e, allN]
theorem allN_bad {f : Nat → Bool} {n i : Nat} {W R : Bool} (hlt : i < n) (hN : W = (allN f (n - i) i && R)) (h : f i = false) : false = W := by rw [hN, allN_step hlt, h]; rfl
theorem allN_good {f : Nat → Bool} {n i : Nat} {W R : Bool} (hlt : i < n) (hN : W = (allN f (n - i) i && R)) (h : f i = true) : W = (allN f (n - (i + 1)) (i + 1) && R) := by rw [hN, allN_step hlt, h]; rfl
theorem allN_get {f : Nat → Bool} : ∀ {k i j : Nat}, allN f k i = true → i ≤ j → j < i + k → f j = true
 | 0, _, _, _, h1, h2 => by omega
 | k + 1, i, j, h, h1, h2 => by
  simp only [allN, Bool.and_eq_true] at h
  by_cases e : i = j
  ·subst e; exact h.1
  ·exact allN_get (i := i + 1) h.2 (by omega) (by omega)
theorem le_eq : ∀ a b : List UInt8, (Op.bytesLess a b || a == b) = !Op.bytesLess b a
 | [], [] => rfl
 | [], _ :: _ => rfl
 | _ :: _, [] => rfl
 | a :: x, b :: y => by
  have ih := le_eq x y
  simp only [Op.bytesLess, List.cons_beq_cons]
  by_cases h1 : a < b
  ·have h2 : ¬ b < a := fun h => absurd (UInt8.lt_trans h1 h) (UInt8.lt_irrefl _)
   have h3 : (b == a) = false := by simpa using fun e : b = a => absurd (e ▸ h1) (UInt8.lt_irrefl _)
   simp [h1, h2, h3]
  ·by_cases h2 : b < a
   ·have h3 : (a == b) = false := by simpa using fun e : a = b => absurd (e ▸ h2) (UInt8.lt_irrefl _)
    simp [h1, h2, h3]
   ·have h3 : a = b := by
     rcases UInt8.lt_or_lt_of_ne (a := a) (b := b) |> fun f => Decidable.em (a = b) with h | h
     ·exact h
     ·rcases UInt8.lt_or_lt_of_ne h with h | h
      ·exact absurd h h1
      ·exact absurd h h2
    subst h3
    simp [h1]
    simpa using ih
theorem bl_irr (a : List UInt8) : Op.bytesLess a a = false := by
 have := le_eq a a
 rw [beq_self_eq_true, Bool.or_true] at this
 simpa using this.symm
theorem beq_cm {α : Type} [BEq α] [LawfulBEq α] (x y : α) : (x == y) = (y == x) := by rw [Bool.eq_iff_iff, beq_iff_eq, beq_iff_eq]; exact eq_comm
/-- A list of which the first elements are changed. -/
def part {α : Type} (f : α → α) (xs : List α) (i : Nat) : List α := (xs.take i).map f ++ xs.drop i
theorem part_len {α : Type} (f : α → α) {xs : List α} {i : Nat} : (part f xs i).length = xs.length := by simp [part]; omega
theorem part_get {α : Type} (f : α → α) (d : α) {xs : List α} {i : Nat} (h : i < xs.length) : (part f xs i).getD i d = xs.getD i d := by
 simp [part, List.getElem?_append, List.getElem?_drop]
 split
 ·omega
 ·rw [Nat.min_eq_left (by omega)]; simp
theorem part_set {α : Type} (f : α → α) (d : α) {xs : List α} {i : Nat} (h : i < xs.length) : (part f xs i).set i (f (xs.getD i d)) = part f xs (i + 1) := by
 have e : xs.getD i d = xs[i] := by simp [h]
 rw [e]
 unfold part
 rw [List.set_append, if_neg (by simp; omega), List.take_succ_eq_append_getElem h, List.map_append, List.append_assoc]
 congr 1
 have : i - ((xs.take i).map f).length = 0 := by simp; omega
 rw [this, List.drop_eq_getElem_cons h]
 rfl
theorem part_all {α : Type} (f : α → α) {xs : List α} : part f xs xs.length = xs.map f := by simp [part]
/-- A list whose elements are marked. -/
def mkS {α : Type} (f : α → Int → α) (c : Nat) : List α → Int → List α
 | [], _ => []
 | x :: xs, k => f x k :: mkS f c xs (k + (c : Int))
theorem mkS_len {α : Type} {f : α → Int → α} {c : Nat} : ∀ {xs : List α} {k : Int}, (mkS f c xs k).length = xs.length
 | [], _ => rfl
 | x :: xs, k => by simp [mkS, mkS_len]
theorem mkS_get {α : Type} {f : α → Int → α} {c : Nat} (d : α) : ∀ {xs : List α} {k : Int} {i : Nat}, i < xs.length → (mkS f c xs k).getD i d = f (xs.getD i d) (k + (c * i : Nat))
 | [], _, _, h => absurd h (by simp)
 | x :: xs, k, 0, h => by simp [mkS]
 | x :: xs, k, i + 1, h => by
  have := mkS_get (f := f) (c := c) d (xs := xs) (k := k + (c : Int)) (i := i) (by simpa using h)
  simp only [mkS, List.getD_cons_succ, this]
  congr 1
  rw [Nat.mul_add]
  omega
def mkP {α : Type} (f : α → Int → α) (c : Nat) (xs : List α) (k : Int) (i : Nat) : List α := mkS f c (xs.take i) k ++ xs.drop i
theorem mkP_len {α : Type} {f : α → Int → α} {c : Nat} {xs : List α} {k : Int} {i : Nat} : (mkP f c xs k i).length = xs.length := by simp [mkP, mkS_len]; omega
theorem mkP_get {α : Type} {f : α → Int → α} {c : Nat} (d : α) {xs : List α} {k : Int} {i : Nat} (h : i < xs.length) : (mkP f c xs k i).getD i d = xs.getD i d := by
 simp [mkP, List.getElem?_append, List.getElem?_drop, mkS_len]
 split
 ·omega
 ·rw [Nat.min_eq_left (by omega)]; simp
theorem mkS_snoc {α : Type} {f : α → Int → α} {c : Nat} (y : α) : ∀ (xs : List α) (k : Int), mkS f c (xs ++ [y]) k = mkS f c xs k ++ [f y (k + (c * xs.length : Nat))]
 | [], k => by simp [mkS]
 | x :: xs, k => by
  have := mkS_snoc (f := f) (c := c) y xs (k + (c : Int))
  simp only [List.cons_append, mkS, this, List.length_cons]
  congr 4
  rw [Nat.mul_add]
  omega
theorem mkP_set {α : Type} {f : α → Int → α} {c : Nat} (d : α) {xs : List α} {k : Int} {i : Nat} (h : i < xs.length) : (mkP f c xs k i).set i (f (xs.getD i d) (k + (c * i : Nat))) = mkP f c xs k (i + 1) := by
 have e : xs.getD i d = xs[i] := by simp [h]
 rw [e]
 unfold mkP
 rw [List.set_append, if_neg (by simp [mkS_len]; omega), List.take_succ_eq_append_getElem h, mkS_snoc, List.append_assoc]
 congr 1
 have : i - (mkS f c (xs.take i) k).length = 0 := by simp [mkS_len]; omega
 rw [this, List.drop_eq_getElem_cons h, List.length_take, Nat.min_eq_left (by omega)]
 rfl
theorem mkP_all {α : Type} {f : α → Int → α} {c : Nat} {xs : List α} {k : Int} : mkP f c xs k xs.length = mkS f c xs k := by simp [mkP]
theorem mkP_zero {α : Type} {f : α → Int → α} {c : Nat} {xs : List α} {k : Int} : mkP f c xs k 0 = xs := by simp [mkP, mkS]
def inR (n lo hi : Int) : Bool := decide (n ≥ lo) && decide (n ≤ hi)
/-- The first place that is meant, or -1. -/
def idxN (f : Nat → Bool) : Nat → Nat → Int
 | 0, _ => -1
 | k + 1, i => if f i then (i : Int) else idxN f k (i + 1)
theorem idxN_step {f : Nat → Bool} {n i : Nat} (h : i < n) : idxN f (n - i) i = if f i then (i : Int) else idxN f (n - (i + 1)) (i + 1) := by
 have e : n - i = (n - (i + 1)) + 1 := by omega
 rw [e, idxN]
theorem idxN_end {f : Nat → Bool} {n i : Nat} (h : ¬ i < n) : idxN f (n - i) i = -1 := by
 have e : n - i = 0 := by omega
 rw [e, idxN]
theorem idxN_hit {f : Nat → Bool} {n i : Nat} {W : Int} (hlt : i < n) (hN : W = idxN f (n - i) i) (h : f i = true) : W = (i : Int) := by rw [hN, idxN_step hlt, h]; rfl
theorem idxN_miss {f : Nat → Bool} {n i : Nat} {W : Int} (hlt : i < n) (hN : W = idxN f (n - i) i) (h : f i = false) : W = idxN f (n - (i + 1)) (i + 1) := by rw [hN, idxN_step hlt, h]; rfl
theorem idxN_cases {f : Nat → Bool} : ∀ {k i : Nat}, (idxN f k i = -1 ∧ ∀ j, i ≤ j → j < i + k → f j = false) ∨ ∃ j : Nat, idxN f k i = (j : Int) ∧ i ≤ j ∧ j < i + k ∧ f j = true
 | 0, i => .inl ⟨rfl, fun j h1 h2 => by omega⟩
 | k + 1, i => by
  simp only [idxN]
  cases hf : f i with
  | true => exact .inr ⟨i, by simp, by omega, by omega, hf⟩
  | false =>
   rcases idxN_cases (f := f) (k := k) (i := i + 1) with ⟨h1, h2⟩ | ⟨j, h1, h2, h3, h4⟩
   ·refine .inl ⟨by simpa using h1, fun j a b => ?_⟩
    by_cases e : i = j
    ·subst e; exact hf
    ·exact h2 j (by omega) (by omega)
   ·exact .inr ⟨j, by simpa using h1, by omega, by omega, h4⟩
theorem idxN_lt {f : Nat → Bool} {n : Nat} (h : 0 < n) : idxN f n 0 < n := by
 rcases idxN_cases (f := f) (k := n) (i := 0) with ⟨h1, _⟩ | ⟨j, h1, _, h3, _⟩ <;> omega
def ptrAt {α : Type} (F : α → D) (d : α) (xs : List α) : Int → D
 | .ofNat k => .cref (F (xs.getD k d))
 | .negSucc _ => .nilp
theorem mlen' {α : Type} {F : α → D} {xs : List α} : (xs.map F).length = xs.length := by simp
theorem ptr_none {α : Type} {F : α → D} {d : α} {xs : List α} {i : Int} (h : i < 0) : ptrAt F d xs i = .nilp := by cases i with
 | ofNat k => exact absurd h (Int.not_lt.2 (Int.natCast_nonneg k))
 | negSucc k => rfl
theorem ptr_some {α : Type} {F : α → D} {d : α} {xs : List α} {i : Int} (h : ¬ i < 0) : ptrAt F d xs i = .cref (F (xs.getD i.toNat d)) := by cases i with
 | ofNat k => rfl
 | negSucc k => exact absurd (Int.negSucc_lt_zero k) h
def pr (i : Nat) : Nat := (IntKind.wrap .i64 ((i : Int) - 1)).toNat
end Go.Ab
