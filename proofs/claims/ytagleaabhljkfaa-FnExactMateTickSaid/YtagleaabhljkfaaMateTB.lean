/- Steps towards the law: the machine, contracts of functions and facts of lists. -/
import Derived.Test.YtagleaabhljkfaaMateTA
import Derived.Test.YtagleaabhljkfaaRows
set_option linter.unusedSimpArgs false
set_option linter.unusedVariables false
namespace Go.Ab
open Go Go.RowKit Go.Proofs
attribute [local irreducible] XC Rdr IntKind.wrap xw xos xqs xr xd
set_option maxRecDepth 100000
def cf58 : CF := ⟨41,[.t 4],(.seq (.ops [Oo 2 (.bx (.t 0)),Oo 3 (.bx (.t 1)),Ok 4 (.bool false)]) (.seq (.seq (.ops [Of 5 0 2,Ol 6 5,Of 7 0 3,Ol 8 7,Ob 9 .neq 6 8]) (.cond (.t 9) (.seq (.ops [Ok 4 (.bool false)]) .ret) .skip)) (.seq (.seq (.ops [Of 10 1 2,Ol 11 10,Of 12 1 3,Ol 13 12,Ob 14 .neq 11 13]) (.cond (.t 14) (.seq (.ops [Ok 4 (.bool false)]) .ret) .skip)) (.seq (.seq (.ops [Of 15 2 2,Ol 16 15,Of 17 2 3,Ol 18 17,Ob 19 .neq 16 18]) (.cond (.t 19) (.seq (.ops [Ok 4 (.bool false)]) .ret) .skip)) (.seq (.seq (.ops [Of 20 3 2,Ol 21 20,Of 22 3 3,Ol 23 22,Oc 24 22 [.t 21,.t 23],Oo 25 (.not (.t 24))]) (.cond (.t 25) (.seq (.ops [Ok 4 (.bool false)]) .ret) .skip)) (.seq (.seq (.ops [Of 26 4 2,Ol 27 26,Of 28 4 3,Ol 29 28,Ob 30 .neq 27 29]) (.cond (.t 30) (.seq (.ops [Ok 4 (.bool false)]) .ret) .skip)) (.seq (.seq (.ops [Of 31 5 2,Ol 32 31,Of 33 5 3,Ol 34 33,Ob 35 .neq 32 34]) (.cond (.t 35) (.seq (.ops [Ok 4 (.bool false)]) .ret) .skip)) (.seq (.seq (.ops [Of 36 6 2,Ol 37 36,Of 38 6 3,Ol 39 38,Ob 40 .neq 37 39]) (.cond (.t 40) (.seq (.ops [Ok 4 (.bool false)]) .ret) .skip)) (.seq (.ops [Ok 4 (.bool true)]) .ret)))))))))⟩
theorem c58 : compileF Try.prog [] 58 = some cf58 := by kernel_rfl
structure MateParcel where
 fKind : Int
 fBerth : ByteArray
 fSeen : Int
 fWants : (List MateWant)
 fHold : ByteArray
 fCopy : ByteArray
 fAt : Int
def MateParcel.D (x : MateParcel) : D := .agg [.int .i64 x.fKind, .str x.fBerth, .int .i64 x.fSeen, .ro 7 (x.fWants.map MateWant.D), .str x.fHold, .str x.fCopy, .int .i64 x.fAt]
instance : Inhabited MateParcel := ⟨⟨0, ⟨#[]⟩, 0, [], ⟨#[]⟩, ⟨#[]⟩, 0⟩⟩
structure MateParcel.wf (x : MateParcel) : Prop where
 fBerth : x.fBerth.size ≤ 9223372036854775807
 fWants : x.fWants.length ≤ 9223372036854775807 ∧ ∀ y ∈ x.fWants, y.wf
 fHold : x.fHold.size ≤ 9223372036854775807
 fCopy : x.fCopy.size ≤ 9223372036854775807
structure MateParcel.small (x : MateParcel) : Prop where
 fWants : x.fWants.length ≤ 1048576 ∧ ∀ y ∈ x.fWants, y.small
theorem MateParcel.len (x : MateParcel) : x.D.len = 7 := rfl
theorem eq_MateParcel (x : MateParcel) (hs : x.small) : Rdr Try.prog 58 [x.D, x.D] (.bool true) := by
 refine Rdr.intro' hm c58 (Nat.le_of_ble_eq_true rfl) ?_
 conv => whnf
 repeat' (first | (refine g_op ?_; conv => whnf) | (refine And.intro ?_ ?_; (focus exact au0); conv => whnf) | (refine g_seq ?_) | (refine XS.go ?_) | (refine g_ops ?_) | (refine g_nil ?_; conv => whnf) | (refine Br.f ?_ ?_; (focus (first | assumption | exact rfl)); conv => whnf) | ((first | refine g_cond ?_ | refine g_skip ?_ | refine g_ret ?_ | refine r_t ?_ | refine r_nil ?_ | refine fun _ => ?_ | refine Br.f (by simp) ?_ | refine XCL.of_rdr (eq_MateWantS x.fWants hs.fWants) ?_); conv => whnf) | fail)
 all_goals rfl
section
variable {P : Program} {n : Nat} {st : St} {K : St → Prop}
theorem d_ld {dst : Option Nat} {sz k b j o : Nat} {ag : Bool} {x : Opd} {rs : List Opd} {os : List (COp × Bool × List Opd)} {p : List Nat} {es cp : Nat} {ds : List Go.Ab.D} {el : Go.Ab.D} (hx : x.ev st = .lref k b (j :: p) o) (hl : st.lc k = some (.arr es ds cp)) (hb : st.gen k = b) (hj : j < ds.length) (hel : ds.getD j .any = el)
  (h : xpart sz ag o (j * es) (el.at p) fun d => putS n dst d st fun st2 => xd P n os st2 K) : xd P n ((⟨dst, .ld sz ag x, none⟩, false, rs) :: os) st K := by
 refine d_p ?_
 show xload st sz ag (x.ev st) _
 rw [hx]
 refine ⟨hb, ?_⟩
 rw [hl]
 refine ⟨hj, ?_⟩
 rw [hel]
 exact h
theorem d_st {sz k b j o : Nat} {x y : Opd} {os : List (COp × Bool × List Opd)} {p : List Nat} {es cp : Nat} {ds : List Go.Ab.D} {el d0 : Go.Ab.D} {o' : Nat} (hx : x.ev st = .lref k b (j :: p) o) (hl : st.lc k = some (.arr es ds cp)) (hb : st.gen k = b) (hj : j < ds.length) (hel : ds.getD j .any = el)
  (hat : el.at p = some (d0, o')) (hoo : j * es + o' = o) (h : deepK (y.ev st) fun d => d.memB = true ∧ d.len = sz ∧ xset (el.set p d) fun c' => deepK c' fun c' => xd P n os (st.setLc k (.arr es (ds.set j c') cp)) K) : xd P n ((⟨none, .st sz x y, none⟩, true, []) :: os) st K := by
 refine d_e ?_
 rw [deepK_eq] at h
 show xo P none st (fun d st' => True ∧ putS n none d st' fun st2 => xd P n os st2 K) (.st sz x y)
 simp only [xo, deepK_eq]
 refine ⟨h.1, h.2.1, ?_⟩
 rw [hx, xst_eq]
 refine ⟨hb, ?_⟩
 rw [hl]
 refine ⟨hj, ?_, ?_⟩
 ·rw [hel, hat]; exact hoo
 ·rw [hel]
  have h2 := h.2.2
  unfold xset at h2 ⊢
  split at h2
  ·rw [deepK_eq] at h2
   show True ∧ putS n none .undef _ _
   rw [putS_eq]
   exact ⟨True.intro, h2⟩
  ·exact h2.elim
end
end Go.Ab
