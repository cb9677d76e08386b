/- Steps towards the law: the machine, contracts of functions and facts of lists. -/
import Derived.Test.YtagleaabhljkfaaMateKI
import Derived.Test.YtagleaabhljkfaaMateJ
import Derived.Test.YtagleaabhljkfaaRows
set_option linter.unusedSimpArgs false
set_option linter.unusedVariables false
namespace Go.Ab
open Go Go.RowKit Go.Proofs
attribute [local irreducible] XC Rdr IntKind.wrap xw xos xqs xr xd
set_option maxRecDepth 100000
/-! ### Asks in their order, and apart from what is given back -/
def Less (a b : MateAsk) : Prop := Op.bytesLess a.fHold.toList b.fHold.toList = true
def Sorted (xs : List MateAsk) : Prop := xs.Pairwise Less
def Apart (xs gs : List MateAsk) : Prop := ∀ a, a ∈ xs → ∀ g, g ∈ gs → a.fHold.toList ≠ g.fHold.toList
theorem less_trans {a b c : MateAsk} (h : Less a b) (g : Less b c) : Less a c := bl_trans h g
theorem less_tri {a b : MateAsk} (h : ¬ Less a b) (e : a.fHold.toList ≠ b.fHold.toList) : Less b a := by
 have q := le_eq b.fHold.toList a.fHold.toList
 have h' : Op.bytesLess a.fHold.toList b.fHold.toList = false := by
  cases hq : Op.bytesLess a.fHold.toList b.fHold.toList with
  | false => rfl
  | true => exact absurd hq h
 rw [h'] at q
 have e' : (b.fHold.toList == a.fHold.toList) = false := beq_eq_false_iff_ne.2 (Ne.symm e)
 rw [e', Bool.or_false] at q
 exact q
theorem getD_of {α : Type} [Inhabited α] {xs : List α} {i : Nat} (h : i < xs.length) : xs.getD i default = xs[i] := by simp [h]
/-- Before the place all are less, at the place and behind it none is (in a sorted list). -/
theorem putI_before (xs : List MateAsk) (a : MateAsk) {i : Nat} (h : i < putI xs a) (hl : i < xs.length) : Less xs[i] a := by
 have key : putF xs a i = false := by
  unfold putI at h
  rcases idxN_cases (f := putF xs a) (k := xs.length) (i := 0) with ⟨h1, h2⟩ | ⟨j, h1, _, h3, h4⟩
  ·exact h2 i (Nat.zero_le _) (by omega)
  ·rw [h1, if_neg (by omega)] at h
   exact idxN_first h1 i (Nat.zero_le _) (by omega)
 unfold putF at key
 rw [getD_of hl] at key
 simpa [Less] using key
theorem putI_at (xs : List MateAsk) (a : MateAsk) (hl : putI xs a < xs.length) : ¬ Less xs[putI xs a] a := by
 have key : putF xs a (putI xs a) = true := by
  rcases idxN_cases (f := putF xs a) (k := xs.length) (i := 0) with ⟨h1, h2⟩ | ⟨j, h1, _, h3, h4⟩
  ·exact absurd (putI_end h1) (by omega)
  ·rw [putI_hit h1]
   exact h4
 unfold putF at key
 rw [getD_of hl] at key
 simp only [Bool.not_eq_true'] at key
 unfold Less
 rw [key]
 exact Bool.false_ne_true
theorem askI_neg {xs : List MateAsk} {hold : ByteArray} (h : askI xs hold < 0) : ∀ x ∈ xs, x.fHold.toList ≠ hold.toList := by
 rcases idxN_cases (f := askF xs hold) (k := xs.length) (i := 0) with ⟨h1, h2⟩ | ⟨j, h1, _, h3, h4⟩
 ·intro x hx
  obtain ⟨i, hi, rfl⟩ := List.getElem_of_mem hx
  have := h2 i (Nat.zero_le _) (by omega)
  unfold askF at this
  rw [getD_of hi] at this
  simpa using this
 ·exfalso
  have : askI xs hold = (j : Int) := h1
  omega
theorem askI_nat {xs : List MateAsk} {hold : ByteArray} {k : Nat} (h : askI xs hold = (k : Int)) : ∃ hk : k < xs.length, xs[k].fHold.toList = hold.toList := by
 rcases idxN_cases (f := askF xs hold) (k := xs.length) (i := 0) with ⟨h1, h2⟩ | ⟨j, h1, _, h3, h4⟩
 ·exfalso
  have : askI xs hold = -1 := h1
  omega
 ·have : askI xs hold = (j : Int) := h1
  have e : j = k := by omega
  subst e
  refine ⟨by omega, ?_⟩
  unfold askF at h4
  rw [getD_of (show j < xs.length by omega)] at h4
  simpa using h4
theorem sorted_lt {xs : List MateAsk} (h : Sorted xs) {i j : Nat} (hij : i < j) (hj : j < xs.length) : Less (xs[i]'(by omega)) xs[j] := List.pairwise_iff_getElem.1 h i j (by omega) hj hij
theorem sorted_one {xs : List MateAsk} (h : Sorted xs) {i j : Nat} (hi : i < xs.length) (hj : j < xs.length) (e : xs[i].fHold.toList = xs[j].fHold.toList) : i = j := by
 rcases Nat.lt_trichotomy i j with q | q | q
 ·exfalso
  have := sorted_lt h q hj
  unfold Less at this
  rw [e, bl_irr] at this
  cases this
 ·exact q
 ·exfalso
  have := sorted_lt h q hi
  unfold Less at this
  rw [e, bl_irr] at this
  cases this
theorem putI_ask {xs : List MateAsk} (h : Sorted xs) (a : MateAsk) {k : Nat} (hk : k < xs.length) (e : xs[k].fHold.toList = a.fHold.toList) : putI xs a = k := by
 rcases Nat.lt_trichotomy (putI xs a) k with q | q | q
 ·exfalso
  have h1 := sorted_lt h q hk
  have h2 := putI_at xs a (by omega)
  unfold Less at h1 h2
  rw [e] at h1
  exact h2 h1
 ·exact q
 ·exfalso
  have h1 := putI_before xs a q hk
  unfold Less at h1
  rw [e, bl_irr] at h1
  cases h1
theorem setR_set {xs : List MateAsk} (h : Sorted xs) (a : MateAsk) {k : Nat} (hk : k < xs.length) (e : xs[k].fHold.toList = a.fHold.toList) : setR xs a = xs.set k a := by
 unfold setR putT
 rw [putI_ask h a hk e, if_pos (by simp [hk, e]), List.set_eq_take_append_cons_drop, if_pos hk]
theorem drop_cut {xs : List MateAsk} (h : Sorted xs) (hold : ByteArray) {k : Nat} (hk : k < xs.length) (e : xs[k].fHold.toList = hold.toList) : xs.filter (dropQ hold) = cutAt_MateAsk xs k (k + 1) := by
 have e0 : xs = xs.take k ++ xs[k] :: xs.drop (k + 1) := by simp
 unfold cutAt_MateAsk
 conv => lhs; rw [e0]
 rw [List.filter_append, List.filter_cons, if_neg (by simp [dropQ, e])]
 congr 1
 ·refine List.filter_eq_self.2 fun a ha => ?_
  obtain ⟨i, hi, rfl⟩ := List.getElem_of_mem ha
  rw [List.length_take] at hi
  rw [List.getElem_take]
  simp only [dropQ, bne_iff_ne, ne_eq]
  intro q
  have := sorted_one h (i := i) (j := k) (by omega) hk (by rw [q, e])
  omega
 ·refine List.filter_eq_self.2 fun a ha => ?_
  obtain ⟨i, hi, rfl⟩ := List.getElem_of_mem ha
  rw [List.length_drop] at hi
  rw [List.getElem_drop]
  simp only [dropQ, bne_iff_ne, ne_eq]
  intro q
  have := sorted_one h (i := k + 1 + i) (j := k) (by omega) hk (by rw [q, e])
  omega
theorem sorted_ins {xs : List MateAsk} (h : Sorted xs) (a : MateAsk) (hn : ∀ x ∈ xs, x.fHold.toList ≠ a.fHold.toList) : Sorted (insAt xs (putI xs a) a) := by
 unfold insAt Sorted
 have hb : ∀ x ∈ xs.take (putI xs a), Less x a := fun x hx => by
  obtain ⟨i, hi, rfl⟩ := List.getElem_of_mem hx
  rw [List.length_take] at hi
  rw [List.getElem_take]
  exact putI_before xs a (by omega) (by omega)
 have hc : ∀ x ∈ xs.drop (putI xs a), Less a x := fun x hx => by
  obtain ⟨i, hi, rfl⟩ := List.getElem_of_mem hx
  rw [List.length_drop] at hi
  rw [List.getElem_drop]
  have h1 := less_tri (putI_at xs a (by omega)) (hn _ (List.getElem_mem _))
  cases i with
  | zero => exact h1
  | succ i => exact less_trans h1 (sorted_lt h (i := putI xs a) (by omega) (by omega))
 refine List.pairwise_append.2 ⟨h.sublist (List.take_sublist _ _), List.pairwise_cons.2 ⟨hc, h.sublist (List.drop_sublist _ _)⟩, fun x hx y hy => ?_⟩
 rcases List.mem_cons.1 hy with rfl | hy
 ·exact hb x hx
 ·exact less_trans (hb x hx) (hc y hy)
theorem sorted_set {xs : List MateAsk} (h : Sorted xs) (a : MateAsk) {k : Nat} (hk : k < xs.length) (e : xs[k].fHold.toList = a.fHold.toList) : Sorted (xs.set k a) := by
 refine List.pairwise_iff_getElem.2 fun i j hi hj hij => ?_
 rw [List.length_set] at hi hj
 have h1 := sorted_lt h hij hj
 rw [List.getElem_set, List.getElem_set]
 unfold Less at h1 ⊢
 split
 ·rename_i q
  subst q
  rw [if_neg (by omega), ← e]
  exact h1
 ·split
  ·rename_i q
   subst q
   rw [← e]
   exact h1
  ·exact h1
theorem sorted_setR {xs : List MateAsk} (h : Sorted xs) (a : MateAsk) : Sorted (setR xs a) := by
 rcases idxN_cases (f := askF xs a.fHold) (k := xs.length) (i := 0) with ⟨h1, h2⟩ | ⟨j, h1, _, h3, h4⟩
 ·have hq : askI xs a.fHold < 0 := by show idxN _ _ _ < 0; omega
  rw [setR_ins xs a (askI_neg hq)]
  exact sorted_ins h a (askI_neg hq)
 ·obtain ⟨hk, e⟩ := askI_nat (xs := xs) (hold := a.fHold) h1
  rw [setR_set h a hk e]
  exact sorted_set h a hk e
theorem sorted_filter {xs : List MateAsk} (h : Sorted xs) (q : MateAsk → Bool) : Sorted (xs.filter q) := h.sublist List.filter_sublist
theorem mem_setR {xs : List MateAsk} {a x : MateAsk} (h : x ∈ setR xs a) : x = a ∨ x ∈ xs := by
 unfold setR putT at h
 rcases List.mem_append.1 h with h | h
 ·exact .inr (List.mem_of_mem_take h)
 ·rcases List.mem_cons.1 h with h | h
  ·exact .inl h
  ·split at h
   ·exact .inr (List.mem_of_mem_drop h)
   ·exact .inr (List.mem_of_mem_drop h)
/-- What a valid mate's lists are. -/
structure AG (xs gs : List MateAsk) : Prop where
 ord : Sorted xs
 apart : Apart xs gs
theorem AG.give {xs gs : List MateAsk} (h : AG xs gs) {k : Nat} (hk : k < xs.length) (hold : ByteArray) (e : xs[k].fHold.toList = hold.toList) : AG (xs.filter (dropQ hold)) (setR gs xs[k]) := by
 refine ⟨sorted_filter h.ord _, fun a ha g hg => ?_⟩
 have ha1 := List.mem_filter.1 ha
 rcases mem_setR hg with rfl | hg
 ·have q := ha1.2
  simp only [dropQ, bne_iff_ne, ne_eq] at q
  rw [e]
  exact q
 ·exact h.apart a ha1.1 g hg
theorem AG.drop {xs gs : List MateAsk} (h : AG xs gs) (hold : ByteArray) : AG (xs.filter (dropQ hold)) gs :=
 ⟨sorted_filter h.ord _, fun a ha g hg => h.apart a (List.mem_filter.1 ha).1 g hg⟩
theorem AG.ins {xs gs : List MateAsk} (h : AG xs gs) {k : Nat} (hk : k < xs.length) : setR gs xs[k] = insAt gs (putI gs xs[k]) xs[k] :=
 setR_ins gs xs[k] fun g hg => Ne.symm (h.apart _ (List.getElem_mem hk) g hg)
theorem AG.set {xs gs : List MateAsk} (h : AG xs gs) (a : MateAsk) (hn : askI gs a.fHold < 0) : AG (setR xs a) gs := by
 refine ⟨sorted_setR h.ord a, fun x hx g hg => ?_⟩
 rcases mem_setR hx with rfl | hx
 ·exact Ne.symm (askI_neg hn g hg)
 ·exact h.apart x hx g hg
theorem AG.valid {m : Mate} (h : validM m = true) : AG m.fAsks m.fGives := by
 simp only [validM, Bool.and_eq_true, Bool.not_eq_true'] at h
 obtain ⟨h0, h1, _⟩ := h
 have hl := c1_facts h0
 simp only [c1, Bool.or_eq_false_iff, Bool.not_eq_false'] at h0
 have hA : asksOk m.fAsks m.fClock = true := h0.1.2
 refine ⟨List.pairwise_iff_getElem.2 fun i j hi hj hij => ?_, fun a ha g hg => ?_⟩
 ·have := ord_less (f := fun i => (m.fAsks.getD i default).fHold.toList) (asks_ord hA) (d := j - i - 1) (i := i) (by omega)
  have e2 : i + (j - i - 1) + 1 = j := by omega
  rw [e2] at this
  simp only [getD_of hi, getD_of hj] at this
  exact this
 ·obtain ⟨i, hi, rfl⟩ := List.getElem_of_mem ha
  have q := allN_get h1 (Nat.zero_le i) (by omega)
  simp only [gF, Bool.not_eq_true', decide_eq_false_iff_not, getD_of hi] at q
  exact Ne.symm (askI_neg (by omega) g hg)
end Go.Ab
