/- Steps towards the law: the machine, contracts of functions and facts of lists. -/
import Derived.Test.YtagleaabhljkfaaAb8
set_option linter.unusedSimpArgs false
set_option linter.unusedVariables false
namespace Go.Ab
open Go Go.RowKit
attribute [local irreducible] IntKind.wrap xw xos xqs xr xd
set_option maxRecDepth 100000
/-! ### Loops that are alike for all types -/
section
variable {P : Program} (hm : P.follows .mixedOrders = true)
include hm
omit hm in
theorem XCL.ask {f : FuncId} {ds : List D} {st : St} {K : D → St → Prop} {R : D → Prop} (h : XC P f ds [] fun d ls => ls = [] ∧ R d) (hk : ∀ d, R d → K d st) : XCL P f ds st K :=
 .of_XC (ls := []) trivial (h.mono fun d ls ⟨e, r⟩ => by subst e; exact hk d r)
end
def allN (f : Nat → Bool) : Nat → Nat → Bool
 | 0, _ => true
 | k + 1, i => f i && allN f k (i + 1)
theorem allN_step {f : Nat → Bool} {n i : Nat} (h : i < n) : allN f (n - i) i = (f i && allN f (n - (i + 1)) (i + 1)) := by
 have e : n - i = (n - (i + 1)) + 1 := by omega
 rw [e, allN]
theorem allN_end {f : Nat → Bool} {n i : Nat} (h : ¬ i < n) : allN f (n - i) i = true := by
 have e : n - i = 0 := by omega
 rw [e, allN]
theorem allN_bad {f : Nat → Bool} {n i : Nat} {W R : Bool} (hlt : i < n) (hN : W = (allN f (n - i) i && R)) (h : f i = false) : false = W := by rw [hN, allN_step hlt, h]; rfl
theorem allN_good {f : Nat → Bool} {n i : Nat} {W R : Bool} (hlt : i < n) (hN : W = (allN f (n - i) i && R)) (h : f i = true) : W = (allN f (n - (i + 1)) (i + 1) && R) := by rw [hN, allN_step hlt, h]; rfl
theorem allN_congr {f g : Nat → Bool} : ∀ {k i : Nat}, (∀ j, i ≤ j → j < i + k → f j = g j) → allN f k i = allN g k i
 | 0, _, _ => rfl
 | k + 1, i, h => by
  simp only [allN]
  rw [h i (by omega) (by omega), allN_congr fun j h1 h2 => h j (by omega) (by omega)]
theorem allN_get {f : Nat → Bool} : ∀ {k i j : Nat}, allN f k i = true → i ≤ j → j < i + k → f j = true
 | 0, _, _, _, h1, h2 => by omega
 | k + 1, i, j, h, h1, h2 => by
  simp only [allN, Bool.and_eq_true] at h
  by_cases e : i = j
  ·subst e; exact h.1
  ·exact allN_get (i := i + 1) h.2 (by omega) (by omega)
theorem le_eq : ∀ a b : List UInt8, (Op.bytesLess a b || a == b) = !Op.bytesLess b a
 | [], [] => rfl
 | [], _ :: _ => rfl
 | _ :: _, [] => rfl
 | a :: x, b :: y => by
  have ih := le_eq x y
  simp only [Op.bytesLess, List.cons_beq_cons]
  by_cases h1 : a < b
  ·have h2 : ¬ b < a := fun h => absurd (UInt8.lt_trans h1 h) (UInt8.lt_irrefl _)
   have h3 : (b == a) = false := by simpa using fun e : b = a => absurd (e ▸ h1) (UInt8.lt_irrefl _)
   simp [h1, h2, h3]
  ·by_cases h2 : b < a
   ·have h3 : (a == b) = false := by simpa using fun e : a = b => absurd (e ▸ h2) (UInt8.lt_irrefl _)
    simp [h1, h2, h3]
   ·have h3 : a = b := by
     rcases UInt8.lt_or_lt_of_ne (a := a) (b := b) |> fun f => Decidable.em (a = b) with h | h
     ·exact h
     ·rcases UInt8.lt_or_lt_of_ne h with h | h
      ·exact absurd h h1
      ·exact absurd h h2
    subst h3
    simp [h1]
    simpa using ih
theorem beq_cm {α : Type} [BEq α] [LawfulBEq α] (x y : α) : (x == y) = (y == x) := by rw [Bool.eq_iff_iff, beq_iff_eq, beq_iff_eq]; exact eq_comm
theorem mlen {α : Type} {F : α → D} {xs : List α} : ((xs.map F).length : Int) = (xs.length : Int) := by simp
/-- A list of which the first elements are changed. -/
def part {α : Type} (f : α → α) (xs : List α) (i : Nat) : List α := (xs.take i).map f ++ xs.drop i
def inR (n lo hi : Int) : Bool := decide (n ≥ lo) && decide (n ≤ hi)
/-- The first place that is meant, or -1. -/
def idxN (f : Nat → Bool) : Nat → Nat → Int
 | 0, _ => -1
 | k + 1, i => if f i then (i : Int) else idxN f k (i + 1)
theorem idxN_step {f : Nat → Bool} {n i : Nat} (h : i < n) : idxN f (n - i) i = if f i then (i : Int) else idxN f (n - (i + 1)) (i + 1) := by
 have e : n - i = (n - (i + 1)) + 1 := by omega
 rw [e, idxN]
theorem idxN_end {f : Nat → Bool} {n i : Nat} (h : ¬ i < n) : idxN f (n - i) i = -1 := by
 have e : n - i = 0 := by omega
 rw [e, idxN]
theorem idxN_hit {f : Nat → Bool} {n i : Nat} {W : Int} (hlt : i < n) (hN : W = idxN f (n - i) i) (h : f i = true) : W = (i : Int) := by rw [hN, idxN_step hlt, h]; rfl
theorem idxN_miss {f : Nat → Bool} {n i : Nat} {W : Int} (hlt : i < n) (hN : W = idxN f (n - i) i) (h : f i = false) : W = idxN f (n - (i + 1)) (i + 1) := by rw [hN, idxN_step hlt, h]; rfl
theorem mlen' {α : Type} {F : α → D} {xs : List α} : (xs.map F).length = xs.length := by simp
def pr (i : Nat) : Nat := (IntKind.wrap .i64 ((i : Int) - 1)).toNat
end Go.Ab
