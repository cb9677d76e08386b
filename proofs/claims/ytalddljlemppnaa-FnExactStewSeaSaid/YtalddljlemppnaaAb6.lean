/- Steps towards the law: the machine, contracts of functions and facts of lists. -/
import Derived.Test.YtalddljlemppnaaAb5
import Derived.ProofKit
import Derived.Carry
set_option linter.unusedSimpArgs false
set_option linter.unusedVariables false
namespace Go.Ab
open Go Go.RowKit
/-! ### Shapes of arguments -/
inductive Ty where
 | int (k : IntKind)
 | bool
 | str
 | sl (es : Nat) (t : Ty)
 | st (fs : List Ty)
mutual
def Ty.len : Ty → Nat
 | .st fs => Ty.lens fs
 | _ => 1
def Ty.lens : List Ty → Nat
 | [] => 0
 | t :: ts => t.len + Ty.lens ts
end
mutual
def Has : Ty → D → Prop
 | .int k, d => ∃ n, d = .int k n ∧ (Lit.int k n).wf = true
 | .bool, d => ∃ b, d = .bool b
 | .str, d => ∃ s, d = .str s ∧ s.size ≤ maxLen
 | .sl es t, d => ∃ ds, d = .ro es ds ∧ ds.length ≤ maxLen ∧ ∀ x ∈ ds, Has t x
 | .st fs, d => ∃ ds, d = .agg ds ∧ HasF fs ds
def HasF : List Ty → List D → Prop
 | [], ds => ds = []
 | t :: ts, ds => ∃ d r, ds = d :: r ∧ Has t d ∧ HasF ts r
end
mutual
def shapeOk (P : Program) : Ty → TypeId → Bool
 | .int k, t => match P.underlying t with
  | some (.int k') => decide (k' = k)
  | _ => false
 | .bool, t => match P.underlying t with
  | some .bool => true
  | _ => false
 | .str, t => match P.underlying t with
  | some .string => true
  | _ => false
 | .sl es ty, t => match P.underlying t with
  | some (.slice e) => decide (P.cellsOf e = es) && decide (es = ty.len) && decide (es ≠ 0) && shapeOk P ty e
  | _ => false
 | .st tys, t => match P.underlying t with
  | some (.struct fs) => decide (P.cellsOf t = Ty.lens tys) && shapesOk P tys fs.toList 0
  | _ => false
def shapesOk (P : Program) : List Ty → List Field → Nat → Bool
 | [], fs, _ => fs.isEmpty
 | ty :: tys, fs, o => match fs with
  | f :: fs => decide (f.offset = o) && decide (P.cellsOf f.type = ty.len) && shapeOk P ty f.type && shapesOk P tys fs (o + ty.len)
  | [] => false
end
section
variable {H : Type} {enc : TypeId × Value → H} {P : Program} {w : World}
theorem RelR.snoc {U : Nat → Prop} {es : Nat} {d : D} {c : List Value} (hl : c.length = es) (hc : RelC U w d c) : ∀ {ds : List D} {cs : List Value}, RelR U w es ds cs → RelR U w es (ds ++ [d]) (cs ++ c)
 | [], cs, h => by
  simp only [RelR] at h
  subst h
  simp only [List.nil_append, RelR]
  exact ⟨c, [], by simp, hl, hc, rfl⟩
 | x :: ds, cs, h => by
  simp only [RelR] at h
  obtain ⟨c1, c2, rfl, h1, h2, h3⟩ := h
  simp only [List.cons_append, RelR]
  exact ⟨c1, c2 ++ c, by simp, h1, h2, RelR.snoc hl hc h3⟩
def inW (w : World) (b : Nat) : Prop := b < w.heap.size
theorem mapM_get {α β : Type} {f : α → Option β} : ∀ {l : List α} {r : List β} {i : Nat} {x : α}, l.mapM f = some r → l[i]? = some x → ∃ y, f x = some y ∧ r[i]? = some y
 | [], r, i, x, h, hx => by simp at hx
 | a :: l, r, i, x, h, hx => by
  simp only [List.mapM_cons, Option.bind_eq_bind, Option.pure_def] at h
  cases hf : f a with
  | none => simp [hf] at h
  | some y =>
   cases hl : l.mapM f with
   | none => simp [hf, hl] at h
   | some r' =>
    simp [hf, hl] at h
    subst h
    cases i with
    | zero => simp at hx; subst hx; exact ⟨y, hf, rfl⟩
    | succ j => simpa using mapM_get (i := j) hl (by simpa using hx)
mutual
theorem trod_rel : ∀ {ty : Ty} {t : TypeId} {fuel : Nat} {cs : List Value} {z : DataW H × List MemPlace}, shapeOk P ty t = true → DataW.trod enc P w 0 (fun _ => true) true fuel t cs = some z → ∃ x, Has ty x ∧ RelC (inW w) w x cs ∧ x.len = ty.len
 | .int k, t, fuel, cs, z, hs, h => by
  cases fuel with
  | zero => simp [DataW.trod] at h
  | succ n =>
   simp only [shapeOk] at hs
   split at hs
   ·rename_i k' hk
    unfold DataW.trod at h
    rw [hk] at h
    simp only [decide_eq_true_eq] at hs
    subst hs
    split at h <;> try (simp_all; done)
    rename_i k1 k2 m he
    simp only [Option.some.injEq, TypeDesc.int.injEq] at he
    subst he
    split at h
    ·rename_i hw
     exact ⟨.int k' m, by simp only [Has]; exact ⟨m, rfl, hw.2⟩, by simp [RelC, hw.1], rfl⟩
    ·cases h
   ·cases hs
 | .bool, t, fuel, cs, z, hs, h => by
  cases fuel with
  | zero => simp [DataW.trod] at h
  | succ n =>
   simp only [shapeOk] at hs
   split at hs
   ·rename_i hk
    unfold DataW.trod at h
    rw [hk] at h
    split at h <;> try (simp_all; done)
    rename_i b he
    exact ⟨.bool b, by simp [Has], by simp [RelC], rfl⟩
   ·cases hs
 | .str, t, fuel, cs, z, hs, h => by
  cases fuel with
  | zero => simp [DataW.trod] at h
  | succ n =>
   simp only [shapeOk] at hs
   split at hs
   ·rename_i hk
    unfold DataW.trod at h
    rw [hk] at h
    split at h <;> try (simp_all; done)
    rename_i s he
    split at h
    ·rename_i hw
     exact ⟨.str s, by simp only [Has]; exact ⟨s, rfl, hw⟩, by simp [RelC], rfl⟩
    ·cases h
   ·cases hs
 | .sl es ty, t, fuel, cs, z, hs, h => by
  cases fuel with
  | zero => simp [DataW.trod] at h
  | succ n =>
   simp only [shapeOk] at hs
   split at hs
   ·rename_i e hk
    simp only [Bool.and_eq_true, decide_eq_true_eq] at hs
    obtain ⟨⟨⟨hes, hlen⟩, hne⟩, hsh⟩ := hs
    unfold DataW.trod at h
    rw [hk] at h
    split at h <;> try (simp_all; done)
    ·exact ⟨.ro es [], by simp [Has], by simp [RelC], rfl⟩
    ·rename_i e' a len cap he'
     simp only [Option.some.injEq, TypeDesc.slice.injEq] at he'
     subst he'
     split at h
     ·rename_i hc
      obtain ⟨_, hlc, hcm⟩ := hc
      simp only [Option.bind_eq_some_iff] at h
      obtain ⟨elems, hel, _⟩ := h
      have hget : ∀ i, i < len → ∃ ci y, w.cells? 0 (a.add (i * es)) es = some ci ∧ DataW.trod enc P w 0 (fun _ => true) true n e ci = some y := fun i hi => by
       obtain ⟨y, hy, _⟩ := mapM_get (i := i) (x := i) hel (by simp [hi])
       rw [hes] at hy
       simp only [Option.bind_eq_some_iff] at hy
       obtain ⟨ci, h1, h2⟩ := hy
       exact ⟨ci, y, h1, h2⟩
      by_cases hl0 : len = 0
      ·subst hl0
       exact ⟨.ro es [], by simp only [Has]; exact ⟨[], rfl, by simp, by simp⟩, by simp only [RelC]; exact ⟨some a, cap, by simp, by simp, .inl (by simp)⟩, rfl⟩
      ·obtain ⟨c0, y0, hc0, _⟩ := hget 0 (by omega)
       obtain ⟨_, _, hcell0⟩ := World.cells?_some hc0
       obtain ⟨b, off, sp⟩ := a
       have hcl : w.cell? (((⟨b, off, sp⟩ : Addr).add (0 * es)).add 0) = some (c0[0]'(by rw [(World.cells?_some hc0).2.1]; omega)) := by
        rw [hcell0 0 (by omega)]; simp
       have hsp : sp = none := by simpa [Addr.add] using World.cell?_spot hcl
       subst hsp
       have hadd : ∀ j, ((⟨b, off, none⟩ : Addr).add j) = ⟨b, off + j, none⟩ := fun j => by unfold Addr.add; split <;> simp_all
       have hadd2 : ∀ j k, (((⟨b, off, none⟩ : Addr).add j).add k) = ⟨b, off + j + k, none⟩ := fun j k => by rw [hadd]; unfold Addr.add; split <;> simp_all
       obtain ⟨cells, ce, fz, hb⟩ : ∃ cells ce fz, w.heap[b]? = some (.cells cells ce fz) := by
        rw [hadd2] at hcl
        unfold World.cell? at hcl
        split at hcl
        ·rename_i c e1 f1 hh; exact ⟨c, e1, f1, hh⟩
        ·cases hcl
       have hcellv : ∀ j, w.cell? ⟨b, j, none⟩ = cells[j]? := fun j => by simp [World.cell?, hb]
       have build : ∀ k, k ≤ len → ∃ ds : List D, ds.length = k ∧ (∀ x ∈ ds, Has ty x) ∧ RelR (inW w) w es ds ((cells.toList.drop off).take (k * es)) := by
        intro k
        induction k with
        | zero => intro _; exact ⟨[], rfl, by simp, by simp [RelR]⟩
        | succ k ih =>
         intro hk
         obtain ⟨ds, h1, h2, h3⟩ := ih (by omega)
         obtain ⟨ci, y, hci, hy⟩ := hget k (by omega)
         obtain ⟨_, hlen', hci'⟩ := World.cells?_some hci
         obtain ⟨x, hx1, hx2, hx3⟩ := trod_rel hsh hy
         have e1 : ci = (cells.toList.drop (off + k * es)).take es := by
          apply List.ext_getElem?
          intro j
          by_cases hj : j < es
          ·rw [← hci' j hj, hadd2, hcellv, List.getElem?_take, if_pos hj, List.getElem?_drop, Array.getElem?_toList]
          ·rw [List.getElem?_eq_none (by omega), List.getElem?_eq_none (by simp; omega)]
         refine ⟨ds ++ [x], by simp [h1], fun z hz => ?_, ?_⟩
         ·rw [List.mem_append] at hz
          rcases hz with hz | hz
          ·exact h2 z hz
          ·simp at hz; subst hz; exact hx1
         ·have e2 : (cells.toList.drop off).take ((k + 1) * es) = (cells.toList.drop off).take (k * es) ++ ci := by
           rw [Nat.add_mul, Nat.one_mul, List.take_add, List.drop_drop, ← e1]
          rw [e2]
          exact RelR.snoc hlen' hx2 h3
       obtain ⟨ds, h1, h2, h3⟩ := build len (Nat.le_refl _)
       refine ⟨.ro es ds, ?_, ?_, rfl⟩
       ·simp only [Has]
        exact ⟨ds, rfl, by omega, h2⟩
       ·simp only [RelC]
        refine ⟨some ⟨b, off, none⟩, cap, by rw [h1], by rw [h1]; exact hlc, .inr ⟨b, off, cells, ce, fz, rfl, ?_, hb, by rw [h1]; exact h3⟩⟩
        exact (Array.getElem?_eq_some_iff.1 hb).1
     ·cases h
   ·cases hs
 | .st tys, t, fuel, cs, z, hs, h => by
  cases fuel with
  | zero => simp [DataW.trod] at h
  | succ n =>
   simp only [shapeOk] at hs
   split at hs
   ·rename_i fs hk
    simp only [Bool.and_eq_true, decide_eq_true_eq] at hs
    obtain ⟨hlen, hsh⟩ := hs
    unfold DataW.trod at h
    rw [hk] at h
    split at h <;> try (simp_all; done)
    rename_i fs' he'
    simp only [Option.some.injEq, TypeDesc.struct.injEq] at he'
    subst he'
    split at h
    ·rename_i hcl
     simp only [Option.map_eq_some_iff] at h
     obtain ⟨xs, hxs, _⟩ := h
     obtain ⟨ds, h1, h2, h3⟩ := trod_rels hsh hxs
     refine ⟨.agg ds, by simp only [Has]; exact ⟨ds, rfl, h1⟩, ?_, by simp only [D.len, Ty.len]; exact h3⟩
     simp only [RelC]
     rw [List.drop_zero, List.take_of_length_le (by omega)] at h2
     exact h2
    ·cases h
   ·cases hs
theorem trod_rels : ∀ {tys : List Ty} {fs : List Field} {o : Nat} {fuel : Nat} {cs : List Value} {xs : List (DataW H × List MemPlace)}, shapesOk P tys fs o = true →
  (fs.mapM fun f => DataW.trod enc P w 0 (fun _ => true) true fuel f.type ((cs.drop f.offset).take (P.cellsOf f.type))) = some xs → ∃ ds, HasF tys ds ∧ RelF (inW w) w ds ((cs.drop o).take (Ty.lens tys)) ∧ D.lens ds = Ty.lens tys
 | [], fs, o, fuel, cs, xs, hs, h => ⟨[], by simp [HasF], by simp [RelF, Ty.lens], rfl⟩
 | ty :: tys, [], o, fuel, cs, xs, hs, h => by simp [shapesOk] at hs
 | ty :: tys, f :: fs, o, fuel, cs, xs, hs, h => by
  simp only [shapesOk, Bool.and_eq_true, decide_eq_true_eq] at hs
  obtain ⟨⟨⟨ho, hl⟩, h1⟩, h2⟩ := hs
  simp only [List.mapM_cons, Option.bind_eq_bind, Option.pure_def, Option.bind_eq_some_iff] at h
  obtain ⟨z, hz, r, hr, _⟩ := h
  obtain ⟨x, q1, q2, q3⟩ := trod_rel h1 hz
  obtain ⟨ds, q4, q5, q6⟩ := trod_rels h2 hr
  refine ⟨x :: ds, by simp only [HasF]; exact ⟨x, ds, rfl, q1, q4⟩, ?_, by simp [D.lens, Ty.lens, q3, q6]⟩
  simp only [RelF, Ty.lens]
  refine ⟨_, _, ?_, q2, q5⟩
  rw [ho, hl, List.take_add, List.drop_drop]
end
end
end Go.Ab
