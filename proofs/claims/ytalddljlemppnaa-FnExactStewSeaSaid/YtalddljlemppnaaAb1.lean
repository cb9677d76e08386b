/- Steps towards the law: the machine, contracts of functions and facts of lists. -/
import Derived.Below
import Derived.Deep.Quiet
import Derived.Tactics
import Derived.MapKept
import Derived.Laws.AppendOwn
import Derived.Laws.BytesString
import Derived.Laws.StructEq
set_option linter.unusedSimpArgs false
set_option linter.unusedVariables false
namespace Go.Ab
open Go Go.RowKit
inductive D where
 | undef
 | any
 | int (k : IntKind) (n : Int)
 | bool (b : Bool)
 | str (s : ByteArray)
 | agg (fs : List D)
 | nil
 | nilp
 | ro (es : Nat) (ds : List D)
 | lref (s b : Nat) (p : List Nat) (o : Nat)
 | lsl (s b n c : Nat)
 | lvw (s b i o n c : Nat)
 | cref (d : D)
 | tup (ds : List D)
 | fn (f : Nat) (caps : List D)
 | mp (l : List (ByteArray × Bool))
 | lmp (s b : Nat)
 | arr (es : Nat) (ds : List D) (c : Nat)
 | ow (es : Nat) (ds : List D) (c : Nat)
mutual
def D.len : D → Nat
 | .agg fs => D.lens fs
 | _ => 1
def D.lens : List D → Nat
 | [] => 0
 | d :: ds => d.len + D.lens ds
end
def D.isAgg : D → Bool
 | .agg _ => true
 | _ => false
mutual
def RelC (U : Nat → Prop) (w : World) : D → List Value → Prop
 | .any, cs => ∃ v, cs = [v] ∧ v.oneCell' = true
 | .int k n, cs => cs = [.int k n]
 | .bool b, cs => cs = [.bool b]
 | .str s, cs => cs = [.string s]
 | .agg fs, cs => RelF U w fs cs
 | .nil, cs => ∃ a, cs = [.slice a 0 0]
 | .nilp, cs => cs = [.pointer none]
 | .ro es ds, cs => ∃ a c, cs = [.slice a ds.length c] ∧ ds.length ≤ c ∧ (ds = [] ∨ ∃ b off cells e fz, a = some ⟨b, off, none⟩ ∧ U b ∧ w.heap[b]? = some (.cells cells e fz) ∧ RelR U w es ds ((cells.toList.drop off).take (ds.length * es)))
 | .lref _ b _ o, cs => cs = [.pointer (some ⟨b, o, none⟩)]
 | .lsl _ b n c, cs => ∃ a, cs = [.slice a n c] ∧ n ≤ c ∧ (c ≠ 0 → a = some ⟨b, 0, none⟩)
 | .lvw _ b _ o n c, cs => ∃ a, cs = [.slice a n c] ∧ n ≤ c ∧ (c ≠ 0 → a = some ⟨b, o, none⟩)
 | .lmp _ b, cs => cs = [.map (some b)]
 | .cref d, cs => ∃ b off cells e fz, cs = [.pointer (some ⟨b, off, none⟩)] ∧ U b ∧ w.heap[b]? = some (.cells cells e fz) ∧ off + d.len ≤ cells.size ∧ RelC U w d ((cells.toList.drop off).take d.len)
 | .fn f caps, cs => ∃ vs, cs = [.func (.func f) #[] vs] ∧ RelL U w caps vs.toList
 | _, _ => False
def RelF (U : Nat → Prop) (w : World) : List D → List Value → Prop
 | [], cs => cs = []
 | d :: ds, cs => ∃ c1 c2, cs = c1 ++ c2 ∧ RelC U w d c1 ∧ RelF U w ds c2
def RelR (U : Nat → Prop) (w : World) (es : Nat) : List D → List Value → Prop
 | [], cs => cs = []
 | d :: ds, cs => ∃ c1 c2, cs = c1 ++ c2 ∧ c1.length = es ∧ RelC U w d c1 ∧ RelR U w es ds c2
/-- Captured values, a cell each. -/
def RelL (U : Nat → Prop) (w : World) : List D → List Value → Prop
 | [], vs => vs = []
 | d :: ds, vs => ∃ v r, vs = v :: r ∧ d.isAgg = false ∧ RelC U w d [v] ∧ RelL U w ds r
end
/-- Values of slots that lie in no memory. -/
def RelW (U : Nat → Prop) (w : World) : D → Value → Prop
 | .undef, v => v = undef
 | .any, _ => True
 | .agg fs, v => ∃ cs, v = .agg cs ∧ RelF U w fs cs.toList
 | d, v => RelC U w d [v]
def RelT (U : Nat → Prop) (w : World) : List D → List Value → Prop
 | [], vs => vs = []
 | d :: ds, vs => ∃ v r, vs = v :: r ∧ RelW U w d v ∧ RelT U w ds r
def RelV (U : Nat → Prop) (w : World) : D → Value → Prop
 | .tup ds, v => ∃ vs, v = .tuple vs ∧ RelT U w ds vs.toList
 | d, v => RelW U w d v
/-- U' and w' hold all that U and w tell. -/
structure Ext (U U' : Nat → Prop) (w w' : World) : Prop where
 u : ∀ b, U b → U' b
 heap : ∀ b, U b → w'.heap[b]? = w.heap[b]?
mutual
theorem RelC.mono {U U' : Nat → Prop} {w w' : World} (x : Ext U U' w w') : ∀ {d : D} {cs : List Value}, RelC U w d cs → RelC U' w' d cs
 | .any, _, h | .int .., _, h | .bool .., _, h | .str .., _, h | .nil, _, h | .nilp, _, h | .lref .., _, h | .lsl .., _, h | .lvw .., _, h | .lmp .., _, h => by simpa [RelC] using h
 | .agg fs, cs, h => by
  simp only [RelC] at h ⊢
  exact RelF.mono x h
 | .ro es ds, cs, h => by
  simp only [RelC] at h ⊢
  obtain ⟨a, c, h1, hc, h2⟩ := h
  refine ⟨a, c, h1, hc, h2.imp id ?_⟩
  rintro ⟨b, off, cells, e, fz, h3, h4, h5, h6⟩
  exact ⟨b, off, cells, e, fz, h3, x.u _ h4, by rw [x.heap _ h4, h5], RelR.mono x h6⟩
 | .cref d, cs, h => by
  simp only [RelC] at h ⊢
  obtain ⟨b, off, cells, e, fz, h1, h2, h3, h4, h5⟩ := h
  exact ⟨b, off, cells, e, fz, h1, x.u _ h2, by rw [x.heap _ h2, h3], h4, RelC.mono x h5⟩
 | .fn f caps, cs, h => by
  simp only [RelC] at h ⊢
  obtain ⟨vs, h1, h2⟩ := h
  exact ⟨vs, h1, RelL.mono x h2⟩
 | .undef, _, h | .mp _, _, h | .tup _, _, h | .arr .., _, h | .ow .., _, h => by simp [RelC] at h
theorem RelF.mono {U U' : Nat → Prop} {w w' : World} (x : Ext U U' w w') : ∀ {ds : List D} {cs : List Value}, RelF U w ds cs → RelF U' w' ds cs
 | [], _, h => by simpa [RelF] using h
 | d :: ds, _, h => by
  simp only [RelF] at h ⊢
  obtain ⟨c1, c2, h1, h2, h3⟩ := h
  exact ⟨c1, c2, h1, RelC.mono x h2, RelF.mono x h3⟩
theorem RelR.mono {U U' : Nat → Prop} {w w' : World} {es : Nat} (x : Ext U U' w w') : ∀ {ds : List D} {cs : List Value}, RelR U w es ds cs → RelR U' w' es ds cs
 | [], _, h => by simpa [RelR] using h
 | d :: ds, _, h => by
  simp only [RelR] at h ⊢
  obtain ⟨c1, c2, h1, h2, h3, h4⟩ := h
  exact ⟨c1, c2, h1, h2, RelC.mono x h3, RelR.mono x h4⟩
theorem RelL.mono {U U' : Nat → Prop} {w w' : World} (x : Ext U U' w w') : ∀ {ds : List D} {vs : List Value}, RelL U w ds vs → RelL U' w' ds vs
 | [], _, h => by simpa [RelL] using h
 | d :: ds, _, h => by
  simp only [RelL] at h ⊢
  obtain ⟨v, r, h1, h2, h3, h4⟩ := h
  exact ⟨v, r, h1, h2, RelC.mono x h3, RelL.mono x h4⟩
end
theorem RelW.mono {U U' : Nat → Prop} {w w' : World} (x : Ext U U' w w') {d : D} {v : Value} (h : RelW U w d v) : RelW U' w' d v := by
 cases d
 case agg fs => simp only [RelW] at h ⊢; obtain ⟨cs, h1, h2⟩ := h; exact ⟨cs, h1, RelF.mono x h2⟩
 all_goals (simp only [RelW] at h ⊢ <;> first | exact h | exact RelC.mono x h)
theorem RelT.mono {U U' : Nat → Prop} {w w' : World} (x : Ext U U' w w') : ∀ {ds : List D} {vs : List Value}, RelT U w ds vs → RelT U' w' ds vs
 | [], _, h => by simpa [RelT] using h
 | d :: ds, _, h => by
  simp only [RelT] at h ⊢
  obtain ⟨v, r, h1, h2, h3⟩ := h
  exact ⟨v, r, h1, h2.mono x, RelT.mono x h3⟩
theorem RelV.mono {U U' : Nat → Prop} {w w' : World} (x : Ext U U' w w') {d : D} {v : Value} (h : RelV U w d v) : RelV U' w' d v := by
 cases d
 case tup ds => simp only [RelV] at h ⊢; obtain ⟨vs, h1, h2⟩ := h; exact ⟨vs, h1, h2.mono x⟩
 all_goals (simp only [RelV] at h ⊢; exact RelW.mono x h)
mutual
theorem RelC.length {U : Nat → Prop} {w : World} : ∀ {d : D} {cs : List Value}, RelC U w d cs → cs.length = d.len
 | .int .., _, h | .bool .., _, h | .str .., _, h | .nilp, _, h | .lref .., _, h | .lmp .., _, h => by simp only [RelC] at h; simp [h, D.len]
 | .nil, cs, h => by simp only [RelC] at h; obtain ⟨v, h1⟩ := h; simp [h1, D.len]
 | .agg fs, cs, h => by simp only [RelC] at h; simp only [D.len]; exact RelF.length h
 | .any, cs, h => by simp only [RelC] at h; obtain ⟨v, h1, h2⟩ := h; simp [h1, D.len]
 | .lsl .., cs, h | .lvw .., cs, h => by simp only [RelC] at h; obtain ⟨v, h1, h2⟩ := h; simp [h1, D.len]
 | .fn .., cs, h => by simp only [RelC] at h; obtain ⟨v, h1, h2⟩ := h; simp [h1, D.len]
 | .cref _, cs, h => by simp only [RelC] at h; obtain ⟨b, off, cells, e, fz, h1, h2⟩ := h; simp [h1, D.len]
 | .ro es ds, cs, h => by simp only [RelC] at h; obtain ⟨a, c, h1, h2⟩ := h; simp [h1, D.len]
 | .undef, _, h | .mp _, _, h | .tup _, _, h | .arr .., _, h | .ow .., _, h => by simp [RelC] at h
theorem RelF.length {U : Nat → Prop} {w : World} : ∀ {ds : List D} {cs : List Value}, RelF U w ds cs → cs.length = D.lens ds
 | [], _, h => by simp only [RelF] at h; simp [h, D.lens]
 | d :: ds, _, h => by
  simp only [RelF] at h
  obtain ⟨c1, c2, rfl, h2, h3⟩ := h
  simp [D.lens, RelC.length h2, RelF.length h3]
end
theorem RelF.split {U : Nat → Prop} {w : World} : ∀ {ds : List D} {cs : List Value} {i : Nat} {d : D}, RelF U w ds cs → ds[i]? = some d → RelC U w d ((cs.drop (D.lens (ds.take i))).take d.len) ∧ D.lens (ds.take i) + d.len ≤ cs.length
 | d :: ds, cs, 0, d', h, hd => by
  simp only [RelF] at h
  obtain ⟨c1, c2, rfl, h2, h3⟩ := h
  simp at hd
  subst hd
  simp [D.lens, ← RelC.length h2, h2]
 | d :: ds, cs, i + 1, d', h, hd => by
  simp only [RelF] at h
  obtain ⟨c1, c2, rfl, h2, h3⟩ := h
  have := RelF.split (i := i) (d := d') h3 (by simpa using hd)
  simp only [List.take_succ_cons, D.lens, ← RelC.length h2, List.length_append]
  constructor
  ·have e : (c1 ++ c2).drop (c1.length + D.lens (ds.take i)) = c2.drop (D.lens (ds.take i)) := by rw [← List.drop_drop, List.drop_left]
   rw [e]
   exact this.1
  ·omega
 | [], _, _, _, _, hd => by simp at hd
theorem RelR.length {U : Nat → Prop} {w : World} {es : Nat} : ∀ {ds : List D} {cs : List Value}, RelR U w es ds cs → cs.length = ds.length * es
 | [], _, h => by simp only [RelR] at h; simp [h]
 | d :: ds, _, h => by
  simp only [RelR] at h
  obtain ⟨c1, c2, rfl, h1, h2, h3⟩ := h
  simp [h1, RelR.length h3, Nat.add_mul, Nat.add_comm]
theorem RelR.get {U : Nat → Prop} {w : World} {es : Nat} : ∀ {ds : List D} {cs : List Value} {i : Nat} {d : D}, RelR U w es ds cs → ds[i]? = some d → RelC U w d ((cs.drop (i * es)).take es) ∧ d.len = es ∧ i * es + es ≤ cs.length
 | d :: ds, cs, 0, d', h, hd => by
  simp only [RelR] at h
  obtain ⟨c1, c2, rfl, h1, h2, h3⟩ := h
  simp at hd
  subst hd
  simp [← h1, h2, ← RelC.length h2]
 | d :: ds, cs, i + 1, d', h, hd => by
  simp only [RelR] at h
  obtain ⟨c1, c2, rfl, h1, h2, h3⟩ := h
  have := RelR.get (i := i) (d := d') h3 (by simpa using hd)
  have e : (c1 ++ c2).drop ((i + 1) * es) = c2.drop (i * es) := by rw [Nat.add_mul, Nat.one_mul, Nat.add_comm, ← h1, ← List.drop_drop, List.drop_left]
  refine ⟨by rw [e]; exact this.1, this.2.1, ?_⟩
  have := this.2.2
  simp only [List.length_append, h1, Nat.add_mul]
  omega
 | [], _, _, _, _, hd => by simp at hd
mutual
theorem RelC.oneCell {U : Nat → Prop} {w : World} : ∀ {d : D} {cs : List Value}, RelC U w d cs → ∀ v ∈ cs, v.oneCell' = true
 | .int .., _, h | .bool .., _, h | .str .., _, h | .nilp, _, h | .lref .., _, h | .lmp .., _, h => by simp only [RelC] at h; subst h; simp [Value.oneCell']
 | .nil, _, h => by simp only [RelC] at h; obtain ⟨v, rfl⟩ := h; simp [Value.oneCell']
 | .any, _, h => by simp only [RelC] at h; obtain ⟨v, rfl, h2⟩ := h; simpa using h2
 | .agg fs, cs, h => by simp only [RelC] at h; exact RelF.oneCell h
 | .ro es ds, cs, h => by simp only [RelC] at h; obtain ⟨a, c, rfl, h2⟩ := h; simp [Value.oneCell']
 | .lsl .., cs, h | .lvw .., cs, h => by simp only [RelC] at h; obtain ⟨a, rfl, h2⟩ := h; simp [Value.oneCell']
 | .fn .., cs, h => by simp only [RelC] at h; obtain ⟨a, rfl, h2⟩ := h; simp [Value.oneCell']
 | .cref _, cs, h => by simp only [RelC] at h; obtain ⟨b, off, cells, e, fz, rfl, h2⟩ := h; simp [Value.oneCell']
 | .undef, _, h | .mp _, _, h | .tup _, _, h | .arr .., _, h | .ow .., _, h => by simp [RelC] at h
theorem RelF.oneCell {U : Nat → Prop} {w : World} : ∀ {ds : List D} {cs : List Value}, RelF U w ds cs → ∀ v ∈ cs, v.oneCell' = true
 | [], _, h => by simp only [RelF] at h; simp [h]
 | d :: ds, _, h => by
  simp only [RelF] at h
  obtain ⟨c1, c2, rfl, h1, h2⟩ := h
  intro v hv
  rcases List.mem_append.1 hv with hv | hv
  ·exact RelC.oneCell h1 v hv
  ·exact RelF.oneCell h2 v hv
end
theorem RelR.oneCell {U : Nat → Prop} {w : World} {es : Nat} : ∀ {ds : List D} {cs : List Value}, RelR U w es ds cs → ∀ v ∈ cs, v.oneCell' = true
 | [], _, h => by simp only [RelR] at h; simp [h]
 | d :: ds, _, h => by
  simp only [RelR] at h
  obtain ⟨c1, c2, rfl, _, h1, h2⟩ := h
  intro v hv
  rcases List.mem_append.1 hv with hv | hv
  ·exact RelC.oneCell h1 v hv
  ·exact RelR.oneCell h2 v hv
/-! ### What is owned: the blocks that a content holds as its own -/
mutual
def RelO (U : Nat → Prop) (w : World) : D → List Value → List Nat → Prop
 | .agg fs, cs, F => RelOF U w fs cs F
 | .ow es ds c, cs, F => ∃ a, cs = [.slice a ds.length c] ∧ ((c = 0 ∧ ds = [] ∧ F = []) ∨ ∃ b cells e G, a = some ⟨b, 0, none⟩ ∧ c ≠ 0 ∧ w.heap[b]? = some (.cells cells e (0, 0)) ∧ cells.size = c * es ∧ ds.length ≤ c ∧ RelOR U w es ds (cells.toList.take (ds.length * es)) G ∧ F = b :: G)
 | d, cs, F => RelC U w d cs ∧ F = []
def RelOF (U : Nat → Prop) (w : World) : List D → List Value → List Nat → Prop
 | [], cs, F => cs = [] ∧ F = []
 | d :: ds, cs, F => ∃ c1 c2 F1 F2, cs = c1 ++ c2 ∧ F = F1 ++ F2 ∧ RelO U w d c1 F1 ∧ RelOF U w ds c2 F2
def RelOR (U : Nat → Prop) (w : World) (es : Nat) : List D → List Value → List Nat → Prop
 | [], cs, F => cs = [] ∧ F = []
 | d :: ds, cs, F => ∃ c1 c2 F1 F2, cs = c1 ++ c2 ∧ F = F1 ++ F2 ∧ c1.length = es ∧ RelO U w d c1 F1 ∧ RelOR U w es ds c2 F2
end
structure ExtO (U U' : Nat → Prop) (F : List Nat) (w w' : World) : Prop where
 u : ∀ b, U b → U' b
 heap : ∀ b, U b → w'.heap[b]? = w.heap[b]?
 own : ∀ b ∈ F, w'.heap[b]? = w.heap[b]?
theorem ExtO.ext {U U' : Nat → Prop} {F : List Nat} {w w' : World} (x : ExtO U U' F w w') : Ext U U' w w' := ⟨x.u, x.heap⟩
theorem ExtO.of {U U' : Nat → Prop} {F G : List Nat} {w w' : World} (x : ExtO U U' F w w') (h : ∀ b ∈ G, b ∈ F) : ExtO U U' G w w' := ⟨x.u, x.heap, fun b hb => x.own b (h b hb)⟩
mutual
theorem RelO.of {U : Nat → Prop} {w : World} : ∀ {d : D} {cs : List Value}, RelC U w d cs → RelO U w d cs []
 | .agg fs, cs, h => by simp only [RelC] at h; simp only [RelO]; exact RelOF.of h
 | .undef, _, h | .mp _, _, h | .tup _, _, h | .arr .., _, h | .ow .., _, h => by simp [RelC] at h
 | .any, _, h | .int .., _, h | .bool .., _, h | .str .., _, h | .nil, _, h | .nilp, _, h | .lref .., _, h | .lsl .., _, h | .lvw .., _, h | .lmp .., _, h | .ro .., _, h | .cref _, _, h | .fn .., _, h => by
  simp only [RelO]; exact ⟨h, trivial⟩
theorem RelOF.of {U : Nat → Prop} {w : World} : ∀ {ds : List D} {cs : List Value}, RelF U w ds cs → RelOF U w ds cs []
 | [], _, h => by simp only [RelF] at h; simp [RelOF, h]
 | d :: ds, _, h => by
  simp only [RelF] at h
  obtain ⟨c1, c2, rfl, h1, h2⟩ := h
  simp only [RelOF]
  exact ⟨c1, c2, [], [], rfl, rfl, RelO.of h1, RelOF.of h2⟩
end
theorem RelOR.of {U : Nat → Prop} {w : World} {es : Nat} : ∀ {ds : List D} {cs : List Value}, RelR U w es ds cs → RelOR U w es ds cs []
 | [], _, h => by simp only [RelR] at h; simp [RelOR, h]
 | d :: ds, _, h => by
  simp only [RelR] at h
  obtain ⟨c1, c2, rfl, h0, h1, h2⟩ := h
  simp only [RelOR]
  exact ⟨c1, c2, [], [], rfl, rfl, h0, RelO.of h1, RelOR.of h2⟩
mutual
theorem RelO.mono {U U' : Nat → Prop} {w w' : World} : ∀ {d : D} {cs : List Value} {F : List Nat}, ExtO U U' F w w' → RelO U w d cs F → RelO U' w' d cs F
 | .agg fs, cs, F, x, h => by simp only [RelO] at h ⊢; exact RelOF.mono x h
 | .ow es ds c, cs, F, x, h => by
  simp only [RelO] at h ⊢
  obtain ⟨a, h1, h2⟩ := h
  refine ⟨a, h1, h2.imp id ?_⟩
  rintro ⟨b, cells, e, G, h3, h4, h5, h6, h7, h8, rfl⟩
  exact ⟨b, cells, e, G, h3, h4, by rw [x.own _ (by simp), h5], h6, h7, RelOR.mono (x.of (fun b hb => by simp [hb])) h8, rfl⟩
 | .undef, _, _, x, h | .mp _, _, _, x, h | .tup _, _, _, x, h | .arr .., _, _, x, h | .any, _, _, x, h | .int .., _, _, x, h | .bool .., _, _, x, h | .str .., _, _, x, h | .nil, _, _, x, h | .nilp, _, _, x, h | .lref .., _, _, x, h | .lsl .., _, _, x, h | .lvw .., _, _, x, h | .lmp .., _, _, x, h | .ro .., _, _, x, h | .cref _, _, _, x, h | .fn .., _, _, x, h => by
  simp only [RelO] at h ⊢; exact ⟨RelC.mono x.ext h.1, h.2⟩
theorem RelOF.mono {U U' : Nat → Prop} {w w' : World} : ∀ {ds : List D} {cs : List Value} {F : List Nat}, ExtO U U' F w w' → RelOF U w ds cs F → RelOF U' w' ds cs F
 | [], _, _, x, h => by simpa only [RelOF] using h
 | d :: ds, _, _, x, h => by
  simp only [RelOF] at h ⊢
  obtain ⟨c1, c2, F1, F2, rfl, rfl, h1, h2⟩ := h
  exact ⟨c1, c2, F1, F2, rfl, rfl, RelO.mono (x.of fun b hb => by simp [hb]) h1, RelOF.mono (x.of fun b hb => by simp [hb]) h2⟩
theorem RelOR.mono {U U' : Nat → Prop} {w w' : World} {es : Nat} : ∀ {ds : List D} {cs : List Value} {F : List Nat}, ExtO U U' F w w' → RelOR U w es ds cs F → RelOR U' w' es ds cs F
 | [], _, _, x, h => by simpa only [RelOR] using h
 | d :: ds, _, _, x, h => by
  simp only [RelOR] at h ⊢
  obtain ⟨c1, c2, F1, F2, rfl, rfl, h0, h1, h2⟩ := h
  exact ⟨c1, c2, F1, F2, rfl, rfl, h0, RelO.mono (x.of fun b hb => by simp [hb]) h1, RelOR.mono (x.of fun b hb => by simp [hb]) h2⟩
end
mutual
/-- The same, with what is owned left out. -/
def D.bare : D → D
 | .agg fs => .agg (D.bares fs)
 | .ow .. => .any
 | d => d
def D.bares : List D → List D
 | [] => []
 | d :: ds => d.bare :: D.bares ds
end
mutual
theorem D.bare_len : ∀ (d : D), d.bare.len = d.len
 | .agg fs => by simp only [D.bare, D.len]; exact D.bares_len fs
 | .ow .. | .undef | .any | .int .. | .bool _ | .str _ | .nil | .nilp | .ro .. | .lref .. | .lsl .. | .lvw .. | .cref _ | .tup _ | .fn .. | .mp _ | .lmp .. | .arr .. => by simp [D.bare, D.len]
theorem D.bares_len : ∀ (ds : List D), D.lens (D.bares ds) = D.lens ds
 | [] => rfl
 | d :: ds => by simp only [D.bares, D.lens, D.bare_len d, D.bares_len ds]
end
mutual
theorem RelO.bare {U : Nat → Prop} {w : World} : ∀ {d : D} {cs : List Value} {F : List Nat}, RelO U w d cs F → RelC U w d.bare cs
 | .agg fs, cs, F, h => by simp only [RelO] at h; simp only [D.bare, RelC]; exact RelOF.bare h
 | .ow es ds c, cs, F, h => by
  simp only [RelO] at h
  obtain ⟨a, rfl, h2⟩ := h
  simp only [D.bare, RelC]
  exact ⟨_, rfl, by simp [Value.oneCell']⟩
 | .undef, _, _, h | .mp _, _, _, h | .tup _, _, _, h | .arr .., _, _, h => by simp [RelO, RelC] at h
 | .any, _, _, h | .int .., _, _, h | .bool .., _, _, h | .str .., _, _, h | .nil, _, _, h | .nilp, _, _, h | .lref .., _, _, h | .lsl .., _, _, h | .lvw .., _, _, h | .lmp .., _, _, h | .ro .., _, _, h | .cref _, _, _, h | .fn .., _, _, h => by
  simp only [RelO] at h; exact h.1
theorem RelOF.bare {U : Nat → Prop} {w : World} : ∀ {ds : List D} {cs : List Value} {F : List Nat}, RelOF U w ds cs F → RelF U w (D.bares ds) cs
 | [], _, _, h => by simp only [RelOF] at h; simp [D.bares, RelF, h.1]
 | d :: ds, _, _, h => by
  simp only [RelOF] at h
  obtain ⟨c1, c2, F1, F2, rfl, rfl, h1, h2⟩ := h
  simp only [D.bares, RelF]
  exact ⟨c1, c2, rfl, RelO.bare h1, RelOF.bare h2⟩
end
theorem RelO.length {U : Nat → Prop} {w : World} {d : D} {cs : List Value} {F : List Nat} (h : RelO U w d cs F) : cs.length = d.len := by rw [h.bare.length, D.bare_len]
theorem RelOR.bare {U : Nat → Prop} {w : World} {es : Nat} : ∀ {ds : List D} {cs : List Value} {F : List Nat}, RelOR U w es ds cs F → RelR U w es (ds.map D.bare) cs
 | [], _, _, h => by simp only [RelOR] at h; simp [RelR, h.1]
 | d :: ds, _, _, h => by
  simp only [RelOR] at h
  obtain ⟨c1, c2, F1, F2, rfl, rfl, h0, h1, h2⟩ := h
  simp only [List.map_cons, RelR]
  exact ⟨c1, c2, rfl, h0, RelO.bare h1, RelOR.bare h2⟩
theorem RelOR.length {U : Nat → Prop} {w : World} {es : Nat} {ds : List D} {cs : List Value} {F : List Nat} (h : RelOR U w es ds cs F) : cs.length = ds.length * es := by rw [h.bare.length, List.length_map]
theorem RelOR.get {U : Nat → Prop} {w : World} {es : Nat} : ∀ {ds : List D} {cs : List Value} {F : List Nat} {i : Nat} {d : D}, RelOR U w es ds cs F → ds[i]? = some d → ∃ G, RelO U w d ((cs.drop (i * es)).take es) G ∧ G.Sublist F ∧ d.len = es ∧ i * es + es ≤ cs.length
 | d :: ds, cs, F, 0, d', h, hd => by
  simp only [RelOR] at h
  obtain ⟨c1, c2, F1, F2, rfl, rfl, h1, h2, h3⟩ := h
  simp at hd
  subst hd
  exact ⟨F1, by simpa [← h1] using h2, List.sublist_append_left _ _, by rw [← h2.length, h1], by simp [← h1]⟩
 | d :: ds, cs, F, i + 1, d', h, hd => by
  simp only [RelOR] at h
  obtain ⟨c1, c2, F1, F2, rfl, rfl, h1, h2, h3⟩ := h
  obtain ⟨G, q1, q2, q3, q4⟩ := RelOR.get (i := i) (d := d') h3 (by simpa using hd)
  have e : (c1 ++ c2).drop ((i + 1) * es) = c2.drop (i * es) := by rw [Nat.add_mul, Nat.one_mul, Nat.add_comm, ← h1, ← List.drop_drop, List.drop_left]
  refine ⟨G, by rw [e]; exact q1, q2.trans (List.sublist_append_right _ _), q3, ?_⟩
  simp only [List.length_append, h1, Nat.add_mul]
  omega
 | [], _, _, _, _, _, hd => by simp at hd
theorem RelOR.append {U : Nat → Prop} {w : World} {es : Nat} : ∀ {ds : List D} {cs : List Value} {F : List Nat} {es' : List D} {cs' : List Value} {F' : List Nat}, RelOR U w es ds cs F → RelOR U w es es' cs' F' → RelOR U w es (ds ++ es') (cs ++ cs') (F ++ F')
 | [], _, _, _, _, _, h, h' => by simp only [RelOR] at h; obtain ⟨rfl, rfl⟩ := h; exact h'
 | d :: ds, _, _, _, _, _, h, h' => by
  simp only [RelOR] at h
  obtain ⟨c1, c2, F1, F2, rfl, rfl, h1, h2, h3⟩ := h
  simp only [List.cons_append, RelOR]
  exact ⟨c1, _, F1, _, by simp, by simp, h1, h2, h3.append h'⟩
theorem RelOR.take {U : Nat → Prop} {w : World} {es : Nat} : ∀ {ds : List D} {cs : List Value} {F : List Nat} (k : Nat), RelOR U w es ds cs F → ∃ G, G.Sublist F ∧ RelOR U w es (ds.take k) (cs.take ((ds.take k).length * es)) G
 | [], _, _, k, h => by simp only [RelOR] at h; obtain ⟨rfl, rfl⟩ := h; exact ⟨[], List.Sublist.refl _, by simp [RelOR]⟩
 | d :: ds, _, _, 0, h => ⟨[], List.nil_sublist _, by simp [RelOR]⟩
 | d :: ds, _, _, k + 1, h => by
  simp only [RelOR] at h
  obtain ⟨c1, c2, F1, F2, rfl, rfl, h1, h2, h3⟩ := h
  obtain ⟨G, q1, q2⟩ := RelOR.take k h3
  refine ⟨F1 ++ G, List.Sublist.append (List.Sublist.refl _) q1, ?_⟩
  simp only [List.take_succ_cons, RelOR, List.length_cons]
  refine ⟨c1, _, F1, G, ?_, rfl, h1, h2, q2⟩
  rw [Nat.add_mul, Nat.one_mul, Nat.add_comm, ← h1, List.take_length_add_append]
/-! ### States -/
structure St where
 fr : Nat → D
 gen : Nat → Nat
 lc : Nat → Option D
def upd {α : Type} (f : Nat → α) (i : Nat) (v : α) : Nat → α := fun j => if j = i then v else f j
theorem upd_apply {α : Type} (f : Nat → α) (i : Nat) (v : α) (j : Nat) : upd f i v j = if j = i then v else f j := rfl
def St.put (st : St) (i : Nat) (d : D) : St := { st with fr := upd st.fr i d }
def St.box (st : St) (s b : Nat) (d : D) : St := { st with gen := upd st.gen s b, lc := upd st.lc s (some d) }
def St.setLc (st : St) (s : Nat) (d : D) : St := { st with lc := upd st.lc s (some d) }
/-- The block of name s goes on as t, with another place and another content. -/
def St.turn (st : St) (s t b : Nat) (d : D) : St := { st with gen := upd st.gen t b, lc := upd (upd st.lc s none) t (some d) }
def ofConst : Value → D
 | .int k n => .int k n
 | .bool b => .bool b
 | .string s => .str s
 | .slice none 0 0 => .nil
 | .pointer none => .nilp
 | _ => .any
def St.ev (st : St) : Operand → D
 | .tmp t => st.fr t
 | .const v => ofConst v
 | .global _ => .any
 | .func f => .fn f []
/-- What a function's activation keeps in mind: the world at its begin, what may be written of it, what it may read. -/
structure Fix where
 w0 : World
 U0 : Nat → Prop
 H0 : Nat → Prop
structure G where
 U : Nat → Prop
 own : Nat → Option Nat
/-- What lies in a local box, row or map. -/
def LocO (U : Nat → Prop) (w : World) (b : Nat) : D → List Nat → Prop
 | .mp l, F => F = [b] ∧ ∃ es clk, w.heap[b]? = some (.map es clk) ∧ es.toList.map (fun e => (e.key, e.val)) = l.map (fun p => (Value.string p.1, Value.bool p.2))
 | .arr es ds c, F => (c = 0 ∧ ds = [] ∧ F = []) ∨ ∃ cells e G, c ≠ 0 ∧ w.heap[b]? = some (.cells cells e (0, 0)) ∧ cells.size = c * es ∧ ds.length ≤ c ∧ RelOR U w es ds (cells.toList.take (ds.length * es)) G ∧ F = b :: G
 | d, F => ∃ cells e G, w.heap[b]? = some (.cells cells e (0, 0)) ∧ RelO U w d cells.toList G ∧ F = b :: G
def D.mpB : D → Bool
 | .mp _ => true
 | .arr .. => true
 | _ => false
theorem LocO.cells {U : Nat → Prop} {w : World} {b : Nat} {d : D} {F : List Nat} (h : LocO U w b d F) (hd : d.mpB = false) : ∃ cells e G, w.heap[b]? = some (.cells cells e (0, 0)) ∧ RelO U w d cells.toList G ∧ F = b :: G := by
 cases d <;> first | exact h | cases hd
theorem LocO.of {U : Nat → Prop} {w : World} {b : Nat} {d : D} {cells : Array Value} {e : TypeId} {G : List Nat} (h1 : w.heap[b]? = some (.cells cells e (0, 0))) (h2 : RelO U w d cells.toList G) : LocO U w b d (b :: G) := by
 cases d
 case mp => simp [RelO, RelC] at h2
 case arr => simp [RelO, RelC] at h2
 all_goals exact ⟨cells, e, G, h1, h2, rfl⟩
theorem heap_lt {w : World} {b : Nat} {o : Obj} (h : w.heap[b]? = some o) : b < w.heap.size := (Array.getElem?_eq_some_iff.1 h).1
mutual
theorem RelO.lt {U : Nat → Prop} {w : World} : ∀ {d : D} {cs : List Value} {F : List Nat}, RelO U w d cs F → ∀ x ∈ F, x < w.heap.size
 | .agg fs, cs, F, h => by simp only [RelO] at h; exact RelOF.lt h
 | .ow es ds c, cs, F, h => by
  simp only [RelO] at h
  obtain ⟨a, rfl, h2⟩ := h
  rcases h2 with ⟨_, _, rfl⟩ | ⟨b, cells, e, G, h3, h4, h5, h6, h7, h8, rfl⟩
  ·simp
  ·intro x hx
   rcases List.mem_cons.1 hx with rfl | hx
   ·exact heap_lt h5
   ·exact RelOR.lt h8 x hx
 | .undef, _, _, h | .mp _, _, _, h | .tup _, _, _, h | .arr .., _, _, h | .any, _, _, h | .int .., _, _, h | .bool .., _, _, h | .str .., _, _, h | .nil, _, _, h | .nilp, _, _, h | .lref .., _, _, h | .lsl .., _, _, h | .lvw .., _, _, h | .lmp .., _, _, h | .ro .., _, _, h | .cref _, _, _, h | .fn .., _, _, h => by
  simp only [RelO] at h; obtain ⟨_, rfl⟩ := h; simp
theorem RelOF.lt {U : Nat → Prop} {w : World} : ∀ {ds : List D} {cs : List Value} {F : List Nat}, RelOF U w ds cs F → ∀ x ∈ F, x < w.heap.size
 | [], _, _, h => by simp only [RelOF] at h; obtain ⟨_, rfl⟩ := h; simp
 | d :: ds, _, _, h => by
  simp only [RelOF] at h
  obtain ⟨c1, c2, F1, F2, rfl, rfl, h1, h2⟩ := h
  intro x hx
  rcases List.mem_append.1 hx with hx | hx
  ·exact RelO.lt h1 x hx
  ·exact RelOF.lt h2 x hx
theorem RelOR.lt {U : Nat → Prop} {w : World} {es : Nat} : ∀ {ds : List D} {cs : List Value} {F : List Nat}, RelOR U w es ds cs F → ∀ x ∈ F, x < w.heap.size
 | [], _, _, h => by simp only [RelOR] at h; obtain ⟨_, rfl⟩ := h; simp
 | d :: ds, _, _, h => by
  simp only [RelOR] at h
  obtain ⟨c1, c2, F1, F2, rfl, rfl, h0, h1, h2⟩ := h
  intro x hx
  rcases List.mem_append.1 hx with hx | hx
  ·exact RelO.lt h1 x hx
  ·exact RelOR.lt h2 x hx
end
theorem LocO.lt {U : Nat → Prop} {w : World} {b : Nat} {d : D} {F : List Nat} (h : LocO U w b d F) : ∀ x ∈ F, x < w.heap.size := by
 by_cases hd : d.mpB = true
 ·cases d <;> first | (cases hd; done) | skip
  ·obtain ⟨rfl, _, _, h1, _⟩ := h
   intro x hx
   simp at hx
   subst hx
   exact heap_lt h1
  ·rcases h with ⟨_, _, rfl⟩ | ⟨cells, e, G, h3, h4, h5, h6, h8, rfl⟩
   ·simp
   ·intro x hx
    rcases List.mem_cons.1 hx with rfl | hx
    ·exact heap_lt h4
    ·exact h8.lt x hx
 ·obtain ⟨_, _, G, h1, h2, rfl⟩ := h.cells (by simpa using hd)
  intro x hx
  rcases List.mem_cons.1 hx with rfl | hx
  ·exact heap_lt h1
  ·exact h2.lt x hx
theorem LocO.mono {U U' : Nat → Prop} {w w' : World} {b : Nat} {d : D} {F : List Nat} (x : ExtO U U' F w w') (h : LocO U w b d F) : LocO U' w' b d F := by
 by_cases hd : d.mpB = true
 ·cases d <;> first | (cases hd; done) | skip
  ·obtain ⟨rfl, es, clk, h1, h2⟩ := h
   exact ⟨rfl, es, clk, by rw [x.own b (by simp), h1], h2⟩
  ·rcases h with h | ⟨cells, e, G, h3, h4, h5, h6, h8, rfl⟩
   ·exact .inl h
   ·exact .inr ⟨cells, e, G, h3, by rw [x.own _ (by simp), h4], h5, h6, h8.mono (x.of fun b hb => by simp [hb]), rfl⟩
 ·obtain ⟨c, e, G, h1, h2, rfl⟩ := h.cells (by simpa using hd)
  exact .of (by rw [x.own _ (by simp), h1]) (h2.mono (x.of fun b hb => by simp [hb]))
structure Keeps (H0 : Nat → Prop) (w w' : World) : Prop where
 os : w'.os = w.os
 tape : w'.tape = w.tape
 output : w'.output = w.output
 size : w.heap.size ≤ w'.heap.size
 block : ∀ k, k < w.heap.size → ¬ H0 k → w'.heap[k]? = w.heap[k]?
/-- A name's block and what it owns. -/
structure Own (F : Fix) (g : G) (w : World) (s b : Nat) (d : D) (Fs : List Nat) : Prop where
 loc : LocO g.U w b d Fs
 nd : Fs.Nodup
 own : ∀ x ∈ Fs, g.own x = some s
 nu : ∀ x ∈ Fs, ¬ g.U x
 lo : ∀ x ∈ Fs, F.w0.heap.size ≤ x ∨ F.H0 x
structure Holds (F : Fix) (n : Nat) (g : G) (st : St) (a : Act) (w : World) : Prop where
 size : a.tmps.size = n
 defers : a.defers = []
 slots : ∀ i, RelV g.U w (st.fr i) (a.tmps.getD i undef)
 locs : ∀ s d, st.lc s = some d → ∃ Fs, Own F g w s (st.gen s) d Fs
 uin : ∀ b, F.U0 b → g.U b
 ubd : ∀ b, g.U b → b < w.heap.size
 uout : ∀ b, g.U b → F.U0 b ∨ F.w0.heap.size ≤ b ∨ F.H0 b
 keep : Keeps F.H0 F.w0 w
inductive Ex where
 | normal
 | exit (id : Nat)
 | ret
abbrev Post := Ex → St → Prop
def lift (F : Fix) (n : Nat) (Q : Post) : Exit → Act → World → Prop
 | .normal, a, w => ∃ g st, Holds F n g st a w ∧ Q .normal st
 | .exit id, a, w => ∃ g st, Holds F n g st a w ∧ Q (.exit id) st
 | .ret, a, w => ∃ g st, Holds F n g st a w ∧ Q .ret st
 | _, _, _ => False
/-- In every world that fits the state, the code comes to what Q tells. -/
def Sem (P : Program) (n : Nat) (c : Code) (st : St) (Q : Post) : Prop := ∀ F g a w, Holds F n g st a w → c.wp P (lift F n Q) a w
end Go.Ab
namespace Go.Ab
open Go Go.RowKit
/-! ### What the program's tables tell -/
def aggB (P : Program) (t : TypeId) : Bool :=
 match P.underlying t with
 | some (.struct _) | some (.array _ _) => true
 | _ => false
def varOf (P : Program) (t : TypeId) : Option (Nat × Bool) :=
 match P.info? t, P.underlying t with
 | some i, some _ => some (i.size, aggB P t)
 | _, _ => none
def fldOf (P : Program) (t f : Nat) : Option (Nat × Nat × Bool) :=
 match P.underlying t with
 | some (.struct fs) => (fs[f]?).bind fun fd => (varOf P fd.type).map fun r => (fd.offset, r.1, r.2)
 | _ => none
def eltOf (P : Program) (t : TypeId) : Option Nat :=
 match P.underlying t with
 | some (.slice e) => (varOf P e).map (·.1)
 | _ => none
/-- A test: one way or the other. -/
structure Br (b : Bool) (A B : Prop) : Prop where
 yes : b = true → A
 no : b = false → B
mutual
/-- The part of a value behind a path of field numbers, and the cell where it begins. -/
def D.at : D → List Nat → Option (D × Nat)
 | d, [] => some (d, 0)
 | .agg fs, i :: p => D.ats fs i p
 | _, _ :: _ => none
def D.ats : List D → Nat → List Nat → Option (D × Nat)
 | [], _, _ => none
 | d :: _, 0, p => d.at p
 | d :: ds, i + 1, p => (D.ats ds i p).map fun r => (r.1, d.len + r.2)
end
mutual
def D.set : D → List Nat → D → Option D
 | d, [], x => if d.len = x.len ∧ d.isAgg = x.isAgg then some x else none
 | .agg fs, i :: p, x => (D.sets fs i p x).map .agg
 | _, _ :: _, _ => none
def D.sets : List D → Nat → List Nat → D → Option (List D)
 | [], _, _, _ => none
 | d :: ds, 0, p, x => (d.set p x).map (· :: ds)
 | d :: ds, i + 1, p, x => (D.sets ds i p x).map (d :: ·)
end
/-! Comparing values of structs. -/
def shFs (P : Program) (f : TypeId → Option D) : List Field → Nat → Option (List D)
 | [], _ => some []
 | fd :: l, off => if fd.name == "_" || fd.offset != off then none else match f fd.type with
  | some z => if varOf P fd.type == some (z.len, z.isAgg) && z.len != 0 then (shFs P f l (off + z.len)).map (z :: ·) else none
  | none => none
def shD (P : Program) : Nat → TypeId → Option D
 | 0, _ => none
 | m + 1, t => match P.underlying t with
  | some (.int k) => some (.int k 0)
  | some .bool => some (.bool false)
  | some .string => some (.str ⟨#[]⟩)
  | some (.struct fs) => if P.stoodInHeld t then none else (shFs P (shD P m) fs.toList 0).map .agg
  | _ => none
mutual
def D.eqz : D → D → D → Option Bool
 | .int _ _, .int k a, .int k' b => bif k == k' then some (a == b) else none
 | .bool _, .bool a, .bool b => some (a == b)
 | .str _, .str a, .str b => some (a.toList == b.toList)
 | .agg zs, .agg fs, .agg gs => D.eqzs zs fs gs
 | _, _, _ => none
def D.eqzs : List D → List D → List D → Option Bool
 | [], [], [] => some true
 | z :: zs, d :: ds, e :: es => match D.eqz z d e with
  | some a => match D.eqzs zs ds es with
   | some b => some (a && b)
   | none => none
  | none => none
 | _, _, _ => none
end
def cmpZ (P : Program) (t : TypeId) : Option D := if P.eqGuardType P.depth t then none else match P.underlying t with
 | some (.struct _) => shD P 8 t
 | _ => none
def xorI (k : IntKind) (a b : Int) : Int := ((BitVec.ofInt k.bits a ^^^ BitVec.ofInt k.bits b).toNat : Int)
def andI (k : IntKind) (a b : Int) : Int := ((BitVec.ofInt k.bits a &&& BitVec.ofInt k.bits b).toNat : Int)
def shlI (k : IntKind) (a b : Int) : Int := a * 2 ^ (min b.toNat k.bits)
def isPtr (P : Program) (t : TypeId) : Bool :=
 match P.underlying t with
 | some (.pointer _) => true
 | _ => false
def xpn (op : BinOp) (r : Bool) (K : D → Prop) : Prop :=
 match op with
 | .eql => K (.bool r)
 | .neq => K (.bool (!r))
 | _ => False
def xbin (P : Program) (op : BinOp) (t : TypeId) : D → D → (D → Prop) → Prop
 | .int k a, .int k' b, K =>
  if k = k' then
   match op with
   | .add => K (.int k (k.wrap (a + b)))
   | .sub => K (.int k (k.wrap (a - b)))
   | .mul => K (.int k (k.wrap (a * b)))
   | .quo => b ≠ 0 ∧ K (.int k (k.wrap (a.tdiv b)))
   | .rem => b ≠ 0 ∧ K (.int k (a.tmod b))
   | .eql => K (.bool (a == b))
   | .neq => K (.bool (a != b))
   | .lss => K (.bool (decide (a < b)))
   | .leq => K (.bool (decide (a ≤ b)))
   | .gtr => K (.bool (decide (a > b)))
   | .geq => K (.bool (decide (a ≥ b)))
   | .xor => K (.int k (k.wrap (xorI k a b)))
   | .and => K (.int k (k.wrap (andI k a b)))
   | .shl => 0 ≤ b ∧ K (.int k (k.wrap (shlI k a b)))
   | _ => False
  else False
 | .str a, .str b, K =>
  match op with
  | .add => ¬ (((a.size + b.size : Nat) : Int) > IntKind.i64.max) ∧ K (.str (a ++ b))
  | .eql => K (.bool (a.toList == b.toList))
  | .neq => K (.bool (!(a.toList == b.toList)))
  | .lss => K (.bool (Op.bytesLess a.toList b.toList))
  | .leq => K (.bool (Op.bytesLess a.toList b.toList || a.toList == b.toList))
  | .gtr => K (.bool (!(Op.bytesLess a.toList b.toList || a.toList == b.toList)))
  | .geq => K (.bool (!Op.bytesLess a.toList b.toList))
  | _ => False
 | .bool a, .bool b, K =>
  P.underlying t = some .bool ∧
  match op with
  | .eql => K (.bool (a == b))
  | .neq => K (.bool (!(a == b)))
  | _ => False
 | .nilp, .nilp, K => isPtr P t = true ∧ xpn op true K
 | .cref _, .nilp, K => isPtr P t = true ∧ xpn op false K
 | .nilp, .cref _, K => isPtr P t = true ∧ xpn op false K
 | .lref .., .nilp, K => isPtr P t = true ∧ xpn op false K
 | .nilp, .lref .., K => isPtr P t = true ∧ xpn op false K
 | .agg fs, .agg gs, K => ∃ z b, cmpZ P t = some z ∧ D.eqz z (.agg fs) (.agg gs) = some b ∧ xpn op b K
 | _, _, _ => False
end Go.Ab
namespace Go.Ab
open Go Go.RowKit
/-! ### Maps from texts to truth values -/
def kfind (k : ByteArray) : List (ByteArray × Bool) → Nat → Option (Nat × Bool)
 | [], _ => none
 | (a, v) :: l, i => if k == a then some (i, v) else kfind k l (i + 1)
def kget (l : List (ByteArray × Bool)) (k : ByteArray) : Bool := ((kfind k l 0).map (·.2)).getD false
def kset (l : List (ByteArray × Bool)) (k : ByteArray) (v : Bool) : List (ByteArray × Bool) := match kfind k l 0 with
 | some (i, _) => l.set i (k, v)
 | none => l ++ [(k, v)]
def MapR (es : List MapEntry) (l : List (ByteArray × Bool)) : Prop := es.map (fun e => (e.key, e.val)) = l.map (fun p => (Value.string p.1, Value.bool p.2))
theorem findNow_str {k : ByteArray} : ∀ {es : List MapEntry} {l : List (ByteArray × Bool)} {i : Nat}, MapR es l → Instr.findNow .string (.string k) es i = some ((kfind k l i).map fun p => (p.1, Value.bool p.2))
 | [], [], i, _ => rfl
 | [], _ :: _, i, h => by simp [MapR] at h
 | _ :: _, [], i, h => by simp [MapR] at h
 | e :: es, (a, v) :: l, i, h => by
  simp only [MapR, List.map_cons, List.cons.injEq, Prod.mk.injEq] at h
  obtain ⟨⟨h1, h2⟩, h3⟩ := h
  unfold Instr.findNow kfind
  rw [h1]
  simp only [Instr.sameNow]
  cases hq : (k == a) with
  | true => simp [h2]
  | false => simp [findNow_str (i := i + 1) (show MapR es l from h3)]
def mapStrB (P : Program) (t : TypeId) : Bool := match P.underlying t with
 | some (.map k e) => (match P.underlying k with
  | some .string => true
  | _ => false) && (match P.info? e with
  | some i => (match i.zero with
   | some (.bool false) => true
   | _ => false)
  | none => false)
 | _ => false
theorem mapStrB_spec {P : Program} {t : TypeId} (h : mapStrB P t = true) : ∃ k e i, P.underlying t = some (.map k e) ∧ P.underlying k = some .string ∧ P.info? e = some i ∧ i.zero = some (.bool false) := by
 unfold mapStrB at h
 split at h
 ·rename_i k e hu
  simp only [Bool.and_eq_true] at h
  obtain ⟨h1, h2⟩ := h
  split at h1
  ·rename_i hk
   split at h2
   ·rename_i i hi
    split at h2
    ·rename_i hz
     exact ⟨k, e, i, hu, hk, hi, hz⟩
    ·cases h2
   ·cases h2
  ·cases h1
 ·cases h
section
variable {P : Program} {w : World}
theorem run_getObj_map {r : Nat} {es : Array MapEntry} {clk : Nat} (h : w.heap[r]? = some (.map es clk)) : (getObj r).run P w = .ok (.map es clk) w := by
 simp [getObj, Sem.run, h]
theorem run_setObj_map {r : Nat} {es : Array MapEntry} {clk : Nat} {o : Obj} (h : w.heap[r]? = some (.map es clk)) : (setObj r o).run P w = .ok () { w with heap := w.heap.setIfInBounds r o } := by
 simp [setObj, Sem.run, h]
theorem run_checkKey_str {b : Bool} {kt : TypeId} {k : ByteArray} (hk : P.underlying kt = some .string) : (Instr.checkKey b 10000 kt (.string k)).run P w = .ok () w := by
 unfold Instr.checkKey
 simp [Sem.run_bind, run_underlying hk]
theorem run_lookup_str {t : TypeId} {r : Nat} {es : Array MapEntry} {clk : Nat} {l : List (ByteArray × Bool)} {k : ByteArray} (ht : mapStrB P t = true) (h : w.heap[r]? = some (.map es clk)) (hl : MapR es.toList l) :
  (Instr.lookup t (.map (some r)) (.string k) false).run P w = .ok (.bool (kget l k)) w := by
 obtain ⟨kt, et, i, hu, hk, hi, hz⟩ := mapStrB_spec ht
 unfold Instr.lookup
 have hf : (Instr.findKey kt (.string k) es.toList).run P w = .ok ((kfind k l 0).map fun p => (p.1, Value.bool p.2)) w := by
  unfold Instr.findKey
  simp [Sem.run_bind, run_underlying hk, findNow_str hl]
 simp only [Sem.run_bind, run_underlying hu, Result.andThen_ok, run_getObj_map h, run_checkKey_str hk, hf, Sem.run_pure]
 unfold kget
 cases hq : kfind k l 0 with
 | none => simp [zeroValue, typeInfo, hi, hz, Sem.run_bind]
 | some p => obtain ⟨j, v⟩ := p; simp
theorem kfind_spec {k : ByteArray} : ∀ {l : List (ByteArray × Bool)} {j i : Nat} {v : Bool}, kfind k l j = some (i, v) → ∃ a, j ≤ i ∧ l[i - j]? = some (a, v) ∧ k = a
 | [], j, i, v, h => by simp [kfind] at h
 | (a, x) :: l, j, i, v, h => by
  unfold kfind at h
  split at h
  ·rename_i hq
   simp only [Option.some.injEq, Prod.mk.injEq] at h
   obtain ⟨rfl, rfl⟩ := h
   exact ⟨a, Nat.le_refl _, by simp, (Go.MapKept.bytes_beq _ _).1 hq⟩
  ·obtain ⟨b, h1, h2, h3⟩ := kfind_spec h
   refine ⟨b, by omega, ?_, h3⟩
   have e : i - j = (i - (j + 1)) + 1 := by omega
   rw [e]
   simpa using h2
theorem run_update_str {t : TypeId} {r : Nat} {es : Array MapEntry} {clk : Nat} {l : List (ByteArray × Bool)} {k : ByteArray} {v : Bool} (ht : mapStrB P t = true) (h : w.heap[r]? = some (.map es clk)) (hl : MapR es.toList l) :
  ∃ es' clk', (Instr.mapUpdate t (.map (some r)) (.string k) (.bool v)).run P w = .ok () { w with heap := w.heap.setIfInBounds r (.map es' clk') } ∧ MapR es'.toList (kset l k v) := by
 obtain ⟨kt, et, i, hu, hk, hi, hz⟩ := mapStrB_spec ht
 have hf : (Instr.findKey kt (.string k) es.toList).run P w = .ok ((kfind k l 0).map fun p => (p.1, Value.bool p.2)) w := by
  unfold Instr.findKey
  simp [Sem.run_bind, run_underlying hk, findNow_str hl]
 unfold kset
 cases hq : kfind k l 0 with
 | none =>
  refine ⟨es.push { key := .string k, val := .bool v, born := clk }, clk + 1, ?_, ?_⟩
  ·unfold Instr.mapUpdate
   simp only [Sem.run_bind, run_underlying hu, Result.andThen_ok, run_getObj_map h, run_checkKey_str hk, hf, hq, Option.map_none, run_setObj_map h]
  ·simp only [MapR] at hl ⊢
   simp [hl]
 | some p =>
  obtain ⟨j, v0⟩ := p
  obtain ⟨a, _, h2, h3⟩ := kfind_spec hq
  subst h3
  simp only [Nat.sub_zero] at h2
  have hej : ∃ e, es[j]? = some e ∧ e.key = .string k := by
   have h4 : (es.toList.map (fun e => (e.key, e.val)))[j]? = some (.string k, .bool v0) := by
    rw [show es.toList.map (fun e => (e.key, e.val)) = _ from hl]
    simp [h2]
   simp only [List.getElem?_map, Option.map_eq_some_iff, Prod.mk.injEq] at h4
   obtain ⟨e, h5, h6, _⟩ := h4
   exact ⟨e, by simpa using h5, h6⟩
  obtain ⟨e, he1, he2⟩ := hej
  refine ⟨es.modify j fun e => { e with key := .string k, val := .bool v }, clk, ?_, ?_⟩
  ·have hs : (Instr.keyThatStays (.string k) (.string k)).run P w = .ok (.string k) w := by
    unfold Instr.keyThatStays
    have hb : Instr.sameBits 10000 (.string k) (.string k) = true := (Go.MapKept.bytes_beq k k).2 rfl
    simp [hb]
   unfold Instr.mapUpdate
   simp only [Sem.run_bind, run_underlying hu, Result.andThen_ok, run_getObj_map h, run_checkKey_str hk, hf, hq, Option.map_some, he1, he2, Option.getD_some, hs, run_setObj_map h]
  ·simp only [MapR] at hl ⊢
   apply List.ext_getElem?
   intro m
   have hl' : ∀ m : Nat, (es[m]?).map (fun e => (e.key, e.val)) = (l[m]?).map (fun p => (Value.string p.1, Value.bool p.2)) := fun m => by
    have := congrArg (fun x => x[m]?) hl
    simpa using this
   by_cases hm : j = m
   ·subst hm
    have hjl : j < l.length := (List.getElem?_eq_some_iff.1 h2).1
    simp [Array.getElem?_modify, he1, hjl]
   ·simp [Array.getElem?_modify, hm, List.getElem?_set_ne hm, hl' m]
end
end Go.Ab
namespace Go.Ab
open Go Go.RowKit
def D.memB : D → Bool
 | .undef | .any | .tup _ | .mp _ | .arr .. | .ow .. => false
 | _ => true
def byteAt (s : ByteArray) (i : Nat) : Int := ((s.data.getD i 0).toNat : Int)
/-- An address: is it known. -/
def xaddr : D → Prop → Prop
 | .lref .., p => p
 | .cref _, p => p
 | _, _ => False
def xfield (off sz : Nat) (f : Nat) : D → (D → Prop) → Prop
 | .lref s b p o, K => K (.lref s b (p ++ [f]) (o + off))
 | .cref (.agg fs), K => match fs[f]? with
  | some d => D.lens (fs.take f) = off ∧ d.len = sz ∧ K (.cref d)
  | none => False
 | _, _ => False
def xidx (es : Nat) : D → D → (D → Prop) → Prop
 | .ro es' ds, .int _ n, K => es = es' ∧ es ≠ 0 ∧ 0 ≤ n ∧ n < ds.length ∧ K (.cref (ds.getD n.toNat .any))
 | .lsl s b len _, .int _ n, K => 0 ≤ n ∧ n < len ∧ K (.lref s b [n.toNat] (n.toNat * es))
 | _, _, _ => False
def xpart (sz : Nat) (ag : Bool) (o base : Nat) (r : Option (D × Nat)) (K : D → Prop) : Prop :=
 match r with
 | some (d, o') => base + o' = o ∧ d.len = sz ∧ d.isAgg = ag ∧ K d.bare
 | none => False
/-- A part of a content. -/
def xcont (sz : Nat) (ag : Bool) (o : Nat) : D → List Nat → (D → Prop) → Prop
 | .arr es ds _, i :: q, K => i < ds.length ∧ xpart sz ag o (i * es) ((ds.getD i .any).at q) K
 | .arr .., [], _ => False
 | .mp _, _, _ => False
 | c, p, K => xpart sz ag o 0 (c.at p) K
def xload (st : St) (sz : Nat) (ag : Bool) : D → (D → Prop) → Prop
 | .cref d, K => d.len = sz ∧ d.isAgg = ag ∧ K d
 | .lref s b p o, K => st.gen s = b ∧ match st.lc s with
  | some c => xcont sz ag o c p K
  | none => False
 | _, _ => False
def xlen : D → (D → Prop) → Prop
 | .str s, K => K (.int .i64 s.size)
 | .nil, K => K (.int .i64 0)
 | .ro _ ds, K => K (.int .i64 ds.length)
 | .lsl _ _ n _, K => K (.int .i64 n)
 | .lvw _ _ _ _ n _, K => K (.int .i64 n)
 | _, _ => False
def xcap : D → (D → Prop) → Prop
 | .nil, K => K (.int .i64 0)
 | .lsl _ _ _ c, K => K (.int .i64 c)
 | .lvw _ _ _ _ _ c, K => K (.int .i64 c)
 | _, _ => False
def lenTy (P : Program) (t : Option TypeId) : D → Prop
 | .str _ => t.bind P.underlying = some .string
 | _ => ∃ e, t.bind P.underlying = some (.slice e)
/-- What an operation that neither writes nor makes memory yields. -/
def xlk (st : St) : D → D → (D → Prop) → Prop
 | .lmp s b, .str k, K => st.gen s = b ∧ match st.lc s with
  | some (.mp l) => K (.bool (kget l k))
  | _ => False
 | _, _, _ => False
def D.capB (d : D) : Bool := d.memB && !d.isAgg
/-- A bound of a slice expression. -/
def xbnd (K : Int → Prop) : D → Prop
 | .int _ n => K n
 | _ => False
def xlo (st : St) (x : Option Operand) (K : Int → Prop) : Prop := match x with
 | some x => xbnd K (st.ev x)
 | none => K 0
def xhi (st : St) (n : Nat) (x : Option Operand) (K : Int → Prop) : Prop := match x with
 | some x => xbnd K (st.ev x)
 | none => K n
/-- A slice expression. -/
def xslc (es : Nat) (l : Int) (h : Int) (K : D → Prop) : D → Prop
 | .ro es' ds => es' = es ∧ 0 ≤ l ∧ l ≤ h ∧ h ≤ ds.length ∧ K (.ro es ((ds.drop l.toNat).take (h - l).toNat))
 | .nil => l = 0 ∧ h = 0 ∧ K .nil
 | .lsl s b _ c => (l = 0 ∧ 0 ≤ h ∧ h ≤ c ∧ K (.lsl s b h.toNat c)) ∨ (0 ≤ l ∧ l ≤ h ∧ h ≤ c ∧ K (.lvw s b l.toNat (l.toNat * es) (h - l).toNat (c - l.toNat)))
 | .lvw s b i o _ c => 0 ≤ l ∧ l ≤ h ∧ h ≤ c ∧ K (.lvw s b (i + l.toNat) (o + l.toNat * es) (h - l).toNat (c - l.toNat))
 | _ => False
def xslt (l h : Int) (K : D → Prop) : D → Prop
 | .str s => 0 ≤ l ∧ l ≤ h ∧ h ≤ s.size ∧ K (.str (s.extract l.toNat h.toNat))
 | _ => False
def D.sllen : D → Nat
 | .ro _ ds => ds.length
 | .lsl _ _ n _ => n
 | .lvw _ _ _ _ n _ => n
 | .str s => s.size
 | _ => 0
def capOk (q : Int) : D → Prop
 | .lsl _ _ _ c => q ≤ c
 | .lvw _ _ _ _ _ c => q ≤ c
 | .ro _ ds => q ≤ ds.length
 | _ => False
def xmnx (mx : Bool) (K : D → Prop) : D → D → Prop
 | .int k a, .int k' b => k = k' ∧ K (.int k (bif mx then max a b else min a b))
 | _, _ => False
/-- Bytes as a text. -/
def bytesB : List D → Bool
 | [] => true
 | .int .u8 _ :: ds => bytesB ds
 | _ :: _ => false
def byteD : D → UInt8
 | .int _ n => UInt8.ofNat n.toNat
 | _ => 0
def xbst (st : St) (K : D → Prop) : D → Prop
 | .nil => K (.str ⟨#[]⟩)
 | .ro es ds => es = 1 ∧ bytesB ds = true ∧ K (.str ⟨(ds.map byteD).toArray⟩)
 | .lsl s b n _ => st.gen s = b ∧ match st.lc s with
  | some (.arr es ds _) => es = 1 ∧ n = ds.length ∧ bytesB ds = true ∧ K (.str ⟨(ds.map byteD).toArray⟩)
  | _ => False
 | _ => False
def bstB (P : Program) (s d : TypeId) : Bool := match P.underlying s, P.underlying d with
 | some (.slice e), some .string => (match P.underlying e with
  | some (.int .u8) => true
  | _ => false)
 | _, _ => false
def xpure (P : Program) (st : St) (K : D → Prop) : Op → Prop
 | .move x | .assign x => K (st.ev x)
 | .pick c a b => match st.ev c with
  | .bool t => Br t (K (st.ev a)) (K (st.ev b))
  | _ => False
 | .nilCheck x => xaddr (st.ev x) (K (st.ev x))
 | .binOp op t x y _ => xbin P op t (st.ev x) (st.ev y) K
 | .unOp op _ x => match op, st.ev x with
  | .not, .bool b => K (.bool !b)
  | .neg, .int k n => K (.int k (k.wrap (0 - n)))
  | _, _ => False
 | .convert s d x => match st.ev x with
  | .int _ n => (P.underlying s).isSome = true ∧ ∃ k, P.underlying d = some (.int k) ∧ K (.int k (k.wrap n))
  | .str b => (P.underlying s).isSome = true ∧ P.underlying d = some .string ∧ K (.str b)
  | x => bstB P s d = true ∧ xbst st K x
 | .fieldAddr t x f => match fldOf P t f with
  | some (off, sz, _) => sz ≠ 0 ∧ xfield off sz f (st.ev x) K
  | none => False
 | .field t x f => match fldOf P t f, st.ev x with
  | some (off, sz, ag), .agg fs => match fs[f]? with
   | some d => D.lens (fs.take f) = off ∧ d.len = sz ∧ d.isAgg = ag ∧ K d
   | none => False
  | _, _ => False
 | .indexAddr t x i => match eltOf P t with
  | some es => xidx es (st.ev x) (st.ev i) K
  | none => False
 | .index t x i => match st.ev x, st.ev i with
  | .str s, .int _ n => P.underlying t = some .string ∧ 0 ≤ n ∧ n < s.size ∧ K (.int .u8 (byteAt s n.toNat))
  | _, _ => False
 | .load t x => match varOf P t with
  | some (sz, ag) => xload st sz ag (st.ev x) K
  | none => False
 | .extract x i => match st.ev x with
  | .tup ds => match ds[i]? with
   | some d => K d
   | none => False
  | _ => False
 | .makeFunc fn first caps => match fn with
  | .func f => first = #[] ∧ (caps.toList.map st.ev).all D.capB = true ∧ K (.fn f (caps.toList.map st.ev))
  | _ => False
 | .lookup t x i ok => ok = false ∧ mapStrB P t = true ∧ xlk st (st.ev x) (st.ev i) K
 | .slice t x lo hi mx => (mx = none ∧ match P.underlying t with
  | some .string => xlo st lo fun l => xhi st (st.ev x).sllen hi fun h => xslt l h K (st.ev x)
  | some (.slice e) => match varOf P e with
   | some (es, _) => xlo st lo fun l => xhi st (st.ev x).sllen hi fun h => xslc es l h K (st.ev x)
   | none => False
  | _ => False) ∨ (hi.isSome = true ∧ ∃ m e r, mx = some m ∧ P.underlying t = some (.slice e) ∧ varOf P e = some r ∧ xlo st lo fun l => xhi st (st.ev x).sllen hi fun h => xbnd (fun q => 0 ≤ l ∧ l ≤ h ∧ h ≤ q ∧ capOk q (st.ev x) ∧ K .any) (st.ev m))
 | .call c => match c.callee with
  | .builtin .min => match c.args.toList with
   | [x, y] => xmnx false K (st.ev x) (st.ev y)
   | _ => False
  | .builtin .max => match c.args.toList with
   | [x, y] => xmnx true K (st.ev x) (st.ev y)
   | _ => False
  | .builtin .len => match c.args[0]? with
   | some x => lenTy P c.argTypes[0]? (st.ev x) ∧ xlen (st.ev x) K
   | none => False
  | .builtin .cap => match c.args[0]? with
   | some x => lenTy P c.argTypes[0]? (st.ev x) ∧ xcap (st.ev x) K
   | none => False
  | _ => False
 | _ => False
theorem RelW.of_mem {U : Nat → Prop} {w : World} {d : D} {v : Value} (h : RelW U w d v) (hm : d.memB = true) : RelC U w d v.cells.toList := by
 cases d <;> simp [D.memB] at hm
 case agg fs => obtain ⟨cs, rfl, h⟩ := h; simpa [RelC, Value.cells] using h
 all_goals
  have h' : RelC U w _ [v] := h
  have h1 := h'.oneCell v (by simp)
  have h2 : v.cells = #[v] := by cases v <;> first | rfl | (simp [Value.oneCell'] at h1)
  rw [h2]
  exact h'
theorem RelW.of_cells {U : Nat → Prop} {w : World} {d : D} {cs : List Value} (h : RelC U w d cs) : RelW U w d (if d.isAgg then .agg cs.toArray else cs.headD undef) := by
 have hl := h.length
 cases d
 case agg fs => simp only [RelC] at h; simp only [RelW, D.isAgg, if_true]; exact ⟨_, rfl, by simpa using h⟩
 case any => exact trivial
 case undef | tup | mp | arr | ow => simp [RelC] at h
 all_goals
  simp only [D.len] at hl
  obtain ⟨v, rfl⟩ := List.length_eq_one_iff.1 hl
  exact h
section
variable {P : Program} {F : Fix} {n : Nat} {g : G} {st : St} {a : Act} {w : World}
theorem ofConst_rel (U : Nat → Prop) (w : World) (v : Value) : RelV U w (ofConst v) v := by
 unfold ofConst
 split <;> simp [RelV, RelW, RelC]
theorem Holds.ev (h : Holds F n g st a w) (x : Operand) : RelV g.U w (st.ev x) (a.eval x) := by
 cases x with
 | tmp t => exact h.slots t
 | const v => exact ofConst_rel _ _ _
 | global t => exact trivial
 | func f => exact ⟨#[], rfl, by simp [RelL]⟩
theorem heap_of_below {w w' : World} (hb : Below w.heap.size w w') {b : Nat} {o : Obj} (h : w.heap[b]? = some o) : w'.heap[b]? = some o := by
 rw [hb.block b, h]
 exact (Array.getElem?_eq_some_iff.1 h).1
theorem run_isAgg {t : TypeId} {d : TypeDesc} (hu : P.underlying t = some d) (w : World) : (isAgg t).run P w = .ok (aggB P t) w := by
 unfold isAgg aggB
 simp only [Sem.run_bind, run_underlying hu, Result.andThen_ok, hu]
 cases d <;> rfl
theorem varOf_info {t : TypeId} {sz : Nat} {ag : Bool} (ht : varOf P t = some (sz, ag)) : ∃ i d, P.info? t = some i ∧ P.underlying t = some d ∧ i.size = sz ∧ aggB P t = ag := by
 unfold varOf at ht
 cases hi : P.info? t with
 | none => simp [hi] at ht
 | some i =>
  cases hu : P.underlying t with
  | none => simp [hi, hu] at ht
  | some d =>
   simp only [hi, hu, Option.some.injEq, Prod.mk.injEq] at ht
   exact ⟨i, d, rfl, rfl, ht.1, ht.2⟩
theorem headD_take_drop (l : List Value) (off : Nat) (u : Value) : ((l.drop off).take 1).headD u = (l[off]?).getD u := by
 induction l generalizing off with
 | nil => simp
 | cons x l ih => cases off with | zero => simp | succ k => simpa using ih k
/-- The run of a load of a known stretch of cells. -/
theorem run_loadVar_cells (w : World) (b off : Nat) (cells : Array Value) (e : TypeId) (fz : Nat × Nat) (hc : w.heap[b]? = some (.cells cells e fz)) (t : TypeId) {sz : Nat} {ag : Bool} (ht : varOf P t = some (sz, ag))
  (hsz : off + sz ≤ cells.size) (h1 : ag = false → sz = 1) :
  (loadVar t ⟨b, off, none⟩).run P w = .ok (if ag then .agg ((cells.toList.drop off).take sz).toArray else ((cells.toList.drop off).take sz).headD undef) w := by
 obtain ⟨i, d, hi, hu, rfl, rfl⟩ := varOf_info ht
 have hcell : ∀ j, off + j < cells.size → w.cell? ⟨b, off + j, none⟩ = cells[off + j]? := fun j _ => by simp [World.cell?, hc]
 have hl : ∀ j v, ((cells.toList.drop off).take i.size)[j]? = some v → w.cell? ((⟨b, off, none⟩ : Addr).add j) = some v := fun j v hv => by
  have e : ((⟨b, off, none⟩ : Addr).add j) = ⟨b, off + j, none⟩ := by unfold Addr.add; split <;> simp_all
  rw [List.getElem?_take] at hv
  split at hv
  ·rw [List.getElem?_drop] at hv
   rw [e]
   simp [World.cell?, hc, ← hv]
  ·cases hv
 have hlen : ((cells.toList.drop off).take i.size).length = i.size := by simp; omega
 have hL := run_loadCells_list (P := P) w ⟨b, off, none⟩ _ hl
 rw [hlen] at hL
 unfold loadVar
 simp only [Sem.run_bind, run_isAgg hu, Result.andThen_ok]
 by_cases hA : aggB P t = true
 ·simp [hA, sizeOf, typeInfo, hi, hL]
 ·have hA' : aggB P t = false := by simpa using hA
  have h1' := h1 hA'
  have hone : w.cell? ⟨b, off, none⟩ = some (((cells.toList.drop off).take i.size).headD undef) := by
   have := hcell 0 (by omega)
   have hlt : off < cells.size := by omega
   simp only [Nat.add_zero] at this
   rw [this, h1', headD_take_drop]
   simp [hlt]
  simp [hA', run_load, hone]
end
end Go.Ab
namespace Go.Ab
open Go Go.RowKit
theorem drop_take_drop (l : List Value) (a b m n : Nat) (h : b + n ≤ m) : ((((l.drop a).take m).drop b).take n) = (l.drop (a + b)).take n := by
 rw [List.drop_take, List.take_take, List.drop_drop]
 congr 1
 omega
theorem RelR.take {U : Nat → Prop} {w : World} {es : Nat} : ∀ {ds : List D} {cs : List Value} (k : Nat), RelR U w es ds cs → RelR U w es (ds.take k) (cs.take ((ds.take k).length * es))
 | [], cs, k, h => by simp [RelR]
 | d :: ds, cs, 0, h => by simp [RelR]
 | d :: ds, cs, k + 1, h => by
  simp only [RelR] at h
  obtain ⟨c1, c2, rfl, hl, h1, h2⟩ := h
  have ih := RelR.take k h2
  simp only [List.take_succ_cons, RelR, List.length_cons]
  refine ⟨c1, c2.take ((ds.take k).length * es), ?_, hl, h1, ih⟩
  rw [Nat.add_mul, Nat.one_mul, Nat.add_comm, ← hl, List.take_length_add_append]
theorem RelR.drop {U : Nat → Prop} {w : World} {es : Nat} : ∀ {ds : List D} {cs : List Value} (k : Nat), RelR U w es ds cs → RelR U w es (ds.drop k) (cs.drop (k * es))
 | ds, cs, 0, h => by simpa using h
 | [], cs, k + 1, h => by simp only [RelR] at h; subst h; simp [RelR]
 | d :: ds, cs, k + 1, h => by
  simp only [RelR] at h
  obtain ⟨c1, c2, rfl, hl, h1, h2⟩ := h
  have ih := RelR.drop k h2
  have e : (c1 ++ c2).drop ((k + 1) * es) = c2.drop (k * es) := by rw [Nat.add_mul, Nat.one_mul, Nat.add_comm, ← hl, ← List.drop_drop, List.drop_left]
  rw [e]
  simpa using ih
mutual
theorem RelO.at {U : Nat → Prop} {w : World} : ∀ {d : D} {cs : List Value} {F : List Nat} {p : List Nat} {d' : D} {o : Nat}, RelO U w d cs F → d.at p = some (d', o) → ∃ H, RelO U w d' ((cs.drop o).take d'.len) H ∧ H.Sublist F ∧ o + d'.len ≤ cs.length
 | d, cs, F, [], d', o, h, e => by
  have : d = d' ∧ o = 0 := by cases d <;> (simp only [D.at, Option.some.injEq, Prod.mk.injEq] at e; exact ⟨e.1, e.2.symm⟩)
  obtain ⟨rfl, rfl⟩ := this
  have := h.length
  simp only [List.drop_zero, ← this, List.take_length, Nat.zero_add]
  exact ⟨F, h, List.Sublist.refl _, Nat.le_refl _⟩
 | .agg fs, cs, F, i :: p, d', o, h, e => by
  simp only [RelO] at h
  simp only [D.at] at e
  exact RelOF.ats h e
 | .undef, _, _, _ :: _, _, _, h, e | .any, _, _, _ :: _, _, _, h, e | .int .., _, _, _ :: _, _, _, h, e | .bool .., _, _, _ :: _, _, _, h, e | .str .., _, _, _ :: _, _, _, h, e | .nil, _, _, _ :: _, _, _, h, e | .nilp, _, _, _ :: _, _, _, h, e | .ro .., _, _, _ :: _, _, _, h, e | .lref .., _, _, _ :: _, _, _, h, e | .lsl .., _, _, _ :: _, _, _, h, e | .lvw .., _, _, _ :: _, _, _, h, e | .mp _, _, _, _ :: _, _, _, h, e | .lmp .., _, _, _ :: _, _, _, h, e | .cref .., _, _, _ :: _, _, _, h, e | .tup _, _, _, _ :: _, _, _, h, e | .fn .., _, _, _ :: _, _, _, h, e | .arr .., _, _, _ :: _, _, _, h, e | .ow .., _, _, _ :: _, _, _, h, e => by simp [D.at] at e
theorem RelOF.ats {U : Nat → Prop} {w : World} : ∀ {ds : List D} {cs : List Value} {F : List Nat} {i : Nat} {p : List Nat} {d' : D} {o : Nat}, RelOF U w ds cs F → D.ats ds i p = some (d', o) → ∃ H, RelO U w d' ((cs.drop o).take d'.len) H ∧ H.Sublist F ∧ o + d'.len ≤ cs.length
 | [], _, _, _, _, _, _, _, e => by simp [D.ats] at e
 | d :: ds, cs, F, 0, p, d', o, h, e => by
  simp only [RelOF] at h
  obtain ⟨c1, c2, F1, F2, rfl, rfl, h1, h2⟩ := h
  simp only [D.ats] at e
  obtain ⟨H, h3, hs, h4⟩ := RelO.at h1 e
  refine ⟨H, ?_, hs.trans (List.sublist_append_left _ _), by simp; omega⟩
  rw [List.drop_append_of_le_length (by omega), List.take_append_of_le_length (by simp; omega)]
  exact h3
 | d :: ds, cs, F, i + 1, p, d', o, h, e => by
  simp only [RelOF] at h
  obtain ⟨c1, c2, F1, F2, rfl, rfl, h1, h2⟩ := h
  simp only [D.ats] at e
  cases hr : D.ats ds i p with
  | none => simp [hr] at e
  | some r =>
   simp only [hr, Option.map_some, Option.some.injEq, Prod.mk.injEq] at e
   obtain ⟨rfl, rfl⟩ := e
   obtain ⟨H, h3, hs, h4⟩ := RelOF.ats (d' := r.1) (o := r.2) h2 hr
   have hl := h1.length
   refine ⟨H, ?_, hs.trans (List.sublist_append_right _ _), by simp; omega⟩
   rw [← hl, ← List.drop_drop, List.drop_left]
   exact h3
end
section
variable {P : Program} {F : Fix} {n : Nat} {g : G} {st : St} {a : Act} {w : World}
/-- What is told of an operation that neither writes nor makes memory: its value, in every world in which what was there is still there. -/
def Yld (P : Program) (g : G) (st : St) (a : Act) (w : World) (o : Oper) (K : D → Prop) : Prop :=
 ∃ d v, K d ∧ RelV g.U w d v ∧ ∀ w', Below w.heap.size w w' → (execOp a.eval o).run P w' = .ok (.value v) w'
theorem xaddr_sound (h : Holds F n g st a w) {d : D} {v : Value} {p : Prop} (hr : RelV g.U w d v) (hx : xaddr d p) : p ∧ ∃ ad, v = .pointer (some ad) := by
 cases d <;> simp only [xaddr] at hx
 case lref s b q o => exact ⟨hx, _, by simpa [RelV, RelW, RelC] using hr⟩
 case cref d =>
  have hr' : RelC g.U w (.cref d) [v] := hr
  simp only [RelC] at hr'
  obtain ⟨b, off, cells, e, fz, h1, _⟩ := hr'
  exact ⟨hx, _, by simpa using h1⟩
theorem RelV.cref {U : Nat → Prop} {d : D} {v : Value} (hr : RelV U w (.cref d) v) : ∃ b off cells e fz, v = .pointer (some ⟨b, off, none⟩) ∧ U b ∧ w.heap[b]? = some (.cells cells e fz) ∧ off + d.len ≤ cells.size ∧ RelC U w d ((cells.toList.drop off).take d.len) := by
 have hr' : RelC U w (.cref d) [v] := hr
 simp only [RelC] at hr'
 obtain ⟨b, off, cells, e, fz, h1, h2⟩ := hr'
 exact ⟨b, off, cells, e, fz, by simpa using h1, h2⟩
theorem RelV.cref_mk {U : Nat → Prop} {d : D} {v : Value} (h : ∃ b off cells e fz, v = .pointer (some ⟨b, off, none⟩) ∧ U b ∧ w.heap[b]? = some (.cells cells e fz) ∧ off + d.len ≤ cells.size ∧ RelC U w d ((cells.toList.drop off).take d.len)) : RelV U w (.cref d) v := by
 obtain ⟨b, off, cells, e, fz, rfl, h2⟩ := h
 show RelC U w (.cref d) [_]
 simp only [RelC]
 exact ⟨b, off, cells, e, fz, rfl, h2⟩
theorem RelV.fn_mk {U : Nat → Prop} {f : Nat} {caps : List D} {v : Value} (h : ∃ vs, v = .func (.func f) #[] vs ∧ RelL U w caps vs.toList) : RelV U w (.fn f caps) v := by
 obtain ⟨vs, rfl, h2⟩ := h
 show RelC U w (.fn f caps) [_]
 simp only [RelC]
 exact ⟨vs, rfl, h2⟩
theorem RelV.fn {U : Nat → Prop} {f : Nat} {caps : List D} {v : Value} (h : RelV U w (.fn f caps) v) : ∃ vs, v = .func (.func f) #[] vs ∧ RelL U w caps vs.toList := by
 have h' : RelC U w (.fn f caps) [v] := h
 simp only [RelC] at h'
 obtain ⟨vs, h1, h2⟩ := h'
 exact ⟨vs, by simpa using h1, h2⟩
theorem RelV.lsl {U : Nat → Prop} {s b m c : Nat} {v : Value} (hr : RelV U w (.lsl s b m c) v) : ∃ ad, v = .slice ad m c ∧ m ≤ c ∧ (c ≠ 0 → ad = some ⟨b, 0, none⟩) := by
 have hr' : RelC U w (.lsl s b m c) [v] := hr
 simp only [RelC] at hr'
 obtain ⟨ad, h1, h2⟩ := hr'
 exact ⟨ad, by simpa using h1, h2⟩
theorem RelV.lvw {U : Nat → Prop} {w : World} {s b i o m c : Nat} {v : Value} (hr : RelV U w (.lvw s b i o m c) v) : ∃ ad, v = .slice ad m c ∧ m ≤ c ∧ (c ≠ 0 → ad = some ⟨b, o, none⟩) := by
 have hr' : RelC U w (.lvw s b i o m c) [v] := hr
 simp only [RelC] at hr'
 obtain ⟨ad, h1, h2⟩ := hr'
 exact ⟨ad, by simpa using h1, h2⟩
theorem RelV.lref {U : Nat → Prop} {s b : Nat} {p : List Nat} {o : Nat} {v : Value} (hr : RelV U w (.lref s b p o) v) : v = .pointer (some ⟨b, o, none⟩) := by simpa [RelV, RelW, RelC] using hr
theorem equalIn_bool {t : TypeId} (ht : P.underlying t = some .bool) (d : Nat) (p q : Bool) (w' : World) : (Op.equalIn (d + 1) t (.bool p) (.bool q)).run P w' = .ok (p == q) w' := by
 simp only [Op.equalIn, Sem.run_bind, run_underlying ht, Result.andThen_ok]
 rfl
theorem ptr_eq {op : BinOp} {t : TypeId} {r : Bool} {K : D → Prop} (ht : isPtr P t = true) (h : xpn op r K) (ox oy : Operand) (p q : Option Addr) (hr : (p = none ∧ q = none ∧ r = true) ∨ (p.isSome = true ∧ q = none ∧ r = false) ∨ (p = none ∧ q.isSome = true ∧ r = false)) :
  ∃ d v, K d ∧ RelV g.U w d v ∧ ∀ w', (do eqGuard op t ox oy (.pointer p) (.pointer q); binOp op t (.pointer p) (.pointer q) : Go.Sem Value).run P w' = .ok v w' := by
 unfold isPtr at ht
 split at ht
 ·rename_i e hu
  have hg : ∀ w', (eqGuard op t ox oy (.pointer p) (.pointer q)).run P w' = .ok () w' := fun w' => by unfold eqGuard; split <;> rfl
  have he : ∀ w', (Op.equal t (.pointer p) (.pointer q)).run P w' = .ok r w' := fun w' => by
   unfold Op.equal Op.maxDepth Op.equalIn
   rcases hr with ⟨rfl, rfl, rfl⟩ | ⟨h1, rfl, rfl⟩ | ⟨rfl, h1, rfl⟩
   ·simp [Sem.run_bind, run_underlying hu]
   ·obtain ⟨a, rfl⟩ := Option.isSome_iff_exists.1 h1
    simp [Sem.run_bind, run_underlying hu]
   ·obtain ⟨a, rfl⟩ := Option.isSome_iff_exists.1 h1
    simp [Sem.run_bind, run_underlying hu]
  cases op <;> simp only [xpn] at h
  case eql => exact ⟨_, _, h, rfl, fun w' => by simp [Sem.run_bind, hg, binOp, he]⟩
  case neq => exact ⟨_, _, h, rfl, fun w' => by simp [Sem.run_bind, hg, binOp, he]⟩
 ·cases ht
theorem D.len_one {d : D} (h : d.isAgg = false) : d.len = 1 := by cases d <;> simp_all [D.isAgg, D.len]
mutual
theorem eqz_len {U : Nat → Prop} {w : World} : ∀ {z d e : D} {b : Bool}, D.eqz z d e = some b → (d.len = z.len ∧ d.isAgg = z.isAgg ∧ d.memB = true) ∧ (e.len = z.len ∧ e.isAgg = z.isAgg ∧ e.memB = true)
 | z, d, e, b, h => by
  cases z <;> cases d <;> cases e <;> simp only [D.eqz, reduceCtorEq] at h <;> first | exact ⟨⟨rfl, rfl, rfl⟩, ⟨rfl, rfl, rfl⟩⟩ | skip
  obtain ⟨h1, h2⟩ := eqzs_len (U := U) (w := w) h
  exact ⟨⟨h1, rfl, rfl⟩, ⟨h2, rfl, rfl⟩⟩
theorem eqzs_len {U : Nat → Prop} {w : World} : ∀ {zs ds es : List D} {b : Bool}, D.eqzs zs ds es = some b → D.lens ds = D.lens zs ∧ D.lens es = D.lens zs
 | [], [], [], _, _ => ⟨rfl, rfl⟩
 | z :: zs, d :: ds, e :: es, b, h => by
  simp only [D.eqzs] at h
  cases h1 : D.eqz z d e with
  | none => rw [h1] at h; cases h
  | some a =>
   rw [h1] at h
   cases h2 : D.eqzs zs ds es with
   | none => rw [h2] at h; cases h
   | some c =>
    obtain ⟨q1, q2⟩ := eqz_len (U := U) (w := w) h1
    obtain ⟨q3, q4⟩ := eqzs_len (U := U) (w := w) h2
    simp only [D.lens, q1.1, q2.1, q3, q4, and_self]
 | [], [], _ :: _, _, h | [], _ :: _, _, _, h | _ :: _, [], _, _, h | _ :: _, _ :: _, [], _, h => by simp [D.eqzs] at h
end
theorem run_part {t : TypeId} {sz off : Nat} {ag : Bool} (ht : varOf P t = some (sz, ag)) (xs : Array Value) (hl : off + sz ≤ xs.size) (h1 : ag = false → sz = 1) (w' : World) :
  (part t xs off).run P w' = .ok (if ag then .agg ((xs.toList.drop off).take sz).toArray else ((xs.toList.drop off).take sz).headD undef) w' := by
 obtain ⟨i, d, hi, hu, rfl, rfl⟩ := varOf_info ht
 simp only [part, Sem.run_bind, run_isAgg hu, Result.andThen_ok]
 by_cases hA : aggB P t = true
 ·have e4 : xs.extract off (off + i.size) = ((xs.toList.drop off).take i.size).toArray := by
   apply Array.ext'
   simp [List.extract_eq_take_drop]
  simp only [hA, if_true, sizeOf, typeInfo, Sem.run_bind, ← e4]
  simp [hi]
 ·have hA' : aggB P t = false := by simpa using hA
  have hs := h1 hA'
  simp only [hA', hs, headD_take_drop]
  have hlt : off < xs.size := by omega
  simp [hlt]
theorem eqz_run {U : Nat → Prop} {w : World} (w' : World) : ∀ (m k : Nat) {t : TypeId} {z d e : D} {b : Bool} {vx vy : Value}, shD P m t = some z → D.eqz z d e = some b → RelW U w d vx → RelW U w e vy → (Op.equalIn (m + k) t vx vy).run P w' = .ok b w'
 | 0, _, _, _, _, _, _, _, _, h, _, _, _ => by simp [shD] at h
 | m + 1, k, t, z, d, e, b, vx, vy, h, hz, hx, hy => by
  rw [show m + 1 + k = (m + k) + 1 by omega]
  simp only [shD] at h
  split at h
  ·rename_i k0 hu
   simp only [Option.some.injEq] at h
   subst h
   cases d <;> cases e <;> simp only [D.eqz, reduceCtorEq] at hz
   rename_i k1 p k2 q
   obtain rfl : vx = .int k1 p := by simpa [RelW, RelC] using hx
   obtain rfl : vy = .int k2 q := by simpa [RelW, RelC] using hy
   cases hk : k1 == k2 with
   | false => rw [hk] at hz; cases hz
   | true =>
    rw [hk] at hz
    simp only [cond_true, Option.some.injEq] at hz
    have e1 : k1 = k2 := by simpa using hk
    subst e1
    subst hz
    exact run_equalIn_int w' _ t k1 k0 p q hu
  ·rename_i hu
   simp only [Option.some.injEq] at h
   subst h
   cases d <;> cases e <;> simp only [D.eqz, reduceCtorEq, Option.some.injEq] at hz
   rename_i p q
   obtain rfl : vx = .bool p := by simpa [RelW, RelC] using hx
   obtain rfl : vy = .bool q := by simpa [RelW, RelC] using hy
   subst hz
   exact equalIn_bool hu _ p q w'
  ·rename_i hu
   simp only [Option.some.injEq] at h
   subst h
   cases d <;> cases e <;> simp only [D.eqz, reduceCtorEq, Option.some.injEq] at hz
   rename_i p q
   obtain rfl : vx = .string p := by simpa [RelW, RelC] using hx
   obtain rfl : vy = .string q := by simpa [RelW, RelC] using hy
   subst hz
   exact run_equalIn_string w' _ t p q hu
  ·rename_i fs hu
   split at h
   ·cases h
   ·rename_i hst
    simp only [Option.map_eq_some_iff] at h
    obtain ⟨zs, hzs, rfl⟩ := h
    cases d <;> cases e <;> simp only [D.eqz, reduceCtorEq] at hz
    rename_i ds es
    obtain ⟨xs, rfl, hX⟩ := hx
    obtain ⟨ys, rfl, hY⟩ := hy
    have hfs : P.fieldsOf t = fs := by simp [Program.fieldsOf, hu]
    rw [run_equalIn_struct w' (m + k) t xs ys (by rw [hfs]; exact hu) (by simpa using hst), hfs]
    have main : ∀ (l : List Field) (off : Nat) {zs ds es : List D} {b : Bool}, shFs P (shD P m) l off = some zs → D.eqzs zs ds es = some b → RelF U w ds (xs.toList.drop off) → RelF U w es (ys.toList.drop off) → (Op.eqFields (m + k) xs ys l).run P w' = .ok b w' := by
     intro l
     induction l with
     | nil =>
      intro off zs ds es b h1 h2 _ _
      simp only [shFs, Option.some.injEq] at h1
      subst h1
      cases ds <;> cases es <;> simp only [D.eqzs, reduceCtorEq, Option.some.injEq] at h2
      subst h2
      simp [Op.eqFields]
     | cons f l ih =>
      intro off zs ds es b h1 h2 h3 h4
      simp only [shFs] at h1
      split at h1
      ·cases h1
      ·rename_i hn
       simp only [Bool.or_eq_true, beq_iff_eq, bne_iff_ne, not_or] at hn
       obtain ⟨hn1, hn2⟩ := hn
       obtain rfl : f.offset = off := Decidable.not_not.1 hn2
       split at h1
       ·rename_i z hz1
        split at h1
        ·rename_i hv
         simp only [Bool.and_eq_true, beq_iff_eq, bne_iff_ne, ne_eq] at hv
         obtain ⟨hv, hv0⟩ := hv
         simp only [Option.map_eq_some_iff] at h1
         obtain ⟨zs', hz2, rfl⟩ := h1
         cases ds with
         | nil => simp [D.eqzs] at h2
         | cons d ds =>
          cases es with
          | nil => simp [D.eqzs] at h2
          | cons e es =>
           simp only [D.eqzs] at h2
           cases q1 : D.eqz z d e with
           | none => rw [q1] at h2; cases h2
           | some a =>
            rw [q1] at h2
            cases q2 : D.eqzs zs' ds es with
            | none => rw [q2] at h2; cases h2
            | some c =>
             rw [q2] at h2
             simp only [Option.some.injEq] at h2
             subst h2
             obtain ⟨⟨l1, l2, _⟩, ⟨l3, l4, _⟩⟩ := eqz_len (U := U) (w := w) q1
             simp only [RelF] at h3 h4
             obtain ⟨c1, c2, e1, r1, r2⟩ := h3
             obtain ⟨d1, d2, e2, s1, s2⟩ := h4
             have n1 := r1.length
             have n2 := s1.length
             have hv' : varOf P f.type = some (z.len, z.isAgg) := hv
             have hone : z.isAgg = false → z.len = 1 := D.len_one
             have hz0 : z.len ≠ 0 := hv0
             have g1 : f.offset + z.len ≤ xs.size := by
              have := congrArg List.length e1
              simp only [List.length_drop, Array.length_toList, List.length_append] at this
              omega
             have g2 : f.offset + z.len ≤ ys.size := by
              have := congrArg List.length e2
              simp only [List.length_drop, Array.length_toList, List.length_append] at this
              omega
             have p1 := run_part hv' xs g1 hone w'
             have p2 := run_part hv' ys g2 hone w'
             have t1 : (xs.toList.drop f.offset).take z.len = c1 := by rw [e1, ← l1, ← n1, List.take_left']; rfl
             have t2 : (ys.toList.drop f.offset).take z.len = d1 := by rw [e2, ← l3, ← n2, List.take_left']; rfl
             rw [t1, ← l2] at p1
             rw [t2, ← l4] at p2
             have w1 := RelW.of_cells r1
             have w2 := RelW.of_cells s1
             have hE := eqz_run w' m k hz1 q1 w1 w2
             have hR := ih (f.offset + z.len) hz2 q2 (by rw [← List.drop_drop, e1, ← l1, ← n1, List.drop_left]; exact r2) (by rw [← List.drop_drop, e2, ← l3, ← n2, List.drop_left]; exact s2)
             simp only [Op.eqFields, hn1, ne_eq, not_false_eq_true, if_true, Sem.run_bind, p1, p2, hE, Result.andThen_ok]
             cases a
             ·simp
             ·simpa using hR
        ·cases h1
       ·cases h1
    exact main fs.toList 0 hzs hz (by simpa using hX) (by simpa using hY)
  ·cases h
theorem cmp_spec {U : Nat → Prop} {w : World} {t : TypeId} {z : D} {fs gs : List D} {b : Bool} {vx vy : Value} {op : BinOp} {K : D → Prop} (hc : cmpZ P t = some z) (hz : D.eqz z (.agg fs) (.agg gs) = some b) (hx : RelW U w (.agg fs) vx) (hy : RelW U w (.agg gs) vy) (hK : xpn op b K) (ox oy : Operand) :
  ∃ d v, K d ∧ RelV U w d v ∧ ∀ w', (do eqGuard op t ox oy vx vy; binOp op t vx vy : Go.Sem Value).run P w' = .ok v w' := by
 unfold cmpZ at hc
 split at hc
 ·cases hc
 ·rename_i hg
  split at hc
  ·obtain ⟨xs, rfl, hX⟩ := hx
   obtain ⟨ys, rfl, hY⟩ := hy
   have hrun : ∀ w', (Op.equalIn 10000 t (.agg xs) (.agg ys)).run P w' = .ok b w' := fun w' => eqz_run (U := U) (w := w) w' 8 9992 hc hz (show RelW U w (.agg fs) _ from ⟨xs, rfl, hX⟩) (show RelW U w (.agg gs) _ from ⟨ys, rfl, hY⟩)
   have hg' : P.eqGuardType P.depth t = false := by simpa using hg
   cases op <;> simp only [xpn] at hK
   case eql => exact ⟨_, _, hK, rfl, fun w' => by simp only [Sem.run_bind, run_eqGuard_agg w' _ t ox oy xs ys hg', Result.andThen_ok, run_eql_struct, hrun w']⟩
   case neq => exact ⟨_, _, hK, rfl, fun w' => by simp only [Sem.run_bind, run_eqGuard_agg w' _ t ox oy xs ys hg', Result.andThen_ok, run_neq_struct, hrun w']⟩
  ·cases hc
theorem xbin_sound {op : BinOp} {t : TypeId} {x y : D} {vx vy : Value} {K : D → Prop} (hx : RelV g.U w x vx) (hy : RelV g.U w y vy) (h : xbin P op t x y K) (ox oy : Operand) :
  ∃ d v, K d ∧ RelV g.U w d v ∧ ∀ w', (do eqGuard op t ox oy vx vy; binOp op t vx vy : Go.Sem Value).run P w' = .ok v w' := by
 cases x <;> cases y <;> simp only [xbin] at h
 case int.int k p k' q =>
  obtain rfl : vx = .int k p := by simpa [RelV, RelW, RelC] using hx
  obtain rfl : vy = .int k' q := by simpa [RelV, RelW, RelC] using hy
  split at h
  ·rename_i hk
   subst hk
   have hg : ∀ w', (eqGuard op t ox oy (.int k p) (.int k q)).run P w' = .ok () w' := fun w' => by unfold eqGuard; split <;> rfl
   cases op <;> simp only at h
   case add => exact ⟨_, _, h, rfl, fun w' => by simp [Sem.run_bind, hg, binOp, Op.intArith]⟩
   case sub => exact ⟨_, _, h, rfl, fun w' => by simp [Sem.run_bind, hg, binOp, Op.intArith]⟩
   case mul => exact ⟨_, _, h, rfl, fun w' => by simp [Sem.run_bind, hg, binOp, Op.intArith]⟩
   case quo => exact ⟨_, _, h.2, rfl, fun w' => by simp [Sem.run_bind, hg, binOp, Op.intDiv, h.1]⟩
   case rem => exact ⟨_, _, h.2, rfl, fun w' => by simp [Sem.run_bind, hg, binOp, Op.intDiv, h.1]⟩
   case xor => exact ⟨_, _, h, rfl, fun w' => by simp [Sem.run_bind, hg, binOp, Op.intBits, xorI]⟩
   case and => exact ⟨_, _, h, rfl, fun w' => by simp [Sem.run_bind, hg, binOp, Op.intBits, andI]⟩
   case shl => exact ⟨_, _, h.2, rfl, fun w' => by simp [Sem.run_bind, hg, binOp, Op.shift, shlI, Int.not_lt.2 h.1]⟩
   all_goals exact ⟨_, _, h, rfl, fun w' => by simp [Sem.run_bind, hg, binOp, Op.intCmp]⟩
  ·exact h.elim
 case str.str p q =>
  obtain rfl : vx = .string p := by simpa [RelV, RelW, RelC] using hx
  obtain rfl : vy = .string q := by simpa [RelV, RelW, RelC] using hy
  have hg : ∀ w', (eqGuard op t ox oy (.string p) (.string q)).run P w' = .ok () w' := fun w' => by unfold eqGuard; split <;> rfl
  cases op <;> simp only at h
  case add => exact ⟨_, _, h.2, rfl, fun w' => by have := h.1; simp only [Sem.run_bind, hg, binOp, Op.stringOp, Result.andThen_ok, if_neg this]; rfl⟩
  all_goals exact ⟨_, _, h, rfl, fun w' => by simp [Sem.run_bind, hg, binOp, Op.stringOp]⟩
 case bool.bool p q =>
  obtain rfl : vx = .bool p := by simpa [RelV, RelW, RelC] using hx
  obtain rfl : vy = .bool q := by simpa [RelV, RelW, RelC] using hy
  have hg : ∀ w', (eqGuard op t ox oy (.bool p) (.bool q)).run P w' = .ok () w' := fun w' => by unfold eqGuard; split <;> rfl
  obtain ⟨ht, h⟩ := h
  have he : ∀ w', (Op.equal t (.bool p) (.bool q)).run P w' = .ok (p == q) w' := fun w' => by
   exact equalIn_bool ht 9999 p q w'
  cases op <;> simp only at h
  case eql => exact ⟨_, _, h, rfl, fun w' => by simp [Sem.run_bind, hg, binOp, he]⟩
  case neq => exact ⟨_, _, h, rfl, fun w' => by simp [Sem.run_bind, hg, binOp, he]⟩
 case nilp.nilp =>
  obtain rfl : vx = .pointer none := by simpa [RelV, RelW, RelC] using hx
  obtain rfl : vy = .pointer none := by simpa [RelV, RelW, RelC] using hy
  exact ptr_eq h.1 h.2 _ _ _ _ (by simp)
 case lref.nilp s b q o =>
  obtain rfl := RelV.lref hx
  obtain rfl : vy = .pointer none := by simpa [RelV, RelW, RelC] using hy
  exact ptr_eq h.1 h.2 _ _ _ _ (by simp)
 case nilp.lref s b q o =>
  obtain rfl := RelV.lref hy
  obtain rfl : vx = .pointer none := by simpa [RelV, RelW, RelC] using hx
  exact ptr_eq h.1 h.2 _ _ _ _ (by simp)
 case cref.nilp d =>
  obtain ⟨b, off, cells, e, fz, rfl, _⟩ := RelV.cref hx
  obtain rfl : vy = .pointer none := by simpa [RelV, RelW, RelC] using hy
  exact ptr_eq h.1 h.2 _ _ _ _ (by simp)
 case nilp.cref d =>
  obtain rfl : vx = .pointer none := by simpa [RelV, RelW, RelC] using hx
  obtain ⟨b, off, cells, e, fz, rfl, _⟩ := RelV.cref hy
  exact ptr_eq h.1 h.2 _ _ _ _ (by simp)
 case agg.agg fs gs =>
  obtain ⟨z, b, h1, h2, h3⟩ := h
  exact cmp_spec h1 h2 hx hy h3 ox oy
theorem xfield_sound (h : Holds F n g st a w) {t : TypeId} {f off sz : Nat} {ag : Bool} (ht : fldOf P t f = some (off, sz, ag)) (hz : sz ≠ 0) {d : D} {v : Value} {K : D → Prop} (hr : RelV g.U w d v) (hx : xfield off sz f d K) :
  ∃ d' v', K d' ∧ RelV g.U w d' v' ∧ ∀ w', (Instr.fieldAt t v f).run P w' = .ok v' w' := by
 have hrun : ∀ (ad : Addr) w', (Instr.fieldAt t (.pointer (some ad)) f).run P w' = .ok (.pointer (some (ad.add off))) w' := fun ad w' => by
  unfold fldOf at ht
  cases hu : P.underlying t with
  | none => simp [hu] at ht
  | some ds =>
   cases ds <;> simp only [hu] at ht <;> try (cases ht; done)
   rename_i fs
   rw [Option.bind_eq_some_iff] at ht
   obtain ⟨fd, hf, ht⟩ := ht
   rw [Option.map_eq_some_iff] at ht
   obtain ⟨⟨r, r'⟩, r1, ht⟩ := ht
   simp only [Prod.mk.injEq] at ht
   obtain ⟨rfl, rfl, rfl⟩ := ht
   obtain ⟨i, dd, hi, _, rfl, _⟩ := varOf_info r1
   unfold Instr.fieldAt
   simp [Sem.run_bind, run_underlying hu, hf, Instr.sureAddr, fieldPlace, sizeOf, typeInfo, hi, hz]
 have hadd : ∀ b o, (⟨b, o, none⟩ : Addr).add off = ⟨b, o + off, none⟩ := fun b o => by unfold Addr.add; split <;> simp_all
 cases d <;> simp only [xfield] at hx
 case lref s b p o =>
  obtain rfl := RelV.lref hr
  refine ⟨_, .pointer (some ⟨b, o + off, none⟩), hx, by simp [RelV, RelW, RelC], fun w' => ?_⟩
  rw [hrun, hadd]
 case cref d =>
  cases d <;> simp only at hx
  rename_i fs
  obtain ⟨b, o, cells, e, fz, rfl, h2, h3, h4, h5⟩ := RelV.cref hr
  cases hd : fs[f]? with
  | none => simp [hd] at hx
  | some d =>
   simp only [hd] at hx
   obtain ⟨e1, e2, hK⟩ := hx
   simp only [RelC] at h5
   obtain ⟨h6, h7⟩ := h5.split hd
   simp only [D.len] at h4
   have hlen := h5.length
   refine ⟨_, .pointer (some ⟨b, o + off, none⟩), hK, RelV.cref_mk ⟨b, o + off, cells, e, fz, rfl, h2, h3, ?_, ?_⟩, fun w' => ?_⟩
   ·simp only [List.length_take, List.length_drop, Array.length_toList, D.len] at hlen h7
    omega
   ·have := drop_take_drop cells.toList o (D.lens (fs.take f)) (D.len (.agg fs)) d.len (by simp only [D.len]; omega)
    rw [this] at h6
    rw [← e1]
    exact h6
   ·rw [hrun, hadd]
theorem xidx_sound (h : Holds F n g st a w) {t : TypeId} {es : Nat} (ht : eltOf P t = some es) {dx di : D} {vx vi : Value} {K : D → Prop} (hx : RelV g.U w dx vx) (hi : RelV g.U w di vi) (hk : xidx es dx di K) :
  ∃ d' v', K d' ∧ RelV g.U w d' v' ∧ ∀ w', (Instr.indexAt t vx vi).run P w' = .ok v' w' := by
 unfold eltOf at ht
 cases hu : P.underlying t with
 | none => simp [hu] at ht
 | some ds =>
  cases ds <;> simp only [hu] at ht <;> try (cases ht; done)
  rename_i e
  rw [Option.map_eq_some_iff] at ht
  obtain ⟨⟨r, r'⟩, r1, ht⟩ := ht
  simp only at ht
  subst ht
  obtain ⟨inf, dd, hinf, _, rfl, _⟩ := varOf_info r1
  have hadd : ∀ b o (k : Nat), (⟨b, o, none⟩ : Addr).add k = ⟨b, o + k, none⟩ := fun b o k => by unfold Addr.add; split <;> simp_all
  cases dx <;> cases di <;> simp only [xidx] at hk
  case ro.int es' ds k m =>
   obtain ⟨rfl, hz, h0, h1, hK⟩ := hk
   obtain rfl : vi = .int k m := by simpa [RelV, RelW, RelC] using hi
   have hx' : RelC g.U w (.ro inf.size ds) [vx] := hx
   simp only [RelC] at hx'
   obtain ⟨a0, c, hv, _, hrest⟩ := hx'
   obtain rfl : vx = .slice a0 ds.length c := by simpa using hv
   have hne : ds ≠ [] := by rintro rfl; simp at h1; omega
   obtain ⟨b, off, cells, e', fz, rfl, hU, hc, hR⟩ := hrest.resolve_left hne
   have hlt : m.toNat < ds.length := by omega
   have hget : ds[m.toNat]? = some (ds.getD m.toNat .any) := by simp [hlt]
   obtain ⟨h6, h7, h8⟩ := hR.get hget
   have hl := hR.length
   simp only [List.length_take, List.length_drop, Array.length_toList] at hl h8
   refine ⟨_, .pointer (some ⟨b, off + m.toNat * inf.size, none⟩), hK, RelV.cref_mk ⟨b, off + m.toNat * inf.size, cells, e', fz, rfl, hU, hc, ?_, ?_⟩, fun w' => ?_⟩
   ·have h9 : m.toNat * inf.size + inf.size ≤ ds.length * inf.size := by rw [← Nat.succ_mul]; exact Nat.mul_le_mul_right _ hlt
    rw [h7]; omega
   ·rw [drop_take_drop _ _ _ _ _ (by omega)] at h6
    rw [h7]
    exact h6
   ·unfold Instr.indexAt
    simp [asIntOf, Sem.run_bind, run_underlying hu, h0, h1, sizeOf, typeInfo, hinf, hadd]
  case lsl.int s b len c k m =>
   obtain ⟨h0, h1, hK⟩ := hk
   obtain rfl : vi = .int k m := by simpa [RelV, RelW, RelC] using hi
   obtain ⟨ad, rfl, hle, hb⟩ := RelV.lsl hx
   obtain rfl := hb (by omega)
   refine ⟨_, .pointer (some ⟨b, m.toNat * inf.size, none⟩), hK, by simp [RelV, RelW, RelC], fun w' => ?_⟩
   unfold Instr.indexAt
   simp [asIntOf, Sem.run_bind, run_underlying hu, h0, h1, sizeOf, typeInfo, hinf, hadd]
theorem xpart_cells {U : Nat → Prop} {w : World} {sz : Nat} {ag : Bool} {o base : Nat} {c : D} {cs : List Value} {F : List Nat} {p : List Nat} {K : D → Prop} (hc : RelO U w c cs F) (h : xpart sz ag o base (c.at p) K) :
  ∃ d o', o = base + o' ∧ K d ∧ RelC U w d ((cs.drop o').take sz) ∧ o' + sz ≤ cs.length ∧ d.len = sz ∧ d.isAgg = ag := by
 unfold xpart at h
 cases hr : c.at p with
 | none => simp [hr] at h
 | some r =>
  simp only [hr] at h
  obtain ⟨rfl, rfl, rfl, hK⟩ := h
  obtain ⟨H, h1, _, h2⟩ := hc.at (d' := r.1) (o := r.2) hr
  exact ⟨_, r.2, rfl, hK, h1.bare, h2, D.bare_len _, by cases r.1 <;> rfl⟩
theorem RelC.V {U : Nat → Prop} {w : World} {d : D} {cs : List Value} (h : RelC U w d cs) : RelV U w d (if d.isAgg then .agg cs.toArray else cs.headD undef) := by
 have := RelW.of_cells h
 cases d <;> first | exact this | (simp [RelC] at h)
theorem load_cells {sz : Nat} {ag : Bool} {t : TypeId} (ht : varOf P t = some (sz, ag)) {b off : Nat} {cells : Array Value} {e : TypeId} {fz : Nat × Nat} (hc : w.heap[b]? = some (.cells cells e fz)) {d : D} (hd : RelC g.U w d ((cells.toList.drop off).take sz)) (hsz : off + sz ≤ cells.size) (hl : d.len = sz) (ha : d.isAgg = ag) :
  ∃ v, RelV g.U w d v ∧ ∀ w', Below w.heap.size w w' → (Instr.loadAt t (.pointer (some ⟨b, off, none⟩))).run P w' = .ok v w' := by
 refine ⟨_, RelC.V hd, fun w' hw => ?_⟩
 have := run_loadVar_cells (P := P) w' b off cells e fz (heap_of_below hw hc) t ht hsz (fun h => by rw [← hl]; exact D.len_one (ha.trans h))
 simp only [Instr.loadAt, Instr.sureAddr, Sem.run_bind, Sem.run_pure, Result.andThen_ok, this, ha]
theorem xload_sound (h : Holds F n g st a w) {t : TypeId} {sz : Nat} {ag : Bool} (ht : varOf P t = some (sz, ag)) {d : D} {v : Value} {K : D → Prop} (hr : RelV g.U w d v) (hx : xload st sz ag d K) :
  ∃ d' v', K d' ∧ RelV g.U w d' v' ∧ ∀ w', Below w.heap.size w w' → (Instr.loadAt t v).run P w' = .ok v' w' := by
 cases d <;> simp only [xload] at hx
 case lref s b p o =>
  obtain ⟨hg, hx⟩ := hx
  obtain rfl := RelV.lref hr
  cases hl : st.lc s with
  | none => simp [hl] at hx
  | some c =>
   simp only [hl] at hx
   obtain ⟨Fs, hO⟩ := h.locs s c hl
   rw [hg] at hO
   by_cases hmp : c.mpB = true
   ·cases c <;> first | (cases hmp; done) | skip
    ·simp [xcont] at hx
    ·rename_i es ds cp
     cases p with
     | nil => simp [xcont] at hx
     | cons i q =>
      simp only [xcont] at hx
      obtain ⟨hi, hx⟩ := hx
      have hget : ds[i]? = some (ds.getD i .any) := by simp [hi]
      rcases hO.loc with ⟨_, rfl, _⟩ | ⟨cells, e, H, hc0, hc, hsz, hle, hR, rfl⟩
      ·simp at hi
      ·obtain ⟨H', q1, _, q3, q4⟩ := hR.get hget
       obtain ⟨d', o', rfl, hK, h3, h4, h5, h6⟩ := xpart_cells q1 hx
       have hl' := hR.length
       simp only [List.length_take, List.length_drop, Array.length_toList] at h4 q4 hl'
       have e1 : ((cells.toList.take (ds.length * es)).drop (i * es)).take es = (cells.toList.drop (i * es)).take es := by
        have := drop_take_drop cells.toList 0 (i * es) (ds.length * es) es (by omega)
        simpa using this
       rw [e1, drop_take_drop _ _ _ _ _ (by omega)] at h3
       obtain ⟨v', h9, h10⟩ := load_cells (g := g) ht hc h3 (by omega) h5 h6
       exact ⟨d', v', hK, h9, h10⟩
   ·obtain ⟨cells, e, H, hc, hcell, rfl⟩ := hO.loc.cells (by simpa using hmp)
    have hx' : xpart sz ag o 0 (c.at p) K := by
     cases c <;> first | exact hx | (simp [D.mpB] at hmp)
    obtain ⟨d', o', rfl, hK, h3, h4, h5, h6⟩ := xpart_cells hcell hx'
    rw [Nat.zero_add]
    obtain ⟨v', h7, h8⟩ := load_cells (g := g) ht hc h3 (by simpa using h4) h5 h6
    exact ⟨d', v', hK, h7, h8⟩
 case cref d =>
  obtain ⟨rfl, h2, hK⟩ := hx
  obtain ⟨b, o, cells, e, fz, rfl, h3, h4, h5, h6⟩ := RelV.cref hr
  obtain ⟨v', h7, h8⟩ := load_cells (g := g) ht h4 h6 h5 rfl h2
  exact ⟨d, v', hK, h7, h8⟩
theorem xlen_sound (h : Holds F n g st a w) {at_ : Array TypeId} {ty : TypeId} {as : Array Value} {d : D} {v : Value} (has : as[0]? = some v) {K : D → Prop} (hr : RelV g.U w d v) (ht : lenTy P at_[0]? d) (hk : xlen d K) :
  ∃ d' v', K d' ∧ RelV g.U w d' v' ∧ ∀ w', (Builtin.len_ at_ ty as).run P w' = .ok v' w' := by
 cases hq : at_[0]? with
 | none => cases d <;> simp [lenTy, hq] at ht <;> simp [xlen] at hk
 | some t =>
  cases d <;> simp only [xlen] at hk
  case str s =>
   obtain rfl : v = .string s := by simpa [RelV, RelW, RelC] using hr
   have hu : P.underlying t = some .string := by simpa [lenTy, hq] using ht
   exact ⟨_, _, hk, rfl, fun w' => by simp [Builtin.len_, hq, has, Sem.run_bind, run_underlying hu, goInt]⟩
  case nil =>
   obtain ⟨a0, rfl⟩ : ∃ a0, v = .slice a0 0 0 := by simpa [RelV, RelW, RelC] using hr
   obtain ⟨e, hu⟩ : ∃ e, P.underlying t = some (.slice e) := by simpa [lenTy, hq] using ht
   exact ⟨_, _, hk, rfl, fun w' => by simp [Builtin.len_, hq, has, Sem.run_bind, run_underlying hu, goInt]⟩
  case ro es ds =>
   have hr' : RelC g.U w (.ro es ds) [v] := hr
   simp only [RelC] at hr'
   obtain ⟨a0, c, hv, _, _⟩ := hr'
   obtain rfl : v = .slice a0 ds.length c := by simpa using hv
   obtain ⟨e, hu⟩ : ∃ e, P.underlying t = some (.slice e) := by simpa [lenTy, hq] using ht
   exact ⟨_, _, hk, rfl, fun w' => by simp [Builtin.len_, hq, has, Sem.run_bind, run_underlying hu, goInt]⟩
  case lsl s b m c =>
   obtain ⟨ad, rfl, _⟩ := RelV.lsl hr
   obtain ⟨e, hu⟩ : ∃ e, P.underlying t = some (.slice e) := by simpa [lenTy, hq] using ht
   exact ⟨_, _, hk, rfl, fun w' => by simp [Builtin.len_, hq, has, Sem.run_bind, run_underlying hu, goInt]⟩
  case lvw s b i o m c =>
   obtain ⟨ad, rfl, _⟩ := RelV.lvw hr
   obtain ⟨e, hu⟩ : ∃ e, P.underlying t = some (.slice e) := by simpa [lenTy, hq] using ht
   exact ⟨_, _, hk, rfl, fun w' => by simp [Builtin.len_, hq, has, Sem.run_bind, run_underlying hu, goInt]⟩
theorem xcap_sound (h : Holds F n g st a w) {at_ : Array TypeId} {ty : TypeId} {as : Array Value} {d : D} {v : Value} (has : as[0]? = some v) {K : D → Prop} (hr : RelV g.U w d v) (ht : lenTy P at_[0]? d) (hk : xcap d K) :
  ∃ d' v', K d' ∧ RelV g.U w d' v' ∧ ∀ w', (Builtin.cap_ at_ ty as).run P w' = .ok v' w' := by
 cases hq : at_[0]? with
 | none => cases d <;> simp [lenTy, hq] at ht <;> simp [xcap] at hk
 | some t =>
  cases d <;> simp only [xcap] at hk
  case nil =>
   obtain ⟨a0, rfl⟩ : ∃ a0, v = .slice a0 0 0 := by simpa [RelV, RelW, RelC] using hr
   obtain ⟨e, hu⟩ : ∃ e, P.underlying t = some (.slice e) := by simpa [lenTy, hq] using ht
   exact ⟨_, _, hk, rfl, fun w' => by simp [Builtin.cap_, hq, has, Sem.run_bind, run_underlying hu, goInt]⟩
  case lsl s b m c =>
   obtain ⟨ad, rfl, _⟩ := RelV.lsl hr
   obtain ⟨e, hu⟩ : ∃ e, P.underlying t = some (.slice e) := by simpa [lenTy, hq] using ht
   exact ⟨_, _, hk, rfl, fun w' => by simp [Builtin.cap_, hq, has, Sem.run_bind, run_underlying hu, goInt]⟩
  case lvw s b i o m c =>
   obtain ⟨ad, rfl, _⟩ := RelV.lvw hr
   obtain ⟨e, hu⟩ : ∃ e, P.underlying t = some (.slice e) := by simpa [lenTy, hq] using ht
   exact ⟨_, _, hk, rfl, fun w' => by simp [Builtin.cap_, hq, has, Sem.run_bind, run_underlying hu, goInt]⟩
theorem RelT.get {U : Nat → Prop} {w : World} : ∀ {ds : List D} {vs : List Value} {i : Nat} {d : D}, RelT U w ds vs → ds[i]? = some d → ∃ v, vs[i]? = some v ∧ RelW U w d v
 | d :: ds, vs, 0, d', h, hd => by
  simp only [RelT] at h
  obtain ⟨v, r, rfl, h1, h2⟩ := h
  simp at hd
  subst hd
  exact ⟨v, by simp, h1⟩
 | d :: ds, vs, i + 1, d', h, hd => by
  simp only [RelT] at h
  obtain ⟨v, r, rfl, h1, h2⟩ := h
  obtain ⟨v', h3, h4⟩ := RelT.get (i := i) h2 (by simpa using hd)
  exact ⟨v', by simpa using h3, h4⟩
 | [], _, _, _, _, hd => by simp at hd
theorem RelW.V {U : Nat → Prop} {w : World} {d : D} {v : Value} (h : RelW U w d v) : RelV U w d v := by
 cases d <;> first | exact h | (simp [RelW, RelC] at h)
theorem caps_rel (h : Holds F n g st a w) : ∀ {xs : List Operand}, (xs.map st.ev).all D.capB = true → RelL g.U w (xs.map st.ev) (xs.map a.eval)
 | [], _ => by simp [RelL]
 | x :: xs, hc => by
  simp only [List.map_cons, List.all_cons, Bool.and_eq_true, D.capB, Bool.not_eq_true'] at hc
  have hr := h.ev x
  simp only [List.map_cons, RelL]
  refine ⟨a.eval x, xs.map a.eval, rfl, hc.1.2, ?_, caps_rel h (List.all_eq_true.2 fun y hy => by have := List.all_eq_true.1 hc.2 y hy; simpa [D.capB] using this)⟩
  have h1 := hc.1.1
  have h2 := hc.1.2
  cases hd : st.ev x <;> rw [hd] at hr h1 h2 <;> first | exact hr | (simp [D.memB] at h1; done) | (simp [D.isAgg] at h2)
theorem xbnd_spec {K : Int → Prop} {d : D} {v : Value} (hr : RelV g.U w d v) (h : xbnd K d) : ∃ k n, K n ∧ v = .int k n := by
 cases d <;> simp only [xbnd] at h
 exact ⟨_, _, h, by simpa [RelV, RelW, RelC] using hr⟩
theorem xlo_spec (h : Holds F n g st a w) {x : Option Operand} {K : Int → Prop} (hx : xlo st x K) : ∃ l, K l ∧ ((x = none ∧ l = 0) ∨ ∃ y k, x = some y ∧ a.eval y = .int k l) := by
 cases x with
 | none => exact ⟨0, hx, .inl ⟨rfl, rfl⟩⟩
 | some y => obtain ⟨k, m, h1, h2⟩ := xbnd_spec (h.ev y) hx; exact ⟨m, h1, .inr ⟨y, k, rfl, h2⟩⟩
theorem xhi_spec (h : Holds F n g st a w) {m : Nat} {x : Option Operand} {K : Int → Prop} (hx : xhi st m x K) : ∃ l, K l ∧ ((x = none ∧ l = m) ∨ ∃ y k, x = some y ∧ a.eval y = .int k l) := by
 cases x with
 | none => exact ⟨m, hx, .inl ⟨rfl, rfl⟩⟩
 | some y => obtain ⟨k, m, h1, h2⟩ := xbnd_spec (h.ev y) hx; exact ⟨m, h1, .inr ⟨y, k, rfl, h2⟩⟩
theorem run_sliceBounds {b : Bool} {len cap : Nat} {lo hi : Option Value} {l h : Int} (hl : (lo = none ∧ l = 0) ∨ ∃ k, lo = some (.int k l)) (hh : (hi = none ∧ h = len) ∨ ∃ k, hi = some (.int k h)) (h0 : 0 ≤ l) (h1 : l ≤ h) (h2 : h ≤ cap) (w' : World) :
  (Instr.sliceBounds b len cap lo hi none).run P w' = .ok (l.toNat, h.toNat, cap) w' := by
 have h3 : 0 ≤ h := by omega
 have hb : ∀ (k : IntKind) (m : Int) (y : Nat) (c : BoundsCode), 0 ≤ m → m ≤ y → (Instr.sliceBound (.int k m) y c).run P w' = .ok m.toNat w' := fun k m y c q1 q2 => by
  unfold Instr.sliceBound
  simp [asIntOf, Sem.run_bind, q1, q2]
 unfold Instr.sliceBounds
 rcases hl with ⟨rfl, rfl⟩ | ⟨k, rfl⟩ <;> rcases hh with ⟨rfl, rfl⟩ | ⟨k', rfl⟩
 ·simp [Sem.run_bind]
 ·simp [Sem.run_bind, hb k' h cap _ h3 h2]
 ·simp [Sem.run_bind, hb k l len _ h0 h1]
 ·have := hb k l h.toNat .sliceB h0 (by omega)
  simp [Sem.run_bind, hb k' h cap _ h3 h2, this]
theorem run_sliceBounds3 {b : Bool} {len cap : Nat} {lo hi : Option Value} {l h q : Int} {k : IntKind} (hl : (lo = none ∧ l = 0) ∨ ∃ k, lo = some (.int k l)) (hh : ∃ k, hi = some (.int k h)) (h0 : 0 ≤ l) (h1 : l ≤ h) (h2 : h ≤ q) (h3 : q ≤ cap) (w' : World) :
  (Instr.sliceBounds b len cap lo hi (some (.int k q))).run P w' = .ok (l.toNat, h.toNat, q.toNat) w' := by
 have hb : ∀ (k : IntKind) (m : Int) (y : Nat) (c : BoundsCode), 0 ≤ m → m ≤ y → (Instr.sliceBound (.int k m) y c).run P w' = .ok m.toNat w' := fun k m y c q1 q2 => by
  unfold Instr.sliceBound
  simp [asIntOf, Sem.run_bind, q1, q2]
 unfold Instr.sliceBounds
 obtain ⟨k', rfl⟩ := hh
 have e1 := hb k q cap (if b then .slice3Acap else .slice3Alen) (by omega) h3
 have e2 := hb k' h q.toNat .slice3B (by omega) (by omega)
 rcases hl with ⟨rfl, rfl⟩ | ⟨k2, rfl⟩
 ·simp [Sem.run_bind, e1, e2]
 ·have e3 := hb k2 l h.toNat .slice3C h0 (by omega)
  simp [Sem.run_bind, e1, e2, e3]
theorem bytesB_get : ∀ {ds : List D} {cs : List Value} {U : Nat → Prop} {w : World}, bytesB ds = true → RelR U w 1 ds cs → ∃ ns : List Int, cs = ns.map (Value.int .u8) ∧ ds.map byteD = ns.map fun n => UInt8.ofNat n.toNat
 | [], cs, U, w, _, h => by simp only [RelR] at h; exact ⟨[], by simp [h], rfl⟩
 | d :: ds, cs, U, w, hb, h => by
  simp only [RelR] at h
  obtain ⟨c1, c2, rfl, _, h1, h2⟩ := h
  cases d <;> try (simp [bytesB] at hb; done)
  rename_i k n
  cases k <;> try (simp [bytesB] at hb; done)
  simp only [bytesB] at hb
  obtain ⟨ns, q1, q2⟩ := bytesB_get hb h2
  simp only [RelC] at h1
  exact ⟨n :: ns, by simp [h1, q1], by simp [byteD, q2]⟩
theorem bytesB_bare {ds : List D} (hb : bytesB ds = true) : bytesB (ds.map D.bare) = true := by
 induction ds with
 | nil => rfl
 | cons d ds ih =>
  cases d <;> try (simp [bytesB] at hb; done)
  rename_i k n
  cases k <;> try (simp [bytesB] at hb; done)
  simp only [bytesB] at hb
  exact ih hb
theorem byteD_bare {ds : List D} (hb : bytesB ds = true) : (ds.map D.bare).map byteD = ds.map byteD := by
 induction ds with
 | nil => rfl
 | cons d ds ih =>
  cases d <;> try (simp [bytesB] at hb; done)
  rename_i k n
  cases k <;> try (simp [bytesB] at hb; done)
  simp only [bytesB] at hb
  simp only [List.map_cons, ih hb, D.bare]
theorem ofNats (ns : List Int) : ∀ s : ByteArray, (ns.foldl (fun s n => s.push (UInt8.ofNat n.toNat)) s) = ⟨s.data ++ (ns.map fun n => UInt8.ofNat n.toNat).toArray⟩ := by
 induction ns with
 | nil => intro s; simp
 | cons n ns ih => intro s; simp only [List.foldl_cons, ih]; simp [ByteArray.push]
theorem loadCells_stretch {b off m : Nat} {cells : Array Value} {e : TypeId} {fz : Nat × Nat} {w' : World} (hc : w'.heap[b]? = some (.cells cells e fz)) (hsz : off + m ≤ cells.size) :
  (loadCells ⟨b, off, none⟩ m).run P w' = .ok ((cells.toList.drop off).take m).toArray w' := by
 have := run_loadCells_list (P := P) w' ⟨b, off, none⟩ ((cells.toList.drop off).take m) fun j v hv => by
  have e : ((⟨b, off, none⟩ : Addr).add j) = ⟨b, off + j, none⟩ := by unfold Addr.add; split <;> simp_all
  rw [List.getElem?_take] at hv
  split at hv
  ·rw [List.getElem?_drop] at hv
   rw [e]
   simp [World.cell?, hc, ← hv]
  ·cases hv
 have hl : ((cells.toList.drop off).take m).length = m := by simp; omega
 rw [hl] at this
 exact this
theorem xbst_sound (h : Holds F n g st a w) {s d : TypeId} (hbs : bstB P s d = true) {x : D} {v : Value} {K : D → Prop} (hr : RelV g.U w x v) (hx : xbst st K x) :
  ∃ d' v', K d' ∧ RelV g.U w d' v' ∧ ∀ w', Below w.heap.size w w' → (convert s d v).run P w' = .ok v' w' := by
 unfold bstB at hbs
 split at hbs <;> try (cases hbs; done)
 rename_i e hus hud
 split at hbs <;> try (cases hbs; done)
 rename_i hue
 have go : ∀ (q : Addr) (len c : Nat) (cs : List Value) (ds : List D) (w' : World), bytesB ds = true → RelR g.U w 1 ds cs → (loadCells q len).run P w' = .ok cs.toArray w' → (convert s d (.slice (some q) len c)).run P w' = .ok (.string ⟨(ds.map byteD).toArray⟩) w' := fun q len c cs ds w' hb hR hl => by
  obtain ⟨ns, rfl, q2⟩ := bytesB_get hb hR
  have h1 := run_bytesToString (P := P) w' q len c ns hl
  rw [ofNats] at h1
  rw [q2]
  simp only [convert, Sem.run_bind, run_underlying hus, run_underlying hud, run_underlying hue, Result.andThen_ok, h1]
  congr 3
  have : ByteArray.empty.data = #[] := rfl
  rw [this]
  simp
 have nilc : ∀ w', (convert s d (.slice none 0 0)).run P w' = .ok (.string ⟨#[]⟩) w' := fun w' => by
  simp only [convert, Sem.run_bind, run_underlying hus, run_underlying hud, run_underlying hue, Result.andThen_ok, Conv.bytesToString]
  rfl
 have zero : ∀ (q : Addr) (c : Nat) w', (convert s d (.slice (some q) 0 c)).run P w' = .ok (.string ⟨#[]⟩) w' := fun q c w' => by
  have := go q 0 c [] [] w' rfl (by simp [RelR]) (run_loadCells_list (P := P) w' q [] (fun j v hv => by simp at hv))
  simpa using this
 have nonec : ∀ c w', (convert s d (.slice none 0 c)).run P w' = .ok (.string ⟨#[]⟩) w' := fun c w' => by
  simp only [convert, Sem.run_bind, run_underlying hus, run_underlying hud, run_underlying hue, Result.andThen_ok, Conv.bytesToString]
  rfl
 cases x <;> simp only [xbst] at hx
 case nil =>
  obtain ⟨a0, rfl⟩ : ∃ a0, v = .slice a0 0 0 := by simpa [RelV, RelW, RelC] using hr
  exact ⟨_, .string ⟨#[]⟩, hx, rfl, fun w' _ => by cases a0 with | none => exact nilc w' | some q => exact zero q 0 w'⟩
 case ro es ds =>
  obtain ⟨rfl, hb, hK⟩ := hx
  have hr' : RelC g.U w (.ro 1 ds) [v] := hr
  simp only [RelC] at hr'
  obtain ⟨ad, c, hv, hc, hrest⟩ := hr'
  obtain rfl : v = .slice ad ds.length c := by simpa using hv
  refine ⟨_, .string ⟨(ds.map byteD).toArray⟩, hK, rfl, fun w' hw => ?_⟩
  rcases hrest with rfl | ⟨b, off, cells, e', fz, rfl, hU, hcell, hR⟩
  ·cases ad with
   | none => exact nonec c w'
   | some q => exact zero q c w'
  ·have hl := hR.length
   simp only [List.length_take, List.length_drop, Array.length_toList] at hl
   by_cases h0 : ds.length = 0
   ·obtain rfl := List.eq_nil_of_length_eq_zero h0
    exact zero _ c w'
   ·refine go _ _ c _ ds w' hb hR ?_
    have := loadCells_stretch (P := P) (m := ds.length) (off := off) (heap_of_below hw hcell) (by omega)
    rw [Nat.mul_one]
    exact this
 case lsl s' b m c =>
  obtain ⟨hg, hx⟩ := hx
  cases hl : st.lc s' with
  | none => simp [hl] at hx
  | some dd =>
   cases dd <;> simp only [hl] at hx
   rename_i es ds cp
   obtain ⟨rfl, rfl, hb, hK⟩ := hx
   obtain ⟨ad, rfl, hle, hbase⟩ := RelV.lsl hr
   refine ⟨_, .string ⟨(ds.map byteD).toArray⟩, hK, rfl, fun w' hw => ?_⟩
   obtain ⟨Fs, hO⟩ := h.locs s' _ hl
   by_cases h0 : ds.length = 0
   ·obtain rfl := List.eq_nil_of_length_eq_zero h0
    cases ad with
    | none => exact nonec c w'
    | some q => exact zero q c w'
   ·obtain rfl := hbase (by omega)
    rcases hO.loc with ⟨_, rfl, _⟩ | ⟨cells, e', H, hc0, hcell, hsz, hl2, hR, _⟩
    ·simp at h0
    ·rw [hg] at hcell
     have hR2 := hR.bare
     have hb' := bytesB_bare hb
     have hbd := byteD_bare hb
     have := go ⟨b, 0, none⟩ ds.length c _ _ w' hb' hR2 (by
      have := loadCells_stretch (P := P) (m := ds.length) (off := 0) (heap_of_below hw hcell) (by omega)
      rw [Nat.mul_one]
      rw [List.drop_zero] at this
      exact this)
     rw [hbd] at this
     exact this
theorem xpure_sound (h : Holds F n g st a w) (o : Oper) {K : D → Prop} (hx : xpure P st K o.op) : Yld P g st a w o K := by
 unfold Yld execOp
 generalize o.op = op at hx
 cases op <;> simp only [xpure] at hx
 case move x => exact ⟨_, _, hx, h.ev x, fun w' _ => rfl⟩
 case assign x => exact ⟨_, _, hx, h.ev x, fun w' _ => rfl⟩
 case pick c x y =>
  cases hc : st.ev c <;> simp only [hc] at hx
  rename_i t
  have hv : a.eval c = .bool t := by have := h.ev c; rw [hc] at this; simpa [RelV, RelW, RelC] using this
  cases t with
  | true => exact ⟨_, _, hx.yes rfl, h.ev x, fun w' _ => by simp [Sem.run_bind, hv, asBool]⟩
  | false => exact ⟨_, _, hx.no rfl, h.ev y, fun w' _ => by simp [Sem.run_bind, hv, asBool]⟩
 case nilCheck x =>
  obtain ⟨hK, ad, hv⟩ := xaddr_sound h (h.ev x) hx
  exact ⟨_, _, hK, h.ev x, fun w' _ => by simp [hv]⟩
 case binOp op t x y u =>
  obtain ⟨d, v, hK, hR, hrun⟩ := xbin_sound (h.ev x) (h.ev y) hx x y
  exact ⟨d, v, hK, hR, fun w' _ => by simp only [Sem.run_bind] at hrun ⊢; simp only [hrun w', Result.andThen_ok, Sem.run_pure]⟩
 case unOp op t x =>
  cases op <;> cases hd : st.ev x <;> simp only [hd] at hx
  case not.bool b =>
   have hv : a.eval x = .bool b := by have := h.ev x; rw [hd] at this; simpa [RelV, RelW, RelC] using this
   exact ⟨_, _, hx, rfl, fun w' _ => by simp [Sem.run_bind, hv, Op.unary]⟩
  case neg.int k m =>
   have hv : a.eval x = .int k m := by have := h.ev x; rw [hd] at this; simpa [RelV, RelW, RelC] using this
   exact ⟨_, _, hx, rfl, fun w' _ => by simp [Sem.run_bind, hv, Op.unary, Op.intArith]⟩
 case convert s d x =>
  cases hd : st.ev x <;> simp only [hd] at hx
  case int k m =>
   have hv : a.eval x = .int k m := by have := h.ev x; rw [hd] at this; simpa [RelV, RelW, RelC] using this
   obtain ⟨hs, k', hu, hK⟩ := hx
   obtain ⟨ds, hs⟩ := Option.isSome_iff_exists.1 hs
   exact ⟨_, _, hK, rfl, fun w' _ => by simp [Sem.run_bind, hv, convert, run_underlying hu, run_underlying hs, Conv.intToInt]⟩
  case str b =>
   have hv : a.eval x = .string b := by have := h.ev x; rw [hd] at this; simpa [RelV, RelW, RelC] using this
   obtain ⟨hs, hu, hK⟩ := hx
   obtain ⟨ds, hs⟩ := Option.isSome_iff_exists.1 hs
   exact ⟨_, _, hK, rfl, fun w' _ => by simp [Sem.run_bind, hv, convert, run_underlying hu, run_underlying hs]⟩
  all_goals
   obtain ⟨hbs, hx⟩ := hx
   have hr := h.ev x
   rw [hd] at hr
   obtain ⟨d', v', hK, hR, hrun⟩ := xbst_sound h hbs hr hx
   exact ⟨d', v', hK, hR, fun w' hw => by simp only [Sem.run_bind, hrun w' hw, Result.andThen_ok, Sem.run_pure]⟩
 case fieldAddr t x f =>
  cases ht : fldOf P t f with
  | none => simp [ht] at hx
  | some r =>
   obtain ⟨off, sz, ag⟩ := r
   simp only [ht] at hx
   obtain ⟨d, v, hK, hR, hrun⟩ := xfield_sound h ht hx.1 (h.ev x) hx.2
   exact ⟨d, v, hK, hR, fun w' _ => by simp only [Sem.run_bind, hrun w', Result.andThen_ok, Sem.run_pure]⟩
 case field t x f =>
  cases ht : fldOf P t f with
  | none => simp [ht] at hx
  | some r =>
   obtain ⟨off, sz, ag⟩ := r
   cases hd : st.ev x <;> simp only [ht, hd] at hx
   rename_i fs
   cases hf : fs[f]? with
   | none => simp [hf] at hx
   | some d =>
    simp only [hf] at hx
    obtain ⟨rfl, rfl, rfl, hK⟩ := hx
    have hr := h.ev x
    rw [hd] at hr
    obtain ⟨cs, hv, hR⟩ := hr
    obtain ⟨h6, h7⟩ := hR.split hf
    refine ⟨d, _, hK, RelC.V h6, fun w' _ => ?_⟩
    unfold fldOf at ht
    cases hu : P.underlying t with
    | none => simp [hu] at ht
    | some ds =>
     cases ds <;> simp only [hu] at ht <;> try (cases ht; done)
     rename_i fds
     rw [Option.bind_eq_some_iff] at ht
     obtain ⟨fd, hfd, ht⟩ := ht
     rw [Option.map_eq_some_iff] at ht
     obtain ⟨⟨r, r'⟩, r1, ht⟩ := ht
     simp only [Prod.mk.injEq] at ht
     obtain ⟨e1, rfl, rfl⟩ := ht
     obtain ⟨inf, dd, hi, hu2, e2, e3⟩ := varOf_info r1
     simp only [Sem.run_bind, Instr.field, run_underlying hu, Result.andThen_ok, hfd, hv, asAgg, part, run_isAgg hu2, Sem.run_pure, e3]
     by_cases hA : d.isAgg = true
     ·have e4 : cs.extract fd.offset (fd.offset + d.len) = ((cs.toList.drop fd.offset).take d.len).toArray := by
       apply Array.ext'
       simp [List.extract_eq_take_drop]
      simp only [hA, if_true, sizeOf, typeInfo, Sem.run_bind, ← e1]
      simp [hi, e2, e4]
     ·have hA' : d.isAgg = false := by simpa using hA
      have hl := D.len_one hA'
      simp only [Array.length_toList] at h7
      have hlt : fd.offset < cs.size := by omega
      simp only [hA', ← e1, hl, headD_take_drop]
      simp [hlt]
 case makeFunc fn first caps =>
  cases fn <;> simp only at hx
  obtain ⟨rfl, hc, hx⟩ := hx
  refine ⟨_, .func (.func _) #[] (caps.map a.eval), hx, RelV.fn_mk ⟨caps.map a.eval, rfl, ?_⟩, fun w' hw => ?_⟩
  ·rw [Array.toList_map]
   exact caps_rel h hc
  ·simp [Instr.makeFunc, Sem.run_bind]
 case lookup t x i ok =>
  obtain ⟨rfl, ht, hx⟩ := hx
  cases hd : st.ev x <;> cases hi : st.ev i <;> simp only [hd, hi, xlk] at hx
  rename_i s gn k
  obtain ⟨hg, hx⟩ := hx
  cases hl : st.lc s with
  | none => simp [hl] at hx
  | some c =>
   cases c <;> simp only [hl] at hx
   rename_i l
   have hr := h.ev x
   rw [hd] at hr
   have hv : a.eval x = .map (some gn) := by simpa [RelV, RelW, RelC] using hr
   obtain ⟨Fs, hO⟩ := h.locs s _ hl
   obtain ⟨_, es, clk, hb, hm⟩ := hO.loc
   rw [hg] at hb
   have hk : a.eval i = .string k := by have := h.ev i; rw [hi] at this; simpa [RelV, RelW, RelC] using this
   refine ⟨_, .bool (kget l k), hx, rfl, fun w' hw => ?_⟩
   simp only [Sem.run_bind, hv, hk, run_lookup_str ht (heap_of_below hw hb) hm, Result.andThen_ok, Sem.run_pure]
 case slice t x lo hi mx =>
  have bnd : ∀ {y : Option Operand} {l m : Int}, ((y = none ∧ l = m) ∨ ∃ z k, y = some z ∧ a.eval z = .int k l) → (y.map a.eval = none ∧ l = m) ∨ ∃ k, y.map a.eval = some (.int k l) := fun {y l m} h => by
   rcases h with ⟨rfl, rfl⟩ | ⟨z, k, rfl, h2⟩
   ·exact .inl ⟨rfl, rfl⟩
   ·exact .inr ⟨k, by simp [h2]⟩
  rcases hx with ⟨rfl, hx⟩ | ⟨hsome, m, e, r, rfl, hu, he, hx⟩
  rotate_left
  ·obtain ⟨inf, dd, hinf, _, _, _⟩ := varOf_info (sz := r.1) (ag := r.2) he
   obtain ⟨l, hx, hl⟩ := xlo_spec h hx
   obtain ⟨hh, hx, hhi⟩ := xhi_spec h hx
   have hq : ∃ k q, a.eval m = .int k q ∧ 0 ≤ l ∧ l ≤ hh ∧ hh ≤ q ∧ capOk q (st.ev x) ∧ K .any := by
    cases hd : st.ev m <;> rw [hd] at hx <;> try exact hx.elim
    rename_i k q
    exact ⟨k, q, by have := h.ev m; rw [hd] at this; simpa [RelV, RelW, RelC] using this, hx⟩
   obtain ⟨k, q, hm, h0, h1, h2, hcap, hK⟩ := hq
   obtain ⟨ad, len, cap, hv, hcq⟩ : ∃ ad len cap, a.eval x = .slice ad len cap ∧ q ≤ cap := by
    have hr := h.ev x
    cases hd : st.ev x <;> rw [hd] at hcap hr <;> try exact hcap.elim
    ·have hr' : RelC g.U w (.ro _ _) [a.eval x] := hr
     simp only [RelC] at hr'
     obtain ⟨ad, c, hv, hc, _⟩ := hr'
     have hcap' : q ≤ _ := hcap
     exact ⟨ad, _, c, by simpa using hv, by omega⟩
    ·obtain ⟨ad, hv, _⟩ := RelV.lsl hr
     exact ⟨ad, _, _, hv, hcap⟩
    ·obtain ⟨ad, hv, _⟩ := RelV.lvw hr
     exact ⟨ad, _, _, hv, hcap⟩
   have hx3 := run_sliceBounds3 (P := P) (lo := lo.map a.eval) (hi := hi.map a.eval) (b := true) (len := len) (cap := cap) (q := q) (k := k) (bnd hl) (by
    obtain ⟨z, rfl⟩ := Option.isSome_iff_exists.1 hsome
    rcases hhi with ⟨e, _⟩ | ⟨z', k', e, hz⟩
    ·cases e
    ·simp only [Option.some.injEq] at e
     subst e
     exact ⟨k', by rw [Option.map_some, hz]⟩) h0 h1 h2 hcq
   refine ⟨.any, .slice (if q.toNat = l.toNat then ad else ad.map (·.add (l.toNat * inf.size))) (hh.toNat - l.toNat) (q.toNat - l.toNat), hK, trivial, fun w' _ => ?_⟩
   have hr2 : (Instr.sliceAt t (a.eval x) (lo.map a.eval) (hi.map a.eval) (some (a.eval m))).run P w' = .ok (.slice (if q.toNat = l.toNat then ad else ad.map (·.add (l.toNat * inf.size))) (hh.toNat - l.toNat) (q.toNat - l.toNat)) w' := by
    unfold Instr.sliceAt
    simp only [Sem.run_bind, run_underlying hu, Result.andThen_ok, hv, hm]
    unfold Instr.slice
    simp only [Sem.run_bind, run_underlying hu, Result.andThen_ok]
    simp [Sem.run_bind, hx3 w', sizeOf, typeInfo, hinf]
   simp only [Sem.run_bind, Option.map_some, hr2, Result.andThen_ok, Sem.run_pure]
  have hrun : ∀ w', (do pure (.value (← Instr.sliceAt t (a.eval x) (lo.map a.eval) (hi.map a.eval) none)) : Go.Sem Next).run P w' = ((Instr.sliceAt t (a.eval x) (lo.map a.eval) (hi.map a.eval) none).run P w').andThen (fun v w2 => .ok (.value v) w2) := fun w' => by simp [Sem.run_bind]
  split at hx
  ·rename_i hu
   obtain ⟨l, hx, hl⟩ := xlo_spec h hx
   obtain ⟨hh, hx, hhi⟩ := xhi_spec h hx
   cases hd : st.ev x <;> rw [hd] at hx hhi <;> try exact hx.elim
   rename_i s
   obtain ⟨h0, h1, h2, hK⟩ := hx
   have hv : a.eval x = .string s := by have := h.ev x; rw [hd] at this; simpa [RelV, RelW, RelC] using this
   refine ⟨_, .string (s.extract l.toNat hh.toNat), hK, rfl, fun w' _ => ?_⟩
   have hb := run_sliceBounds (P := P) (b := false) (len := s.size) (cap := s.size) (bnd hl) (bnd hhi) h0 h1 h2 w'
   have hr2 : (Instr.sliceAt t (a.eval x) (lo.map a.eval) (hi.map a.eval) none).run P w' = .ok (.string (s.extract l.toNat hh.toNat)) w' := by
    unfold Instr.sliceAt
    simp only [Sem.run_bind, run_underlying hu, Result.andThen_ok, hv]
    unfold Instr.slice
    simp only [Sem.run_bind, run_underlying hu, Result.andThen_ok]
    simp [Sem.run_bind, hb]
   simp only [Sem.run_bind, Sem.run_pure]
   have e : Option.map a.eval (none : Option Operand) = none := rfl
   rw [e, hr2]
   rfl
  ·rename_i e hu
   split at hx
   ·rename_i es ag he
    obtain ⟨inf, dd, hinf, _, rfl, _⟩ := varOf_info he
    obtain ⟨l, hx, hl⟩ := xlo_spec h hx
    obtain ⟨hh, hx, hhi⟩ := xhi_spec h hx
    have go : ∀ (ad : Option Addr) (len cap : Nat), a.eval x = .slice ad len cap → (st.ev x).sllen = len → 0 ≤ l → l ≤ hh → hh ≤ cap → ∀ w', (Instr.sliceAt t (a.eval x) (lo.map a.eval) (hi.map a.eval) none).run P w' = .ok (.slice (if cap = l.toNat then ad else ad.map (·.add (l.toNat * inf.size))) (hh.toNat - l.toNat) (cap - l.toNat)) w' := fun ad len cap hv hlen q0 q1 q2 w' => by
     rw [hlen] at hhi
     have hb := run_sliceBounds (P := P) (b := true) (len := len) (cap := cap) (bnd hl) (bnd hhi) q0 q1 q2 w'
     unfold Instr.sliceAt
     simp only [Sem.run_bind, run_underlying hu, Result.andThen_ok, hv]
     unfold Instr.slice
     simp only [Sem.run_bind, run_underlying hu, Result.andThen_ok]
     simp [Sem.run_bind, hb, sizeOf, typeInfo, hinf]
    have fin : ∀ {d : D} {v : Value}, K d → RelV g.U w d v → (∀ w', (Instr.sliceAt t (a.eval x) (lo.map a.eval) (hi.map a.eval) none).run P w' = .ok v w') → ∃ d v, K d ∧ RelV g.U w d v ∧ ∀ w', Below w.heap.size w w' → (do pure (.value (← Instr.sliceAt t (a.eval x) (lo.map a.eval) (hi.map a.eval) none)) : Go.Sem Next).run P w' = .ok (.value v) w' := fun {d v} hK hR hr => ⟨d, v, hK, hR, fun w' _ => by rw [hrun w', hr w']; rfl⟩
    cases hd : st.ev x <;> rw [hd] at hx <;> try exact hx.elim
    ·obtain ⟨rfl, rfl, hK⟩ := hx
     obtain ⟨a0, hv⟩ : ∃ a0, a.eval x = .slice a0 0 0 := by have := h.ev x; rw [hd] at this; simpa [RelV, RelW, RelC] using this
     obtain ⟨d, v, q1, q2, q3⟩ := fin (d := .nil) (v := .slice a0 0 0) hK (by simp [RelV, RelW, RelC]) (fun w' => by rw [go a0 0 0 hv (by rw [hd]; rfl) (by omega) (by omega) (by omega) w']; rfl)
     exact ⟨d, v, q1, q2, fun w' hw => by simpa [Sem.run_bind] using q3 w' hw⟩
    ·rename_i es' ds
     obtain ⟨rfl, h0, h1, h2, hK⟩ := hx
     have hr := h.ev x
     rw [hd] at hr
     have hr' : RelC g.U w (.ro inf.size ds) [a.eval x] := hr
     simp only [RelC] at hr'
     obtain ⟨ad, c, hv, hc, hrest⟩ := hr'
     have hv : a.eval x = .slice ad ds.length c := by simpa using hv
     have hlen : ((ds.drop l.toNat).take (hh - l).toNat).length = hh.toNat - l.toNat := by simp; omega
     obtain ⟨d, v, q1, q2, q3⟩ := fin (v := .slice (if c = l.toNat then ad else ad.map (·.add (l.toNat * inf.size))) (hh.toNat - l.toNat) (c - l.toNat)) hK (by
      simp only [RelV, RelW, RelC, hlen]
      refine ⟨_, _, rfl, by omega, ?_⟩
      by_cases hz : hh.toNat - l.toNat = 0
      ·exact .inl (List.eq_nil_of_length_eq_zero (by rw [hlen, hz]))
      ·rcases hrest with rfl | ⟨b, off, cells, e', fz, rfl, hU, hcell, hR⟩
       ·simp at h2; omega
       ·refine .inr ⟨b, off + l.toNat * inf.size, cells, e', fz, ?_, hU, hcell, ?_⟩
        ·rw [if_neg (by omega)]
         simp only [Option.map_some, Option.some.injEq]
         unfold Addr.add
         split <;> simp_all
        ·have r1 := (hR.drop l.toNat).take (hh - l).toNat
         have hl2 := hR.length
         simp only [List.length_take, List.length_drop, Array.length_toList] at hl2
         rw [hlen] at r1
         have hmul : l.toNat * inf.size + (hh.toNat - l.toNat) * inf.size ≤ ds.length * inf.size := by rw [← Nat.add_mul]; exact Nat.mul_le_mul_right _ (by omega)
         rw [drop_take_drop _ _ _ _ _ hmul] at r1
         exact r1) (go ad ds.length c hv (by rw [hd]; rfl) h0 h1 (by omega))
     exact ⟨d, v, q1, q2, fun w' hw => by simpa [Sem.run_bind] using q3 w' hw⟩
    ·rename_i s b m c
     have hr := h.ev x
     rw [hd] at hr
     obtain ⟨ad, hv, hle, hb⟩ := RelV.lsl hr
     rcases hx with ⟨rfl, h1, h2, hK⟩ | ⟨h0, h1, h2, hK⟩
     rotate_left
     ·obtain ⟨d, v, q1, q2, q3⟩ := fin hK (v := .slice (if c = l.toNat then ad else ad.map (·.add (l.toNat * inf.size))) (hh.toNat - l.toNat) (c - l.toNat)) (by
       simp only [RelV, RelW, RelC]
       refine ⟨_, by rw [show (hh - l).toNat = hh.toNat - l.toNat by omega], by omega, fun hne => ?_⟩
       rw [if_neg (by omega), hb (by omega)]
       simp only [Option.map_some, Option.some.injEq]
       unfold Addr.add
       split <;> simp_all) (fun w' => go ad m c hv (by rw [hd]; rfl) h0 h1 h2 w')
      exact ⟨d, v, q1, q2, fun w' hw => by simpa [Sem.run_bind] using q3 w' hw⟩
     obtain ⟨d, v, q1, q2, q3⟩ := fin (v := .slice ad hh.toNat c) hK (by simp only [RelV, RelW, RelC]; exact ⟨ad, rfl, by omega, hb⟩) (fun w' => by
      rw [go ad m c hv (by rw [hd]; rfl) (by omega) h1 h2 w']
      have e0 : (0 : Int).toNat = 0 := rfl
      have e1 : (if c = (0 : Int).toNat then ad else ad.map (·.add ((0 : Int).toNat * inf.size))) = ad := by
       split
       ·rfl
       ·cases ad with
        | none => rfl
        | some q => simp [Addr.add]
      rw [e1]
      rfl)
     exact ⟨d, v, q1, q2, fun w' hw => by simpa [Sem.run_bind] using q3 w' hw⟩
    ·rename_i s b vi vo m c
     obtain ⟨h0, h1, h2, hK⟩ := hx
     have hr := h.ev x
     rw [hd] at hr
     obtain ⟨ad, hv, hle, hb⟩ := RelV.lvw hr
     obtain ⟨d, v, q1, q2, q3⟩ := fin hK (v := .slice (if c = l.toNat then ad else ad.map (·.add (l.toNat * inf.size))) (hh.toNat - l.toNat) (c - l.toNat)) (by
      simp only [RelV, RelW, RelC]
      refine ⟨_, by rw [show (hh - l).toNat = hh.toNat - l.toNat by omega], by omega, fun hne => ?_⟩
      rw [if_neg (by omega), hb (by omega)]
      simp only [Option.map_some, Option.some.injEq]
      unfold Addr.add
      split <;> simp_all) (fun w' => go ad m c hv (by rw [hd]; rfl) h0 h1 h2 w')
     exact ⟨d, v, q1, q2, fun w' hw => by simpa [Sem.run_bind] using q3 w' hw⟩
   ·exact hx.elim
  ·exact hx.elim
 case indexAddr t x i =>
  cases ht : eltOf P t with
  | none => simp [ht] at hx
  | some es =>
   simp only [ht] at hx
   obtain ⟨d, v, hK, hR, hrun⟩ := xidx_sound h ht (h.ev x) (h.ev i) hx
   exact ⟨d, v, hK, hR, fun w' _ => by simp only [Sem.run_bind, hrun w', Result.andThen_ok, Sem.run_pure]⟩
 case index t x i =>
  cases hd : st.ev x <;> cases hi : st.ev i <;> simp only [hd, hi] at hx
  rename_i s k m
  have hv : a.eval x = .string s := by have := h.ev x; rw [hd] at this; simpa [RelV, RelW, RelC] using this
  have hm : a.eval i = .int k m := by have := h.ev i; rw [hi] at this; simpa [RelV, RelW, RelC] using this
  obtain ⟨hu, h0, h1, hK⟩ := hx
  have hlt : m.toNat < s.size := by omega
  have hb : s[m.toNat]? = some s[m.toNat] := by simp [getElem?_pos, hlt]
  refine ⟨_, .int .u8 (byteAt s m.toNat), hK, rfl, fun w' _ => ?_⟩
  have hb2 : ((s[m.toNat]).toNat : Int) = byteAt s m.toNat := by
   have : s.data.size = s.size := rfl
   unfold byteAt
   simp [this, hlt]
   rfl
  simp only [Sem.run_bind, hv, hm, Instr.index, asIntOf, run_underlying hu, Sem.run_pure, Result.andThen_ok, if_pos h0, hb, hb2]
 case load t x =>
  cases ht : varOf P t with
  | none => simp [ht] at hx
  | some r =>
   obtain ⟨sz, ag⟩ := r
   simp only [ht] at hx
   obtain ⟨d, v, hK, hR, hrun⟩ := xload_sound h ht (h.ev x) hx
   exact ⟨d, v, hK, hR, fun w' hw => by simp only [Sem.run_bind, hrun w' hw, Result.andThen_ok, Sem.run_pure]⟩
 case extract x i =>
  cases hd : st.ev x <;> simp only [hd] at hx
  rename_i ds
  cases hi : ds[i]? with
  | none => simp [hi] at hx
  | some d =>
   simp only [hi] at hx
   have hr := h.ev x
   rw [hd] at hr
   obtain ⟨vs, hv, hT⟩ := hr
   obtain ⟨v, h1, h2⟩ := hT.get hi
   exact ⟨d, v, hx, h2.V, fun w' _ => by simp at h1; simp [Sem.run_bind, hv, Instr.extract, h1]⟩
 case call c =>
  obtain ⟨callee, args, argTypes⟩ := c
  cases callee <;> simp only at hx
  rename_i b
  cases b <;> simp only at hx
  case min =>
   split at hx
   ·rename_i x y hxy
    cases hdx : st.ev x <;> cases hdy : st.ev y <;> rw [hdx, hdy] at hx <;> try exact hx.elim
    rename_i k p k' q
    obtain ⟨rfl, hK⟩ := hx
    have v1 : a.eval x = .int k p := by have := h.ev x; rw [hdx] at this; simpa [RelV, RelW, RelC] using this
    have v2 : a.eval y = .int k q := by have := h.ev y; rw [hdy] at this; simpa [RelV, RelW, RelC] using this
    have e : args = #[x, y] := by apply Array.ext'; exact hxy
    refine ⟨_, .int k (min p q), hK, rfl, fun w' _ => ?_⟩
    have hm : (if q < p then q else p) = min p q := by rw [Int.min_def]; split <;> split <;> omega
    simp [Sem.run_bind, resolve, invoke, builtin, e, v1, v2, Builtin.min_, Builtin.min2, hm]
   ·exact hx.elim
  case max =>
   split at hx
   ·rename_i x y hxy
    cases hdx : st.ev x <;> cases hdy : st.ev y <;> rw [hdx, hdy] at hx <;> try exact hx.elim
    rename_i k p k' q
    obtain ⟨rfl, hK⟩ := hx
    have v1 : a.eval x = .int k p := by have := h.ev x; rw [hdx] at this; simpa [RelV, RelW, RelC] using this
    have v2 : a.eval y = .int k q := by have := h.ev y; rw [hdy] at this; simpa [RelV, RelW, RelC] using this
    have e : args = #[x, y] := by apply Array.ext'; exact hxy
    refine ⟨_, .int k (max p q), hK, rfl, fun w' _ => ?_⟩
    have hm : (if p < q then q else p) = max p q := by rw [Int.max_def]; split <;> split <;> omega
    simp [Sem.run_bind, resolve, invoke, builtin, e, v1, v2, Builtin.max_, Builtin.max2, hm]
   ·exact hx.elim
  case cap =>
   cases hq : args[0]? with
   | none => simp [hq] at hx
   | some x =>
    simp only [hq] at hx
    obtain ⟨d, v, hK, hR, hrun⟩ := xcap_sound (P := P) (at_ := argTypes) (ty := o.type) (as := args.map a.eval) h (by simp [hq]) (h.ev x) hx.1 hx.2
    exact ⟨d, v, hK, hR, fun w' _ => by simp [Sem.run_bind, resolve, invoke, builtin, hrun w']⟩
  cases hq : args[0]? with
  | none => simp [hq] at hx
  | some x =>
   simp only [hq] at hx
   obtain ⟨d, v, hK, hR, hrun⟩ := xlen_sound (P := P) (at_ := argTypes) (ty := o.type) (as := args.map a.eval) h (by simp [hq]) (h.ev x) hx.1 hx.2
   exact ⟨d, v, hK, hR, fun w' _ => by simp [Sem.run_bind, resolve, invoke, builtin, hrun w']⟩
end
end Go.Ab
namespace Go.Ab
open Go Go.RowKit
section
variable {P : Program} {F : Fix} {n : Nat} {g : G} {st : St} {a : Act} {w : World}
theorem getD_set (xs : Array Value) (i j : Nat) (v : Value) (hi : i < xs.size) : (xs.setIfInBounds i v).getD j undef = if j = i then v else xs.getD j undef := by
 by_cases h : j = i
 ·subst h
  simp [hi]
 ·have : i ≠ j := fun e => h e.symm
  simp [h, Array.getElem?_setIfInBounds_ne this]
theorem Holds.put (h : Holds F n g st a w) {i : Nat} (hi : i < n) {d : D} {v : Value} (hd : RelV g.U w d v) : Holds F n g (st.put i d) (a.put (some i) v) w := by
 refine ⟨by simp [Act.put, h.size], h.defers, fun j => ?_, h.locs, h.uin, h.ubd, h.uout, h.keep⟩
 have e : (a.put (some i) v).tmps.getD j undef = if j = i then v else a.tmps.getD j undef := getD_set _ _ _ _ (by rw [h.size]; exact hi)
 rw [e]
 show RelV g.U w (upd st.fr i d j) _
 unfold upd
 by_cases hj : j = i
 ·simp only [hj, if_true]; exact hd
 ·simp only [hj, if_false]; exact h.slots j
theorem World.alloc_heap (w : World) (o : Obj) (b : Nat) : (w.alloc o).heap[b]? = if b = w.heap.size then some o else w.heap[b]? := by
 show (w.heap.push o)[b]? = _
 rw [Array.getElem?_push]
/-- What name s may write. -/
def Mine (F : Fix) (g : G) (s x : Nat) : Prop := g.own x = some s ∧ ¬ g.U x ∧ (F.w0.heap.size ≤ x ∨ F.H0 x)
theorem Own.mine {s b x : Nat} {d : D} {Fs : List Nat} (h : Own F g w s b d Fs) (hx : x ∈ Fs) : Mine F g s x := ⟨h.own x hx, h.nu x hx, h.lo x hx⟩
/-- Memory goes on: name s is given up, name t holds d'. -/
theorem Holds.turn (h : Holds F n g st a w) {s t b' : Nat} {d' : D} {w' : World} {F' : List Nat} (hsz : w.heap.size ≤ w'.heap.size) (hos : w'.os = w.os) (htp : w'.tape = w.tape) (hou : w'.output = w.output)
  (hb : ∀ k, k < w.heap.size → ¬ Mine F g s k → w'.heap[k]? = w.heap[k]?) (hl : LocO g.U w' b' d' F') (hn : F'.Nodup) (hm : ∀ x ∈ F', Mine F g s x ∨ w.heap.size ≤ x) :
  Holds F n { g with own := fun x => if x ∈ F' then some t else g.own x } (st.turn s t b' d') a w' := by
 have x : Ext g.U g.U w w' := ⟨fun _ h => h, fun b hU => hb b (h.ubd b hU) fun hM => hM.2.1 hU⟩
 have hs0 : F.w0.heap.size ≤ w.heap.size := h.keep.size
 refine ⟨h.size, h.defers, fun i => (h.slots i).mono x, fun s' d2 hl2 => ?_, h.uin, fun b hU => by have := h.ubd b hU; omega, h.uout, ?_⟩
 ·have hl2' : upd (upd st.lc s none) t (some d') s' = some d2 := hl2
  simp only [upd_apply] at hl2'
  by_cases e : s' = t
  ·subst e
   simp only [if_true, Option.some.injEq] at hl2'
   subst hl2'
   refine ⟨F', ?_, hn, fun x hx => by simp [hx], fun x hx hU => ?_, fun x hx => ?_⟩
   ·show LocO g.U w' (upd st.gen s' b' s') d' F'
    rw [upd_apply, if_pos rfl]
    exact hl
   ·rcases hm x hx with q | q
    ·exact q.2.1 hU
    ·have := h.ubd x hU; omega
   ·rcases hm x hx with q | q
    ·exact q.2.2
    ·exact .inl (by omega)
  ·rw [if_neg e] at hl2'
   by_cases e2 : s' = s
   ·rw [if_pos e2] at hl2'; cases hl2'
   ·rw [if_neg e2] at hl2'
    obtain ⟨Fs, hO⟩ := h.locs s' d2 hl2'
    have hnm : ∀ y ∈ Fs, ¬ Mine F g s y := fun y hy hM => by
     have := hO.own y hy
     rw [hM.1] at this
     simp at this
     exact e2 this.symm
    have hlt := hO.loc.lt
    refine ⟨Fs, ?_, hO.nd, fun y hy => ?_, hO.nu, hO.lo⟩
    ·show LocO g.U w' (upd st.gen t b' s') d2 Fs
     rw [upd_apply, if_neg e]
     exact hO.loc.mono ⟨x.u, x.heap, fun y hy => hb y (hlt y hy) (hnm y hy)⟩
    ·have : y ∉ F' := fun hy' => by
      rcases hm y hy' with q | q
      ·exact hnm y hy q
      ·have := hlt y hy; omega
     simp only [this, if_false]
     exact hO.own y hy
 ·refine ⟨hos.trans h.keep.os, htp.trans h.keep.tape, hou.trans h.keep.output, by omega, fun k hk hH => ?_⟩
  rw [hb k (by omega) fun hM => ?_]
  ·exact h.keep.block k hk hH
  ·rcases hM.2.2 with q | q
   ·omega
   ·exact hH q
theorem St.box_turn (st : St) (s b : Nat) (d : D) : st.box s b d = st.turn s s b d := by
 unfold St.box St.turn
 congr 1
 funext i
 simp only [upd_apply]
 split <;> rfl
theorem St.setLc_turn (st : St) (s : Nat) (d : D) : st.setLc s d = st.turn s s (st.gen s) d := by
 unfold St.setLc St.turn
 congr 1
 ·funext i
  simp only [upd_apply]
  split
  ·rename_i e; rw [e]
  ·rfl
 ·funext i
  simp only [upd_apply]
  split <;> rfl
/-- A new variable of the call's own. -/
theorem Holds.boxO (h : Holds F n g st a w) (s : Nat) {d : D} (ob : Obj) {G : List Nat} (hd : LocO g.U (w.alloc ob) w.heap.size d G) (hG : ∀ x ∈ G, x = w.heap.size) (hn : G.Nodup) :
  Holds F n { g with own := fun x => if x ∈ G then some s else g.own x } (st.box s w.heap.size d) a (w.alloc ob) := by
 rw [St.box_turn]
 exact h.turn (s := s) (by simp) rfl rfl rfl (fun k hk _ => by rw [World.alloc_heap, if_neg (by omega)]) hd hn fun x hx => .inr (by rw [hG x hx]; exact Nat.le_refl _)
theorem Holds.box (h : Holds F n g st a w) (s : Nat) {d : D} {cells : Array Value} (hd : RelC g.U w d cells.toList) (e : TypeId) :
  Holds F n { g with own := fun x => if x ∈ [w.heap.size] then some s else g.own x } (st.box s w.heap.size d) a (w.alloc (.cells cells e)) := by
 have x : Ext g.U g.U w (w.alloc (.cells cells e)) := ⟨fun _ h => h, fun b hb => by rw [World.alloc_heap, if_neg (by have := h.ubd b hb; omega)]⟩
 exact h.boxO s _ (.of (by rw [World.alloc_heap, if_pos rfl]) (.of (hd.mono x))) (by simp) (by simp)
theorem setRow_heap' (w : World) (b : Nat) (old new : Array Value) (e : TypeId) (fz : Nat × Nat) (hc : w.heap[b]? = some (.cells old e fz)) (k : Nat) : (w.setRow b new).heap[k]? = if k = b then some (.cells new e fz) else w.heap[k]? := by
 by_cases h : k = b
 ·subst h
  rw [if_pos rfl]
  exact setRow_heap w k old new e fz hc
 ·rw [if_neg h]
  unfold World.setRow
  simp only [Array.getElem?_modify]
  rw [if_neg (fun e => h e.symm)]
theorem setRow_size (w : World) (b : Nat) (new : Array Value) : (w.setRow b new).heap.size = w.heap.size := by simp [World.setRow]
/-- A store into a variable of the call's own. -/
theorem Holds.setLcO (h : Holds F n g st a w) {s : Nat} {d d' : D} {ob : Obj} {w' : World} {Fs F' : List Nat} (hO : Own F g w s (st.gen s) d Fs) (hin : st.gen s ∈ Fs) (hh : ∀ k, w'.heap[k]? = if k = st.gen s then some ob else w.heap[k]?) (hsz : w'.heap.size = w.heap.size) (hos : w'.os = w.os) (htp : w'.tape = w.tape) (hou : w'.output = w.output)
  (hd : LocO g.U w' (st.gen s) d' F') (hF : F'.Sublist Fs) :
  Holds F n { g with own := fun x => if x ∈ F' then some s else g.own x } (st.setLc s d') a w' := by
 rw [St.setLc_turn]
 refine h.turn (s := s) (by omega) hos htp hou (fun k hk hM => ?_) hd (hO.nd.sublist hF) fun x hx => .inl (hO.mine (hF.subset hx))
 rw [hh, if_neg]
 rintro rfl
 exact hM (hO.mine hin)
mutual
theorem RelC.set {U : Nat → Prop} {w : World} : ∀ {d : D} {cs xs : List Value} {p : List Nat} {x d' d0 : D} {o : Nat}, RelC U w d cs → RelC U w x xs → d.at p = some (d0, o) → d.set p x = some d' →
  RelC U w d' (cs.take o ++ xs ++ cs.drop (o + xs.length)) ∧ d'.len = d.len ∧ d'.isAgg = d.isAgg ∧ o + xs.length ≤ cs.length
 | d, cs, xs, [], x, d', d0, o, h, hx, ha, hs => by
  have e : d = d0 ∧ o = 0 := by cases d <;> (simp only [D.at, Option.some.injEq, Prod.mk.injEq] at ha; exact ⟨ha.1, ha.2.symm⟩)
  obtain ⟨rfl, rfl⟩ := e
  have e2 : (if d.len = x.len ∧ d.isAgg = x.isAgg then some x else none) = some d' := by cases d <;> exact hs
  split at e2
  ·rename_i hc
   simp only [Option.some.injEq] at e2
   subst e2
   have h1 := h.length
   have h2 := hx.length
   refine ⟨?_, hc.1.symm, hc.2.symm, by omega⟩
   rw [List.drop_eq_nil_of_le (by omega)]
   simpa using hx
  ·cases e2
 | .agg fs, cs, xs, i :: p, x, d', d0, o, h, hx, ha, hs => by
  simp only [RelC] at h
  simp only [D.at] at ha
  simp only [D.set, Option.map_eq_some_iff] at hs
  obtain ⟨fs', hs, rfl⟩ := hs
  obtain ⟨h1, h2, h3⟩ := RelF.sets h hx ha hs
  exact ⟨by simpa only [RelC] using h1, by simpa only [D.len] using h2, rfl, h3⟩
 | .undef, _, _, _ :: _, _, _, _, _, _, _, e, _ | .any, _, _, _ :: _, _, _, _, _, _, _, e, _ | .int .., _, _, _ :: _, _, _, _, _, _, _, e, _ | .bool .., _, _, _ :: _, _, _, _, _, _, _, e, _ | .str .., _, _, _ :: _, _, _, _, _, _, _, e, _ | .nil, _, _, _ :: _, _, _, _, _, _, _, e, _ | .nilp, _, _, _ :: _, _, _, _, _, _, _, e, _ | .ro .., _, _, _ :: _, _, _, _, _, _, _, e, _ | .lref .., _, _, _ :: _, _, _, _, _, _, _, e, _ | .lsl .., _, _, _ :: _, _, _, _, _, _, _, e, _ | .lvw .., _, _, _ :: _, _, _, _, _, _, _, e, _ | .mp _, _, _, _ :: _, _, _, _, _, _, _, e, _ | .lmp .., _, _, _ :: _, _, _, _, _, _, _, e, _ | .cref .., _, _, _ :: _, _, _, _, _, _, _, e, _ | .tup _, _, _, _ :: _, _, _, _, _, _, _, e, _ | .fn .., _, _, _ :: _, _, _, _, _, _, _, e, _ | .arr .., _, _, _ :: _, _, _, _, _, _, _, e, _ | .ow .., _, _, _ :: _, _, _, _, _, _, _, e, _ => by simp [D.at] at e
theorem RelF.sets {U : Nat → Prop} {w : World} : ∀ {ds : List D} {cs xs : List Value} {i : Nat} {p : List Nat} {x : D} {ds' : List D} {d0 : D} {o : Nat}, RelF U w ds cs → RelC U w x xs → D.ats ds i p = some (d0, o) → D.sets ds i p x = some ds' →
  RelF U w ds' (cs.take o ++ xs ++ cs.drop (o + xs.length)) ∧ D.lens ds' = D.lens ds ∧ o + xs.length ≤ cs.length
 | [], _, _, _, _, _, _, _, _, _, _, e, _ => by simp [D.ats] at e
 | d :: ds, cs, xs, 0, p, x, ds', d0, o, h, hx, ha, hs => by
  simp only [RelF] at h
  obtain ⟨c1, c2, rfl, h1, h2⟩ := h
  simp only [D.ats] at ha
  simp only [D.sets, Option.map_eq_some_iff] at hs
  obtain ⟨d', hs, rfl⟩ := hs
  obtain ⟨h3, h4, h5, h6⟩ := RelC.set h1 hx ha hs
  refine ⟨?_, by simp [D.lens, h4], by simp; omega⟩
  simp only [RelF]
  refine ⟨_, c2, ?_, h3, h2⟩
  rw [List.take_append_of_le_length (by omega), List.drop_append_of_le_length (by omega)]
  simp [List.append_assoc]
 | d :: ds, cs, xs, i + 1, p, x, ds', d0, o, h, hx, ha, hs => by
  simp only [RelF] at h
  obtain ⟨c1, c2, rfl, h1, h2⟩ := h
  simp only [D.ats, Option.map_eq_some_iff] at ha
  obtain ⟨r, ha, e⟩ := ha
  simp only [Prod.mk.injEq] at e
  obtain ⟨rfl, rfl⟩ := e
  simp only [D.sets, Option.map_eq_some_iff] at hs
  obtain ⟨ds2, hs, rfl⟩ := hs
  obtain ⟨h3, h4, h5⟩ := RelF.sets (o := r.2) (d0 := r.1) h2 hx ha hs
  have hl := h1.length
  refine ⟨?_, by simp [D.lens, h4], by simp; omega⟩
  simp only [RelF]
  refine ⟨c1, _, ?_, h1, h3⟩
  rw [← hl, List.take_length_add_append, Nat.add_assoc, ← List.drop_drop, List.drop_left]
  simp [List.append_assoc]
end
mutual
theorem RelO.set {U : Nat → Prop} {w : World} : ∀ {d : D} {cs xs : List Value} {F : List Nat} {p : List Nat} {x d' d0 : D} {o : Nat}, RelO U w d cs F → RelC U w x xs → d.at p = some (d0, o) → d.set p x = some d' →
  ∃ H, RelO U w d' (cs.take o ++ xs ++ cs.drop (o + xs.length)) H ∧ H.Sublist F ∧ d'.len = d.len ∧ d'.isAgg = d.isAgg ∧ o + xs.length ≤ cs.length
 | d, cs, xs, F, [], x, d', d0, o, h, hx, ha, hs => by
  have e : d = d0 ∧ o = 0 := by cases d <;> (simp only [D.at, Option.some.injEq, Prod.mk.injEq] at ha; exact ⟨ha.1, ha.2.symm⟩)
  obtain ⟨rfl, rfl⟩ := e
  have e2 : (if d.len = x.len ∧ d.isAgg = x.isAgg then some x else none) = some d' := by cases d <;> exact hs
  split at e2
  ·rename_i hc
   simp only [Option.some.injEq] at e2
   subst e2
   have h1 := h.length
   have h2 := hx.length
   refine ⟨[], ?_, List.nil_sublist _, hc.1.symm, hc.2.symm, by omega⟩
   rw [List.drop_eq_nil_of_le (by omega)]
   simpa using RelO.of hx
  ·cases e2
 | .agg fs, cs, xs, F, i :: p, x, d', d0, o, h, hx, ha, hs => by
  simp only [RelO] at h
  simp only [D.at] at ha
  simp only [D.set, Option.map_eq_some_iff] at hs
  obtain ⟨fs', hs, rfl⟩ := hs
  obtain ⟨H, h1, hS, h2, h3⟩ := RelOF.sets h hx ha hs
  exact ⟨H, by simpa only [RelO] using h1, hS, by simpa only [D.len] using h2, rfl, h3⟩
 | .undef, _, _, _, _ :: _, _, _, _, _, _, _, e, _ | .any, _, _, _, _ :: _, _, _, _, _, _, _, e, _ | .int .., _, _, _, _ :: _, _, _, _, _, _, _, e, _ | .bool .., _, _, _, _ :: _, _, _, _, _, _, _, e, _ | .str .., _, _, _, _ :: _, _, _, _, _, _, _, e, _ | .nil, _, _, _, _ :: _, _, _, _, _, _, _, e, _ | .nilp, _, _, _, _ :: _, _, _, _, _, _, _, e, _ | .ro .., _, _, _, _ :: _, _, _, _, _, _, _, e, _ | .lref .., _, _, _, _ :: _, _, _, _, _, _, _, e, _ | .lsl .., _, _, _, _ :: _, _, _, _, _, _, _, e, _ | .lvw .., _, _, _, _ :: _, _, _, _, _, _, _, e, _ | .mp _, _, _, _, _ :: _, _, _, _, _, _, _, e, _ | .lmp .., _, _, _, _ :: _, _, _, _, _, _, _, e, _ | .cref .., _, _, _, _ :: _, _, _, _, _, _, _, e, _ | .tup _, _, _, _, _ :: _, _, _, _, _, _, _, e, _ | .fn .., _, _, _, _ :: _, _, _, _, _, _, _, e, _ | .arr .., _, _, _, _ :: _, _, _, _, _, _, _, e, _ | .ow .., _, _, _, _ :: _, _, _, _, _, _, _, e, _ => by simp [D.at] at e
theorem RelOF.sets {U : Nat → Prop} {w : World} : ∀ {ds : List D} {cs xs : List Value} {F : List Nat} {i : Nat} {p : List Nat} {x : D} {ds' : List D} {d0 : D} {o : Nat}, RelOF U w ds cs F → RelC U w x xs → D.ats ds i p = some (d0, o) → D.sets ds i p x = some ds' →
  ∃ H, RelOF U w ds' (cs.take o ++ xs ++ cs.drop (o + xs.length)) H ∧ H.Sublist F ∧ D.lens ds' = D.lens ds ∧ o + xs.length ≤ cs.length
 | [], _, _, _, _, _, _, _, _, _, _, _, e, _ => by simp [D.ats] at e
 | d :: ds, cs, xs, F, 0, p, x, ds', d0, o, h, hx, ha, hs => by
  simp only [RelOF] at h
  obtain ⟨c1, c2, F1, F2, rfl, rfl, h1, h2⟩ := h
  simp only [D.ats] at ha
  simp only [D.sets, Option.map_eq_some_iff] at hs
  obtain ⟨d', hs, rfl⟩ := hs
  obtain ⟨H, h3, hS, h4, h5, h6⟩ := RelO.set h1 hx ha hs
  refine ⟨H ++ F2, ?_, List.Sublist.append hS (List.Sublist.refl _), by simp [D.lens, h4], by simp; omega⟩
  simp only [RelOF]
  refine ⟨_, c2, H, F2, ?_, rfl, h3, h2⟩
  rw [List.take_append_of_le_length (by omega), List.drop_append_of_le_length (by omega)]
  simp [List.append_assoc]
 | d :: ds, cs, xs, F, i + 1, p, x, ds', d0, o, h, hx, ha, hs => by
  simp only [RelOF] at h
  obtain ⟨c1, c2, F1, F2, rfl, rfl, h1, h2⟩ := h
  simp only [D.ats, Option.map_eq_some_iff] at ha
  obtain ⟨r, ha, e⟩ := ha
  simp only [Prod.mk.injEq] at e
  obtain ⟨rfl, rfl⟩ := e
  simp only [D.sets, Option.map_eq_some_iff] at hs
  obtain ⟨ds2, hs, rfl⟩ := hs
  obtain ⟨H, h3, hS, h4, h5⟩ := RelOF.sets (o := r.2) (d0 := r.1) h2 hx ha hs
  have hl := h1.length
  refine ⟨F1 ++ H, ?_, List.Sublist.append (List.Sublist.refl _) hS, by simp [D.lens, h4], by simp; omega⟩
  simp only [RelOF]
  refine ⟨c1, _, F1, H, ?_, rfl, h1, h3⟩
  rw [← hl, List.take_length_add_append, Nat.add_assoc, ← List.drop_drop, List.drop_left]
  simp [List.append_assoc]
end
theorem RelOR.set_cells {U : Nat → Prop} {w : World} {es o : Nat} {xs : List Value} {c c' : D} : ∀ {ds : List D} {cs : List Value} {F : List Nat} {i : Nat}, RelOR U w es ds cs F → ds[i]? = some c →
  (∀ Fc, RelO U w c ((cs.drop (i * es)).take es) Fc → ∃ H, RelO U w c' (((cs.drop (i * es)).take es).take o ++ xs ++ ((cs.drop (i * es)).take es).drop (o + xs.length)) H ∧ H.Sublist Fc) → o + xs.length ≤ ((cs.drop (i * es)).take es).length →
  ∃ H, RelOR U w es (ds.set i c') (cs.take (i * es + o) ++ xs ++ cs.drop (i * es + o + xs.length)) H ∧ H.Sublist F
 | [], _, _, _, _, hi, _, _ => by simp at hi
 | d :: ds, cs, F, 0, h, hi, hc, ho => by
  simp only [RelOR] at h
  obtain ⟨c1, c2, F1, F2, rfl, rfl, h1, h2, h3⟩ := h
  simp at hi
  subst hi
  simp only [List.set_cons_zero, RelOR]
  have e : (((c1 ++ c2).drop (0 * es)).take es) = c1 := by rw [Nat.zero_mul, List.drop_zero, ← h1, List.take_left]
  rw [e] at hc ho
  obtain ⟨H, q1, q2⟩ := hc F1 h2
  refine ⟨H ++ F2, ⟨_, c2, H, F2, ?_, rfl, ?_, q1, h3⟩, List.Sublist.append q2 (List.Sublist.refl _)⟩
  ·rw [Nat.zero_mul, Nat.zero_add, List.take_append_of_le_length (by omega), List.drop_append_of_le_length (by omega)]
   simp [List.append_assoc]
  ·simp; omega
 | d :: ds, cs, F, i + 1, h, hi, hc, ho => by
  simp only [RelOR] at h
  obtain ⟨c1, c2, F1, F2, rfl, rfl, h1, h2, h3⟩ := h
  have e : ((c1 ++ c2).drop ((i + 1) * es)) = c2.drop (i * es) := by rw [Nat.add_mul, Nat.one_mul, Nat.add_comm, ← h1, ← List.drop_drop, List.drop_left]
  rw [e] at hc ho
  obtain ⟨H, q1, q2⟩ := RelOR.set_cells (i := i) h3 (by simpa using hi) hc ho
  simp only [List.set_cons_succ, RelOR]
  refine ⟨F1 ++ H, ⟨c1, _, F1, H, ?_, rfl, h1, h2, q1⟩, List.Sublist.append (List.Sublist.refl _) q2⟩
  have e2 : (i + 1) * es + o = c1.length + (i * es + o) := by rw [h1, Nat.add_mul]; omega
  rw [e2, List.take_length_add_append, Nat.add_assoc c1.length, ← List.drop_drop, List.drop_left]
  simp [List.append_assoc]
end
end Go.Ab
namespace Go.Ab
open Go Go.RowKit
/-! ### What is owned, given up to be read alone -/
mutual
def D.froz : D → D
 | .agg fs => .agg (D.frozs fs)
 | .ow es ds _ => .ro es (D.frozs ds)
 | d => d
def D.frozs : List D → List D
 | [] => []
 | d :: ds => d.froz :: D.frozs ds
end
theorem D.frozs_length : ∀ (ds : List D), (D.frozs ds).length = ds.length
 | [] => rfl
 | d :: ds => by simp [D.frozs, D.frozs_length ds]
theorem D.frozs_map {α : Type} {f : α → D} (h : ∀ x, (f x).froz = f x) : ∀ (xs : List α), D.frozs (xs.map f) = xs.map f
 | [] => rfl
 | x :: xs => by simp [D.frozs, h x, D.frozs_map h xs]
mutual
theorem RelO.froz {U U' : Nat → Prop} {w : World} : ∀ {d : D} {cs : List Value} {F : List Nat}, (∀ b, U b → U' b) → (∀ x ∈ F, U' x) → RelO U w d cs F → RelC U' w d.froz cs
 | .agg fs, cs, F, hU, hF, h => by simp only [RelO] at h; simp only [D.froz, RelC]; exact RelOF.froz hU hF h
 | .ow es ds c, cs, F, hU, hF, h => by
  simp only [RelO] at h
  simp only [D.froz, RelC, D.frozs_length]
  obtain ⟨a, rfl, h2⟩ := h
  rcases h2 with ⟨_, rfl, _⟩ | ⟨b, cells, e, G, h3, h4, h5, h6, h7, h8, rfl⟩
  ·exact ⟨a, c, rfl, by simp, .inl rfl⟩
  ·refine ⟨a, c, rfl, h7, ?_⟩
   exact .inr ⟨b, 0, cells, e, _, h3, hF b (by simp), h5, by rw [List.drop_zero]; exact RelOR.froz hU (fun x hx => hF x (by simp [hx])) h8⟩
 | .undef, _, _, hU, hF, h | .mp _, _, _, hU, hF, h | .tup _, _, _, hU, hF, h | .arr .., _, _, hU, hF, h => by simp [RelO, RelC] at h
 | .any, _, _, hU, hF, h | .int .., _, _, hU, hF, h | .bool .., _, _, hU, hF, h | .str .., _, _, hU, hF, h | .nil, _, _, hU, hF, h | .nilp, _, _, hU, hF, h | .lref .., _, _, hU, hF, h | .lsl .., _, _, hU, hF, h | .lvw .., _, _, hU, hF, h | .lmp .., _, _, hU, hF, h | .ro .., _, _, hU, hF, h | .cref _, _, _, hU, hF, h | .fn .., _, _, hU, hF, h => by
  simp only [RelO] at h; exact RelC.mono ⟨hU, fun _ _ => rfl⟩ h.1
theorem RelOF.froz {U U' : Nat → Prop} {w : World} : ∀ {ds : List D} {cs : List Value} {F : List Nat}, (∀ b, U b → U' b) → (∀ x ∈ F, U' x) → RelOF U w ds cs F → RelF U' w (D.frozs ds) cs
 | [], _, _, hU, hF, h => by simp only [RelOF] at h; simp [D.frozs, RelF, h.1]
 | d :: ds, _, _, hU, hF, h => by
  simp only [RelOF] at h
  obtain ⟨c1, c2, F1, F2, rfl, rfl, h1, h2⟩ := h
  simp only [D.frozs, RelF]
  exact ⟨c1, c2, rfl, RelO.froz hU (fun x hx => hF x (by simp [hx])) h1, RelOF.froz hU (fun x hx => hF x (by simp [hx])) h2⟩
theorem RelOR.froz {U U' : Nat → Prop} {w : World} {es : Nat} : ∀ {ds : List D} {cs : List Value} {F : List Nat}, (∀ b, U b → U' b) → (∀ x ∈ F, U' x) → RelOR U w es ds cs F → RelR U' w es (D.frozs ds) cs
 | [], _, _, hU, hF, h => by simp only [RelOR] at h; simp [D.frozs, RelR, h.1]
 | d :: ds, _, _, hU, hF, h => by
  simp only [RelOR] at h
  obtain ⟨c1, c2, F1, F2, rfl, rfl, h0, h1, h2⟩ := h
  simp only [D.frozs, RelR]
  exact ⟨c1, c2, rfl, h0, RelO.froz hU (fun x hx => hF x (by simp [hx])) h1, RelOR.froz hU (fun x hx => hF x (by simp [hx])) h2⟩
end
/-- What an address of an owned block comes to when the block is only read. -/
def Frz (b : Nat) (c d d' : D) : Prop :=
 match d with
 | .lsl _ b' n _ => b' = b ∧ ∃ es ds cp, c = .arr es ds cp ∧ n ≤ ds.length ∧ d' = .ro es ((D.frozs ds).take n)
 | .lref _ b' p o => b' = b ∧ c.mpB = false ∧ ∃ d0, c.at p = some (d0, o) ∧ d' = .cref d0.froz
 | _ => False
theorem Frz.rel {F : Fix} {g : G} {w : World} {s b : Nat} {c d d' : D} {Fs : List Nat} {cs : List Value} (hO : LocO g.U w b c Fs) {U' : Nat → Prop} (hU : ∀ x, g.U x → U' x) (hF : ∀ x ∈ Fs, U' x) (hf : Frz b c d d') (h : RelC g.U w d cs) : RelC U' w d' cs := by
 cases d <;> simp only [Frz] at hf
 case lsl s' b' n c' =>
  obtain ⟨rfl, es, ds, cp, rfl, hn, rfl⟩ := hf
  simp only [RelC] at h ⊢
  obtain ⟨ad, rfl, hle, hc⟩ := h
  have hlen : ((D.frozs ds).take n).length = n := by simp [D.frozs_length]; omega
  refine ⟨ad, c', by rw [hlen], by rw [hlen]; exact hle, ?_⟩
  by_cases h0 : n = 0
  ·subst h0; exact .inl (by simp)
  ·rcases hO with ⟨_, rfl, _⟩ | ⟨cells, e, H, hc0, hcell, hsz, hl2, hR, rfl⟩
   ·simp at hn; omega
   ·refine .inr ⟨b', 0, cells, e, _, hc (by omega), hF b' (by simp), hcell, ?_⟩
    have h1 := (RelOR.froz hU (fun x hx => hF x (by simp [hx])) hR).take n
    rw [List.drop_zero]
    rw [List.take_take] at h1
    have hmin : min (((D.frozs ds).take n).length * es) (ds.length * es) = ((D.frozs ds).take n).length * es := Nat.min_eq_left (Nat.mul_le_mul_right _ (by omega))
    rw [hmin] at h1
    exact h1
 case lref s' b' p o =>
  obtain ⟨rfl, hmp, d0, hat, rfl⟩ := hf
  simp only [RelC] at h ⊢
  obtain ⟨cells, e, H, hcell, hR, rfl⟩ := hO.cells hmp
  obtain ⟨H', q1, q2, q3⟩ := hR.at hat
  have hl : d0.froz.len = d0.len := by
   have := (RelO.froz (U' := U') hU (fun x hx => hF x (by have := q2.subset hx; simp [this])) q1).length
   rw [← this]
   rw [q1.length]
  refine ⟨b', o, cells, e, _, h, hF b' (by simp), hcell, by rw [hl]; simpa using q3, ?_⟩
  rw [hl]
  exact RelO.froz hU (fun x hx => hF x (by have := q2.subset hx; simp [this])) q1
inductive FrzC (R : D → D → Prop) : D → D → Prop
 | refl (c : D) : FrzC R c c
 | step {c c1 c' d0 d1 : D} {p : List Nat} {o : Nat} (h1 : c.at p = some (d0, o)) (h2 : R d0 d1) (h3 : c.set p d1 = some c1) (h4 : FrzC R c1 c') : FrzC R c c'
section
variable {P : Program} {F : Fix} {n : Nat} {g : G} {st : St} {a : Act} {w : World}
theorem RelO.reset {U : Nat → Prop} {w : World} {c c1 d0 d1 : D} {p : List Nat} {o : Nat} {cs : List Value} {H : List Nat} (h : RelO U w c cs H) (h1 : c.at p = some (d0, o)) (h2 : RelC U w d1 ((cs.drop o).take d0.len)) (h3 : c.set p d1 = some c1) : ∃ H', RelO U w c1 cs H' ∧ H'.Sublist H := by
 obtain ⟨_, q1, _, q2⟩ := h.at h1
 obtain ⟨H', q3, q4, _, _, q5⟩ := h.set h2 h1 h3
 have hl : ((cs.drop o).take d0.len).length = d0.len := q1.length
 rw [hl] at q3
 have e : cs.take o ++ (cs.drop o).take d0.len ++ cs.drop (o + d0.len) = cs := by
  rw [List.append_assoc, ← List.drop_drop, List.take_append_drop, List.take_append_drop]
 rw [e] at q3
 exact ⟨H', q3, q4⟩
theorem FrzC.rel {U U' : Nat → Prop} {w : World} {R : D → D → Prop} {cs : List Value} (hU : ∀ x, U x → U' x) (hR : ∀ d d' xs, R d d' → RelC U w d xs → RelC U' w d' xs) {c c' : D} (hf : FrzC R c c') : ∀ {H : List Nat}, (∀ d0 d1, R d0 d1 → d0.isAgg = false ∧ ∀ es ds cp, d0 ≠ .ow es ds cp) → RelO U' w c cs H → (∀ d d' xs, R d d' → RelC U' w d xs → RelC U' w d' xs) → ∃ H', RelO U' w c' cs H' ∧ H'.Sublist H := by
 induction hf with
 | refl c => exact fun _ h _ => ⟨_, h, List.Sublist.refl _⟩
 | @step c0 c1 c2 d0 d1 p o h1 h2 h3 h4 ih =>
  intro H hna h hR'
  obtain ⟨H1, q1, _, q2⟩ := h.at h1
  obtain ⟨n1, n2⟩ := hna _ _ h2
  have hrc : RelC U' w d0 ((cs.drop o).take d0.len) := by
   cases d0 <;> first | exact (q1).1 | (cases n1; done) | exact absurd rfl (n2 _ _ _)
  obtain ⟨H2, q3, q4⟩ := h.reset h1 (hR' _ _ _ h2 hrc) h3
  obtain ⟨H3, q5, q6⟩ := ih hna q3 hR'
  exact ⟨H3, q5, q6.trans q4⟩
/-- An owned block is from now on only read. -/
theorem Holds.freeze (h : Holds F n g st a w) {s : Nat} {c : D} (hl : st.lc s = some c) (fr' : Nat → D) (lc' : Nat → Option D) (hfr : ∀ i, fr' i = st.fr i ∨ Frz (st.gen s) c (st.fr i) (fr' i))
  (hlc : ∀ k d, k ≠ s → lc' k = some d → st.lc k = some d ∨ ∃ d0, st.lc k = some d0 ∧ d0.mpB = false ∧ d.mpB = false ∧ FrzC (Frz (st.gen s) c) d0 d) (hs : lc' s = none) :
  ∃ g', Holds F n g' { st with fr := fr', lc := lc' } a w := by
 obtain ⟨Fs, hO⟩ := h.locs s c hl
 refine ⟨{ g with U := fun x => g.U x ∨ x ∈ Fs }, ?_⟩
 have x : Ext g.U (fun x => g.U x ∨ x ∈ Fs) w w := ⟨fun _ h => .inl h, fun _ _ => rfl⟩
 have hrel : ∀ d d' cs, Frz (st.gen s) c d d' → RelC g.U w d cs → RelC (fun x => g.U x ∨ x ∈ Fs) w d' cs := fun d d' cs hf hr => Frz.rel (F := F) (s := s) hO.loc (fun _ h => .inl h) (fun _ h => .inr h) hf hr
 refine ⟨h.size, h.defers, fun i => ?_, fun k d hk => ?_, fun b hb => .inl (h.uin b hb), fun b hb => ?_, fun b hb => ?_, h.keep⟩
 ·show RelV _ w (fr' i) _
  rcases hfr i with e | e
  ·rw [e]; exact (h.slots i).mono x
  ·have hi := h.slots i
   have h1 : RelC g.U w (st.fr i) [a.tmps.getD i undef] := by
    cases hd : st.fr i <;> rw [hd] at e hi <;> simp only [Frz] at e <;> exact hi
   have h2 := hrel _ _ _ e h1
   cases hd : fr' i <;> rw [hd] at h2 <;> first | exact h2 | (simp [RelC] at h2; done) | exact trivial | skip
   rename_i fs
   rw [hd] at e
   cases hd2 : st.fr i <;> rw [hd2] at e <;> simp [Frz] at e
 ·by_cases e : k = s
  ·have : lc' k = some d := hk
   rw [e, hs] at this; cases this
  ·have hdis : ∀ {d0 : D} {Gs : List Nat}, Own F g w k (st.gen k) d0 Gs → ∀ y ∈ Gs, y ∉ Fs := fun hG y hy hy' => by
    have q1 := hG.own y hy
    rw [hO.own y hy'] at q1
    simp at q1
    exact e q1.symm
   rcases hlc k d e hk with q | ⟨d0, q, hm0, hm1, hf⟩
   ·obtain ⟨Gs, hG⟩ := h.locs k d q
    refine ⟨Gs, hG.loc.mono ⟨fun _ h => .inl h, fun _ _ => rfl, fun _ _ => rfl⟩, hG.nd, hG.own, fun y hy hU => ?_, hG.lo⟩
    rcases hU with hU | hU
    ·exact hG.nu y hy hU
    ·exact hdis hG y hy hU
   ·obtain ⟨Gs, hG⟩ := h.locs k d0 q
    obtain ⟨cells, e1, H, hcell, hR, hGs⟩ := hG.loc.cells hm0
    have hR' : RelO (fun x => g.U x ∨ x ∈ Fs) w d0 cells.toList H := hR.mono ⟨fun _ h => .inl h, fun _ _ => rfl, fun _ _ => rfl⟩
    have hO' : LocO (fun x => g.U x ∨ x ∈ Fs) w (st.gen s) c Fs := hO.loc.mono ⟨fun _ h => .inl h, fun _ _ => rfl, fun _ _ => rfl⟩
    obtain ⟨H', k1, k2⟩ := FrzC.rel (U := g.U) (fun _ h => .inl h) hrel hf (fun a b hf' => by cases a <;> simp [Frz] at hf' <;> exact ⟨rfl, by simp⟩) hR'
     (fun a b xs hf' hr => Frz.rel (g := { g with U := fun x => g.U x ∨ x ∈ Fs }) (F := F) (s := s) hO' (fun _ h => h) (fun _ h => .inr h) hf' hr)
    have hsub : (st.gen k :: H').Sublist Gs := by rw [hGs]; exact k2.cons_cons _
    refine ⟨st.gen k :: H', .of hcell k1, hG.nd.sublist hsub, fun y hy => hG.own y (hsub.subset hy), fun y hy hU => ?_, fun y hy => hG.lo y (hsub.subset hy)⟩
    rcases hU with hU | hU
    ·exact hG.nu y (hsub.subset hy) hU
    ·exact hdis hG y (hsub.subset hy) hU
 ·rcases hb with hb | hb
  ·exact h.ubd b hb
  ·exact hO.loc.lt b hb
 ·rcases hb with hb | hb
  ·exact h.uout b hb
  ·exact .inr (hO.lo b hb)
end
end Go.Ab
