/- What a state of the walk tells of memory, and the pure operations. -/
import Derived.Below
import Derived.Deep.Quiet
import Derived.Tactics
import Derived.MapKept
set_option linter.unusedSimpArgs false
set_option linter.unusedVariables false
namespace Go.Ab
open Go Go.RowKit

inductive D where
  | undef
  | any
  | int (k : IntKind) (n : Int)
  | bool (b : Bool)
  | str (s : ByteArray)
  | agg (fs : List D)
  | nil
  | nilp
  | ro (es : Nat) (ds : List D)
  | sl (b n c : Nat)
  | ptr (b es i : Nat) (p : List Nat) (o : Nat)
  | lref (s g : Nat) (p : List Nat) (o : Nat)
  | lsl (s g n c : Nat)
  | cref (d : D)
  | tup (ds : List D)
  | fn (f : Nat) (caps : List D)
  | mp (l : List (ByteArray × Bool))
  | lmp (s g : Nat)

/-- Values that lie in slots alone. -/
def D.frB : D → Bool
  | .lref .. | .lsl .. | .lmp .. => true
  | _ => false
mutual
def D.len : D → Nat
  | .agg fs => D.lens fs
  | _ => 1
def D.lens : List D → Nat
  | [] => 0
  | d :: ds => d.len + D.lens ds
end
def D.isAgg : D → Bool
  | .agg _ => true
  | _ => false

mutual
def RelC (U : Nat → Prop) (w : World) : D → List Value → Prop
  | .int k n, cs => cs = [.int k n]
  | .bool b, cs => cs = [.bool b]
  | .str s, cs => cs = [.string s]
  | .agg fs, cs => RelF U w fs cs
  | .nil, cs => cs = [.slice none 0 0]
  | .nilp, cs => cs = [.pointer none]
  | .ro es ds, cs => ∃ a c, cs = [.slice a ds.length c] ∧ (ds = [] ∨ ∃ b off cells e fz, a = some ⟨b, off, none⟩ ∧ U b ∧ w.heap[b]? = some (.cells cells e fz) ∧ RelR U w es ds ((cells.toList.drop off).take (ds.length * es)))
  | .sl b n c, cs => cs = [.slice (some ⟨b, 0, none⟩) n c]
  | .ptr b es i _ o, cs => cs = [.pointer (some ⟨b, i * es + o, none⟩)]
  | _, _ => False
def RelF (U : Nat → Prop) (w : World) : List D → List Value → Prop
  | [], cs => cs = []
  | d :: ds, cs => ∃ c1 c2, cs = c1 ++ c2 ∧ RelC U w d c1 ∧ RelF U w ds c2
def RelR (U : Nat → Prop) (w : World) (es : Nat) : List D → List Value → Prop
  | [], cs => cs = []
  | d :: ds, cs => ∃ c1 c2, cs = c1 ++ c2 ∧ c1.length = es ∧ RelC U w d c1 ∧ RelR U w es ds c2
end

/-- The address of what is only read. -/
def RelP (U : Nat → Prop) (w : World) (d : D) (v : Value) : Prop := ∃ b off cells e fz, v = .pointer (some ⟨b, off, none⟩) ∧ U b ∧ w.heap[b]? = some (.cells cells e fz) ∧ off + d.len ≤ cells.size ∧ RelC U w d ((cells.toList.drop off).take d.len)
/-- Captured values, a cell each. -/
def RelL (U : Nat → Prop) (w : World) : List D → List Value → Prop
  | [], vs => vs = []
  | d :: ds, vs => ∃ v r, vs = v :: r ∧ d.isAgg = false ∧ (RelC U w d [v] ∨ ∃ c, d = .cref c ∧ RelP U w c v) ∧ RelL U w ds r
/-- Values of slots that lie in no memory. -/
def RelW (U : Nat → Prop) (w : World) : D → Value → Prop
  | .undef, v => v = undef
  | .any, _ => True
  | .agg fs, v => ∃ cs, v = .agg cs ∧ RelF U w fs cs.toList
  | .cref d, v => ∃ b off cells e fz, v = .pointer (some ⟨b, off, none⟩) ∧ U b ∧ w.heap[b]? = some (.cells cells e fz) ∧ off + d.len ≤ cells.size ∧ RelC U w d ((cells.toList.drop off).take d.len)
  | .fn f caps, v => ∃ cs, v = .func (.func f) #[] cs ∧ RelL U w caps cs.toList
  | d, v => RelC U w d [v]
def RelT (U : Nat → Prop) (w : World) : List D → List Value → Prop
  | [], vs => vs = []
  | d :: ds, vs => ∃ v r, vs = v :: r ∧ RelW U w d v ∧ RelT U w ds r
def RelV (U : Nat → Prop) (w : World) : D → Value → Prop
  | .tup ds, v => ∃ vs, v = .tuple vs ∧ RelT U w ds vs.toList
  | d, v => RelW U w d v

/-- U' and w' hold all that U and w tell. -/
structure Ext (U U' : Nat → Prop) (w w' : World) : Prop where
  u : ∀ b, U b → U' b
  heap : ∀ b, U b → w'.heap[b]? = w.heap[b]?

mutual
theorem RelC.mono {U U' : Nat → Prop} {w w' : World} (x : Ext U U' w w') : ∀ {d : D} {cs : List Value}, RelC U w d cs → RelC U' w' d cs
  | .int .., _, h | .bool .., _, h | .str .., _, h | .nil, _, h | .nilp, _, h | .sl .., _, h | .ptr .., _, h => by simpa [RelC] using h
  | .agg fs, cs, h => by
    simp only [RelC] at h ⊢
    exact RelF.mono x h
  | .ro es ds, cs, h => by
    simp only [RelC] at h ⊢
    obtain ⟨a, c, h1, h2⟩ := h
    refine ⟨a, c, h1, h2.imp id ?_⟩
    rintro ⟨b, off, cells, e, fz, h3, h4, h5, h6⟩
    exact ⟨b, off, cells, e, fz, h3, x.u _ h4, by rw [x.heap _ h4, h5], RelR.mono x h6⟩
  | .undef, _, h | .any, _, h | .lref .., _, h | .lsl .., _, h | .mp _, _, h | .lmp .., _, h | .cref _, _, h | .tup _, _, h | .fn .., _, h => by simp [RelC] at h
theorem RelF.mono {U U' : Nat → Prop} {w w' : World} (x : Ext U U' w w') : ∀ {ds : List D} {cs : List Value}, RelF U w ds cs → RelF U' w' ds cs
  | [], _, h => by simpa [RelF] using h
  | d :: ds, _, h => by
    simp only [RelF] at h ⊢
    obtain ⟨c1, c2, h1, h2, h3⟩ := h
    exact ⟨c1, c2, h1, RelC.mono x h2, RelF.mono x h3⟩
theorem RelR.mono {U U' : Nat → Prop} {w w' : World} {es : Nat} (x : Ext U U' w w') : ∀ {ds : List D} {cs : List Value}, RelR U w es ds cs → RelR U' w' es ds cs
  | [], _, h => by simpa [RelR] using h
  | d :: ds, _, h => by
    simp only [RelR] at h ⊢
    obtain ⟨c1, c2, h1, h2, h3, h4⟩ := h
    exact ⟨c1, c2, h1, h2, RelC.mono x h3, RelR.mono x h4⟩
end
theorem RelP.mono {U U' : Nat → Prop} {w w' : World} (x : Ext U U' w w') {d : D} {v : Value} (h : RelP U w d v) : RelP U' w' d v := by
  obtain ⟨b, off, cells, e, fz, h1, h2, h3, h4, h5⟩ := h
  exact ⟨b, off, cells, e, fz, h1, x.u _ h2, by rw [x.heap _ h2, h3], h4, RelC.mono x h5⟩
theorem RelL.mono {U U' : Nat → Prop} {w w' : World} (x : Ext U U' w w') : ∀ {ds : List D} {vs : List Value}, RelL U w ds vs → RelL U' w' ds vs
  | [], _, h => by simpa [RelL] using h
  | d :: ds, _, h => by
    simp only [RelL] at h ⊢
    obtain ⟨v, r, h1, h2, h3, h4⟩ := h
    exact ⟨v, r, h1, h2, h3.imp (fun q => q.mono x) (fun ⟨c, e, hp⟩ => ⟨c, e, hp.mono x⟩), RelL.mono x h4⟩
theorem RelW.mono {U U' : Nat → Prop} {w w' : World} (x : Ext U U' w w') {d : D} {v : Value} (h : RelW U w d v) : RelW U' w' d v := by
  cases d
  case agg fs => simp only [RelW] at h ⊢; obtain ⟨cs, h1, h2⟩ := h; exact ⟨cs, h1, RelF.mono x h2⟩
  case cref d =>
    simp only [RelW] at h ⊢
    obtain ⟨b, off, cells, e, fz, h1, h2, h3, h4, h5⟩ := h
    exact ⟨b, off, cells, e, fz, h1, x.u _ h2, by rw [x.heap _ h2, h3], h4, RelC.mono x h5⟩
  case fn f caps => simp only [RelW] at h ⊢; obtain ⟨cs, h1, h2⟩ := h; exact ⟨cs, h1, h2.mono x⟩
  all_goals (simp only [RelW] at h ⊢ <;> first | exact h | exact RelC.mono x h)
theorem RelT.mono {U U' : Nat → Prop} {w w' : World} (x : Ext U U' w w') : ∀ {ds : List D} {vs : List Value}, RelT U w ds vs → RelT U' w' ds vs
  | [], _, h => by simpa [RelT] using h
  | d :: ds, _, h => by
    simp only [RelT] at h ⊢
    obtain ⟨v, r, h1, h2, h3⟩ := h
    exact ⟨v, r, h1, h2.mono x, RelT.mono x h3⟩
theorem RelV.mono {U U' : Nat → Prop} {w w' : World} (x : Ext U U' w w') {d : D} {v : Value} (h : RelV U w d v) : RelV U' w' d v := by
  cases d
  case tup ds => simp only [RelV] at h ⊢; obtain ⟨vs, h1, h2⟩ := h; exact ⟨vs, h1, h2.mono x⟩
  all_goals (simp only [RelV] at h ⊢; exact RelW.mono x h)

mutual
theorem RelC.length {U : Nat → Prop} {w : World} : ∀ {d : D} {cs : List Value}, RelC U w d cs → cs.length = d.len
  | .int .., _, h | .bool .., _, h | .str .., _, h | .nil, _, h | .nilp, _, h | .sl .., _, h | .ptr .., _, h => by simp only [RelC] at h; simp [h, D.len]
  | .agg fs, cs, h => by simp only [RelC] at h; simp only [D.len]; exact RelF.length h
  | .ro es ds, cs, h => by simp only [RelC] at h; obtain ⟨a, c, h1, h2⟩ := h; simp [h1, D.len]
  | .undef, _, h | .any, _, h | .lref .., _, h | .lsl .., _, h | .mp _, _, h | .lmp .., _, h | .cref _, _, h | .tup _, _, h | .fn .., _, h => by simp [RelC] at h
theorem RelF.length {U : Nat → Prop} {w : World} : ∀ {ds : List D} {cs : List Value}, RelF U w ds cs → cs.length = D.lens ds
  | [], _, h => by simp only [RelF] at h; simp [h, D.lens]
  | d :: ds, _, h => by
    simp only [RelF] at h
    obtain ⟨c1, c2, rfl, h2, h3⟩ := h
    simp [D.lens, RelC.length h2, RelF.length h3]
end
theorem RelF.split {U : Nat → Prop} {w : World} : ∀ {ds : List D} {cs : List Value} {i : Nat} {d : D}, RelF U w ds cs → ds[i]? = some d → RelC U w d ((cs.drop (D.lens (ds.take i))).take d.len) ∧ D.lens (ds.take i) + d.len ≤ cs.length
  | d :: ds, cs, 0, d', h, hd => by
    simp only [RelF] at h
    obtain ⟨c1, c2, rfl, h2, h3⟩ := h
    simp at hd
    subst hd
    simp [D.lens, ← RelC.length h2, h2]
  | d :: ds, cs, i + 1, d', h, hd => by
    simp only [RelF] at h
    obtain ⟨c1, c2, rfl, h2, h3⟩ := h
    have := RelF.split (i := i) (d := d') h3 (by simpa using hd)
    simp only [List.take_succ_cons, D.lens, ← RelC.length h2, List.length_append]
    constructor
    · have e : (c1 ++ c2).drop (c1.length + D.lens (ds.take i)) = c2.drop (D.lens (ds.take i)) := by rw [← List.drop_drop, List.drop_left]
      rw [e]
      exact this.1
    · omega
  | [], _, _, _, _, hd => by simp at hd

theorem RelR.length {U : Nat → Prop} {w : World} {es : Nat} : ∀ {ds : List D} {cs : List Value}, RelR U w es ds cs → cs.length = ds.length * es
  | [], _, h => by simp only [RelR] at h; simp [h]
  | d :: ds, _, h => by
    simp only [RelR] at h
    obtain ⟨c1, c2, rfl, h1, h2, h3⟩ := h
    simp [h1, RelR.length h3, Nat.add_mul, Nat.add_comm]
theorem RelR.get {U : Nat → Prop} {w : World} {es : Nat} : ∀ {ds : List D} {cs : List Value} {i : Nat} {d : D}, RelR U w es ds cs → ds[i]? = some d → RelC U w d ((cs.drop (i * es)).take es) ∧ d.len = es ∧ i * es + es ≤ cs.length
  | d :: ds, cs, 0, d', h, hd => by
    simp only [RelR] at h
    obtain ⟨c1, c2, rfl, h1, h2, h3⟩ := h
    simp at hd
    subst hd
    simp [← h1, h2, ← RelC.length h2]
  | d :: ds, cs, i + 1, d', h, hd => by
    simp only [RelR] at h
    obtain ⟨c1, c2, rfl, h1, h2, h3⟩ := h
    have := RelR.get (i := i) (d := d') h3 (by simpa using hd)
    have e : (c1 ++ c2).drop ((i + 1) * es) = c2.drop (i * es) := by rw [Nat.add_mul, Nat.one_mul, Nat.add_comm, ← h1, ← List.drop_drop, List.drop_left]
    refine ⟨by rw [e]; exact this.1, this.2.1, ?_⟩
    have := this.2.2
    simp only [List.length_append, h1, Nat.add_mul]
    omega
  | [], _, _, _, _, hd => by simp at hd

/-! ### States -/
structure Row where
  elem : TypeId
  es : Nat
  cap : Nat
  ds : List D

structure St where
  fr : Nat → D
  gen : Nat → Nat
  lc : Nat → Option D
  hp : Nat → Option Row

def upd {α : Type} (f : Nat → α) (i : Nat) (v : α) : Nat → α := fun j => if j = i then v else f j
theorem upd_apply {α : Type} (f : Nat → α) (i : Nat) (v : α) (j : Nat) : upd f i v j = if j = i then v else f j := rfl

def St.put (st : St) (i : Nat) (d : D) : St := { st with fr := upd st.fr i d }
def St.box (st : St) (s : Nat) (d : D) : St := { st with gen := upd st.gen s (st.gen s + 1), lc := upd st.lc s (some d) }
def St.setLc (st : St) (s : Nat) (d : D) : St := { st with lc := upd st.lc s (some d) }
def St.setHp (st : St) (hp : Nat → Option Row) : St := { st with hp := hp }

def ofConst : Value → D
  | .int k n => .int k n
  | .bool b => .bool b
  | .string s => .str s
  | .slice none 0 0 => .nil
  | .pointer none => .nilp
  | _ => .any
def St.ev (st : St) : Operand → D
  | .tmp t => st.fr t
  | .const v => ofConst v
  | .global _ => .any
  | .func f => .fn f []

/-- What a function's activation keeps in mind: the world at its begin, what may be written of it, what it may read. -/
structure Fix where
  w0 : World
  U0 : Nat → Prop
  H0 : Nat → Prop
structure G where
  U : Nat → Prop
  lam : Nat → Nat

def RelS (g : G) (st : St) (w : World) : D → Value → Prop
  | .lref s gn _ o, v => gn ≤ st.gen s ∧ (gn = st.gen s → (st.lc s).isSome = true → v = .pointer (some ⟨g.lam s, o, none⟩))
  | .lsl s gn n c, v => gn ≤ st.gen s ∧ (gn = st.gen s → (st.lc s).isSome = true → v = .slice (some ⟨g.lam s, 0, none⟩) n c)
  | .lmp s gn, v => gn ≤ st.gen s ∧ (gn = st.gen s → (st.lc s).isSome = true → v = .map (some (g.lam s)))
  | d, v => RelV g.U w d v

/-- What lies in a local box, or in a local map. -/
def LocR (U : Nat → Prop) (w : World) (b : Nat) : D → Prop
  | .mp l => ∃ es clk, w.heap[b]? = some (.map es clk) ∧ es.toList.map (fun e => (e.key, e.val)) = l.map (fun p => (Value.string p.1, Value.bool p.2))
  | d => ∃ cells e, w.heap[b]? = some (.cells cells e (0, 0)) ∧ RelC U w d cells.toList
def D.mpB : D → Bool
  | .mp _ => true
  | _ => false
theorem LocR.cells {U : Nat → Prop} {w : World} {b : Nat} {d : D} (h : LocR U w b d) (hd : d.mpB = false) : ∃ cells e, w.heap[b]? = some (.cells cells e (0, 0)) ∧ RelC U w d cells.toList := by
  cases d <;> first | exact h | cases hd
theorem LocR.of {U : Nat → Prop} {w : World} {b : Nat} {d : D} {cells : Array Value} {e : TypeId} (h1 : w.heap[b]? = some (.cells cells e (0, 0))) (h2 : RelC U w d cells.toList) : LocR U w b d := by
  cases d
  case mp => simp [RelC] at h2
  all_goals exact ⟨cells, e, h1, h2⟩
theorem LocR.lt {U : Nat → Prop} {w : World} {b : Nat} {d : D} (h : LocR U w b d) : b < w.heap.size := by
  by_cases hd : d.mpB = true
  · cases d <;> first | (cases hd; done) | skip
    obtain ⟨_, _, h1, _⟩ := h
    exact (Array.getElem?_eq_some_iff.1 h1).1
  · obtain ⟨_, _, h1, _⟩ := h.cells (by simpa using hd)
    exact (Array.getElem?_eq_some_iff.1 h1).1
theorem LocR.mono {U U' : Nat → Prop} {w w' : World} (x : Ext U U' w w') {b : Nat} {d : D} (hb : w'.heap[b]? = w.heap[b]?) (h : LocR U w b d) : LocR U' w' b d := by
  by_cases hd : d.mpB = true
  · cases d <;> first | (cases hd; done) | skip
    obtain ⟨es, clk, h1, h2⟩ := h
    exact ⟨es, clk, by rw [hb, h1], h2⟩
  · obtain ⟨c, e, h1, h2⟩ := h.cells (by simpa using hd)
    exact .of (by rw [hb, h1]) (h2.mono x)
structure Keeps (H0 : Nat → Prop) (w w' : World) : Prop where
  os : w'.os = w.os
  tape : w'.tape = w.tape
  output : w'.output = w.output
  size : w.heap.size ≤ w'.heap.size
  block : ∀ k, k < w.heap.size → ¬ H0 k → w'.heap[k]? = w.heap[k]?

structure Holds (F : Fix) (n : Nat) (g : G) (st : St) (a : Act) (w : World) : Prop where
  size : a.tmps.size = n
  defers : a.defers = []
  slots : ∀ i, RelS g st w (st.fr i) (a.tmps.getD i undef)
  locs : ∀ s d, st.lc s = some d → LocR g.U w (g.lam s) d ∧ F.w0.heap.size ≤ g.lam s ∧ ¬ g.U (g.lam s) ∧ st.hp (g.lam s) = none
  linj : ∀ s s', (st.lc s).isSome = true → (st.lc s').isSome = true → g.lam s = g.lam s' → s = s'
  heap : ∀ b r, st.hp b = some r → ∃ cells, w.heap[b]? = some (.cells cells r.elem (0, 0)) ∧ cells.size = r.cap * r.es ∧ r.ds.length ≤ r.cap ∧ RelR g.U w r.es r.ds (cells.toList.take (r.ds.length * r.es)) ∧ ¬ g.U b ∧ (F.w0.heap.size ≤ b ∨ F.H0 b)
  uin : ∀ b, F.U0 b → g.U b
  ubd : ∀ b, g.U b → b < w.heap.size
  uout : ∀ b, g.U b → F.U0 b ∨ F.w0.heap.size ≤ b
  keep : Keeps F.H0 F.w0 w

inductive Ex where
  | normal
  | exit (id : Nat)
  | ret

abbrev Post := Ex → St → Prop
def lift (F : Fix) (n : Nat) (Q : Post) : Exit → Act → World → Prop
  | .normal, a, w => ∃ g st, Holds F n g st a w ∧ Q .normal st
  | .exit id, a, w => ∃ g st, Holds F n g st a w ∧ Q (.exit id) st
  | .ret, a, w => ∃ g st, Holds F n g st a w ∧ Q .ret st
  | _, _, _ => False
/-- In every world that fits the state, the code comes to what Q tells. -/
def Sem (P : Program) (n : Nat) (c : Code) (st : St) (Q : Post) : Prop := ∀ F g a w, Holds F n g st a w → c.wp P (lift F n Q) a w
end Go.Ab
namespace Go.Ab
open Go Go.RowKit

/-! ### What the program's tables tell -/
def aggB (P : Program) (t : TypeId) : Bool :=
  match P.underlying t with
  | some (.struct _) | some (.array _ _) => true
  | _ => false
def varOf (P : Program) (t : TypeId) : Option (Nat × Bool) :=
  match P.info? t, P.underlying t with
  | some i, some _ => some (i.size, aggB P t)
  | _, _ => none
def fldOf (P : Program) (t f : Nat) : Option (Nat × Nat × Bool) :=
  match P.underlying t with
  | some (.struct fs) => (fs[f]?).bind fun fd => (varOf P fd.type).map fun r => (fd.offset, r.1, r.2)
  | _ => none
def eltOf (P : Program) (t : TypeId) : Option Nat :=
  match P.underlying t with
  | some (.slice e) => (varOf P e).map (·.1)
  | _ => none

/-- A test: one way or the other. -/
structure Br (b : Bool) (A B : Prop) : Prop where
  yes : b = true → A
  no : b = false → B
theorem Br.congr {b b' : Bool} {A B : Prop} (h : b = b') : Br b A B = Br b' A B := by rw [h]
theorem Br_true (A B : Prop) : Br true A B = A := propext ⟨fun h => h.yes rfl, fun h => ⟨fun _ => h, fun e => Bool.noConfusion e⟩⟩
theorem Br_false (A B : Prop) : Br false A B = B := propext ⟨fun h => h.no rfl, fun h => ⟨fun e => Bool.noConfusion e, fun _ => h⟩⟩

mutual
/-- The part of a value behind a path of field numbers, and the cell where it begins. -/
def D.at : D → List Nat → Option (D × Nat)
  | d, [] => some (d, 0)
  | .agg fs, i :: p => D.ats fs i p
  | _, _ :: _ => none
def D.ats : List D → Nat → List Nat → Option (D × Nat)
  | [], _, _ => none
  | d :: _, 0, p => d.at p
  | d :: ds, i + 1, p => (D.ats ds i p).map fun r => (r.1, d.len + r.2)
end
mutual
def D.set : D → List Nat → D → Option D
  | d, [], x => if d.len = x.len ∧ d.isAgg = x.isAgg then some x else none
  | .agg fs, i :: p, x => (D.sets fs i p x).map .agg
  | _, _ :: _, _ => none
def D.sets : List D → Nat → List Nat → D → Option (List D)
  | [], _, _, _ => none
  | d :: ds, 0, p, x => (d.set p x).map (· :: ds)
  | d :: ds, i + 1, p, x => (D.sets ds i p x).map (d :: ·)
end

def isPtr (P : Program) (t : TypeId) : Bool :=
  match P.underlying t with
  | some (.pointer _) => true
  | _ => false
def xpn (op : BinOp) (r : Bool) (K : D → Prop) : Prop :=
  match op with
  | .eql => K (.bool r)
  | .neq => K (.bool (!r))
  | _ => False
def xbin (P : Program) (op : BinOp) (t : TypeId) : D → D → (D → Prop) → Prop
  | .int k a, .int k' b, K =>
    if k = k' then
      match op with
      | .add => K (.int k (k.wrap (a + b)))
      | .sub => K (.int k (k.wrap (a - b)))
      | .mul => K (.int k (k.wrap (a * b)))
      | .quo => b ≠ 0 ∧ K (.int k (k.wrap (a.tdiv b)))
      | .rem => b ≠ 0 ∧ K (.int k (a.tmod b))
      | .eql => K (.bool (a == b))
      | .neq => K (.bool (a != b))
      | .lss => K (.bool (decide (a < b)))
      | .leq => K (.bool (decide (a ≤ b)))
      | .gtr => K (.bool (decide (a > b)))
      | .geq => K (.bool (decide (a ≥ b)))
      | _ => False
    else False
  | .str a, .str b, K =>
    match op with
    | .add => ¬ (((a.size + b.size : Nat) : Int) > IntKind.i64.max) ∧ K (.str (a ++ b))
    | .eql => K (.bool (a.toList == b.toList))
    | .neq => K (.bool (!(a.toList == b.toList)))
    | .lss => K (.bool (Op.bytesLess a.toList b.toList))
    | .leq => K (.bool (Op.bytesLess a.toList b.toList || a.toList == b.toList))
    | .gtr => K (.bool (!(Op.bytesLess a.toList b.toList || a.toList == b.toList)))
    | .geq => K (.bool (!Op.bytesLess a.toList b.toList))
    | _ => False
  | .bool a, .bool b, K =>
    P.underlying t = some .bool ∧
    match op with
    | .eql => K (.bool (a == b))
    | .neq => K (.bool (!(a == b)))
    | _ => False
  | .nilp, .nilp, K => isPtr P t = true ∧ xpn op true K
  | .cref _, .nilp, K => isPtr P t = true ∧ xpn op false K
  | .nilp, .cref _, K => isPtr P t = true ∧ xpn op false K
  | _, _, _ => False
end Go.Ab
namespace Go.Ab
open Go Go.RowKit
/-! ### Maps from texts to truth values -/
def kfind (k : ByteArray) : List (ByteArray × Bool) → Nat → Option (Nat × Bool)
  | [], _ => none
  | (a, v) :: l, i => if k == a then some (i, v) else kfind k l (i + 1)
def kget (l : List (ByteArray × Bool)) (k : ByteArray) : Bool := ((kfind k l 0).map (·.2)).getD false
def kset (l : List (ByteArray × Bool)) (k : ByteArray) (v : Bool) : List (ByteArray × Bool) := match kfind k l 0 with
  | some (i, _) => l.set i (k, v)
  | none => l ++ [(k, v)]
def MapR (es : List MapEntry) (l : List (ByteArray × Bool)) : Prop := es.map (fun e => (e.key, e.val)) = l.map (fun p => (Value.string p.1, Value.bool p.2))
theorem findNow_str {k : ByteArray} : ∀ {es : List MapEntry} {l : List (ByteArray × Bool)} {i : Nat}, MapR es l → Instr.findNow .string (.string k) es i = some ((kfind k l i).map fun p => (p.1, Value.bool p.2))
  | [], [], i, _ => rfl
  | [], _ :: _, i, h => by simp [MapR] at h
  | _ :: _, [], i, h => by simp [MapR] at h
  | e :: es, (a, v) :: l, i, h => by
    simp only [MapR, List.map_cons, List.cons.injEq, Prod.mk.injEq] at h
    obtain ⟨⟨h1, h2⟩, h3⟩ := h
    unfold Instr.findNow kfind
    rw [h1]
    simp only [Instr.sameNow]
    cases hq : (k == a) with
    | true => simp [h2]
    | false => simp [findNow_str (i := i + 1) (show MapR es l from h3)]
def mapStrB (P : Program) (t : TypeId) : Bool := match P.underlying t with
  | some (.map k e) => (match P.underlying k with
    | some .string => true
    | _ => false) && (match P.info? e with
    | some i => (match i.zero with
      | some (.bool false) => true
      | _ => false)
    | none => false)
  | _ => false
theorem mapStrB_spec {P : Program} {t : TypeId} (h : mapStrB P t = true) : ∃ k e i, P.underlying t = some (.map k e) ∧ P.underlying k = some .string ∧ P.info? e = some i ∧ i.zero = some (.bool false) := by
  unfold mapStrB at h
  split at h
  · rename_i k e hu
    simp only [Bool.and_eq_true] at h
    obtain ⟨h1, h2⟩ := h
    split at h1
    · rename_i hk
      split at h2
      · rename_i i hi
        split at h2
        · rename_i hz
          exact ⟨k, e, i, hu, hk, hi, hz⟩
        · cases h2
      · cases h2
    · cases h1
  · cases h
section
variable {P : Program} {w : World}
theorem run_getObj_map {r : Nat} {es : Array MapEntry} {clk : Nat} (h : w.heap[r]? = some (.map es clk)) : (getObj r).run P w = .ok (.map es clk) w := by
  simp [getObj, Sem.run, h]
theorem run_setObj_map {r : Nat} {es : Array MapEntry} {clk : Nat} {o : Obj} (h : w.heap[r]? = some (.map es clk)) : (setObj r o).run P w = .ok () { w with heap := w.heap.setIfInBounds r o } := by
  simp [setObj, Sem.run, h]
theorem run_checkKey_str {b : Bool} {kt : TypeId} {k : ByteArray} (hk : P.underlying kt = some .string) : (Instr.checkKey b 10000 kt (.string k)).run P w = .ok () w := by
  unfold Instr.checkKey
  simp [Sem.run_bind, run_underlying hk]
theorem run_lookup_str {t : TypeId} {r : Nat} {es : Array MapEntry} {clk : Nat} {l : List (ByteArray × Bool)} {k : ByteArray} (ht : mapStrB P t = true) (h : w.heap[r]? = some (.map es clk)) (hl : MapR es.toList l) :
    (Instr.lookup t (.map (some r)) (.string k) false).run P w = .ok (.bool (kget l k)) w := by
  obtain ⟨kt, et, i, hu, hk, hi, hz⟩ := mapStrB_spec ht
  unfold Instr.lookup
  have hf : (Instr.findKey kt (.string k) es.toList).run P w = .ok ((kfind k l 0).map fun p => (p.1, Value.bool p.2)) w := by
    unfold Instr.findKey
    simp [Sem.run_bind, run_underlying hk, findNow_str hl]
  simp only [Sem.run_bind, run_underlying hu, Result.andThen_ok, run_getObj_map h, run_checkKey_str hk, hf, Sem.run_pure]
  unfold kget
  cases hq : kfind k l 0 with
  | none => simp [zeroValue, typeInfo, hi, hz, Sem.run_bind]
  | some p => obtain ⟨j, v⟩ := p; simp
theorem kfind_spec {k : ByteArray} : ∀ {l : List (ByteArray × Bool)} {j i : Nat} {v : Bool}, kfind k l j = some (i, v) → ∃ a, j ≤ i ∧ l[i - j]? = some (a, v) ∧ k = a
  | [], j, i, v, h => by simp [kfind] at h
  | (a, x) :: l, j, i, v, h => by
    unfold kfind at h
    split at h
    · rename_i hq
      simp only [Option.some.injEq, Prod.mk.injEq] at h
      obtain ⟨rfl, rfl⟩ := h
      exact ⟨a, Nat.le_refl _, by simp, (Go.MapKept.bytes_beq _ _).1 hq⟩
    · obtain ⟨b, h1, h2, h3⟩ := kfind_spec h
      refine ⟨b, by omega, ?_, h3⟩
      have e : i - j = (i - (j + 1)) + 1 := by omega
      rw [e]
      simpa using h2
theorem run_update_str {t : TypeId} {r : Nat} {es : Array MapEntry} {clk : Nat} {l : List (ByteArray × Bool)} {k : ByteArray} {v : Bool} (ht : mapStrB P t = true) (h : w.heap[r]? = some (.map es clk)) (hl : MapR es.toList l) :
    ∃ es' clk', (Instr.mapUpdate t (.map (some r)) (.string k) (.bool v)).run P w = .ok () { w with heap := w.heap.setIfInBounds r (.map es' clk') } ∧ MapR es'.toList (kset l k v) := by
  obtain ⟨kt, et, i, hu, hk, hi, hz⟩ := mapStrB_spec ht
  have hf : (Instr.findKey kt (.string k) es.toList).run P w = .ok ((kfind k l 0).map fun p => (p.1, Value.bool p.2)) w := by
    unfold Instr.findKey
    simp [Sem.run_bind, run_underlying hk, findNow_str hl]
  unfold kset
  cases hq : kfind k l 0 with
  | none =>
    refine ⟨es.push { key := .string k, val := .bool v, born := clk }, clk + 1, ?_, ?_⟩
    · unfold Instr.mapUpdate
      simp only [Sem.run_bind, run_underlying hu, Result.andThen_ok, run_getObj_map h, run_checkKey_str hk, hf, hq, Option.map_none, run_setObj_map h]
    · simp only [MapR] at hl ⊢
      simp [hl]
  | some p =>
    obtain ⟨j, v0⟩ := p
    obtain ⟨a, _, h2, h3⟩ := kfind_spec hq
    subst h3
    simp only [Nat.sub_zero] at h2
    have hej : ∃ e, es[j]? = some e ∧ e.key = .string k := by
      have h4 : (es.toList.map (fun e => (e.key, e.val)))[j]? = some (.string k, .bool v0) := by
        rw [show es.toList.map (fun e => (e.key, e.val)) = _ from hl]
        simp [h2]
      simp only [List.getElem?_map, Option.map_eq_some_iff, Prod.mk.injEq] at h4
      obtain ⟨e, h5, h6, _⟩ := h4
      exact ⟨e, by simpa using h5, h6⟩
    obtain ⟨e, he1, he2⟩ := hej
    refine ⟨es.modify j fun e => { e with key := .string k, val := .bool v }, clk, ?_, ?_⟩
    · have hs : (Instr.keyThatStays (.string k) (.string k)).run P w = .ok (.string k) w := by
        unfold Instr.keyThatStays
        have hb : Instr.sameBits 10000 (.string k) (.string k) = true := (Go.MapKept.bytes_beq k k).2 rfl
        simp [hb]
      unfold Instr.mapUpdate
      simp only [Sem.run_bind, run_underlying hu, Result.andThen_ok, run_getObj_map h, run_checkKey_str hk, hf, hq, Option.map_some, he1, he2, Option.getD_some, hs, run_setObj_map h]
    · simp only [MapR] at hl ⊢
      apply List.ext_getElem?
      intro m
      have hl' : ∀ m : Nat, (es[m]?).map (fun e => (e.key, e.val)) = (l[m]?).map (fun p => (Value.string p.1, Value.bool p.2)) := fun m => by
        have := congrArg (fun x => x[m]?) hl
        simpa using this
      by_cases hm : j = m
      · subst hm
        have hjl : j < l.length := (List.getElem?_eq_some_iff.1 h2).1
        simp [Array.getElem?_modify, he1, hjl]
      · simp [Array.getElem?_modify, hm, List.getElem?_set_ne hm, hl' m]
end
end Go.Ab
namespace Go.Ab
open Go Go.RowKit

def D.memB : D → Bool
  | .undef | .any | .lref .. | .lsl .. | .cref _ | .tup _ | .fn .. | .mp _ | .lmp .. => false
  | _ => true
def byteAt (s : ByteArray) (i : Nat) : Int := ((s.data.getD i 0).toNat : Int)

/-- An address: is it known. -/
def xaddr (st : St) : D → Prop → Prop
  | .lref s g _ _, p => g = st.gen s ∧ (st.lc s).isSome = true ∧ p
  | .cref _, p => p
  | .ptr .., p => p
  | _, _ => False
def xfield (st : St) (off sz : Nat) (f : Nat) : D → (D → Prop) → Prop
  | .lref s g p o, K => g = st.gen s ∧ (st.lc s).isSome = true ∧ K (.lref s g (p ++ [f]) (o + off))
  | .ptr b es i p o, K => K (.ptr b es i (p ++ [f]) (o + off))
  | .cref (.agg fs), K => match fs[f]? with
    | some d => D.lens (fs.take f) = off ∧ d.len = sz ∧ K (.cref d)
    | none => False
  | _, _ => False
def xidx (st : St) (es : Nat) : D → D → (D → Prop) → Prop
  | .ro es' ds, .int _ n, K => es = es' ∧ es ≠ 0 ∧ 0 ≤ n ∧ n < ds.length ∧ K (.cref (ds.getD n.toNat .any))
  | .sl b len _, .int _ n, K => 0 ≤ n ∧ n < len ∧ K (.ptr b es n.toNat [] 0)
  | .lsl s g len _, .int _ n, K => g = st.gen s ∧ (st.lc s).isSome = true ∧ 0 ≤ n ∧ n < len ∧ K (.lref s g [n.toNat] (n.toNat * es))
  | _, _, _ => False
def xpart (sz : Nat) (ag : Bool) (o : Nat) (r : Option (D × Nat)) (K : D → Prop) : Prop :=
  match r with
  | some (d, o') => o' = o ∧ d.len = sz ∧ d.isAgg = ag ∧ K d
  | none => False
def xload (st : St) (sz : Nat) (ag : Bool) : D → (D → Prop) → Prop
  | .cref d, K => d.len = sz ∧ d.isAgg = ag ∧ K d
  | .lref s g p o, K => g = st.gen s ∧ match st.lc s with
    | some c => c.mpB = false ∧ xpart sz ag o (c.at p) K
    | none => False
  | .ptr b es i p o, K => match st.hp b with
    | some r => r.es = es ∧ xpart sz ag o ((r.ds[i]?).bind (·.at p)) K
    | none => False
  | _, _ => False
def xlen (st : St) : D → (D → Prop) → Prop
  | .str s, K => K (.int .i64 s.size)
  | .nil, K => K (.int .i64 0)
  | .ro _ ds, K => K (.int .i64 ds.length)
  | .sl _ n _, K => K (.int .i64 n)
  | .lsl s g n _, K => g = st.gen s ∧ (st.lc s).isSome = true ∧ K (.int .i64 n)
  | _, _ => False
def lenTy (P : Program) (t : Option TypeId) : D → Prop
  | .str _ => t.bind P.underlying = some .string
  | _ => ∃ e, t.bind P.underlying = some (.slice e)

/-- What an operation that neither writes nor makes memory yields. -/
def xlk (st : St) : D → D → (D → Prop) → Prop
  | .lmp s g, .str k, K => g = st.gen s ∧ match st.lc s with
    | some (.mp l) => K (.bool (kget l k))
    | _ => False
  | _, _, _ => False
def D.capB : D → Bool
  | .cref _ => true
  | d => d.memB && !d.isAgg
def xpure (P : Program) (st : St) (K : D → Prop) : Op → Prop
  | .move x | .assign x => K (st.ev x)
  | .pick c a b => match st.ev c with
    | .bool t => Br t (K (st.ev a)) (K (st.ev b))
    | _ => False
  | .nilCheck x => xaddr st (st.ev x) (K (st.ev x))
  | .binOp op t x y _ => xbin P op t (st.ev x) (st.ev y) K
  | .unOp op _ x => match op, st.ev x with
    | .not, .bool b => K (.bool !b)
    | .neg, .int k n => K (.int k (k.wrap (0 - n)))
    | _, _ => False
  | .convert s d x => match st.ev x with
    | .int _ n => (P.underlying s).isSome = true ∧ ∃ k, P.underlying d = some (.int k) ∧ K (.int k (k.wrap n))
    | .str b => (P.underlying s).isSome = true ∧ P.underlying d = some .string ∧ K (.str b)
    | _ => False
  | .fieldAddr t x f => match fldOf P t f with
    | some (off, sz, _) => sz ≠ 0 ∧ xfield st off sz f (st.ev x) K
    | none => False
  | .field t x f => match fldOf P t f, st.ev x with
    | some (off, sz, ag), .agg fs => match fs[f]? with
      | some d => D.lens (fs.take f) = off ∧ d.len = sz ∧ d.isAgg = ag ∧ K d
      | none => False
    | _, _ => False
  | .indexAddr t x i => match eltOf P t with
    | some es => xidx st es (st.ev x) (st.ev i) K
    | none => False
  | .index t x i => match st.ev x, st.ev i with
    | .str s, .int _ n => P.underlying t = some .string ∧ 0 ≤ n ∧ n < s.size ∧ K (.int .u8 (byteAt s n.toNat))
    | _, _ => False
  | .load t x => match varOf P t with
    | some (sz, ag) => xload st sz ag (st.ev x) K
    | none => False
  | .extract x i => match st.ev x with
    | .tup ds => match ds[i]? with
      | some d => K d
      | none => False
    | _ => False
  | .makeFunc fn first caps => match fn with
    | .func f => first = #[] ∧ (caps.toList.map st.ev).all D.capB = true ∧ K (.fn f (caps.toList.map st.ev))
    | _ => False
  | .lookup t x i ok => ok = false ∧ mapStrB P t = true ∧ xlk st (st.ev x) (st.ev i) K
  | .call c => match c.callee with
    | .builtin .len => match c.args[0]? with
      | some x => lenTy P c.argTypes[0]? (st.ev x) ∧ xlen st (st.ev x) K
      | none => False
    | _ => False
  | _ => False

theorem RelW.of_mem {U : Nat → Prop} {w : World} {d : D} {v : Value} (h : RelW U w d v) (hm : d.memB = true) : RelC U w d v.cells.toList := by
  cases d <;> simp [D.memB] at hm
  case agg fs => obtain ⟨cs, rfl, h⟩ := h; simpa [RelC, Value.cells] using h
  case ro es ds =>
    have h' : RelC U w (.ro es ds) [v] := h
    have : ∃ a c, v = .slice a ds.length c := by simp only [RelC] at h'; obtain ⟨a, c, h1, _⟩ := h'; simp at h1; exact ⟨a, c, h1⟩
    obtain ⟨a, c, rfl⟩ := this
    simpa [Value.cells] using h'
  all_goals (have h' : RelC U w _ [v] := h; simp only [RelC, List.cons.injEq, and_true] at h'; subst h'; simp [Value.cells, RelC])
theorem RelW.of_cells {U : Nat → Prop} {w : World} {d : D} {cs : List Value} (h : RelC U w d cs) : RelW U w d (if d.isAgg then .agg cs.toArray else cs.headD undef) := by
  cases d
  case agg fs => simp only [RelC] at h; simp only [RelW, D.isAgg, if_true]; exact ⟨_, rfl, by simpa using h⟩
  case ro es ds =>
    have h' := h
    simp only [RelC] at h
    obtain ⟨a, c, rfl, h2⟩ := h
    simpa [RelW, D.isAgg] using h'
  case undef | any | lref | lsl | cref | tup | fn | mp | lmp => simp [RelC] at h
  all_goals (simp only [RelC] at h; subst h; simp [RelW, D.isAgg, RelC])

theorem RelS.of_V {g : G} {st : St} {w : World} {d : D} {v : Value} (h : RelV g.U w d v) (hl : d.frB = false) : RelS g st w d v := by
  cases d <;> first | exact h | (simp [D.frB] at hl)
theorem RelS.toV {g : G} {st : St} {w : World} {d : D} {v : Value} (h : RelS g st w d v) (hl : d.frB = false) : RelV g.U w d v := by
  cases d <;> first | exact h | (simp [D.frB] at hl)

section
variable {P : Program} {F : Fix} {n : Nat} {g : G} {st : St} {a : Act} {w : World}
theorem ofConst_rel (U : Nat → Prop) (w : World) (v : Value) : RelV U w (ofConst v) v := by
  unfold ofConst
  split <;> simp [RelV, RelW, RelC]
theorem ofConst_nolref (v : Value) : (ofConst v).frB = false := by
  unfold ofConst
  split <;> rfl
theorem Holds.ev (h : Holds F n g st a w) (x : Operand) : RelS g st w (st.ev x) (a.eval x) := by
  cases x with
  | tmp t => exact h.slots t
  | const v => exact RelS.of_V (ofConst_rel _ _ _) (ofConst_nolref v)
  | global t => simp [St.ev, RelS, RelV, RelW]
  | func f => exact ⟨#[], rfl, by simp [RelL]⟩

theorem Holds.evV (h : Holds F n g st a w) (x : Operand) (hl : (st.ev x).frB = false) : RelV g.U w (st.ev x) (a.eval x) := (h.ev x).toV hl

theorem heap_of_below {w w' : World} (hb : Below w.heap.size w w') {b : Nat} {o : Obj} (h : w.heap[b]? = some o) : w'.heap[b]? = some o := by
  rw [hb.block b, h]
  exact (Array.getElem?_eq_some_iff.1 h).1
theorem run_isAgg {t : TypeId} {d : TypeDesc} (hu : P.underlying t = some d) (w : World) : (isAgg t).run P w = .ok (aggB P t) w := by
  unfold isAgg aggB
  simp only [Sem.run_bind, run_underlying hu, Result.andThen_ok, hu]
  cases d <;> rfl
theorem varOf_info {t : TypeId} {sz : Nat} {ag : Bool} (ht : varOf P t = some (sz, ag)) : ∃ i d, P.info? t = some i ∧ P.underlying t = some d ∧ i.size = sz ∧ aggB P t = ag := by
  unfold varOf at ht
  cases hi : P.info? t with
  | none => simp [hi] at ht
  | some i =>
    cases hu : P.underlying t with
    | none => simp [hi, hu] at ht
    | some d =>
      simp only [hi, hu, Option.some.injEq, Prod.mk.injEq] at ht
      exact ⟨i, d, rfl, rfl, ht.1, ht.2⟩
theorem headD_take_drop (l : List Value) (off : Nat) (u : Value) : ((l.drop off).take 1).headD u = (l[off]?).getD u := by
  induction l generalizing off with
  | nil => simp
  | cons x l ih => cases off with | zero => simp | succ k => simpa using ih k
/-- The run of a load of a known stretch of cells. -/
theorem run_loadVar_cells (w : World) (b off : Nat) (cells : Array Value) (e : TypeId) (fz : Nat × Nat) (hc : w.heap[b]? = some (.cells cells e fz)) (t : TypeId) {sz : Nat} {ag : Bool} (ht : varOf P t = some (sz, ag))
    (hsz : off + sz ≤ cells.size) (h1 : ag = false → sz = 1) :
    (loadVar t ⟨b, off, none⟩).run P w = .ok (if ag then .agg ((cells.toList.drop off).take sz).toArray else ((cells.toList.drop off).take sz).headD undef) w := by
  obtain ⟨i, d, hi, hu, rfl, rfl⟩ := varOf_info ht
  have hcell : ∀ j, off + j < cells.size → w.cell? ⟨b, off + j, none⟩ = cells[off + j]? := fun j _ => by simp [World.cell?, hc]
  have hl : ∀ j v, ((cells.toList.drop off).take i.size)[j]? = some v → w.cell? ((⟨b, off, none⟩ : Addr).add j) = some v := fun j v hv => by
    have e : ((⟨b, off, none⟩ : Addr).add j) = ⟨b, off + j, none⟩ := by unfold Addr.add; split <;> simp_all
    rw [List.getElem?_take] at hv
    split at hv
    · rw [List.getElem?_drop] at hv
      rw [e]
      simp [World.cell?, hc, ← hv]
    · cases hv
  have hlen : ((cells.toList.drop off).take i.size).length = i.size := by simp; omega
  have hL := run_loadCells_list (P := P) w ⟨b, off, none⟩ _ hl
  rw [hlen] at hL
  unfold loadVar
  simp only [Sem.run_bind, run_isAgg hu, Result.andThen_ok]
  by_cases hA : aggB P t = true
  · simp [hA, sizeOf, typeInfo, hi, hL]
  · have hA' : aggB P t = false := by simpa using hA
    have h1' := h1 hA'
    have hone : w.cell? ⟨b, off, none⟩ = some (((cells.toList.drop off).take i.size).headD undef) := by
      have := hcell 0 (by omega)
      have hlt : off < cells.size := by omega
      simp only [Nat.add_zero] at this
      rw [this, h1', headD_take_drop]
      simp [hlt]
    simp [hA', run_load, hone]
end
end Go.Ab
namespace Go.Ab
open Go Go.RowKit

theorem drop_take_drop (l : List Value) (a b m n : Nat) (h : b + n ≤ m) : ((((l.drop a).take m).drop b).take n) = (l.drop (a + b)).take n := by
  rw [List.drop_take, List.take_take, List.drop_drop]
  congr 1
  omega
mutual
theorem RelC.at {U : Nat → Prop} {w : World} : ∀ {d : D} {cs : List Value} {p : List Nat} {d' : D} {o : Nat}, RelC U w d cs → d.at p = some (d', o) → RelC U w d' ((cs.drop o).take d'.len) ∧ o + d'.len ≤ cs.length
  | d, cs, [], d', o, h, e => by
    have : d = d' ∧ o = 0 := by cases d <;> (simp only [D.at, Option.some.injEq, Prod.mk.injEq] at e; exact ⟨e.1, e.2.symm⟩)
    obtain ⟨rfl, rfl⟩ := this
    have := h.length
    simp only [List.drop_zero, ← this, List.take_length, Nat.zero_add]
    exact ⟨h, Nat.le_refl _⟩
  | .agg fs, cs, i :: p, d', o, h, e => by
    simp only [RelC] at h
    simp only [D.at] at e
    exact RelF.ats h e
  | .undef, _, _ :: _, _, _, h, e | .any, _, _ :: _, _, _, h, e | .int .., _, _ :: _, _, _, h, e | .bool .., _, _ :: _, _, _, h, e | .str .., _, _ :: _, _, _, h, e | .nil, _, _ :: _, _, _, h, e | .nilp, _, _ :: _, _, _, h, e | .ro .., _, _ :: _, _, _, h, e | .sl .., _, _ :: _, _, _, h, e | .ptr .., _, _ :: _, _, _, h, e | .lref .., _, _ :: _, _, _, h, e | .lsl .., _, _ :: _, _, _, h, e | .mp _, _, _ :: _, _, _, h, e | .lmp .., _, _ :: _, _, _, h, e | .cref .., _, _ :: _, _, _, h, e | .tup .., _, _ :: _, _, _, h, e | .fn .., _, _ :: _, _, _, h, e => by simp [D.at] at e
theorem RelF.ats {U : Nat → Prop} {w : World} : ∀ {ds : List D} {cs : List Value} {i : Nat} {p : List Nat} {d' : D} {o : Nat}, RelF U w ds cs → D.ats ds i p = some (d', o) → RelC U w d' ((cs.drop o).take d'.len) ∧ o + d'.len ≤ cs.length
  | [], _, _, _, _, _, _, e => by simp [D.ats] at e
  | d :: ds, cs, 0, p, d', o, h, e => by
    simp only [RelF] at h
    obtain ⟨c1, c2, rfl, h1, h2⟩ := h
    simp only [D.ats] at e
    obtain ⟨h3, h4⟩ := RelC.at h1 e
    refine ⟨?_, by simp; omega⟩
    rw [List.drop_append_of_le_length (by omega), List.take_append_of_le_length (by simp; omega)]
    exact h3
  | d :: ds, cs, i + 1, p, d', o, h, e => by
    simp only [RelF] at h
    obtain ⟨c1, c2, rfl, h1, h2⟩ := h
    simp only [D.ats] at e
    cases hr : D.ats ds i p with
    | none => simp [hr] at e
    | some r =>
      simp only [hr, Option.map_some, Option.some.injEq, Prod.mk.injEq] at e
      obtain ⟨rfl, rfl⟩ := e
      obtain ⟨h3, h4⟩ := RelF.ats (d' := r.1) (o := r.2) h2 hr
      have hl := h1.length
      refine ⟨?_, by simp; omega⟩
      rw [← hl, ← List.drop_drop, List.drop_left]
      exact h3
end

section
variable {P : Program} {F : Fix} {n : Nat} {g : G} {st : St} {a : Act} {w : World}

/-- What is told of an operation that neither writes nor makes memory: its value, in every world in which what was there is still there. -/
def Yld (P : Program) (g : G) (st : St) (a : Act) (w : World) (o : Oper) (K : D → Prop) : Prop :=
  ∃ d v, K d ∧ RelS g st w d v ∧ ∀ w', Below w.heap.size w w' → (execOp a.eval o).run P w' = .ok (.value v) w'

theorem xaddr_sound (h : Holds F n g st a w) {d : D} {v : Value} {p : Prop} (hr : RelS g st w d v) (hx : xaddr st d p) : p ∧ ∃ ad, v = .pointer (some ad) := by
  cases d <;> simp only [xaddr] at hx
  case lref s gn q o => exact ⟨hx.2.2, _, hr.2 hx.1 hx.2.1⟩
  case cref d => obtain ⟨b, off, cells, e, fz, h1, _⟩ := hr; exact ⟨hx, _, h1⟩
  case ptr b es i q o =>
    have : v = .pointer (some ⟨b, i * es + o, none⟩) := by simpa [RelS, RelV, RelW, RelC] using hr
    exact ⟨hx, _, this⟩

theorem equalIn_bool {t : TypeId} (ht : P.underlying t = some .bool) (d : Nat) (p q : Bool) (w' : World) : (Op.equalIn (d + 1) t (.bool p) (.bool q)).run P w' = .ok (p == q) w' := by
  simp only [Op.equalIn, Sem.run_bind, run_underlying ht, Result.andThen_ok]
  rfl
theorem ptr_eq {op : BinOp} {t : TypeId} {r : Bool} {K : D → Prop} (ht : isPtr P t = true) (h : xpn op r K) (ox oy : Operand) (p q : Option Addr) (hr : (p = none ∧ q = none ∧ r = true) ∨ (p.isSome = true ∧ q = none ∧ r = false) ∨ (p = none ∧ q.isSome = true ∧ r = false)) :
    ∃ d v, K d ∧ RelS g st w d v ∧ ∀ w', (do eqGuard op t ox oy (.pointer p) (.pointer q); binOp op t (.pointer p) (.pointer q) : Go.Sem Value).run P w' = .ok v w' := by
  unfold isPtr at ht
  split at ht
  · rename_i e hu
    have hg : ∀ w', (eqGuard op t ox oy (.pointer p) (.pointer q)).run P w' = .ok () w' := fun w' => by unfold eqGuard; split <;> rfl
    have he : ∀ w', (Op.equal t (.pointer p) (.pointer q)).run P w' = .ok r w' := fun w' => by
      unfold Op.equal Op.maxDepth Op.equalIn
      rcases hr with ⟨rfl, rfl, rfl⟩ | ⟨h1, rfl, rfl⟩ | ⟨rfl, h1, rfl⟩
      · simp [Sem.run_bind, run_underlying hu]
      · obtain ⟨a, rfl⟩ := Option.isSome_iff_exists.1 h1
        simp [Sem.run_bind, run_underlying hu]
      · obtain ⟨a, rfl⟩ := Option.isSome_iff_exists.1 h1
        simp [Sem.run_bind, run_underlying hu]
    cases op <;> simp only [xpn] at h
    case eql => exact ⟨_, _, h, rfl, fun w' => by simp [Sem.run_bind, hg, binOp, he]⟩
    case neq => exact ⟨_, _, h, rfl, fun w' => by simp [Sem.run_bind, hg, binOp, he]⟩
  · cases ht
theorem xbin_sound {op : BinOp} {t : TypeId} {x y : D} {vx vy : Value} {K : D → Prop} (hx : RelS g st w x vx) (hy : RelS g st w y vy) (h : xbin P op t x y K) (ox oy : Operand) :
    ∃ d v, K d ∧ RelS g st w d v ∧ ∀ w', (do eqGuard op t ox oy vx vy; binOp op t vx vy : Go.Sem Value).run P w' = .ok v w' := by
  cases x <;> cases y <;> simp only [xbin] at h
  case int.int k p k' q =>
    obtain rfl : vx = .int k p := by simpa [RelS, RelV, RelW, RelC] using hx
    obtain rfl : vy = .int k' q := by simpa [RelS, RelV, RelW, RelC] using hy
    split at h
    · rename_i hk
      subst hk
      have hg : ∀ w', (eqGuard op t ox oy (.int k p) (.int k q)).run P w' = .ok () w' := fun w' => by unfold eqGuard; split <;> rfl
      cases op <;> simp only at h
      case add => exact ⟨_, _, h, rfl, fun w' => by simp [Sem.run_bind, hg, binOp, Op.intArith]⟩
      case sub => exact ⟨_, _, h, rfl, fun w' => by simp [Sem.run_bind, hg, binOp, Op.intArith]⟩
      case mul => exact ⟨_, _, h, rfl, fun w' => by simp [Sem.run_bind, hg, binOp, Op.intArith]⟩
      case quo => exact ⟨_, _, h.2, rfl, fun w' => by simp [Sem.run_bind, hg, binOp, Op.intDiv, h.1]⟩
      case rem => exact ⟨_, _, h.2, rfl, fun w' => by simp [Sem.run_bind, hg, binOp, Op.intDiv, h.1]⟩
      all_goals exact ⟨_, _, h, rfl, fun w' => by simp [Sem.run_bind, hg, binOp, Op.intCmp]⟩
    · exact h.elim
  case str.str p q =>
    obtain rfl : vx = .string p := by simpa [RelS, RelV, RelW, RelC] using hx
    obtain rfl : vy = .string q := by simpa [RelS, RelV, RelW, RelC] using hy
    have hg : ∀ w', (eqGuard op t ox oy (.string p) (.string q)).run P w' = .ok () w' := fun w' => by unfold eqGuard; split <;> rfl
    cases op <;> simp only at h
    case add => exact ⟨_, _, h.2, rfl, fun w' => by have := h.1; simp only [Sem.run_bind, hg, binOp, Op.stringOp, Result.andThen_ok, if_neg this]; rfl⟩
    all_goals exact ⟨_, _, h, rfl, fun w' => by simp [Sem.run_bind, hg, binOp, Op.stringOp]⟩
  case bool.bool p q =>
    obtain rfl : vx = .bool p := by simpa [RelS, RelV, RelW, RelC] using hx
    obtain rfl : vy = .bool q := by simpa [RelS, RelV, RelW, RelC] using hy
    have hg : ∀ w', (eqGuard op t ox oy (.bool p) (.bool q)).run P w' = .ok () w' := fun w' => by unfold eqGuard; split <;> rfl
    obtain ⟨ht, h⟩ := h
    have he : ∀ w', (Op.equal t (.bool p) (.bool q)).run P w' = .ok (p == q) w' := fun w' => by
      exact equalIn_bool ht 9999 p q w'
    cases op <;> simp only at h
    case eql => exact ⟨_, _, h, rfl, fun w' => by simp [Sem.run_bind, hg, binOp, he]⟩
    case neq => exact ⟨_, _, h, rfl, fun w' => by simp [Sem.run_bind, hg, binOp, he]⟩
  case nilp.nilp =>
    obtain rfl : vx = .pointer none := by simpa [RelS, RelV, RelW, RelC] using hx
    obtain rfl : vy = .pointer none := by simpa [RelS, RelV, RelW, RelC] using hy
    exact ptr_eq h.1 h.2 _ _ _ _ (by simp)
  case cref.nilp d =>
    obtain ⟨b, off, cells, e, fz, rfl, _⟩ := hx
    obtain rfl : vy = .pointer none := by simpa [RelS, RelV, RelW, RelC] using hy
    exact ptr_eq h.1 h.2 _ _ _ _ (by simp)
  case nilp.cref d =>
    obtain rfl : vx = .pointer none := by simpa [RelS, RelV, RelW, RelC] using hx
    obtain ⟨b, off, cells, e, fz, rfl, _⟩ := hy
    exact ptr_eq h.1 h.2 _ _ _ _ (by simp)

theorem xfield_sound (h : Holds F n g st a w) {t : TypeId} {f off sz : Nat} {ag : Bool} (ht : fldOf P t f = some (off, sz, ag)) (hz : sz ≠ 0) {d : D} {v : Value} {K : D → Prop} (hr : RelS g st w d v) (hx : xfield st off sz f d K) :
    ∃ d' v', K d' ∧ RelS g st w d' v' ∧ ∀ w', (Instr.fieldAt t v f).run P w' = .ok v' w' := by
  have hrun : ∀ (ad : Addr) w', (Instr.fieldAt t (.pointer (some ad)) f).run P w' = .ok (.pointer (some (ad.add off))) w' := fun ad w' => by
    unfold fldOf at ht
    cases hu : P.underlying t with
    | none => simp [hu] at ht
    | some ds =>
      cases ds <;> simp only [hu] at ht <;> try (cases ht; done)
      rename_i fs
      rw [Option.bind_eq_some_iff] at ht
      obtain ⟨fd, hf, ht⟩ := ht
      rw [Option.map_eq_some_iff] at ht
      obtain ⟨⟨r, r'⟩, r1, ht⟩ := ht
      simp only [Prod.mk.injEq] at ht
      obtain ⟨rfl, rfl, rfl⟩ := ht
      obtain ⟨i, dd, hi, _, rfl, _⟩ := varOf_info r1
      unfold Instr.fieldAt
      simp [Sem.run_bind, run_underlying hu, hf, Instr.sureAddr, fieldPlace, sizeOf, typeInfo, hi, hz]
  have hadd : ∀ b o, (⟨b, o, none⟩ : Addr).add off = ⟨b, o + off, none⟩ := fun b o => by unfold Addr.add; split <;> simp_all
  cases d <;> simp only [xfield] at hx
  case lref s gn p o =>
    obtain ⟨h1, h2, h3⟩ := hx
    refine ⟨_, _, h3, ⟨Nat.le_of_eq h1, fun _ _ => rfl⟩, fun w' => ?_⟩
    rw [hr.2 h1 h2, hrun, hadd]
  case ptr b es i p o =>
    obtain rfl : v = .pointer (some ⟨b, i * es + o, none⟩) := by simpa [RelS, RelV, RelW, RelC] using hr
    refine ⟨_, .pointer (some ⟨b, i * es + (o + off), none⟩), hx, by simp [RelS, RelV, RelW, RelC], fun w' => ?_⟩
    rw [hrun, hadd, Nat.add_assoc]
  case cref d =>
    cases d <;> simp only at hx
    rename_i fs
    obtain ⟨b, o, cells, e, fz, rfl, h2, h3, h4, h5⟩ := hr
    cases hd : fs[f]? with
    | none => simp [hd] at hx
    | some d =>
      simp only [hd] at hx
      obtain ⟨e1, e2, hK⟩ := hx
      simp only [RelC] at h5
      obtain ⟨h6, h7⟩ := h5.split hd
      simp only [D.len] at h4
      have hlen := h5.length
      refine ⟨_, .pointer (some ⟨b, o + off, none⟩), hK, ⟨b, o + off, cells, e, fz, rfl, h2, h3, ?_, ?_⟩, fun w' => ?_⟩
      · simp only [List.length_take, List.length_drop, Array.length_toList, D.len] at hlen h7
        omega
      · have := drop_take_drop cells.toList o (D.lens (fs.take f)) (D.len (.agg fs)) d.len (by simp only [D.len]; omega)
        rw [this] at h6
        rw [← e1]
        exact h6
      · rw [hrun, hadd]

theorem xidx_sound (h : Holds F n g st a w) {t : TypeId} {es : Nat} (ht : eltOf P t = some es) {dx di : D} {vx vi : Value} {K : D → Prop} (hx : RelS g st w dx vx) (hi : RelS g st w di vi) (hk : xidx st es dx di K) :
    ∃ d' v', K d' ∧ RelS g st w d' v' ∧ ∀ w', (Instr.indexAt t vx vi).run P w' = .ok v' w' := by
  unfold eltOf at ht
  cases hu : P.underlying t with
  | none => simp [hu] at ht
  | some ds =>
    cases ds <;> simp only [hu] at ht <;> try (cases ht; done)
    rename_i e
    rw [Option.map_eq_some_iff] at ht
    obtain ⟨⟨r, r'⟩, r1, ht⟩ := ht
    simp only at ht
    subst ht
    obtain ⟨inf, dd, hinf, _, rfl, _⟩ := varOf_info r1
    have hadd : ∀ b o (k : Nat), (⟨b, o, none⟩ : Addr).add k = ⟨b, o + k, none⟩ := fun b o k => by unfold Addr.add; split <;> simp_all
    cases dx <;> cases di <;> simp only [xidx] at hk
    case ro.int es' ds k m =>
      obtain ⟨rfl, hz, h0, h1, hK⟩ := hk
      obtain rfl : vi = .int k m := by simpa [RelS, RelV, RelW, RelC] using hi
      have hx' : RelC g.U w (.ro inf.size ds) [vx] := hx
      simp only [RelC] at hx'
      obtain ⟨a0, c, hv, hrest⟩ := hx'
      obtain rfl : vx = .slice a0 ds.length c := by simpa using hv
      have hne : ds ≠ [] := by rintro rfl; simp at h1; omega
      obtain ⟨b, off, cells, e', fz, rfl, hU, hc, hR⟩ := hrest.resolve_left hne
      have hlt : m.toNat < ds.length := by omega
      have hget : ds[m.toNat]? = some (ds.getD m.toNat .any) := by simp [hlt]
      obtain ⟨h6, h7, h8⟩ := hR.get hget
      have hl := hR.length
      simp only [List.length_take, List.length_drop, Array.length_toList] at hl h8
      refine ⟨_, .pointer (some ⟨b, off + m.toNat * inf.size, none⟩), hK, ⟨b, off + m.toNat * inf.size, cells, e', fz, rfl, hU, hc, ?_, ?_⟩, fun w' => ?_⟩
      · have h9 : m.toNat * inf.size + inf.size ≤ ds.length * inf.size := by rw [← Nat.succ_mul]; exact Nat.mul_le_mul_right _ hlt
        rw [h7]; omega
      · rw [drop_take_drop _ _ _ _ _ (by omega)] at h6
        rw [h7]
        exact h6
      · unfold Instr.indexAt
        simp [asIntOf, Sem.run_bind, run_underlying hu, h0, h1, sizeOf, typeInfo, hinf, hadd]
    case sl.int b len c k m =>
      obtain ⟨h0, h1, hK⟩ := hk
      obtain rfl : vi = .int k m := by simpa [RelS, RelV, RelW, RelC] using hi
      obtain rfl : vx = .slice (some ⟨b, 0, none⟩) len c := by simpa [RelS, RelV, RelW, RelC] using hx
      refine ⟨_, .pointer (some ⟨b, m.toNat * inf.size + 0, none⟩), hK, by simp [RelS, RelV, RelW, RelC], fun w' => ?_⟩
      unfold Instr.indexAt
      simp [asIntOf, Sem.run_bind, run_underlying hu, h0, h1, sizeOf, typeInfo, hinf, hadd]
    case lsl.int s gn len c k m =>
      obtain ⟨hg, hl, h0, h1, hK⟩ := hk
      obtain rfl : vi = .int k m := by simpa [RelS, RelV, RelW, RelC] using hi
      obtain rfl : vx = .slice (some ⟨g.lam s, 0, none⟩) len c := hx.2 hg hl
      refine ⟨_, .pointer (some ⟨g.lam s, m.toNat * inf.size, none⟩), hK, ⟨Nat.le_of_eq hg, fun _ _ => rfl⟩, fun w' => ?_⟩
      unfold Instr.indexAt
      simp [asIntOf, Sem.run_bind, run_underlying hu, h0, h1, sizeOf, typeInfo, hinf, hadd]

theorem xpart_cells {U : Nat → Prop} {w : World} {sz : Nat} {ag : Bool} {o : Nat} {c : D} {cs : List Value} {p : List Nat} {K : D → Prop} (hc : RelC U w c cs) (h : xpart sz ag o (c.at p) K) :
    ∃ d, K d ∧ RelC U w d ((cs.drop o).take sz) ∧ o + sz ≤ cs.length ∧ d.len = sz ∧ d.isAgg = ag := by
  unfold xpart at h
  cases hr : c.at p with
  | none => simp [hr] at h
  | some r =>
    simp only [hr] at h
    obtain ⟨rfl, rfl, rfl, hK⟩ := h
    obtain ⟨h1, h2⟩ := hc.at (d' := r.1) (o := r.2) hr
    exact ⟨_, hK, h1, h2, rfl, rfl⟩
theorem D.len_one {d : D} (h : d.isAgg = false) : d.len = 1 := by cases d <;> simp_all [D.isAgg, D.len]
theorem RelC.nolref {U : Nat → Prop} {w : World} {d : D} {cs : List Value} (h : RelC U w d cs) : d.frB = false := by
  cases d <;> first | rfl | (simp [RelC] at h)
theorem RelS.of_cells {U : Nat → Prop} {d : D} {cs : List Value} {g : G} (h : RelC g.U w d cs) : RelS g st w d (if d.isAgg then .agg cs.toArray else cs.headD undef) := by
  have := RelW.of_cells h
  refine RelS.of_V ?_ h.nolref
  cases d <;> first | exact this | (simp [RelC] at h)
theorem load_cells {sz : Nat} {ag : Bool} {t : TypeId} (ht : varOf P t = some (sz, ag)) {b off : Nat} {cells : Array Value} {e : TypeId} {fz : Nat × Nat} (hc : w.heap[b]? = some (.cells cells e fz)) {d : D} (hd : RelC g.U w d ((cells.toList.drop off).take sz)) (hsz : off + sz ≤ cells.size) (hl : d.len = sz) (ha : d.isAgg = ag) :
    ∃ v, RelS g st w d v ∧ ∀ w', Below w.heap.size w w' → (Instr.loadAt t (.pointer (some ⟨b, off, none⟩))).run P w' = .ok v w' := by
  refine ⟨_, RelS.of_cells (U := g.U) hd, fun w' hw => ?_⟩
  have := run_loadVar_cells (P := P) w' b off cells e fz (heap_of_below hw hc) t ht hsz (fun h => by rw [← hl]; exact D.len_one (ha.trans h))
  simp only [Instr.loadAt, Instr.sureAddr, Sem.run_bind, Sem.run_pure, Result.andThen_ok, this, ha]
theorem xload_sound (h : Holds F n g st a w) {t : TypeId} {sz : Nat} {ag : Bool} (ht : varOf P t = some (sz, ag)) {d : D} {v : Value} {K : D → Prop} (hr : RelS g st w d v) (hx : xload st sz ag d K) :
    ∃ d' v', K d' ∧ RelS g st w d' v' ∧ ∀ w', Below w.heap.size w w' → (Instr.loadAt t v).run P w' = .ok v' w' := by
  cases d <;> simp only [xload] at hx
  case lref s gn p o =>
    obtain ⟨h1, hx⟩ := hx
    cases hl : st.lc s with
    | none => simp [hl] at hx
    | some c =>
      simp only [hl] at hx
      obtain ⟨hmp, hx⟩ := hx
      obtain ⟨cells, e, hc, hcell⟩ := (h.locs s c hl).1.cells hmp
      obtain ⟨d', hK, h3, h4, h5, h6⟩ := xpart_cells hcell hx
      rw [hr.2 h1 (by simp [hl])]
      obtain ⟨v', h7, h8⟩ := load_cells (st := st) ht hc h3 (by simpa using h4) h5 h6
      exact ⟨d', v', hK, h7, h8⟩
  case ptr b es i p o =>
    obtain rfl : v = .pointer (some ⟨b, i * es + o, none⟩) := by simpa [RelS, RelV, RelW, RelC] using hr
    cases hl : st.hp b with
    | none => simp [hl] at hx
    | some r =>
      simp only [hl] at hx
      obtain ⟨rfl, hx⟩ := hx
      obtain ⟨cells, hc, hsz, hcap, hR, _⟩ := h.heap b r hl
      cases hi : r.ds[i]? with
      | none => simp [hi, xpart] at hx
      | some c =>
        simp only [hi, Option.bind_some] at hx
        obtain ⟨h6, h7, h8⟩ := hR.get hi
        obtain ⟨d', hK, h3, h4, h5, h6'⟩ := xpart_cells h6 hx
        have hl' := hR.length
        simp only [List.length_take, List.length_drop, Array.length_toList] at h4 h8 hl'
        have e1 : ((cells.toList.take (r.ds.length * r.es)).drop (i * r.es)).take r.es = (cells.toList.drop (i * r.es)).take r.es := by
          have := drop_take_drop cells.toList 0 (i * r.es) (r.ds.length * r.es) r.es (by omega)
          simpa using this
        rw [e1, drop_take_drop _ _ _ _ _ (by omega)] at h3
        obtain ⟨v', h9, h10⟩ := load_cells (st := st) ht hc h3 (by omega) h5 h6'
        exact ⟨d', v', hK, h9, h10⟩
  case cref d =>
    obtain ⟨rfl, h2, hK⟩ := hx
    obtain ⟨b, o, cells, e, fz, rfl, h3, h4, h5, h6⟩ := hr
    obtain ⟨v', h7, h8⟩ := load_cells (st := st) ht h4 h6 h5 rfl h2
    exact ⟨d, v', hK, h7, h8⟩

theorem xlen_sound (h : Holds F n g st a w) {at_ : Array TypeId} {ty : TypeId} {as : Array Value} {d : D} {v : Value} (has : as[0]? = some v) {K : D → Prop} (hr : RelS g st w d v) (ht : lenTy P at_[0]? d) (hk : xlen st d K) :
    ∃ d' v', K d' ∧ RelS g st w d' v' ∧ ∀ w', (Builtin.len_ at_ ty as).run P w' = .ok v' w' := by
  cases hq : at_[0]? with
  | none => cases d <;> simp [lenTy, hq] at ht <;> simp [xlen] at hk
  | some t =>
    cases d <;> simp only [xlen] at hk
    case str s =>
      obtain rfl : v = .string s := by simpa [RelS, RelV, RelW, RelC] using hr
      have hu : P.underlying t = some .string := by simpa [lenTy, hq] using ht
      exact ⟨_, _, hk, rfl, fun w' => by simp [Builtin.len_, hq, has, Sem.run_bind, run_underlying hu, goInt]⟩
    case nil =>
      obtain rfl : v = .slice none 0 0 := by simpa [RelS, RelV, RelW, RelC] using hr
      obtain ⟨e, hu⟩ : ∃ e, P.underlying t = some (.slice e) := by simpa [lenTy, hq] using ht
      exact ⟨_, _, hk, rfl, fun w' => by simp [Builtin.len_, hq, has, Sem.run_bind, run_underlying hu, goInt]⟩
    case ro es ds =>
      have hr' : RelC g.U w (.ro es ds) [v] := hr
      simp only [RelC] at hr'
      obtain ⟨a0, c, hv, _⟩ := hr'
      obtain rfl : v = .slice a0 ds.length c := by simpa using hv
      obtain ⟨e, hu⟩ : ∃ e, P.underlying t = some (.slice e) := by simpa [lenTy, hq] using ht
      exact ⟨_, _, hk, rfl, fun w' => by simp [Builtin.len_, hq, has, Sem.run_bind, run_underlying hu, goInt]⟩
    case sl b m c =>
      obtain rfl : v = .slice (some ⟨b, 0, none⟩) m c := by simpa [RelS, RelV, RelW, RelC] using hr
      obtain ⟨e, hu⟩ : ∃ e, P.underlying t = some (.slice e) := by simpa [lenTy, hq] using ht
      exact ⟨_, _, hk, rfl, fun w' => by simp [Builtin.len_, hq, has, Sem.run_bind, run_underlying hu, goInt]⟩
    case lsl s gn m c =>
      obtain ⟨hg, hl, hk⟩ := hk
      obtain rfl : v = .slice (some ⟨g.lam s, 0, none⟩) m c := hr.2 hg hl
      obtain ⟨e, hu⟩ : ∃ e, P.underlying t = some (.slice e) := by simpa [lenTy, hq] using ht
      exact ⟨_, _, hk, rfl, fun w' => by simp [Builtin.len_, hq, has, Sem.run_bind, run_underlying hu, goInt]⟩

theorem RelT.get {U : Nat → Prop} {w : World} : ∀ {ds : List D} {vs : List Value} {i : Nat} {d : D}, RelT U w ds vs → ds[i]? = some d → ∃ v, vs[i]? = some v ∧ RelW U w d v
  | d :: ds, vs, 0, d', h, hd => by
    simp only [RelT] at h
    obtain ⟨v, r, rfl, h1, h2⟩ := h
    simp at hd
    subst hd
    exact ⟨v, by simp, h1⟩
  | d :: ds, vs, i + 1, d', h, hd => by
    simp only [RelT] at h
    obtain ⟨v, r, rfl, h1, h2⟩ := h
    obtain ⟨v', h3, h4⟩ := RelT.get (i := i) h2 (by simpa using hd)
    exact ⟨v', by simpa using h3, h4⟩
  | [], _, _, _, _, hd => by simp at hd
theorem RelW.V {U : Nat → Prop} {w : World} {d : D} {v : Value} (h : RelW U w d v) : RelV U w d v := by
  cases d <;> first | exact h | (simp [RelW, RelC] at h)
theorem RelW.nolref {U : Nat → Prop} {w : World} {d : D} {v : Value} (h : RelW U w d v) : d.frB = false := by
  cases d <;> first | rfl | (simp [RelW, RelC] at h)

theorem caps_rel (h : Holds F n g st a w) : ∀ {xs : List Operand}, (xs.map st.ev).all D.capB = true → RelL g.U w (xs.map st.ev) (xs.map a.eval)
  | [], _ => rfl
  | x :: xs, hc => by
    simp only [List.map_cons, List.all_cons, Bool.and_eq_true] at hc
    have hr := h.ev x
    refine ⟨a.eval x, xs.map a.eval, rfl, ?_, ?_, caps_rel h hc.2⟩
    · have := hc.1
      cases hd : st.ev x <;> rw [hd] at this <;> first | rfl | (simp [D.capB, D.isAgg] at this)
    · have := hc.1
      cases hd : st.ev x <;> rw [hd] at this hr <;> first | (exact .inl hr) | (exact .inr ⟨_, rfl, hr⟩) | (simp [D.capB, D.memB, D.isAgg] at this)
theorem xpure_sound (h : Holds F n g st a w) (o : Oper) {K : D → Prop} (hx : xpure P st K o.op) : Yld P g st a w o K := by
  unfold Yld execOp
  generalize o.op = op at hx
  cases op <;> simp only [xpure] at hx
  case move x => exact ⟨_, _, hx, h.ev x, fun w' _ => rfl⟩
  case assign x => exact ⟨_, _, hx, h.ev x, fun w' _ => rfl⟩
  case pick c x y =>
    cases hc : st.ev c <;> simp only [hc] at hx
    rename_i t
    have hv : a.eval c = .bool t := by have := h.ev c; rw [hc] at this; simpa [RelS, RelV, RelW, RelC] using this
    cases t with
    | true => exact ⟨_, _, hx.yes rfl, h.ev x, fun w' _ => by simp [Sem.run_bind, hv, asBool]⟩
    | false => exact ⟨_, _, hx.no rfl, h.ev y, fun w' _ => by simp [Sem.run_bind, hv, asBool]⟩
  case nilCheck x =>
    obtain ⟨hK, ad, hv⟩ := xaddr_sound h (h.ev x) hx
    exact ⟨_, _, hK, h.ev x, fun w' _ => by simp [hv]⟩
  case binOp op t x y u =>
    obtain ⟨d, v, hK, hR, hrun⟩ := xbin_sound (h.ev x) (h.ev y) hx x y
    exact ⟨d, v, hK, hR, fun w' _ => by simp only [Sem.run_bind] at hrun ⊢; simp only [hrun w', Result.andThen_ok, Sem.run_pure]⟩
  case unOp op t x =>
    cases op <;> cases hd : st.ev x <;> simp only [hd] at hx
    case not.bool b =>
      have hv : a.eval x = .bool b := by have := h.ev x; rw [hd] at this; simpa [RelS, RelV, RelW, RelC] using this
      exact ⟨_, _, hx, rfl, fun w' _ => by simp [Sem.run_bind, hv, Op.unary]⟩
    case neg.int k m =>
      have hv : a.eval x = .int k m := by have := h.ev x; rw [hd] at this; simpa [RelS, RelV, RelW, RelC] using this
      exact ⟨_, _, hx, rfl, fun w' _ => by simp [Sem.run_bind, hv, Op.unary, Op.intArith]⟩
  case convert s d x =>
    cases hd : st.ev x <;> simp only [hd] at hx
    case int k m =>
      have hv : a.eval x = .int k m := by have := h.ev x; rw [hd] at this; simpa [RelS, RelV, RelW, RelC] using this
      obtain ⟨hs, k', hu, hK⟩ := hx
      obtain ⟨ds, hs⟩ := Option.isSome_iff_exists.1 hs
      exact ⟨_, _, hK, rfl, fun w' _ => by simp [Sem.run_bind, hv, convert, run_underlying hu, run_underlying hs, Conv.intToInt]⟩
    case str b =>
      have hv : a.eval x = .string b := by have := h.ev x; rw [hd] at this; simpa [RelS, RelV, RelW, RelC] using this
      obtain ⟨hs, hu, hK⟩ := hx
      obtain ⟨ds, hs⟩ := Option.isSome_iff_exists.1 hs
      exact ⟨_, _, hK, rfl, fun w' _ => by simp [Sem.run_bind, hv, convert, run_underlying hu, run_underlying hs]⟩
  case fieldAddr t x f =>
    cases ht : fldOf P t f with
    | none => simp [ht] at hx
    | some r =>
      obtain ⟨off, sz, ag⟩ := r
      simp only [ht] at hx
      obtain ⟨d, v, hK, hR, hrun⟩ := xfield_sound h ht hx.1 (h.ev x) hx.2
      exact ⟨d, v, hK, hR, fun w' _ => by simp only [Sem.run_bind, hrun w', Result.andThen_ok, Sem.run_pure]⟩
  case field t x f =>
    cases ht : fldOf P t f with
    | none => simp [ht] at hx
    | some r =>
      obtain ⟨off, sz, ag⟩ := r
      cases hd : st.ev x <;> simp only [ht, hd] at hx
      rename_i fs
      cases hf : fs[f]? with
      | none => simp [hf] at hx
      | some d =>
        simp only [hf] at hx
        obtain ⟨rfl, rfl, rfl, hK⟩ := hx
        have hr := h.ev x
        rw [hd] at hr
        obtain ⟨cs, hv, hR⟩ := hr
        obtain ⟨h6, h7⟩ := hR.split hf
        refine ⟨d, _, hK, RelS.of_cells (U := g.U) h6, fun w' _ => ?_⟩
        unfold fldOf at ht
        cases hu : P.underlying t with
        | none => simp [hu] at ht
        | some ds =>
          cases ds <;> simp only [hu] at ht <;> try (cases ht; done)
          rename_i fds
          rw [Option.bind_eq_some_iff] at ht
          obtain ⟨fd, hfd, ht⟩ := ht
          rw [Option.map_eq_some_iff] at ht
          obtain ⟨⟨r, r'⟩, r1, ht⟩ := ht
          simp only [Prod.mk.injEq] at ht
          obtain ⟨e1, rfl, rfl⟩ := ht
          obtain ⟨inf, dd, hi, hu2, e2, e3⟩ := varOf_info r1
          simp only [Sem.run_bind, Instr.field, run_underlying hu, Result.andThen_ok, hfd, hv, asAgg, part, run_isAgg hu2, Sem.run_pure, e3]
          by_cases hA : d.isAgg = true
          · have e4 : cs.extract fd.offset (fd.offset + d.len) = ((cs.toList.drop fd.offset).take d.len).toArray := by
              apply Array.ext'
              simp [List.extract_eq_take_drop]
            simp only [hA, if_true, sizeOf, typeInfo, Sem.run_bind, ← e1]
            simp [hi, e2, e4]
          · have hA' : d.isAgg = false := by simpa using hA
            have hl := D.len_one hA'
            simp only [Array.length_toList] at h7
            have hlt : fd.offset < cs.size := by omega
            simp only [hA', ← e1, hl, headD_take_drop]
            simp [hlt]
  case makeFunc fn first caps =>
    cases fn <;> simp only at hx
    obtain ⟨rfl, hc, hx⟩ := hx
    refine ⟨_, .func (.func _) #[] (caps.map a.eval), hx, ⟨caps.map a.eval, rfl, ?_⟩, fun w' hw => ?_⟩
    · rw [Array.toList_map]
      exact caps_rel h hc
    · simp [Instr.makeFunc, Sem.run_bind]
  case lookup t x i ok =>
    obtain ⟨rfl, ht, hx⟩ := hx
    cases hd : st.ev x <;> cases hi : st.ev i <;> simp only [hd, hi, xlk] at hx
    rename_i s gn k
    obtain ⟨hg, hx⟩ := hx
    cases hl : st.lc s with
    | none => simp [hl] at hx
    | some c =>
      cases c <;> simp only [hl] at hx
      rename_i l
      have hr := h.ev x
      rw [hd] at hr
      have hv := hr.2 hg (by simp [hl])
      obtain ⟨es, clk, hb, hm⟩ := (h.locs s _ hl).1
      have hk : a.eval i = .string k := by have := h.ev i; rw [hi] at this; simpa [RelS, RelV, RelW, RelC] using this
      refine ⟨_, .bool (kget l k), hx, rfl, fun w' hw => ?_⟩
      simp only [Sem.run_bind, hv, hk, run_lookup_str ht (heap_of_below hw hb) hm, Result.andThen_ok, Sem.run_pure]
  case indexAddr t x i =>
    cases ht : eltOf P t with
    | none => simp [ht] at hx
    | some es =>
      simp only [ht] at hx
      obtain ⟨d, v, hK, hR, hrun⟩ := xidx_sound h ht (h.ev x) (h.ev i) hx
      exact ⟨d, v, hK, hR, fun w' _ => by simp only [Sem.run_bind, hrun w', Result.andThen_ok, Sem.run_pure]⟩
  case index t x i =>
    cases hd : st.ev x <;> cases hi : st.ev i <;> simp only [hd, hi] at hx
    rename_i s k m
    have hv : a.eval x = .string s := by have := h.ev x; rw [hd] at this; simpa [RelS, RelV, RelW, RelC] using this
    have hm : a.eval i = .int k m := by have := h.ev i; rw [hi] at this; simpa [RelS, RelV, RelW, RelC] using this
    obtain ⟨hu, h0, h1, hK⟩ := hx
    have hlt : m.toNat < s.size := by omega
    have hb : s[m.toNat]? = some s[m.toNat] := by simp [getElem?_pos, hlt]
    refine ⟨_, .int .u8 (byteAt s m.toNat), hK, rfl, fun w' _ => ?_⟩
    have hb2 : ((s[m.toNat]).toNat : Int) = byteAt s m.toNat := by
      have : s.data.size = s.size := rfl
      unfold byteAt
      simp [this, hlt]
      rfl
    simp only [Sem.run_bind, hv, hm, Instr.index, asIntOf, run_underlying hu, Sem.run_pure, Result.andThen_ok, if_pos h0, hb, hb2]
  case load t x =>
    cases ht : varOf P t with
    | none => simp [ht] at hx
    | some r =>
      obtain ⟨sz, ag⟩ := r
      simp only [ht] at hx
      obtain ⟨d, v, hK, hR, hrun⟩ := xload_sound h ht (h.ev x) hx
      exact ⟨d, v, hK, hR, fun w' hw => by simp only [Sem.run_bind, hrun w' hw, Result.andThen_ok, Sem.run_pure]⟩
  case extract x i =>
    cases hd : st.ev x <;> simp only [hd] at hx
    rename_i ds
    cases hi : ds[i]? with
    | none => simp [hi] at hx
    | some d =>
      simp only [hi] at hx
      have hr := h.ev x
      rw [hd] at hr
      obtain ⟨vs, hv, hT⟩ := hr
      obtain ⟨v, h1, h2⟩ := hT.get hi
      exact ⟨d, v, hx, RelS.of_V h2.V h2.nolref, fun w' _ => by simp at h1; simp [Sem.run_bind, hv, Instr.extract, h1]⟩
  case call c =>
    obtain ⟨callee, args, argTypes⟩ := c
    cases callee <;> simp only at hx
    rename_i b
    cases b <;> simp only at hx
    cases hq : args[0]? with
    | none => simp [hq] at hx
    | some x =>
      simp only [hq] at hx
      obtain ⟨d, v, hK, hR, hrun⟩ := xlen_sound (P := P) (at_ := argTypes) (ty := o.type) (as := args.map a.eval) h (by simp [hq]) (h.ev x) hx.1 hx.2
      exact ⟨d, v, hK, hR, fun w' _ => by simp [Sem.run_bind, resolve, invoke, builtin, hrun w']⟩
end
end Go.Ab
namespace Go.Ab
open Go Go.RowKit
section
variable {P : Program} {F : Fix} {n : Nat} {g : G} {st : St} {a : Act} {w : World}

theorem getD_set (xs : Array Value) (i j : Nat) (v : Value) (hi : i < xs.size) : (xs.setIfInBounds i v).getD j undef = if j = i then v else xs.getD j undef := by
  by_cases h : j = i
  · subst h
    simp [hi]
  · have : i ≠ j := fun e => h e.symm
    simp [h, Array.getElem?_setIfInBounds_ne this]
theorem Holds.put (h : Holds F n g st a w) {i : Nat} (hi : i < n) {d : D} {v : Value} (hd : RelS g st w d v) : Holds F n g (st.put i d) (a.put (some i) v) w := by
  refine ⟨by simp [Act.put, h.size], h.defers, fun j => ?_, h.locs, h.linj, h.heap, h.uin, h.ubd, h.uout, h.keep⟩
  have e : (a.put (some i) v).tmps.getD j undef = if j = i then v else a.tmps.getD j undef := getD_set _ _ _ _ (by rw [h.size]; exact hi)
  rw [e]
  show RelS g st w (upd st.fr i d j) _
  unfold upd
  by_cases hj : j = i
  · simp only [hj, if_true]; exact hd
  · simp only [hj, if_false]; exact h.slots j
def St.putO (st : St) : Option Nat → D → St
  | some i, d => st.put i d
  | none, _ => st
theorem Holds.putO (h : Holds F n g st a w) {i : Option Nat} (hi : ∀ j, i = some j → j < n) {d : D} {v : Value} (hd : RelS g st w d v) : Holds F n g (st.putO i d) (a.put i v) w := by
  cases i with
  | none => exact h
  | some j => exact h.put (hi j rfl) hd

theorem RelS.ext {g g' : G} {st st' : St} {w w' : World} {d : D} {v : Value} (x : Ext g.U g'.U w w') (hl : ∀ s gn, d.frB = true → gn ≤ st.gen s → gn ≤ st'.gen s ∧ (gn = st'.gen s → (st'.lc s).isSome = true → gn = st.gen s ∧ (st.lc s).isSome = true ∧ g'.lam s = g.lam s)) (h : RelS g st w d v) : RelS g' st' w' d v := by
  cases d
  case lref s gn p o =>
    obtain ⟨h1, h2⟩ := h
    obtain ⟨h3, h4⟩ := hl s gn rfl h1
    refine ⟨h3, fun e1 e2 => ?_⟩
    obtain ⟨q1, q2, q3⟩ := h4 e1 e2
    rw [h2 q1 q2, q3]
  case lsl s gn n c =>
    obtain ⟨h1, h2⟩ := h
    obtain ⟨h3, h4⟩ := hl s gn rfl h1
    refine ⟨h3, fun e1 e2 => ?_⟩
    obtain ⟨q1, q2, q3⟩ := h4 e1 e2
    rw [h2 q1 q2, q3]
  case lmp s gn =>
    obtain ⟨h1, h2⟩ := h
    obtain ⟨h3, h4⟩ := hl s gn rfl h1
    refine ⟨h3, fun e1 e2 => ?_⟩
    obtain ⟨q1, q2, q3⟩ := h4 e1 e2
    rw [h2 q1 q2, q3]
  all_goals exact RelS.of_V ((RelS.toV h rfl).mono x) rfl

theorem World.alloc_heap (w : World) (o : Obj) (b : Nat) : (w.alloc o).heap[b]? = if b = w.heap.size then some o else w.heap[b]? := by
  show (w.heap.push o)[b]? = _
  rw [Array.getElem?_push]
theorem Keeps.alloc {H0 : Nat → Prop} {w0 w : World} (h : Keeps H0 w0 w) (o : Obj) : Keeps H0 w0 (w.alloc o) :=
  ⟨h.os, h.tape, h.output, by have := h.size; simp; omega, fun k hk hH => by rw [World.alloc_heap, if_neg (by have := h.size; omega)]; exact h.block k hk hH⟩
mutual
theorem RelC.oneCell {U : Nat → Prop} {w : World} : ∀ {d : D} {cs : List Value}, RelC U w d cs → ∀ v ∈ cs, v.oneCell' = true
  | .int .., _, h | .bool .., _, h | .str .., _, h | .nil, _, h | .nilp, _, h | .sl .., _, h | .ptr .., _, h => by simp only [RelC] at h; subst h; simp [Value.oneCell']
  | .agg fs, cs, h => by simp only [RelC] at h; exact RelF.oneCell h
  | .ro es ds, cs, h => by simp only [RelC] at h; obtain ⟨a, c, rfl, h2⟩ := h; simp [Value.oneCell']
  | .undef, _, h | .any, _, h | .lref .., _, h | .lsl .., _, h | .mp _, _, h | .lmp .., _, h | .cref _, _, h | .tup _, _, h | .fn .., _, h => by simp [RelC] at h
theorem RelF.oneCell {U : Nat → Prop} {w : World} : ∀ {ds : List D} {cs : List Value}, RelF U w ds cs → ∀ v ∈ cs, v.oneCell' = true
  | [], _, h => by simp only [RelF] at h; simp [h]
  | d :: ds, _, h => by
    simp only [RelF] at h
    obtain ⟨c1, c2, rfl, h1, h2⟩ := h
    intro v hv
    rcases List.mem_append.1 hv with hv | hv
    · exact RelC.oneCell h1 v hv
    · exact RelF.oneCell h2 v hv
end

/-- A new variable of the call's own. -/
theorem Holds.boxO (h : Holds F n g st a w) (s : Nat) {d : D} (ob : Obj) (hd : LocR g.U (w.alloc ob) w.heap.size d) :
    Holds F n { g with lam := upd g.lam s w.heap.size } (st.box s d) a (w.alloc ob) := by
  have hs : F.w0.heap.size ≤ w.heap.size := h.keep.size
  have x : Ext g.U g.U w (w.alloc ob) := ⟨fun _ h => h, fun b hb => by rw [World.alloc_heap, if_neg (by have := h.ubd b hb; omega)]⟩
  have hlt : ∀ s' d', st.lc s' = some d' → g.lam s' < w.heap.size := fun s' d' hl => by
    exact (h.locs s' d' hl).1.lt
  have hhlt : ∀ b r, st.hp b = some r → b < w.heap.size := fun b r hr => by
    obtain ⟨c, hc, _⟩ := h.heap b r hr
    exact (Array.getElem?_eq_some_iff.1 hc).1
  refine ⟨h.size, h.defers, fun i => (h.slots i).ext x ?_, fun s' d' hl => ?_, fun s1 s2 h1 h2 he => ?_, fun b r hr => ?_, h.uin, fun b hb => ?_, h.uout, h.keep.alloc _⟩
  · intro s' gn _ hle
    show gn ≤ upd st.gen s (st.gen s + 1) s' ∧ (gn = upd st.gen s (st.gen s + 1) s' → (upd st.lc s (some d) s').isSome = true → gn = st.gen s' ∧ (st.lc s').isSome = true ∧ upd g.lam s w.heap.size s' = g.lam s')
    unfold upd
    by_cases e : s' = s
    · subst e
      simp only [if_true]
      exact ⟨by omega, fun e1 _ => by omega⟩
    · simp only [e, if_false]
      exact ⟨hle, fun e1 e2 => ⟨e1, e2, trivial⟩⟩
  · show LocR g.U (w.alloc ob) (upd g.lam s w.heap.size s') d' ∧ F.w0.heap.size ≤ upd g.lam s w.heap.size s' ∧ ¬ g.U (upd g.lam s w.heap.size s') ∧ st.hp (upd g.lam s w.heap.size s') = none
    have hl' : upd st.lc s (some d) s' = some d' := hl
    unfold upd at hl' ⊢
    by_cases e : s' = s
    · simp only [e, if_true, Option.some.injEq] at hl' ⊢
      subst hl'
      refine ⟨hd, hs, fun hU => ?_, ?_⟩
      · have := h.ubd _ hU; omega
      · cases hq : st.hp w.heap.size with
        | none => rfl
        | some r => have := hhlt _ _ hq; omega
    · simp only [e, if_false] at hl' ⊢
      obtain ⟨h1, h2, h3, h4⟩ := h.locs s' d' hl'
      exact ⟨h1.mono x (by rw [World.alloc_heap, if_neg (by have := hlt _ _ hl'; omega)]), h2, h3, h4⟩
  · have h1' : (upd st.lc s (some d) s1).isSome = true := h1
    have h2' : (upd st.lc s (some d) s2).isSome = true := h2
    have he' : upd g.lam s w.heap.size s1 = upd g.lam s w.heap.size s2 := he
    unfold upd at h1' h2' he'
    by_cases e1 : s1 = s <;> by_cases e2 : s2 = s <;> simp only [e1, e2, if_true, if_false] at h1' h2' he' ⊢
    · obtain ⟨d2, hd2⟩ := Option.isSome_iff_exists.1 h2'
      have := hlt _ _ hd2; omega
    · obtain ⟨d1, hd1⟩ := Option.isSome_iff_exists.1 h1'
      have := hlt _ _ hd1; omega
    · exact h.linj s1 s2 h1' h2' he'
  · obtain ⟨c, hc, h1, h2, h3, h4⟩ := h.heap b r hr
    exact ⟨c, by rw [World.alloc_heap, if_neg (by have := hhlt _ _ hr; omega)]; exact hc, h1, h2, RelR.mono x h3, h4⟩
  · have := h.ubd b hb
    simp; omega
theorem Holds.box (h : Holds F n g st a w) (s : Nat) {d : D} {cells : Array Value} (hd : RelC g.U w d cells.toList) (e : TypeId) :
    Holds F n { g with lam := upd g.lam s w.heap.size } (st.box s d) a (w.alloc (.cells cells e)) := by
  have x : Ext g.U g.U w (w.alloc (.cells cells e)) := ⟨fun _ h => h, fun b hb => by rw [World.alloc_heap, if_neg (by have := h.ubd b hb; omega)]⟩
  exact h.boxO s _ (.of (by rw [World.alloc_heap, if_pos rfl]) (hd.mono x))

theorem setRow_heap' (w : World) (b : Nat) (old new : Array Value) (e : TypeId) (fz : Nat × Nat) (hc : w.heap[b]? = some (.cells old e fz)) (k : Nat) : (w.setRow b new).heap[k]? = if k = b then some (.cells new e fz) else w.heap[k]? := by
  by_cases h : k = b
  · subst h
    rw [if_pos rfl]
    exact setRow_heap w k old new e fz hc
  · rw [if_neg h]
    unfold World.setRow
    simp only [Array.getElem?_modify]
    rw [if_neg (fun e => h e.symm)]
theorem setRow_size (w : World) (b : Nat) (new : Array Value) : (w.setRow b new).heap.size = w.heap.size := by simp [World.setRow]
/-- A store into a variable of the call's own. -/
theorem Holds.setLcO (h : Holds F n g st a w) {s : Nat} {d d' : D} {ob : Obj} {w' : World} (hl : st.lc s = some d) (hh : ∀ k, w'.heap[k]? = if k = g.lam s then some ob else w.heap[k]?) (hsz : w'.heap.size = w.heap.size) (hos : w'.os = w.os) (htp : w'.tape = w.tape) (hou : w'.output = w.output) (hd : LocR g.U w' (g.lam s) d') :
    Holds F n g (st.setLc s d') a w' := by
  obtain ⟨_, hlo, hnU, hnH⟩ := h.locs s d hl
  have x : Ext g.U g.U w w' := ⟨fun _ h => h, fun b hb => by rw [hh, if_neg (fun q => hnU (by rw [← q]; exact hb))]⟩
  refine ⟨h.size, h.defers, fun i => (h.slots i).ext x ?_, fun s' d2 hl2 => ?_, fun s1 s2 h1 h2 he => ?_, fun b r hr => ?_, h.uin, fun b hb => by rw [hsz]; exact h.ubd b hb, h.uout, ?_⟩
  · intro s' gn _ hle
    refine ⟨hle, fun e1 e2 => ⟨e1, ?_, rfl⟩⟩
    have e2' : (upd st.lc s (some d') s').isSome = true := e2
    unfold upd at e2'
    by_cases e : s' = s
    · subst e; simp [hl]
    · simpa [e] using e2'
  · have hl2' : upd st.lc s (some d') s' = some d2 := hl2
    unfold upd at hl2'
    by_cases e' : s' = s
    · simp only [e', if_true, Option.some.injEq] at hl2'
      subst hl2'
      subst e'
      exact ⟨hd, hlo, hnU, hnH⟩
    · simp only [e', if_false] at hl2'
      obtain ⟨h1, h2, h3, h4⟩ := h.locs s' d2 hl2'
      refine ⟨h1.mono x ?_, h2, h3, h4⟩
      rw [hh, if_neg (fun q => e' (h.linj s' s (by simp [hl2']) (by simp [hl]) q))]
  · have h1' : (upd st.lc s (some d') s1).isSome = true := h1
    have h2' : (upd st.lc s (some d') s2).isSome = true := h2
    have f : ∀ t, (upd st.lc s (some d') t).isSome = true → (st.lc t).isSome = true := fun t ht => by
      unfold upd at ht
      by_cases e : t = s
      · subst e; simp [hl]
      · simpa [e] using ht
    exact h.linj s1 s2 (f _ h1') (f _ h2') he
  · have hr' : st.hp b = some r := hr
    obtain ⟨c, hc2, h1, h2, h3, h4⟩ := h.heap b r hr'
    refine ⟨c, ?_, h1, h2, RelR.mono x h3, h4⟩
    rw [hh, if_neg (fun q => by rw [q, hnH] at hr'; cases hr')]
    exact hc2
  · refine ⟨hos.trans h.keep.os, htp.trans h.keep.tape, hou.trans h.keep.output, by rw [hsz]; exact h.keep.size, fun k hk hH => ?_⟩
    rw [hh, if_neg (by omega)]
    exact h.keep.block k hk hH

theorem Holds.setLc (h : Holds F n g st a w) {s : Nat} {d d' : D} {old new : Array Value} {e : TypeId} (hl : st.lc s = some d) (hc : w.heap[g.lam s]? = some (.cells old e (0, 0))) (hd : RelC g.U w d' new.toList) :
    Holds F n g (st.setLc s d') a (w.setRow (g.lam s) new) := by
  have hh := setRow_heap' w (g.lam s) old new e (0, 0) hc
  obtain ⟨_, hlo, hnU, hnH⟩ := h.locs s d hl
  have x : Ext g.U g.U w (w.setRow (g.lam s) new) := ⟨fun _ h => h, fun b hb => by rw [hh, if_neg (fun q => hnU (by rw [← q]; exact hb))]⟩
  exact h.setLcO hl hh (setRow_size _ _ _) rfl rfl rfl (.of (by rw [hh, if_pos rfl]) (hd.mono x))
mutual
theorem RelC.set {U : Nat → Prop} {w : World} : ∀ {d : D} {cs xs : List Value} {p : List Nat} {x d' d0 : D} {o : Nat}, RelC U w d cs → RelC U w x xs → d.at p = some (d0, o) → d.set p x = some d' →
    RelC U w d' (cs.take o ++ xs ++ cs.drop (o + xs.length)) ∧ d'.len = d.len ∧ d'.isAgg = d.isAgg ∧ o + xs.length ≤ cs.length
  | d, cs, xs, [], x, d', d0, o, h, hx, ha, hs => by
    have e : d = d0 ∧ o = 0 := by cases d <;> (simp only [D.at, Option.some.injEq, Prod.mk.injEq] at ha; exact ⟨ha.1, ha.2.symm⟩)
    obtain ⟨rfl, rfl⟩ := e
    have e2 : (if d.len = x.len ∧ d.isAgg = x.isAgg then some x else none) = some d' := by cases d <;> exact hs
    split at e2
    · rename_i hc
      simp only [Option.some.injEq] at e2
      subst e2
      have h1 := h.length
      have h2 := hx.length
      refine ⟨?_, hc.1.symm, hc.2.symm, by omega⟩
      rw [List.drop_eq_nil_of_le (by omega)]
      simpa using hx
    · cases e2
  | .agg fs, cs, xs, i :: p, x, d', d0, o, h, hx, ha, hs => by
    simp only [RelC] at h
    simp only [D.at] at ha
    simp only [D.set, Option.map_eq_some_iff] at hs
    obtain ⟨fs', hs, rfl⟩ := hs
    obtain ⟨h1, h2, h3⟩ := RelF.sets h hx ha hs
    exact ⟨by simpa only [RelC] using h1, by simpa only [D.len] using h2, rfl, h3⟩
  | .undef, _, _, _ :: _, _, _, _, _, _, _, e, _ | .any, _, _, _ :: _, _, _, _, _, _, _, e, _ | .int .., _, _, _ :: _, _, _, _, _, _, _, e, _ | .bool .., _, _, _ :: _, _, _, _, _, _, _, e, _ | .str .., _, _, _ :: _, _, _, _, _, _, _, e, _ | .nil, _, _, _ :: _, _, _, _, _, _, _, e, _ | .nilp, _, _, _ :: _, _, _, _, _, _, _, e, _ | .ro .., _, _, _ :: _, _, _, _, _, _, _, e, _ | .sl .., _, _, _ :: _, _, _, _, _, _, _, e, _ | .ptr .., _, _, _ :: _, _, _, _, _, _, _, e, _ | .lref .., _, _, _ :: _, _, _, _, _, _, _, e, _ | .lsl .., _, _, _ :: _, _, _, _, _, _, _, e, _ | .mp _, _, _, _ :: _, _, _, _, _, _, _, e, _ | .lmp .., _, _, _ :: _, _, _, _, _, _, _, e, _ | .cref .., _, _, _ :: _, _, _, _, _, _, _, e, _ | .tup .., _, _, _ :: _, _, _, _, _, _, _, e, _ | .fn .., _, _, _ :: _, _, _, _, _, _, _, e, _ => by simp [D.at] at e
theorem RelF.sets {U : Nat → Prop} {w : World} : ∀ {ds : List D} {cs xs : List Value} {i : Nat} {p : List Nat} {x : D} {ds' : List D} {d0 : D} {o : Nat}, RelF U w ds cs → RelC U w x xs → D.ats ds i p = some (d0, o) → D.sets ds i p x = some ds' →
    RelF U w ds' (cs.take o ++ xs ++ cs.drop (o + xs.length)) ∧ D.lens ds' = D.lens ds ∧ o + xs.length ≤ cs.length
  | [], _, _, _, _, _, _, _, _, _, _, e, _ => by simp [D.ats] at e
  | d :: ds, cs, xs, 0, p, x, ds', d0, o, h, hx, ha, hs => by
    simp only [RelF] at h
    obtain ⟨c1, c2, rfl, h1, h2⟩ := h
    simp only [D.ats] at ha
    simp only [D.sets, Option.map_eq_some_iff] at hs
    obtain ⟨d', hs, rfl⟩ := hs
    obtain ⟨h3, h4, h5, h6⟩ := RelC.set h1 hx ha hs
    refine ⟨?_, by simp [D.lens, h4], by simp; omega⟩
    simp only [RelF]
    refine ⟨_, c2, ?_, h3, h2⟩
    rw [List.take_append_of_le_length (by omega), List.drop_append_of_le_length (by omega)]
    simp [List.append_assoc]
  | d :: ds, cs, xs, i + 1, p, x, ds', d0, o, h, hx, ha, hs => by
    simp only [RelF] at h
    obtain ⟨c1, c2, rfl, h1, h2⟩ := h
    simp only [D.ats, Option.map_eq_some_iff] at ha
    obtain ⟨r, ha, e⟩ := ha
    simp only [Prod.mk.injEq] at e
    obtain ⟨rfl, rfl⟩ := e
    simp only [D.sets, Option.map_eq_some_iff] at hs
    obtain ⟨ds2, hs, rfl⟩ := hs
    obtain ⟨h3, h4, h5⟩ := RelF.sets (o := r.2) (d0 := r.1) h2 hx ha hs
    have hl := h1.length
    refine ⟨?_, by simp [D.lens, h4], by simp; omega⟩
    simp only [RelF]
    refine ⟨c1, _, ?_, h1, h3⟩
    rw [← hl, List.take_length_add_append, Nat.add_assoc, ← List.drop_drop, List.drop_left]
    simp [List.append_assoc]
end
end
end Go.Ab
namespace Go.Ab
open Go Go.RowKit

/-! ### A local row, given up to be read alone -/
section
variable {P : Program} {F : Fix} {n : Nat} {g : G} {st : St} {a : Act} {w : World}
theorem RelF.toR {U : Nat → Prop} {w : World} {es : Nat} : ∀ {ds : List D} {cs : List Value} (k : Nat), (∀ d ∈ ds, d.len = es) → RelF U w ds cs → RelR U w es (ds.take k) (cs.take ((ds.take k).length * es))
  | [], cs, k, _, h => by simp [RelR]
  | d :: ds, cs, 0, _, h => by simp [RelR]
  | d :: ds, cs, k + 1, he, h => by
    simp only [RelF] at h
    obtain ⟨c1, c2, rfl, h1, h2⟩ := h
    have hl : c1.length = es := by rw [h1.length]; exact he d (by simp)
    have ih := RelF.toR k (fun x hx => he x (by simp [hx])) h2
    simp only [List.take_succ_cons, RelR, List.length_cons]
    refine ⟨c1, c2.take ((ds.take k).length * es), ?_, hl, h1, ih⟩
    rw [Nat.add_mul, Nat.one_mul, Nat.add_comm, ← hl, List.take_length_add_append]
def frz (s gn es : Nat) (ds : List D) : D → D
  | .lsl s' g' n c => if s' = s ∧ g' = gn ∧ n ≤ ds.length then .ro es (ds.take n) else .lsl s' g' n c
  | d => d
def St.freeze (st : St) (s es : Nat) (ds : List D) : St := { st with fr := fun i => frz s (st.gen s) es ds (st.fr i), lc := upd st.lc s none }
theorem Holds.freeze (h : Holds F n g st a w) {s es : Nat} {ds : List D} (hl : st.lc s = some (.agg ds)) (he : ∀ d ∈ ds, d.len = es) :
    Holds F n { g with U := fun b => g.U b ∨ b = g.lam s } (st.freeze s es ds) a w := by
  obtain ⟨hL, hlo, hnU, hnH⟩ := h.locs s _ hl
  obtain ⟨cells, e, hc, hR⟩ := hL.cells rfl
  simp only [RelC] at hR
  have hlt := (Array.getElem?_eq_some_iff.1 hc).1
  have x : Ext g.U (fun b => g.U b ∨ b = g.lam s) w w := ⟨fun _ h => .inl h, fun _ _ => rfl⟩
  have hlc : ∀ s' d, upd st.lc s none s' = some d → s' ≠ s ∧ st.lc s' = some d := fun s' d h => by
    unfold upd at h
    split at h
    · cases h
    · exact ⟨‹_›, h⟩
  refine ⟨h.size, h.defers, fun i => ?_, fun s' d hl' => ?_, fun s1 s2 h1 h2 he2 => ?_, fun b r hr => ?_, fun b hb => .inl (h.uin b hb), fun b hb => ?_, fun b hb => ?_, h.keep⟩
  · have hs := h.slots i
    have hold : ∀ d v, RelS g st w d v → RelS { g with U := fun b => g.U b ∨ b = g.lam s } (st.freeze s es ds) w d v := fun d v hd => by
      refine RelS.ext (st := st) (st' := st.freeze s es ds) x (fun s' gn _ hle => ⟨hle, fun e1 e2 => ⟨e1, ?_, rfl⟩⟩) hd
      have e2' : (upd st.lc s none s').isSome = true := e2
      obtain ⟨d2, hd2⟩ := Option.isSome_iff_exists.1 e2'
      have := (hlc s' d2 hd2).2
      simp [this]
    show RelS _ _ w (frz s (st.gen s) es ds (st.fr i)) _
    cases hd : st.fr i <;> rw [hd] at hs <;> simp only [frz] <;> try exact hold _ _ hs
    rename_i s' gn n' c
    split
    · rename_i hcond
      obtain ⟨rfl, rfl, hn⟩ := hcond
      have hv := hs.2 rfl (by simp [hl])
      rw [hv]
      show RelC _ w (.ro es (ds.take n')) [_]
      simp only [RelC]
      have hlen : (ds.take n').length = n' := by simp; omega
      refine ⟨some ⟨g.lam s', 0, none⟩, c, by rw [hlen], .inr ⟨g.lam s', 0, cells, e, (0, 0), rfl, .inr rfl, hc, ?_⟩⟩
      rw [List.drop_zero]
      exact RelR.mono x (RelF.toR n' he hR)
    · exact hold _ _ hs
  · obtain ⟨hne, hl2⟩ := hlc s' d hl'
    obtain ⟨q2, q3, q4, q5⟩ := h.locs s' d hl2
    refine ⟨q2.mono x rfl, q3, fun hU => ?_, q5⟩
    rcases hU with hU | hU
    · exact q4 hU
    · exact hne (h.linj s' s (by simp [hl2]) (by simp [hl]) hU)
  · obtain ⟨d1, hd1⟩ := Option.isSome_iff_exists.1 h1
    obtain ⟨d2, hd2⟩ := Option.isSome_iff_exists.1 h2
    exact h.linj s1 s2 (by simp [(hlc s1 d1 hd1).2]) (by simp [(hlc s2 d2 hd2).2]) he2
  · obtain ⟨c, q1, q2, q3, q4, q5, q6⟩ := h.heap b r hr
    refine ⟨c, q1, q2, q3, RelR.mono x q4, fun hU => ?_, q6⟩
    rcases hU with hU | hU
    · exact q5 hU
    · have hr' : st.hp b = some r := hr
      rw [hU, hnH] at hr'
      cases hr'
  · rcases hb with hb | hb
    · exact h.ubd b hb
    · rw [hb]; exact hlt
  · rcases hb with hb | hb
    · exact h.uout b hb
    · rw [hb]; exact .inr hlo
/-- A local box that is not written any more: from now on it is read alone. -/
def frzB (s gn : Nat) (c : D) : D → D
  | .lref s' g' p o => if s' = s ∧ g' = gn then (match c.at p with
    | some (d, o') => if o' = o then .cref d else .lref s' g' p o
    | none => .lref s' g' p o) else .lref s' g' p o
  | d => d
def St.freezeB (st : St) (s : Nat) (c : D) : St := { st with fr := fun i => frzB s (st.gen s) c (st.fr i), lc := upd st.lc s none }
theorem Holds.freezeB (h : Holds F n g st a w) {s : Nat} {c : D} (hl : st.lc s = some c) (hmp : c.mpB = false) :
    Holds F n { g with U := fun b => g.U b ∨ b = g.lam s } (st.freezeB s c) a w := by
  obtain ⟨hL, hlo, hnU, hnH⟩ := h.locs s _ hl
  obtain ⟨cells, e, hc, hR⟩ := hL.cells hmp
  have hlt := (Array.getElem?_eq_some_iff.1 hc).1
  have x : Ext g.U (fun b => g.U b ∨ b = g.lam s) w w := ⟨fun _ h => .inl h, fun _ _ => rfl⟩
  have hlc : ∀ s' d, upd st.lc s none s' = some d → s' ≠ s ∧ st.lc s' = some d := fun s' d h => by
    unfold upd at h
    split at h
    · cases h
    · exact ⟨‹_›, h⟩
  refine ⟨h.size, h.defers, fun i => ?_, fun s' d hl' => ?_, fun s1 s2 h1 h2 he2 => ?_, fun b r hr => ?_, fun b hb => .inl (h.uin b hb), fun b hb => ?_, fun b hb => ?_, h.keep⟩
  · have hs := h.slots i
    have hold : ∀ d v, RelS g st w d v → RelS { g with U := fun b => g.U b ∨ b = g.lam s } (st.freezeB s c) w d v := fun d v hd => by
      refine RelS.ext (st := st) (st' := st.freezeB s c) x (fun s' gn _ hle => ⟨hle, fun e1 e2 => ⟨e1, ?_, rfl⟩⟩) hd
      have e2' : (upd st.lc s none s').isSome = true := e2
      obtain ⟨d2, hd2⟩ := Option.isSome_iff_exists.1 e2'
      have := (hlc s' d2 hd2).2
      simp [this]
    show RelS _ _ w (frzB s (st.gen s) c (st.fr i)) _
    cases hd : st.fr i <;> rw [hd] at hs <;> simp only [frzB] <;> try exact hold _ _ hs
    rename_i s' gn p o
    split
    · rename_i hcond
      obtain ⟨rfl, rfl⟩ := hcond
      split
      · rename_i d o' hat
        split
        · rename_i ho
          subst ho
          have hv := hs.2 rfl (by simp [hl])
          obtain ⟨q1, q2⟩ := hR.at hat
          refine ⟨g.lam s', o', cells, e, (0, 0), hv, .inr rfl, hc, by simpa using q2, q1.mono x⟩
        · exact hold _ _ hs
      · exact hold _ _ hs
    · exact hold _ _ hs
  · obtain ⟨hne, hl2⟩ := hlc s' d hl'
    obtain ⟨q2, q3, q4, q5⟩ := h.locs s' d hl2
    refine ⟨q2.mono x rfl, q3, fun hU => ?_, q5⟩
    rcases hU with hU | hU
    · exact q4 hU
    · exact hne (h.linj s' s (by simp [hl2]) (by simp [hl]) hU)
  · obtain ⟨d1, hd1⟩ := Option.isSome_iff_exists.1 h1
    obtain ⟨d2, hd2⟩ := Option.isSome_iff_exists.1 h2
    exact h.linj s1 s2 (by simp [(hlc s1 d1 hd1).2]) (by simp [(hlc s2 d2 hd2).2]) he2
  · obtain ⟨c, q1, q2, q3, q4, q5, q6⟩ := h.heap b r hr
    refine ⟨c, q1, q2, q3, RelR.mono x q4, fun hU => ?_, q6⟩
    rcases hU with hU | hU
    · exact q5 hU
    · have hr' : st.hp b = some r := hr
      rw [hU, hnH] at hr'
      cases hr'
  · rcases hb with hb | hb
    · exact h.ubd b hb
    · rw [hb]; exact hlt
  · rcases hb with hb | hb
    · exact h.uout b hb
    · rw [hb]; exact .inr hlo
end
end Go.Ab
