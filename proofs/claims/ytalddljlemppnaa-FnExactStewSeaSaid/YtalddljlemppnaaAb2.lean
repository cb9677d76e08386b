/- Steps towards the law: the machine, contracts of functions and facts of lists. -/
import Derived.Test.YtalddljlemppnaaAb1
import Derived.Laws.MakeOwn
import Derived.Laws.Tables
import Derived.Lib.Overlaps
import Derived.Lib.AppendZerosOnto
set_option linter.unusedSimpArgs false
set_option linter.unusedVariables false
namespace Go.Ab
open Go Go.RowKit
/-! ### Zero values -/
mutual
def D.flat : D → Option (List Value)
 | .int k n => some [.int k n]
 | .bool b => some [.bool b]
 | .str s => some [.string s]
 | .nil => some [.slice none 0 0]
 | .nilp => some [.pointer none]
 | .agg fs => D.flats fs
 | _ => none
def D.flats : List D → Option (List Value)
 | [] => some []
 | d :: ds => match d.flat, D.flats ds with
  | some a, some b => some (a ++ b)
  | _, _ => none
end
mutual
theorem D.flat_rel {U : Nat → Prop} {w : World} : ∀ {d : D} {cs : List Value}, d.flat = some cs → RelC U w d cs
 | .int .., _, h | .bool .., _, h | .str .., _, h | .nil, _, h | .nilp, _, h => by simp only [D.flat, Option.some.injEq] at h; subst h; simp [RelC]
 | .agg fs, cs, h => by simp only [D.flat] at h; simp only [RelC]; exact D.flats_rel h
 | .ro .., _, h | .undef, _, h | .any, _, h | .lref .., _, h | .lsl .., _, h | .lvw .., _, h | .mp _, _, h | .lmp .., _, h | .cref _, _, h | .tup _, _, h | .fn .., _, h | .arr .., _, h | .ow .., _, h => by simp [D.flat] at h
theorem D.flats_rel {U : Nat → Prop} {w : World} : ∀ {ds : List D} {cs : List Value}, D.flats ds = some cs → RelF U w ds cs
 | [], _, h => by simp only [D.flats, Option.some.injEq] at h; subst h; simp [RelF]
 | d :: ds, cs, h => by
  simp only [D.flats] at h
  cases h1 : d.flat with
  | none => simp [h1] at h
  | some x =>
   cases h2 : D.flats ds with
   | none => simp [h1, h2] at h
   | some y =>
    simp only [h1, h2, Option.some.injEq] at h
    subst h
    simp only [RelF]
    exact ⟨x, y, rfl, D.flat_rel h1, D.flats_rel h2⟩
end
def sameLeaf : Value → Value → Bool
 | .int k n, .int k' m => decide (k = k') && decide (n = m)
 | .bool a, .bool b => a == b
 | .string a, .string b => a.size == 0 && b.size == 0
 | .slice none 0 0, .slice none 0 0 => true
 | .pointer none, .pointer none => true
 | _, _ => false
theorem sameLeaf_eq {a b : Value} (h : sameLeaf a b = true) : a = b := by
 unfold sameLeaf at h
 split at h
 ·simp at h; simp [h.1, h.2]
 ·simp at h; simp [h]
 ·simp at h; rw [h.1, h.2]
 ·rfl
 ·rfl
 ·cases h
def sameAll : List Value → List Value → Bool
 | [], [] => true
 | a :: x, b :: y => sameLeaf a b && sameAll x y
 | _, _ => false
theorem sameAll_eq : ∀ {x y : List Value}, sameAll x y = true → x = y
 | [], [], _ => rfl
 | a :: x, b :: y, h => by
  simp only [sameAll, Bool.and_eq_true] at h
  rw [sameLeaf_eq h.1, sameAll_eq h.2]
 | [], _ :: _, h => by simp [sameAll] at h
 | _ :: _, [], h => by simp [sameAll] at h
def zeroF (P : Program) : Nat → TypeId → Option D
 | 0, _ => none
 | k + 1, t => match P.underlying t with
  | some .bool => some (.bool false)
  | some (.int q) => some (.int q 0)
  | some .string => some (.str ⟨#[]⟩)
  | some (.slice _) => some .nil
  | some (.pointer _) => some .nilp
  | some (.struct fs) => (fs.toList.mapM fun f => zeroF P k f.type).map .agg
  | _ => none
def isAggV : Value → Bool
 | .agg _ => true
 | _ => false
def zeroD (P : Program) (t : TypeId) : Option D :=
 match zeroF P 12 t, P.info? t with
 | some d, some i => match i.zero, d.flat with
  | some z, some cs => if sameAll cs z.cells.toList && (d.isAgg == isAggV z) && (d.len == i.size) then some d else none
  | _, _ => none
 | _, _ => none
theorem zeroD_spec {P : Program} {t : TypeId} {d : D} (h : zeroD P t = some d) : ∃ i z, P.info? t = some i ∧ i.zero = some z ∧ d.len = i.size ∧ d.isAgg = isAggV z ∧ ∀ U w, RelC U w d z.cells.toList := by
 unfold zeroD at h
 split at h
 ·rename_i d' i h1 h2
  split at h
  ·rename_i z cs h3 h4
   split at h
   ·rename_i hc
    simp only [Option.some.injEq] at h
    subst h
    simp only [Bool.and_eq_true, beq_iff_eq] at hc
    exact ⟨i, z, h2, h3, hc.2, hc.1.2, fun U w => by rw [← sameAll_eq hc.1.1]; exact D.flat_rel h4⟩
   ·cases h
  ·cases h
 ·cases h
/-! ### Operations that write, make or call -/
abbrev Loan := Nat × Nat × D
/-- What is lent to a call, and what it owns. -/
def HolL (U : Nat → Prop) (w : World) : List Loan → List Nat → Prop
 | [], F => F = []
 | l :: ls, F => ∃ F1 F2, F = F1 ++ F2 ∧ LocO U w l.2.1 l.2.2 F1 ∧ HolL U w ls F2
def callable (P : Program) (f : FuncId) : Bool :=
 match P.funcs[f]? with
 | some fn => fn.body.isSome && !(fn.name == "runtime.NumGoroutine")
 | none => false
/-- A call: ls is lent to it; K tells what it hands back, and what it gives back. -/
def XC (P : Program) (f : FuncId) (ds : List D) (ls : List Loan) (K : D → List Loan → Prop) : Prop :=
 callable P f = true ∧ ∀ U w vs F, (∀ b, U b → b < w.heap.size) → HolL U w ls F → F.Nodup → (∀ x ∈ F, ¬ U x) → RelT U w ds vs → Calls P f vs.toArray w fun e w' => ∃ v d ls' U' F', e = .returned v ∧ HolL U' w' ls' F' ∧ F'.Nodup ∧
  (∀ x ∈ F', ¬ U' x ∧ (x ∈ F ∨ w.heap.size ≤ x)) ∧ RelV U' w' d v ∧ Keeps (fun b => b ∈ F) w w' ∧ (∀ b, U b → U' b) ∧ (∀ b, U' b → U b ∨ (w.heap.size ≤ b ∧ b < w'.heap.size) ∨ b ∈ F) ∧ K d ls'
/-- A call out of a state. -/
structure XCL (P : Program) (f : FuncId) (ds : List D) (st : St) (K : D → St → Prop) : Prop where
 cal : callable P f = true
 run : ∀ (fr : Nat → D) F n g a w vs, Holds F n g { st with fr := fr } a w → RelT g.U w ds vs → Calls P f vs.toArray w fun e w' => ∃ (v : Value) (d : D) (g' : G) (m : St), e = .returned v ∧ Holds F n g' { m with fr := fr } a w' ∧ RelV g'.U w' d v ∧ K d { m with fr := st.fr }
def D.noL : D → Bool
 | .tup _ => false
 | _ => true
def xat (o base : Nat) : Option (D × Nat) → Prop
 | some (_, o') => base + o' = o
 | none => False
def xset (r : Option D) (K : D → Prop) : Prop :=
 match r with
 | some d => K d
 | none => False
/-- A content with a part written anew. -/
def xput (o : Nat) (x : D) : D → List Nat → (D → Prop) → Prop
 | .arr es ds cp, i :: q, K => i < ds.length ∧ xat o (i * es) ((ds.getD i .any).at q) ∧ xset ((ds.getD i .any).set q x) fun c' => K (.arr es (ds.set i c') cp)
 | .arr .., [], _ => False
 | .mp _, _, _ => False
 | c, p, K => xat o 0 (c.at p) ∧ xset (c.set p x) K
def xstore (st : St) (x : D) (K : St → Prop) : D → Prop
 | .lref s b p o => st.gen s = b ∧ match st.lc s with
  | some c => xput o x c p fun c' => K (st.setLc s c')
  | none => False
 | _ => False
def xcall (P : Program) (st : St) (ds : List D) (K : D → St → Prop) : D → Prop
 | .fn f caps => (ds.all D.noL && caps.all D.noL) = true ∧ XCL P f (ds ++ caps) st K
 | _ => False
def mkOf (P : Program) (t : TypeId) : Option (D × Nat) :=
 match P.underlying t with
 | some (.slice e) => match zeroD P e, P.info? e with
  | some z, some i => some (z, i.bytes)
  | _, _ => none
 | _ => none
def xmk (st : St) (s : Nat) (z : D) (bytes : Nat) (K : D → St → Prop) : D → D → Prop
 | .int _ n, .int _ m => 0 ≤ n ∧ n ≤ m ∧ (bytes : Int) * m ≤ 140737488355328 ∧ m ≤ 9223372036854775807 ∧ ∀ b, K (.lsl s b n.toNat m.toNat) (st.box s b (.arr z.len (List.replicate m.toNat z) m.toNat))
 | _, _ => False
def lensOk (es : Nat) : List D → Bool
 | [] => true
 | d :: ds => Nat.beq d.len es && lensOk es ds
/-- A slice literal. -/
def xrows (es : Nat) (K : List D → Prop) : D → Prop
 | .agg ds => lensOk es ds = true ∧ K ds
 | _ => False
/-- What an append adds to: a name, and the elements. -/
def xold (st : St) (es : Nat) (K : Option Nat → List D → Prop) : D → Prop
 | .nil => K none []
 | .lsl s b n c => st.gen s = b ∧ match st.lc s with
  | some (.arr es' ds c') => es' = es ∧ n = ds.length ∧ c = c' ∧ K (some s) ds
  | _ => False
 | _ => False
/-- What an append adds. -/
def xnew (st : St) (es : Nat) (K : List D → Prop) : D → Prop
 | .nil => K []
 | .ro es' ys => es' = es ∧ K ys
 | .lsl s b n _ => st.gen s = b ∧ match st.lc s with
  | some (.arr es' ds _) => es' = es ∧ n = ds.length ∧ ds.map D.bare = ds ∧ K ds
  | _ => False
 | .lvw s b i o n _ => st.gen s = b ∧ match st.lc s with
  | some (.arr es' ds _) => es' = es ∧ o = i * es ∧ i + n ≤ ds.length ∧ ds.map D.bare = ds ∧ K ((ds.drop i).take n)
  | _ => False
 | _ => False
/-- Elements that are read, of a row that may be longer or shorter: what is known of them, how many they are. -/
def xsrc (st : St) (es : Nat) (K : List D → Nat → Prop) : D → Prop
 | .nil => K [] 0
 | .ro es' ys => es' = es ∧ K ys ys.length
 | .lsl s b n _ => st.gen s = b ∧ match st.lc s with
  | some (.arr es' ds _) => es' = es ∧ ds.map D.bare = ds ∧ K (ds.take n) n
  | _ => False
 | .lvw s b i o n _ => st.gen s = b ∧ match st.lc s with
  | some (.arr es' ds _) => es' = es ∧ o = i * es ∧ ds.map D.bare = ds ∧ K ((ds.drop i).take n) n
  | _ => False
 | _ => False
/-- Where elements are written over, or behind the known ones: a name, the first place, how many. -/
def xdst (st : St) (es : Nat) (K : Nat → Nat → Nat → List D → Nat → Prop) : D → Prop
 | .lsl s b n _ => st.gen s = b ∧ match st.lc s with
  | some (.arr es' ds cp) => es' = es ∧ n ≤ cp ∧ ds.map D.bare = ds ∧ K s 0 n ds cp
  | _ => False
 | .lvw s b i o n _ => st.gen s = b ∧ match st.lc s with
  | some (.arr es' ds cp) => es' = es ∧ o = i * es ∧ i ≤ ds.length ∧ i + n ≤ cp ∧ ds.map D.bare = ds ∧ K s i n ds cp
  | _ => False
 | _ => False
def xcpy (st : St) (es : Nat) (x y : D) (K : D → St → Prop) : Prop :=
 xdst st es (fun s i n ds cp => xsrc st es (fun ys m => ∀ k, k = min m n → k ≤ ys.length ∧ K (.int .i64 k) (st.setLc s (.arr es (ds.take i ++ ys.take k ++ ds.drop (i + k)) cp))) y) x
/-- Room behind the elements that are known is cleared. -/
def xclr (st : St) (es : Nat) (x : D) (K : D → St → Prop) : Prop := match x with
 | .nil => K (.tup []) st
 | .lvw s b i o n _ => st.gen s = b ∧ match st.lc s with
  | some (.arr es' ds cp) => es' = es ∧ o = i * es ∧ ds.length ≤ i ∧ i + n ≤ cp ∧ K (.tup []) st
  | _ => False
 | _ => False
def St.grow (st : St) (s : Option Nat) (t b : Nat) (d : D) : St := match s with
 | some s => st.turn s t b d
 | none => st.box t b d
def xapp (st : St) (t es bytes : Nat) (x y : D) (K : D → St → Prop) : Prop :=
 xold st es (fun s olds => xnew st es (fun news => olds.length + news.length ≤ 1073741824 ∧ bytes ≤ 65536 ∧ es ≠ 0 ∧ ∀ n b c, n = olds.length + news.length → n ≤ c → K (.lsl t b n c) (st.grow s t b (.arr es (olds ++ news) c))) y) x
/-- An append to the first elements of a row. -/
def xappP (st : St) (t es bytes s b i o n c : Nat) (y : D) (K : D → St → Prop) : Prop := i = 0 ∧ o = 0 ∧ st.gen s = b ∧ match st.lc s with
 | some (.arr es' ds c') => es' = es ∧ n ≤ ds.length ∧ c = c' ∧ ds.map D.bare = ds ∧ xnew st es (fun news => n + news.length ≤ 1073741824 ∧ bytes ≤ 65536 ∧ es ≠ 0 ∧
   (n + news.length ≤ c → K (.lsl t b (n + news.length) c) (st.turn s t b (.arr es (ds.take n ++ news) c))) ∧
   (c < n + news.length → ∀ m b' c', m = n + news.length → m ≤ c' → K (.lsl t b' m c') (st.box t b' (.arr es (ds.take n ++ news) c')))) y
 | _ => False
def xappA (st : St) (t es bytes : Nat) (x y : D) (K : D → St → Prop) : Prop := match x with
 | .lvw s b i o n c => xappP st t es bytes s b i o n c y K
 | x => xapp st t es bytes x y K
/-- An append of zero values to the first elements of a row that has no room for them. -/
def xappZr (st : St) (t : Nat) (z : D) (bytes s b n c : Nat) (k : Int) (K : D → St → Prop) : Prop := st.gen s = b ∧ 0 < k ∧ (c : Int) < n + k ∧ n + k ≤ 1073741824 ∧ bytes ≤ 65536 ∧ z.len ≠ 0 ∧ match st.lc s with
 | some (.arr es' ds c') => es' = z.len ∧ n ≤ ds.length ∧ n ≤ c ∧ ds.map D.bare = ds ∧ ∀ m b' c', m = n + k.toNat → m ≤ c' → K (.lsl t b' m c') (st.box t b' (.arr z.len (ds.take n ++ List.replicate k.toNat z) c'))
 | _ => False
def xappZ (st : St) (t : Nat) (z : D) (bytes : Nat) (x y : D) (K : D → St → Prop) : Prop := match x, y with
 | .lsl s b n c, .int _ k => xappZr st t z bytes s b n c k K
 | .lvw s b i o n c, .int _ k => i = 0 ∧ o = 0 ∧ xappZr st t z bytes s b n c k K
 | _, _ => False
/-- The function is slices.overlaps. -/
def OvlF (P : Program) (f : FuncId) : Prop := ∃ (fn : Func) (t r e : TypeId) (size : Nat), P.funcs[f]? = some fn ∧ (fn.name == "runtime.NumGoroutine") = false ∧ fn.body.isNone = true ∧ Extern.findNext fn = none ∧ Extern.find fn = some (Extern.SlicesOverlaps.overlaps #[t, t] #[r]) ∧ P.underlying t = some (.slice e) ∧ ∀ w, (Go.sizeOf e).run P w = .ok size w
/-- Two rows of two names do not overlap. -/
def xovl (P : Program) (st : St) (q : Prop) (f : FuncId) : D → D → Prop
 | .lsl s b _ c, .lvw s' b' _ _ _ c' => OvlF P f ∧ Nat.beq s s' = false ∧ c ≠ 0 ∧ c' ≠ 0 ∧ st.gen s = b ∧ st.gen s' = b' ∧ match st.lc s, st.lc s' with
  | some (.arr _ _ cp), some (.arr es' _ cp') => cp ≠ 0 ∧ cp' ≠ 0 ∧ es' ≠ 0 ∧ q
  | _, _ => False
 | .ro es ds, .lvw s' b' _ _ _ c' => OvlF P f ∧ ds.length * es ≠ 0 ∧ c' ≠ 0 ∧ st.gen s' = b' ∧ match st.lc s' with
  | some (.arr es' _ cp') => cp' ≠ 0 ∧ es' ≠ 0 ∧ q
  | _ => False
 | _, _ => False
def xovlc (P : Program) (st : St) (K : D → St → Prop) : Operand → List D → Prop
 | .func f, [x, y] => xovl P st (K (.bool false) st) f x y
 | _, _ => False
def xbd : D → List (Nat × Nat × Nat × D) → (D → Prop) → Prop
 | acc, [], K => K acc
 | acc, (i, off, sz, x) :: ps, K => x.memB = true ∧ x.len = sz ∧ xat off 0 (acc.at [i]) ∧ xset (acc.set [i] x) fun c => xbd c ps K
def partsOf (P : Program) (t : TypeId) : List (Nat × Operand) → Option (List (Nat × Nat × Nat × Operand))
 | [] => some []
 | (i, x) :: ps => match fldOf P t i, partsOf P t ps with
  | some (off, sz, _), some l => some ((i, off, sz, x) :: l)
  | _, _ => none
theorem splice (off : Nat) : ∀ (xs : List Value) (k : Nat) (cells : Array Value), off + k + xs.length ≤ cells.size →
  ((xs.zipIdx k).foldl (fun cs p => cs.setIfInBounds (off + p.2) p.1) cells).toList = cells.toList.take (off + k) ++ xs ++ cells.toList.drop (off + k + xs.length)
 | [], k, cells, h => by simp
 | x :: xs, k, cells, h => by
  simp only [List.zipIdx_cons, List.foldl_cons]
  rw [splice off xs (k + 1) _ (by simp at h ⊢; omega)]
  simp only [Array.toList_setIfInBounds, List.length_cons] at h ⊢
  have hlt : off + k < cells.toList.length := by simp; omega
  have e1 : (cells.toList.set (off + k) x).take (off + (k + 1)) = cells.toList.take (off + k) ++ [x] := by
   rw [show off + (k + 1) = (off + k) + 1 by omega, List.take_succ_eq_append_getElem (by simpa using hlt)]
   simp [List.take_set_of_le]
  have e2 : (cells.toList.set (off + k) x).drop (off + (k + 1) + xs.length) = cells.toList.drop (off + k + (xs.length + 1)) := by
   rw [List.drop_set_of_lt (by omega)]
   congr 1
   omega
  rw [e1, e2]
  simp
def xmu (st : St) (K : St → Prop) : D → D → D → Prop
 | .lmp s b, .str k, .bool v => st.gen s = b ∧ match st.lc s with
  | some (.mp l) => K (st.setLc s (.mp (kset l k v)))
  | _ => False
 | _, _, _ => False
def builtB (P : Program) (t : TypeId) : Bool := match P.underlying t with
 | some (.struct fields) => (fields.toList.mapM fun f => (P.info? f.type).map fun i => (f.offset, i.size)).isSome && aggB P t
 | _ => false
theorem builtB_spec {P : Program} {t : TypeId} (hb : builtB P t = true) : ∃ fs places, P.underlying t = some (.struct fs) ∧ fs.toList.mapM (fun f => (P.info? f.type).map fun i => (f.offset, i.size)) = some places := by
 unfold builtB at hb
 split at hb
 ·rename_i fs hu
  simp only [Bool.and_eq_true] at hb
  obtain ⟨ps, hps⟩ := Option.isSome_iff_exists.1 hb.1
  exact ⟨fs, ps, hu, hps⟩
 ·cases hb
theorem mapM_at {α β : Type} {f : α → Option β} : ∀ {l : List α} {r : List β} {i : Nat} {x : α}, l.mapM f = some r → l[i]? = some x → ∃ y, f x = some y ∧ r[i]? = some y
 | [], r, i, x, h, hx => by simp at hx
 | a :: l, r, i, x, h, hx => by
  simp only [List.mapM_cons, Option.bind_eq_bind, Option.pure_def] at h
  cases hf : f a with
  | none => simp [hf] at h
  | some y =>
   cases hl : l.mapM f with
   | none => simp [hf, hl] at h
   | some r' =>
    simp [hf, hl] at h
    subst h
    cases i with
    | zero => simp at hx; subst hx; exact ⟨y, hf, rfl⟩
    | succ j => simpa using mapM_at (i := j) hl (by simpa using hx)
theorem partsOf_place {P : Program} {t : TypeId} {fs : Array Field} {places : List (Nat × Nat)} (hu : P.underlying t = some (.struct fs)) (hp : fs.toList.mapM (fun f => (P.info? f.type).map fun i => (f.offset, i.size)) = some places) :
  ∀ {ps : List (Nat × Operand)} {l : List (Nat × Nat × Nat × Operand)}, partsOf P t ps = some l → (∀ p ∈ l, places[p.1]? = some (p.2.1, p.2.2.1)) ∧ l.map (fun p => (p.1, p.2.2.2)) = ps
 | [], l, h => by simp [partsOf] at h; subst h; simp
 | (i, x) :: ps, l, h => by
  simp only [partsOf] at h
  split at h
  ·rename_i off sz ag l' h1 h2
   simp only [Option.some.injEq] at h
   subst h
   obtain ⟨q1, q2⟩ := partsOf_place hu hp h2
   refine ⟨fun p hpm => ?_, by simp [q2]⟩
   rcases List.mem_cons.1 hpm with rfl | hpm
   ·unfold fldOf at h1
    rw [hu] at h1
    simp only at h1
    rw [Option.bind_eq_some_iff] at h1
    obtain ⟨fd, hfd, h1⟩ := h1
    rw [Option.map_eq_some_iff] at h1
    obtain ⟨⟨r, r'⟩, r1, h1⟩ := h1
    simp only [Prod.mk.injEq] at h1
    obtain ⟨rfl, rfl, rfl⟩ := h1
    obtain ⟨inf, dd, hi, _, e2, _⟩ := varOf_info r1
    obtain ⟨y, hy, hr⟩ := mapM_at hp (i := i) (x := fd) (by simpa using hfd)
    rw [hi] at hy
    simp only [Option.map_some, Option.some.injEq] at hy
    subst hy
    rw [hr, e2]
   ·exact q1 p hpm
  ·cases h
def xop (P : Program) (dst : Option Nat) (st : St) (K : D → St → Prop) : Op → Prop
 | .makeSlice t l c => match dst, mkOf P t with
  | some s, some (z, bytes) => xmk st s z bytes K (st.ev l) (st.ev c)
  | _, _ => False
 | .alloc t => match dst, zeroD P t with
  | some s, some z => ∀ b, K (.lref s b [] 0) (st.box s b z)
  | _, _ => False
 | .box _ x => match dst with
  | some s => (st.ev x).memB = true ∧ ∀ b, K (.lref s b [] 0) (st.box s b (st.ev x))
  | none => False
 | .store t p x => match varOf P t with
  | some (sz, _) => (st.ev x).memB = true ∧ (st.ev x).len = sz ∧ xstore st (st.ev x) (fun st' => K .undef st') (st.ev p)
  | none => False
 | .makeMap t r => match dst with
  | some s => r = none ∧ ∀ b, K (.lmp s b) (st.box s b (.mp []))
  | none => False
 | .mapUpdate t m k x => mapStrB P t = true ∧ xmu st (fun st' => K .undef st') (st.ev m) (st.ev k) (st.ev x)
 | .buildSlice t len parts => match dst, mkOf P t with
  | some s, some (z, _) => if len = 0 then parts = #[] ∧ K .nil st else len * z.len ≤ 16777216 ∧ len * z.len ≠ 0 ∧ xbd (.agg (List.replicate len z)) (parts.toList.map fun p => (p.1, p.1 * z.len, z.len, st.ev p.2)) (xrows z.len fun ds => ∀ b, K (.lsl s b len len) (st.box s b (.arr z.len ds len)))
  | _, _ => False
 | .build t parts => match zeroD P t, partsOf P t parts.toList with
  | some z, some l => builtB P t = true ∧ z.isAgg = true ∧ xbd z (l.map fun p => (p.1, p.2.1, p.2.2.1, st.ev p.2.2.2)) fun d => K d st
  | _, _ => False
 | .call c => match c.callee with
  | .value f => xcall P st (c.args.toList.map st.ev) K (st.ev f) ∨ xovlc P st K f (c.args.toList.map st.ev)
  | .builtin .append => match dst, c.args[0]?, c.args[1]?, c.argTypes[0]?, c.argTypes[1]? with
   | some t, some x, some y, some ty, some ty' => match mkOf P ty, P.underlying ty' with
    | some (z, bytes), some (.slice _) => xappA st t z.len bytes (st.ev x) (st.ev y) K
    | some (z, bytes), some (.int .i64) => xappZ st t z bytes (st.ev x) (st.ev y) K
    | _, _ => False
   | _, _, _, _, _ => False
  | .builtin .copy => match c.args[0]?, c.args[1]?, c.argTypes[0]? with
   | some x, some y, some ty => match eltOf P ty with
    | some es => es ≠ 0 ∧ xcpy st es (st.ev x) (st.ev y) K
    | none => False
   | _, _, _ => False
  | .builtin .clear => match c.args[0]?, c.argTypes[0]? with
   | some x, some ty => match mkOf P ty with
    | some (z, _) => xclr st z.len (st.ev x) K
    | none => False
   | _, _ => False
  | _ => xpure P st (fun d => K d st) (.call c)
 | op => xpure P st (fun d => K d st) op
def LoanOk (st : St) : List Loan → Prop
 | [] => True
 | l :: ls => st.lc l.1 = some l.2.2 ∧ st.gen l.1 = l.2.1 ∧ (ls.all fun m => !Nat.beq m.1 l.1) = true ∧ LoanOk st ls
def St.clr : List Loan → St → St
 | [], st => st
 | l :: ls, st => St.clr ls { st with lc := upd st.lc l.1 none }
def St.adds : List Loan → St → St
 | [], st => st
 | l :: ls, st => St.adds ls (st.box l.1 l.2.1 l.2.2)
def St.back (st : St) (ls ls' : List Loan) : St := St.adds ls' (St.clr ls st)
end Go.Ab
namespace Go.Ab
open Go Go.RowKit
section
variable {P : Program} {F : Fix} {n : Nat} {g : G} {st : St} {a : Act} {w : World}
theorem Below.ext {U : Nat → Prop} {w w' : World} (hU : ∀ b, U b → b < w.heap.size) (hb : Below w.heap.size w w') : Ext U U w w' := ⟨fun _ h => h, fun b h => hb.block b (hU b h)⟩
theorem Holds.below (h : Holds F n g st a w) {w' : World} (hb : Below w.heap.size w w') : Holds F n g st a w' := by
 have x : Ext g.U g.U w w' := Below.ext h.ubd hb
 refine ⟨h.size, h.defers, fun i => (h.slots i).mono x, fun s d hl => ?_, h.uin, fun b hU => ?_, h.uout, ?_⟩
 ·obtain ⟨Fs, hO⟩ := h.locs s d hl
  exact ⟨Fs, hO.loc.mono ⟨x.u, x.heap, fun b hx => hb.block b (hO.loc.lt b hx)⟩, hO.nd, hO.own, hO.nu, hO.lo⟩
 ·have := h.ubd b hU; have := hb.size; omega
 ·refine ⟨hb.os.trans h.keep.os, hb.tape.trans h.keep.tape, hb.output.trans h.keep.output, Nat.le_trans h.keep.size hb.size, fun k hk hH => ?_⟩
  rw [hb.block k (Nat.lt_of_lt_of_le hk h.keep.size)]
  exact h.keep.block k hk hH
theorem HolL.lt {U : Nat → Prop} : ∀ {ls : List Loan} {Fs : List Nat}, HolL U w ls Fs → ∀ x ∈ Fs, x < w.heap.size
 | [], _, h => by simp only [HolL] at h; subst h; simp
 | l :: ls, _, h => by
  simp only [HolL] at h
  obtain ⟨F1, F2, rfl, h1, h2⟩ := h
  intro x hx
  rcases List.mem_append.1 hx with hx | hx
  ·exact h1.lt x hx
  ·exact HolL.lt h2 x hx
def nameIn (s : Nat) (ls : List Loan) : Prop := ∃ l ∈ ls, l.1 = s
theorem Holds.loans (h : Holds F n g st a w) : ∀ {ls : List Loan}, LoanOk st ls → ∃ Fs, HolL g.U w ls Fs ∧ Fs.Nodup ∧ ∀ x ∈ Fs, ∃ s, nameIn s ls ∧ Mine F g s x
 | [], _ => ⟨[], rfl, List.nodup_nil, fun x hx => by simp at hx⟩
 | l :: ls, hk => by
  obtain ⟨h1, h2, h3, h4⟩ := hk
  obtain ⟨Fs, q1, q2, q3⟩ := h.loans h4
  obtain ⟨F1, hO⟩ := h.locs _ _ h1
  rw [h2] at hO
  refine ⟨F1 ++ Fs, ⟨F1, Fs, rfl, hO.loc, q1⟩, ?_, fun x hx => ?_⟩
  ·refine List.nodup_append.2 ⟨hO.nd, q2, fun x hx y hy => ?_⟩
   rintro rfl
   obtain ⟨s, ⟨m, hm, hs⟩, hM⟩ := q3 x hy
   have e1 := hO.own x hx
   rw [hM.1] at e1
   simp only [Option.some.injEq] at e1
   have := List.all_eq_true.1 h3 m hm
   simp only [Bool.not_eq_true'] at this
   rw [hs, e1] at this
   simp at this
  ·rcases List.mem_append.1 hx with hx | hx
   ·exact ⟨l.1, ⟨l, by simp, rfl⟩, hO.mine hx⟩
   ·obtain ⟨s, ⟨m, hm, hs⟩, hM⟩ := q3 x hx
    exact ⟨s, ⟨m, by simp [hm], hs⟩, hM⟩
theorem clr_fr : ∀ {ls : List Loan} {st : St}, (St.clr ls st).fr = st.fr
 | [], _ => rfl
 | l :: ls, st => by simp only [St.clr]; rw [clr_fr]
theorem clr_gen : ∀ {ls : List Loan} {st : St}, (St.clr ls st).gen = st.gen
 | [], _ => rfl
 | l :: ls, st => by simp only [St.clr]; rw [clr_gen]
theorem clr_lc : ∀ {ls : List Loan} {st : St} {s : Nat} {d : D}, (St.clr ls st).lc s = some d → st.lc s = some d ∧ ¬ nameIn s ls
 | [], _, s, d, h => ⟨h, fun ⟨l, hl, _⟩ => by simp at hl⟩
 | l :: ls, st, s, d, h => by
  simp only [St.clr] at h
  obtain ⟨h1, h2⟩ := clr_lc h
  simp only [upd_apply] at h1
  split at h1
  ·cases h1
  ·rename_i hne
   refine ⟨h1, ?_⟩
   rintro ⟨m, hm, hs⟩
   rcases List.mem_cons.1 hm with rfl | hm
   ·exact hne hs.symm
   ·exact h2 ⟨m, hm, hs⟩
/-- What was lent is given up. -/
theorem Holds.given (h : Holds F n g st a w) {ls : List Loan} {Fs F' : List Nat} {U' : Nat → Prop} {w' : World} (hM : ∀ x ∈ Fs, ∃ s, nameIn s ls ∧ Mine F g s x) (hlt : ∀ x ∈ Fs, x < w.heap.size) (hK : Keeps (fun b => b ∈ Fs) w w') (hU1 : ∀ b, g.U b → U' b)
  (hU2 : ∀ b, U' b → g.U b ∨ (w.heap.size ≤ b ∧ b < w'.heap.size) ∨ b ∈ Fs) (hF : ∀ x ∈ F', x ∈ Fs ∨ w.heap.size ≤ x) :
  Holds F n { U := U', own := fun x => if x ∈ F' then none else g.own x } (St.clr ls st) a w' := by
 have hs : F.w0.heap.size ≤ w.heap.size := h.keep.size
 have hsz := hK.size
 have hnd : ∀ b, g.U b → b ∉ Fs := fun b hU hd => by
  obtain ⟨s, _, hm⟩ := hM b hd
  exact hm.2.1 hU
 have x : Ext g.U U' w w' := ⟨hU1, fun b hU => hK.block b (h.ubd b hU) (hnd b hU)⟩
 refine ⟨h.size, h.defers, fun i => by rw [clr_fr]; exact (h.slots i).mono x, fun s d hl => ?_, fun b hb => hU1 b (h.uin b hb), fun b hb => ?_, fun b hU => ?_, ?_⟩
 ·obtain ⟨hl1, hl2⟩ := clr_lc hl
  obtain ⟨Gs, hO⟩ := h.locs s d hl1
  rw [clr_gen]
  have hno : ∀ y ∈ Gs, y ∉ Fs := fun y hy hy' => by
   obtain ⟨s', hn', hm⟩ := hM y hy'
   have := hO.own y hy
   rw [hm.1] at this
   simp only [Option.some.injEq] at this
   rw [this] at hn'
   exact hl2 hn'
  refine ⟨Gs, hO.loc.mono ⟨x.u, x.heap, fun y hy => hK.block y (hO.loc.lt y hy) (hno y hy)⟩, hO.nd, fun y hy => ?_, fun y hy hU => ?_, hO.lo⟩
  ·have : y ∉ F' := fun hy' => by
    rcases hF y hy' with q | q
    ·exact hno y hy q
    ·have := hO.loc.lt y hy; omega
   simp only [this, if_false]
   exact hO.own y hy
  ·rcases hU2 y hU with q | q | q
   ·exact hO.nu y hy q
   ·have := hO.loc.lt y hy; omega
   ·exact hno y hy q
 ·rcases hU2 b hb with q | q | q
  ·have := h.ubd b q; omega
  ·exact q.2
  ·have := hlt b q; omega
 ·rcases hU2 b hU with q | q | q
  ·exact h.uout b q
  ·exact .inr (.inl (by omega))
  ·obtain ⟨s, _, hm⟩ := hM b q
   exact .inr hm.2.2
 ·refine ⟨hK.os.trans h.keep.os, hK.tape.trans h.keep.tape, hK.output.trans h.keep.output, by omega, fun k hk hH0 => ?_⟩
  rw [hK.block k (by omega) (fun hd => ?_)]
  ·exact h.keep.block k hk hH0
  ·obtain ⟨s, _, hm⟩ := hM k hd
   rcases hm.2.2 with q | q
   ·omega
   ·exact hH0 q
/-- What is given back is taken in. -/
theorem Holds.taken : ∀ {ls : List Loan} {st : St} {g : G} {Fs : List Nat}, Holds F n g st a w → HolL g.U w ls Fs → Fs.Nodup → (∀ x ∈ Fs, g.own x = none ∧ ¬ g.U x ∧ (F.w0.heap.size ≤ x ∨ F.H0 x)) → ∃ g', g'.U = g.U ∧ Holds F n g' (St.adds ls st) a w
 | [], st, g, Fs, h, _, _, _ => ⟨g, rfl, h⟩
 | l :: ls, st, g, Fs, h, hL, hn, hf => by
  simp only [HolL] at hL
  obtain ⟨F1, F2, rfl, h1, h2⟩ := hL
  obtain ⟨n1, n2, n3⟩ := List.nodup_append.1 hn
  have hB : Holds F n { g with own := fun x => if x ∈ F1 then some l.1 else g.own x } (st.box l.1 l.2.1 l.2.2) a w := by
   refine ⟨h.size, h.defers, h.slots, fun s d hl => ?_, h.uin, h.ubd, h.uout, h.keep⟩
   have hl' : upd st.lc l.1 (some l.2.2) s = some d := hl
   simp only [upd_apply] at hl'
   by_cases e : s = l.1
   ·subst e
    simp only [if_true, Option.some.injEq] at hl'
    subst hl'
    refine ⟨F1, ?_, n1, fun x hx => by simp [hx], fun x hx => (hf x (by simp [hx])).2.1, fun x hx => (hf x (by simp [hx])).2.2⟩
    show LocO g.U w (upd st.gen l.1 l.2.1 l.1) _ _
    rw [upd_apply, if_pos rfl]
    exact h1
   ·rw [if_neg e] at hl'
    obtain ⟨Gs, hO⟩ := h.locs s d hl'
    refine ⟨Gs, ?_, hO.nd, fun y hy => ?_, hO.nu, hO.lo⟩
    ·show LocO g.U w (upd st.gen l.1 l.2.1 s) _ _
     rw [upd_apply, if_neg e]
     exact hO.loc
    ·have : y ∉ F1 := fun hy' => by
      have q := (hf y (by simp [hy'])).1
      rw [hO.own y hy] at q
      cases q
     simp only [this, if_false]
     exact hO.own y hy
  obtain ⟨g', e, hg'⟩ := Holds.taken (ls := ls) hB h2 n2 (fun x hx => by
   have : x ∉ F1 := fun hx1 => n3 x hx1 x hx rfl
   simp only [this, if_false]
   exact hf x (by simp [hx]))
  exact ⟨g', e, hg'⟩
theorem back_fr {ls ls' : List Loan} {st : St} {fr : Nat → D} : St.back { st with fr := fr } ls ls' = { St.back st ls ls' with fr := fr } := by
 have h1 : ∀ (ls : List Loan) (st : St), St.clr ls { st with fr := fr } = { St.clr ls st with fr := fr } := fun ls => by
  induction ls with
  | nil => intro st; rfl
  | cons l ls ih => intro st; exact ih { st with lc := upd st.lc l.1 none }
 have h2 : ∀ (ls : List Loan) (st : St), St.adds ls { st with fr := fr } = { St.adds ls st with fr := fr } := fun ls => by
  induction ls with
  | nil => intro st; rfl
  | cons l ls ih => intro st; exact ih (st.box l.1 l.2.1 l.2.2)
 unfold St.back
 rw [h1, h2]
theorem adds_fr : ∀ {ls : List Loan} {st : St}, (St.adds ls st).fr = st.fr
 | [], _ => rfl
 | l :: ls, st => by simp only [St.adds]; rw [adds_fr]; rfl
theorem LoanOk.fr {st : St} {fr : Nat → D} : ∀ {ls : List Loan}, LoanOk st ls → LoanOk { st with fr := fr } ls
 | [], h => h
 | l :: ls, h => ⟨h.1, h.2.1, h.2.2.1, LoanOk.fr h.2.2.2⟩
theorem XCL.of_XC {f : FuncId} {ds : List D} {st : St} {K : D → St → Prop} {ls : List Loan} (hk : LoanOk st ls) (h : XC P f ds ls fun d ls' => K d (st.back ls ls')) : XCL P f ds st K := by
 refine ⟨h.1, fun fr F n g a w vs hH hT => ?_⟩
 obtain ⟨Fs, q1, q2, q3⟩ := hH.loans hk.fr
 refine (h.2 g.U w vs Fs hH.ubd q1 q2 (fun x hx => by obtain ⟨s, _, hm⟩ := q3 x hx; exact hm.2.1) hT).mono fun e w' ⟨v, d, ls', U', F', h1, h2, h3, h4, h5, h6, h7, h8, h9⟩ => ?_
 have hG := hH.given q3 q1.lt h6 h7 h8 (F' := F') (fun x hx => (h4 x hx).2)
 obtain ⟨g', e1, hg'⟩ := hG.taken h2 h3 (fun x hx => by
  refine ⟨by simp [hx], (h4 x hx).1, ?_⟩
  rcases (h4 x hx).2 with q | q
  ·obtain ⟨s, _, hm⟩ := q3 x q; exact hm.2.2
  ·have := hH.keep.size; exact .inl (by omega))
 have e2 : St.adds ls' (St.clr ls { st with fr := fr }) = { St.back st ls ls' with fr := fr } := back_fr
 rw [e2] at hg'
 have e3 : (St.back st ls ls').fr = st.fr := by unfold St.back; rw [adds_fr, clr_fr]
 exact ⟨v, d, g', _, h1, hg', by rw [e1]; exact h5, by rw [← e3]; exact h9⟩
theorem Holds.evs (h : Holds F n g st a w) : ∀ (xs : List Operand), (xs.map st.ev).all D.noL = true → RelT g.U w (xs.map st.ev) (xs.map a.eval)
 | [], _ => by simp [RelT]
 | x :: xs, hn => by
  simp only [List.map_cons, List.all_cons, Bool.and_eq_true] at hn
  simp only [List.map_cons, RelT]
  refine ⟨_, _, rfl, ?_, h.evs xs hn.2⟩
  have := h.ev x
  cases hd : st.ev x <;> rw [hd] at this hn <;> first | exact this | (simp [D.noL] at hn)
theorem RelV.mem {U : Nat → Prop} {x : D} {vx : Value} (hx : RelV U w x vx) (hm : x.memB = true) : RelC U w x vx.cells.toList := by
 refine RelW.of_mem ?_ hm
 cases x <;> first | exact hx | (simp [D.memB] at hm)
theorem xput_spec {o : Nat} {x : D} {c : D} {p : List Nat} {K : D → Prop} (h : xput o x c p K) : (c.mpB = false ∧ ∃ d0 c', c.at p = some (d0, o) ∧ c.set p x = some c' ∧ K c') ∨ ∃ es ds cp i q d0 o' c', c = .arr es ds cp ∧ p = i :: q ∧ i < ds.length ∧ o = i * es + o' ∧ (ds.getD i .any).at q = some (d0, o') ∧ (ds.getD i .any).set q x = some c' ∧ K (.arr es (ds.set i c') cp) := by
 have gen : c.mpB = false → xat o 0 (c.at p) ∧ xset (c.set p x) K → c.mpB = false ∧ ∃ d0 c', c.at p = some (d0, o) ∧ c.set p x = some c' ∧ K c' := fun hc ⟨h1, h2⟩ => by
  unfold xat at h1
  split at h1
  ·rename_i d0 o' ha
   unfold xset at h2
   split at h2
   ·rename_i c' hs
    exact ⟨hc, d0, c', by rw [ha, ← h1, Nat.zero_add], hs, h2⟩
   ·exact h2.elim
  ·exact h1.elim
 cases c
 case arr es ds cp =>
  cases p with
  | nil => exact h.elim
  | cons i q =>
   obtain ⟨hi, h1, h2⟩ := h
   unfold xat at h1
   split at h1
   ·rename_i d0 o' ha
    unfold xset at h2
    split at h2
    ·rename_i c' hs
     exact .inr ⟨es, ds, cp, i, q, d0, o', c', rfl, rfl, hi, h1.symm, ha, hs, h2⟩
    ·exact h2.elim
   ·exact h1.elim
 case mp l => exact h.elim
 all_goals exact .inl (gen rfl h)
theorem xstore_sound (h : Holds F n g st a w) {t : TypeId} {sz : Nat} {ag : Bool} (ht : varOf P t = some (sz, ag)) {x p : D} {vx vp : Value} {K : St → Prop} (hx : RelV g.U w x vx) (hm : x.memB = true) (hl : x.len = sz) (hp : RelV g.U w p vp) (hk : xstore st x K p) :
  ∃ g' st' w', K st' ∧ Holds F n g' st' a w' ∧ (Instr.storeAt t vp vx).run P w = .ok () w' := by
 obtain ⟨inf, dd, hi, hu, e1, e2⟩ := varOf_info ht
 have hxc := hx.mem hm
 have hlen := hxc.length
 have h1 := hxc.oneCell
 have hrun : ∀ (b o : Nat) (old : Array Value) (e : TypeId), w.heap[b]? = some (.cells old e (0, 0)) → o + vx.cells.toList.length ≤ old.size → (Instr.storeAt t (.pointer (some ⟨b, o, none⟩)) vx).run P w = .ok () (w.setRow b (old.toList.take o ++ vx.cells.toList ++ old.toList.drop (o + vx.cells.toList.length)).toArray) := fun b o old e hc hle => by
  have := run_storeCells_at (P := P) b o e vx.cells.toList 0 old w hc (by simpa using hle) h1
  have hs : vx.cells.size = inf.size := by rw [e1, ← hl, ← hlen]; simp
  unfold Instr.storeAt storeVar
  simp only [Instr.sureAddr, Sem.run_bind, Sem.run_pure, Result.andThen_ok, sizeOf, typeInfo]
  simp [hi, hs, this]
 cases p <;> simp only [xstore] at hk
 case lref s b p o =>
  obtain ⟨hg, hk⟩ := hk
  obtain rfl := RelV.lref hp
  cases hc : st.lc s with
  | none => simp [hc] at hk
  | some c =>
   simp only [hc] at hk
   obtain ⟨Fs, hO⟩ := h.locs s c hc
   subst hg
   have fin : ∀ (old : Array Value) (e : TypeId) (d' : D) (F' : List Nat), w.heap[st.gen s]? = some (.cells old e (0, 0)) → o + vx.cells.toList.length ≤ old.size → st.gen s ∈ Fs → F'.Sublist Fs →
     LocO g.U (w.setRow (st.gen s) (old.toList.take o ++ vx.cells.toList ++ old.toList.drop (o + vx.cells.toList.length)).toArray) (st.gen s) d' F' → K (st.setLc s d') →
     ∃ g' st' w', K st' ∧ Holds F n g' st' a w' ∧ (Instr.storeAt t (.pointer (some ⟨st.gen s, o, none⟩)) vx).run P w = .ok () w' := fun old e d' F' hcell hle hin hsub hd hK =>
    ⟨_, _, _, hK, h.setLcO hO hin (setRow_heap' w _ old _ e (0, 0) hcell) (setRow_size _ _ _) rfl rfl rfl hd hsub, hrun _ _ _ _ hcell hle⟩
   have ext : ∀ (old new : Array Value) (e : TypeId) (H : List Nat), w.heap[st.gen s]? = some (.cells old e (0, 0)) → Fs = st.gen s :: H → ∀ H', H'.Sublist H → ExtO g.U g.U H' w (w.setRow (st.gen s) new) := fun old new e H hcell hFs H' hs' => by
    have hh := setRow_heap' w (st.gen s) old new e (0, 0) hcell
    refine ⟨fun _ h => h, fun k hU => ?_, fun k hk' => ?_⟩
    ·rw [hh, if_neg]
     rintro rfl
     exact hO.nu _ (by rw [hFs]; simp) hU
    ·rw [hh, if_neg]
     rintro rfl
     have := hO.nd
     rw [hFs] at this
     exact (List.nodup_cons.1 this).1 (hs'.subset hk')
   rcases xput_spec hk with ⟨hmp, d0, c', ha, hs, hK⟩ | ⟨es, ds, cp, i, q, d0, o', c', rfl, rfl, hil, rfl, ha, hs, hK⟩
   ·obtain ⟨cells, e, H, hcell, hR, hFs⟩ := hO.loc.cells hmp
    obtain ⟨H', q1, q2, _, _, q3⟩ := hR.set hxc ha hs
    refine fin cells e c' (st.gen s :: H') hcell (by simpa using q3) (by rw [hFs]; simp) (by rw [hFs]; exact q2.cons_cons _) ?_ hK
    refine .of (by rw [setRow_heap' w _ cells _ e (0, 0) hcell, if_pos rfl]) ?_
    have q1' : RelO g.U w c' (cells.toList.take o ++ vx.cells.toList ++ cells.toList.drop (o + vx.cells.toList.length)).toArray.toList H' := by simpa using q1
    exact q1'.mono (ext cells _ e H hcell hFs H' q2)
   ·rcases hO.loc with ⟨_, rfl, _⟩ | ⟨cells, e, H, hc0, hcell, hsz, hle, hR, hFs⟩
    ·simp at hil
    ·have hget : ds[i]? = some (ds.getD i .any) := by simp [hil]
     obtain ⟨G0, r1, _, r3, r4⟩ := hR.get hget
     have hl' := hR.length
     obtain ⟨_, _, _, _, _, z5⟩ := r1.set hxc ha hs
     have hL : vx.cells.toList.length = vx.cells.size := by simp
     simp only [List.length_take, List.length_drop, Array.length_toList] at hl' r4 z5
     obtain ⟨H', q1, q2⟩ := RelOR.set_cells (o := o') (xs := vx.cells.toList) (c' := c') hR hget (fun Fc hFc => by
      obtain ⟨H1, z1, z2, _⟩ := hFc.set hxc ha hs
      exact ⟨H1, z1, z2⟩) (by simp only [List.length_take, List.length_drop, Array.length_toList]; omega)
     have hbig : ds.length * es ≤ cells.size := by rw [hsz]; exact Nat.mul_le_mul_right _ hle
     refine fin cells e _ (st.gen s :: H') hcell (by omega) (by rw [hFs]; simp) (by rw [hFs]; exact q2.cons_cons _) ?_ hK
     refine .inr ⟨_, e, H', hc0, by rw [setRow_heap' w _ cells _ e (0, 0) hcell, if_pos rfl], ?_, by simpa using hle, ?_, rfl⟩
     ·simp only [List.size_toArray, List.length_append, List.length_take, List.length_drop, Array.length_toList]
      omega
     ·have e1 : ((cells.toList.take (i * es + o') ++ vx.cells.toList ++ cells.toList.drop (i * es + o' + vx.cells.toList.length)).toArray.toList.take ((ds.set i c').length * es)) = ((cells.toList.take (ds.length * es)).take (i * es + o')) ++ vx.cells.toList ++ ((cells.toList.take (ds.length * es)).drop (i * es + o' + vx.cells.toList.length)) := by
       simp only [List.length_set]
       rw [List.append_assoc, List.take_append, List.take_append, List.drop_take, List.take_take, List.take_take]
       have l1 : (cells.toList.take (i * es + o')).length = i * es + o' := by simp; omega
       rw [l1]
       have hm1 : min (ds.length * es) (i * es + o') = i * es + o' := by omega
       have hm2 : min (i * es + o') (ds.length * es) = i * es + o' := by omega
       rw [hm1, hm2, List.take_of_length_le (l := vx.cells.toList) (by omega), List.append_assoc, Nat.sub_sub]
      rw [e1]
      exact q1.mono (ext cells _ e H hcell hFs H' q2)
theorem RelL.toT {U : Nat → Prop} : ∀ {ds : List D} {vs : List Value}, RelL U w ds vs → RelT U w ds vs
 | [], _, h => by simpa [RelL, RelT] using h
 | d :: ds, _, h => by
  simp only [RelL, RelT] at h ⊢
  obtain ⟨v, r, h1, h2, h3, h4⟩ := h
  refine ⟨v, r, h1, ?_, RelL.toT h4⟩
  cases d <;> first | exact h3 | exact trivial | (simp [D.isAgg] at h2; done) | (simp [RelC] at h3)
theorem RelT.append {U : Nat → Prop} : ∀ {ds : List D} {vs : List Value} {es : List D} {us : List Value}, RelT U w ds vs → RelT U w es us → RelT U w (ds ++ es) (vs ++ us)
 | [], _, _, _, h, h' => by simp only [RelT] at h; subst h; exact h'
 | d :: ds, _, _, _, h, h' => by
  simp only [RelT] at h
  obtain ⟨v, r, rfl, h2, h3⟩ := h
  simp only [List.cons_append, RelT]
  exact ⟨v, _, rfl, h2, h3.append h'⟩
theorem RelF.rep {U : Nat → Prop} {d : D} {cs : List Value} (h : RelC U w d cs) : ∀ m : Nat, RelF U w (List.replicate m d) (List.replicate m cs).flatten
 | 0 => by simp [RelF]
 | m + 1 => by
  simp only [List.replicate_succ, RelF, List.flatten_cons]
  exact ⟨_, _, rfl, h, RelF.rep h m⟩
theorem madeCells_rep (z : Array Value) : ∀ m : Nat, (madeCells z (m * z.size)).toList = (List.replicate m z.toList).flatten
 | 0 => by simp [madeCells]
 | m + 1 => by
  have ih := madeCells_rep z m
  rw [List.replicate_succ', List.flatten_append, ← ih]
  simp only [madeCells, List.flatten_singleton]
  apply List.ext_getElem?
  intro i
  by_cases h1 : i < m * z.size
  ·have h2 : i < (m + 1) * z.size := by rw [Nat.add_mul]; omega
   rw [List.getElem?_append_left (by simpa using h1)]
   simp [h1, h2]
  ·rw [List.getElem?_append_right (by simpa using h1)]
   by_cases h2 : i < (m + 1) * z.size
   ·have h4 : i - m * z.size < z.size := by rw [Nat.add_mul] at h2; omega
    have h3 : i % z.size = i - m * z.size := by
     have e : i = (i - m * z.size) + m * z.size := by omega
     rw [e, Nat.add_mul_mod_self_right, Nat.mod_eq_of_lt h4]
     omega
    simp [h2, h3, h4]
   ·have h4 : ¬ i - m * z.size < z.size := by rw [Nat.add_mul] at h2; omega
    simp [h2, h4]
theorem RelF.toR {U : Nat → Prop} {w : World} {es : Nat} : ∀ {ds : List D} {cs : List Value}, lensOk es ds = true → RelF U w ds cs → RelR U w es ds cs
 | [], cs, _, h => by simpa [RelR, RelF] using h
 | d :: ds, cs, he, h => by
  simp only [RelF] at h
  simp only [lensOk, Bool.and_eq_true] at he
  obtain ⟨c1, c2, rfl, h1, h2⟩ := h
  simp only [RelR]
  exact ⟨c1, c2, rfl, by rw [h1.length]; simpa using he.1, h1, RelF.toR he.2 h2⟩
theorem lensOk_rep (z : D) : ∀ m, lensOk z.len (List.replicate m z) = true
 | 0 => rfl
 | m + 1 => by simp [List.replicate_succ, lensOk, lensOk_rep z m]
theorem fill_sound (h : Holds F n g st a w) {place : Nat → Option (Nat × Nat)} : ∀ {l : List (Nat × Nat × Nat × Operand)} {acc : D} {cells : Array Value} {K : D → Prop}, (∀ p ∈ l, place p.1 = some (p.2.1, p.2.2.1)) → RelC g.U w acc cells.toList →
  xbd acc (l.map fun p => (p.1, p.2.1, p.2.2.1, st.ev p.2.2.2)) K → ∃ d cs, K d ∧ Instr.fill place cells (l.map fun p => (p.1, a.eval p.2.2.2)) = some cs ∧ RelC g.U w d cs.toList ∧ d.isAgg = acc.isAgg ∧ d.len = acc.len
 | [], acc, cells, K, _, hr, hx => ⟨acc, cells, hx, rfl, hr, rfl, rfl⟩
 | (i, off, sz, x) :: l, acc, cells, K, hp, hr, hx => by
  simp only [List.map_cons, xbd] at hx
  obtain ⟨hm, hl, hat, hset⟩ := hx
  have hxc : RelC g.U w (st.ev x) (a.eval x).cells.toList := (h.ev x).mem hm
  cases ha : acc.at [i] with
  | none => simp [ha, xat] at hat
  | some r =>
   obtain ⟨d0, o'⟩ := r
   simp only [ha, xat, Nat.zero_add] at hat
   subst hat
   cases hs : acc.set [i] (st.ev x) with
   | none => simp [hs, xset] at hset
   | some c' =>
    simp only [hs, xset] at hset
    obtain ⟨h3, h4, h5, h6⟩ := hr.set hxc ha hs
    have hsz : (a.eval x).cells.size = sz := by
     have := hxc.length
     simpa [hl] using this
    have hle : o' + (a.eval x).cells.size ≤ cells.size := by simpa using h6
    have hsp := splice o' (a.eval x).cells.toList 0 cells (by simpa using hle)
    have hf : ((a.eval x).cells.zipIdx.foldl (fun cs (c, j) => cs.setIfInBounds (o' + j) c) cells).toList = cells.toList.take o' ++ (a.eval x).cells.toList ++ cells.toList.drop (o' + (a.eval x).cells.toList.length) := by
     rw [← Array.foldl_toList, Array.toList_zipIdx]
     simpa using hsp
    rw [← hf] at h3
    obtain ⟨d, cs, k1, k2, k3, k4, k5⟩ := fill_sound h (fun p hpm => hp p (List.mem_cons_of_mem _ hpm)) h3 hset
    refine ⟨d, cs, k1, ?_, k3, k4.trans h5, k5.trans h4⟩
    have hp0 := hp (i, o', sz, x) (List.mem_cons_self ..)
    simp only at hp0
    simp only [List.map_cons, Instr.fill, hp0]
    rw [if_neg (by simp [hsz]; omega)]
    exact k2
theorem LocO.rows {U : Nat → Prop} {b es : Nat} {ds : List D} {cells : Array Value} {e : TypeId} (hb : w.heap[b]? = some (.cells cells e (0, 0))) (hR : RelR U w es ds cells.toList) : ∃ G, LocO U w b (.arr es ds ds.length) G ∧ (∀ x ∈ G, x = b) ∧ G.Nodup := by
 by_cases h0 : ds.length = 0
 ·exact ⟨[], .inl ⟨h0, List.eq_nil_of_length_eq_zero h0, rfl⟩, by simp, by simp⟩
 ·have hl := hR.length
  refine ⟨[b], .inr ⟨cells, e, [], h0, hb, by simpa using hl, Nat.le_refl _, ?_, rfl⟩, by simp, by simp⟩
  rw [List.take_of_length_le (by omega)]
  exact .of hR
theorem Holds.boxR (h : Holds F n g st a w) (s : Nat) {es : Nat} {ds : List D} {cells : Array Value} (hd : RelR g.U w es ds cells.toList) (e : TypeId) :
  ∃ g', g'.U = g.U ∧ Holds F n g' (st.box s w.heap.size (.arr es ds ds.length)) a (w.alloc (.cells cells e)) := by
 have x : Ext g.U g.U w (w.alloc (.cells cells e)) := ⟨fun _ h => h, fun b hb => by rw [World.alloc_heap, if_neg (by have := h.ubd b hb; omega)]⟩
 obtain ⟨G, h1, h2, h3⟩ := LocO.rows (U := g.U) (w := w.alloc (.cells cells e)) (b := w.heap.size) (e := e) (by rw [World.alloc_heap, if_pos rfl]) (hd.mono x)
 exact ⟨{ g with own := fun x => if x ∈ G then some s else g.own x }, rfl, h.boxO s _ h1 h2 h3⟩
theorem nextcap_le {need old : Nat} (h : old < need) : Builtin.nextslicecap need old ≤ 2 * need := nextslicecap_le h
section
variable {at_ : Array TypeId} {as : Array Value} {tt ty ty' e e' : TypeId} {i : TypeInfo} {z : Value}
theorem run_app_none (h0 : at_[0]? = some ty) (h1 : at_[1]? = some ty') (ht : P.underlying ty = some (.slice e)) (ht' : P.underlying ty' = some (.slice e')) (hi : P.info? e = some i) {base ay : Option Addr} {c cy : Nat} (ha : as[0]? = some (.slice base 0 c)) (hb : as[1]? = some (.slice ay 0 cy)) :
  (Builtin.append_ at_ tt as).run P w = .ok (.slice base 0 c) w := by
 have hf : (Builtin.firstCells i.size 0 (.slice ay 0 cy)).run P w = .ok #[] w := by
  cases ay with
  | none => exact run_firstCells_none w _ _ _ _
  | some q => exact run_firstCells_some (P := P) w i.size 0 q 0 cy [] (by simp) (fun j v h => by simp at h)
 cases base <;> simp [Builtin.append_, h0, h1, ha, hb, run_underlying ht, run_underlying ht', sizeOf, typeInfo, hi, Builtin.lenOf, hf, storeCells]
theorem run_app_room (h0 : at_[0]? = some ty) (h1 : at_[1]? = some ty') (ht : P.underlying ty = some (.slice e)) (ht' : P.underlying ty' = some (.slice e')) (hi : P.info? e = some i) {ay : Option Addr} {b n m c cy : Nat} {news : List Value} (ha : as[0]? = some (.slice (some ⟨b, 0, none⟩) n c)) (hb : as[1]? = some (.slice ay m cy))
  {cur : Array Value} {e2 : TypeId} (hg : w.heap[b]? = some (.cells cur e2 (0, 0))) (hf : (Builtin.firstCells i.size m (.slice ay m cy)).run P w = .ok news.toArray w) (h1c : ∀ u ∈ news, u.oneCell' = true) (hroom : n + m ≤ c) (hfit : n * i.size + news.length ≤ cur.size) :
  (Builtin.append_ at_ tt as).run P w = .ok (.slice (some ⟨b, 0, none⟩) (n + m) c) (w.setRow b (cur.toList.take (n * i.size) ++ news ++ cur.toList.drop (n * i.size + news.length)).toArray) := by
 have hst := run_storeCells_at P b (n * i.size) e2 news 0 cur w hg (by simpa using hfit) h1c
 simp only [Nat.add_zero] at hst
 simp [Builtin.append_, h0, h1, ha, hb, run_underlying ht, run_underlying ht', sizeOf, typeInfo, hi, Builtin.lenOf, hroom, hf, Addr.add_lit, hst]
theorem run_app_grow (h0 : at_[0]? = some ty) (h1 : at_[1]? = some ty') (ht : P.underlying ty = some (.slice e)) (ht' : P.underlying ty' = some (.slice e')) (hi : P.info? e = some i) (hz : i.zero = some z) {base ay : Option Addr} {n m c cy : Nat} {olds news : List Value} (ha : as[0]? = some (.slice base n c)) (hb : as[1]? = some (.slice ay m cy))
  (hfo : (Builtin.firstCells i.size n (.slice base n c)).run P w.drew = .ok olds.toArray w.drew) (hf : (Builtin.firstCells i.size m (.slice ay m cy)).run P w.drew = .ok news.toArray w.drew) (hg : c < n + m) (h63 : n + m ≤ 1073741824) (hfit : i.bytes ≤ 65536) :
  (Builtin.append_ at_ tt as).run P w = .ok (.slice (some ⟨w.heap.size, 0, none⟩) (n + m) (grownCap w (n + m) c e)) (w.drew.alloc (.cells ((olds ++ news).toArray ++ Builtin.zeroCells z.cells (grownCap w (n + m) c e - (n + m))) e)) := by
 have hn : ¬ (n + m ≤ c) := by omega
 have h63' : ¬ (9223372036854775807 < ((n : Int) + (m : Int))) := by omega
 have h48' : ¬ (281474976710656 < Builtin.nextslicecap (n + m) c * i.bytes) := by
  have h1 := nextcap_le hg
  have h2 : Builtin.nextslicecap (n + m) c * i.bytes ≤ (2 * (n + m)) * 65536 := Nat.mul_le_mul h1 hfit
  omega
 simp [Builtin.append_, h0, h1, ha, hb, run_underlying ht, run_underlying ht', sizeOf, typeInfo, zeroValue, hi, hz, Builtin.lenOf, hn, h63', h48', Question.forced, hf, hfo, newRow, grownCap]
 congr 2
 apply Array.ext'
 simp [List.append_assoc]
end
theorem drew_below (w : World) : Below w.heap.size w w.drew := (Below.refl _ _).drew
/-- What is read of a stretch of cells. -/
theorem firstCells_stretch {b off m c es : Nat} {cells : Array Value} {e : TypeId} {fz : Nat × Nat} {w' : World} (hc : w'.heap[b]? = some (.cells cells e fz)) (hsz : off + m * es ≤ cells.size) :
  (Builtin.firstCells es m (.slice (some ⟨b, off, none⟩) m c)).run P w' = .ok ((cells.toList.drop off).take (m * es)).toArray w' := by
 refine run_firstCells_some (P := P) w' es m ⟨b, off, none⟩ m c _ (by simp; omega) fun j v hv => ?_
 have e : ((⟨b, off, none⟩ : Addr).add j) = ⟨b, off + j, none⟩ := by unfold Addr.add; split <;> simp_all
 rw [List.getElem?_take] at hv
 split at hv
 ·rw [List.getElem?_drop] at hv
  rw [e]
  simp [World.cell?, hc, ← hv]
 ·cases hv
/-- What is read of the known elements of a row. -/
theorem row_read' (h : Holds F n g st a w) {s es cp i m c : Nat} {ds : List D} {ad : Option Addr} (hl : st.lc s = some (.arr es ds cp)) (hbare : ds.map D.bare = ds) (hi : i + m ≤ ds.length) (hm : m ≤ c) (had : c ≠ 0 → ad = some ⟨st.gen s, i * es, none⟩) (m0 : Nat) :
  ∃ cells, RelR g.U w es ((ds.drop i).take m) cells ∧ ∀ k, k ≤ m → ∀ w', Below w.heap.size w w' → (Builtin.firstCells es k (.slice ad m0 c)).run P w' = .ok (cells.take (k * es)).toArray w' := by
 by_cases h0 : m = 0
 ·subst h0
  refine ⟨[], by simp [RelR], fun k hk w' _ => ?_⟩
  obtain rfl : k = 0 := by omega
  cases ad with
  | none => simpa using run_firstCells_none w' _ _ _ _
  | some q => simpa using run_firstCells_some (P := P) w' es 0 q m0 c [] (by simp) (fun j v h => by simp at h)
 ·obtain rfl := had (by omega)
  obtain ⟨Fs, hO⟩ := h.locs s _ hl
  rcases hO.loc with ⟨_, rfl, _⟩ | ⟨cells, e, H, hc0, hc, hsz, hl2, hR, _⟩
  ·simp at hi; omega
  have hR' := hR.bare
  rw [hbare] at hR'
  have h1 := (hR'.drop i).take m
  have hlen : ((ds.drop i).take m).length = m := by simp; omega
  have hmul : i * es + m * es ≤ ds.length * es := by rw [← Nat.add_mul]; exact Nat.mul_le_mul_right _ hi
  have hmul2 : ds.length * es ≤ cells.size := by rw [hsz]; exact Nat.mul_le_mul_right _ hl2
  rw [hlen] at h1
  have e1 : ((cells.toList.take (ds.length * es)).drop (i * es)).take (m * es) = (cells.toList.drop (i * es)).take (m * es) := by
   have := drop_take_drop cells.toList 0 (i * es) (ds.length * es) (m * es) hmul
   simpa using this
  rw [e1] at h1
  refine ⟨_, h1, fun k hk w' hw => ?_⟩
  have hk' : k * es ≤ m * es := Nat.mul_le_mul_right _ hk
  rw [List.take_take, Nat.min_eq_left hk']
  have hcw := heap_of_below hw hc
  refine run_firstCells_some (P := P) w' es k ⟨st.gen s, i * es, none⟩ m0 c _ (by simp; omega) fun j v hv => ?_
  have e : ((⟨st.gen s, i * es, none⟩ : Addr).add j) = ⟨st.gen s, i * es + j, none⟩ := by unfold Addr.add; split <;> simp_all
  rw [List.getElem?_take] at hv
  split at hv
  ·rw [List.getElem?_drop] at hv
   rw [e]
   simp [World.cell?, hcw, ← hv]
  ·cases hv
theorem row_read (h : Holds F n g st a w) {s es cp i m c : Nat} {ds : List D} {ad : Option Addr} (hl : st.lc s = some (.arr es ds cp)) (hbare : ds.map D.bare = ds) (hi : i + m ≤ ds.length) (hm : m ≤ c) (had : c ≠ 0 → ad = some ⟨st.gen s, i * es, none⟩) :
  ∃ cells, RelR g.U w es ((ds.drop i).take m) cells ∧ ∀ k, k ≤ m → ∀ w', Below w.heap.size w w' → (Builtin.firstCells es k (.slice ad m c)).run P w' = .ok (cells.take (k * es)).toArray w' := row_read' h hl hbare hi hm had m
theorem xnew_spec (h : Holds F n g st a w) {es : Nat} {K : List D → Prop} {y : D} {vy : Value} (hy : RelV g.U w y vy) (hx : xnew st es K y) :
  ∃ news ay cy cells, K news ∧ vy = .slice ay news.length cy ∧ RelR g.U w es news cells ∧ ∀ w', Below w.heap.size w w' → (Builtin.firstCells es news.length vy).run P w' = .ok cells.toArray w' := by
 cases y <;> simp only [xnew] at hx
 case nil =>
  obtain ⟨a0, rfl⟩ : ∃ a0, vy = .slice a0 0 0 := by simpa [RelV, RelW, RelC] using hy
  refine ⟨[], a0, 0, [], hx, rfl, by simp [RelR], fun w' _ => ?_⟩
  cases a0 with
  | none => exact run_firstCells_none w' _ _ _ _
  | some q => exact run_firstCells_some (P := P) w' es 0 q 0 0 [] (by simp) (fun j v h => by simp at h)
 case ro es' ys =>
  obtain ⟨rfl, hK⟩ := hx
  have hy' : RelC g.U w (.ro es' ys) [vy] := hy
  simp only [RelC] at hy'
  obtain ⟨ad, c, hv, _, hr⟩ := hy'
  obtain rfl : vy = .slice ad ys.length c := by simpa using hv
  rcases hr with rfl | ⟨b, off, cells, e, fz, rfl, hU, hc, hR⟩
  ·refine ⟨[], ad, c, [], hK, rfl, by simp [RelR], fun w' _ => ?_⟩
   cases ad with
   | none => exact run_firstCells_none w' _ _ _ _
   | some q => exact run_firstCells_some (P := P) w' es' 0 q 0 c [] (by simp) (fun j v h => by simp at h)
  ·refine ⟨ys, _, c, _, hK, rfl, hR, fun w' hw => ?_⟩
   have hl := hR.length
   simp only [List.length_take, List.length_drop, Array.length_toList] at hl
   by_cases h0 : ys.length * es' = 0
   ·rw [h0, List.take_zero]
    exact run_firstCells_some (P := P) w' es' ys.length _ ys.length c [] (by simp [h0]) (fun j v h => by simp at h)
   ·exact firstCells_stretch (heap_of_below hw hc) (by omega)
 case lsl s b m c =>
  obtain ⟨hg, hx⟩ := hx
  cases hl : st.lc s with
  | none => simp [hl] at hx
  | some d =>
   cases d <;> simp only [hl] at hx
   rename_i es' ds cp
   obtain ⟨rfl, rfl, hbare, hK⟩ := hx
   obtain ⟨ad, rfl, hle, hb⟩ := RelV.lsl hy
   obtain ⟨Fs, hO⟩ := h.locs s _ hl
   rcases hO.loc with ⟨_, rfl, _⟩ | ⟨cells, e, H, hc0, hc, hsz, hl2, hR, _⟩
   ·refine ⟨[], ad, c, [], hK, rfl, by simp [RelR], fun w' _ => ?_⟩
    cases ad with
    | none => exact run_firstCells_none w' _ _ _ _
    | some q => exact run_firstCells_some (P := P) w' es' 0 q 0 c [] (by simp) (fun j v h => by simp at h)
   ·have hR' := hR.bare
    rw [hbare] at hR'
    refine ⟨ds, ad, c, _, hK, rfl, hR', fun w' hw => ?_⟩
    by_cases h0 : ds.length = 0
    ·have : ds = [] := List.eq_nil_of_length_eq_zero h0
     subst this
     simp only [List.length_nil, Nat.zero_mul, List.take_zero]
     cases ad with
     | none => exact run_firstCells_none w' _ _ _ _
     | some q => exact run_firstCells_some (P := P) w' es' 0 q 0 c [] (by simp) (fun j v h => by simp at h)
    ·obtain rfl := hb (by omega)
     rw [hg] at hc
     have := firstCells_stretch (P := P) (off := 0) (m := ds.length) (c := c) (es := es') (heap_of_below hw hc) (by rw [Nat.zero_add, hsz]; exact Nat.mul_le_mul_right _ hl2)
     rw [List.drop_zero] at this
     exact this
 case lvw s b i o m c =>
  obtain ⟨rfl, hx⟩ := hx
  cases hl : st.lc s with
  | none => simp [hl] at hx
  | some d =>
   cases d <;> simp only [hl] at hx
   rename_i es' ds cp
   obtain ⟨rfl, rfl, hle2, hbare, hK⟩ := hx
   obtain ⟨ad, rfl, hle, hb⟩ := RelV.lvw hy
   obtain ⟨cells, q1, q2⟩ := row_read (P := P) h hl hbare (i := i) (m := m) (c := c) (ad := ad) hle2 hle hb
   have hlen : ((ds.drop i).take m).length = m := by simp; omega
   have hll := q1.length
   rw [hlen] at hll
   refine ⟨(ds.drop i).take m, ad, c, cells, hK, by rw [hlen], q1, fun w' hw => ?_⟩
   rw [hlen, q2 m (Nat.le_refl _) w' hw, ← hll, List.take_length]
theorem xold_spec {es : Nat} {K : Option Nat → List D → Prop} {x : D} (hx : xold st es K x) : (x = .nil ∧ K none []) ∨ ∃ s b ds c, x = .lsl s b ds.length c ∧ st.gen s = b ∧ st.lc s = some (.arr es ds c) ∧ K (some s) ds := by
 cases x <;> simp only [xold] at hx
 case nil => exact .inl ⟨rfl, hx⟩
 case lsl s b m c =>
  obtain ⟨hg, hx⟩ := hx
  cases hl : st.lc s with
  | none => simp [hl] at hx
  | some d =>
   cases d <;> simp only [hl] at hx
   obtain ⟨rfl, rfl, rfl, hK⟩ := hx
   exact .inr ⟨s, b, _, _, rfl, hg, hl, hK⟩
theorem zeroCells_list (z : Array Value) (k : Nat) : (Builtin.zeroCells z k).size = k * z.size := by simp [Builtin.zeroCells]
theorem xapp_sound (h : Holds F n g st a w) {t bytes : Nat} {z x y : D} {vx vy : Value} {K : D → St → Prop} {at_ : Array TypeId} {as : Array Value} {tt ty ty' e' : TypeId} (hm : mkOf P ty = some (z, bytes)) (h0 : at_[0]? = some ty) (h1 : at_[1]? = some ty') (ht' : P.underlying ty' = some (.slice e'))
  (ha : as[0]? = some vx) (hb : as[1]? = some vy) (hrx : RelV g.U w x vx) (hry : RelV g.U w y vy) (hx : xapp st t z.len bytes x y K) :
  ∃ d v g' st' w', K d st' ∧ Holds F n g' st' a w' ∧ RelV g'.U w' d v ∧ (Builtin.append_ at_ tt as).run P w = .ok v w' := by
 unfold mkOf at hm
 split at hm
 case h_2 => cases hm
 rename_i e ht
 split at hm
 case h_2 => cases hm
 rename_i z' i' hz1 hi'
 simp only [Option.some.injEq, Prod.mk.injEq] at hm
 obtain ⟨rfl, rfl⟩ := hm
 obtain ⟨i, zv, hi, hzv, hlen, _, hrel⟩ := zeroD_spec hz1
 obtain rfl : i' = i := by rw [hi] at hi'; exact (Option.some.inj hi').symm
 have hcs : zv.cells.size = i'.size := by have := (hrel g.U w).length; rw [hlen] at this; simpa using this
 unfold xapp at hx
 rw [hlen] at hx
 have grown : ∀ {olds news : List D} {oldc newc : List Value} {c : Nat} {base : Option Addr} {G : List Nat} {s : Nat} {st1 : St}, K (.lsl t w.heap.size (olds.length + news.length) (grownCap w (olds.length + news.length) c e)) (st1.turn s t w.heap.size (.arr i'.size (olds ++ news) (grownCap w (olds.length + news.length) c e))) →
   (∃ g1, Holds F n g1 st1 a w ∧ g1.U = g.U ∧ ∀ x ∈ G, Mine F g1 s x) → G.Nodup → RelOR g.U w i'.size olds oldc G → RelR g.U w i'.size news newc → c < olds.length + news.length → olds.length + news.length ≤ 1073741824 → i'.bytes ≤ 65536 →
   vx = .slice base olds.length c → (∃ ay cy, vy = .slice ay news.length cy) →
   (Builtin.firstCells i'.size olds.length vx).run P w.drew = .ok oldc.toArray w.drew → (Builtin.firstCells i'.size news.length vy).run P w.drew = .ok newc.toArray w.drew →
   ∃ d v g' st' w', K d st' ∧ Holds F n g' st' a w' ∧ RelV g'.U w' d v ∧ (Builtin.append_ at_ tt as).run P w = .ok v w' := fun {olds news oldc newc c base G s st1} hK hH hnd hRo hRn hlt hbig hby hvx hvy hfo hfn => by
  obtain ⟨g1, hH, hgU, hMine⟩ := hH
  obtain ⟨ay, cy, rfl⟩ := hvy
  subst hvx
  have hge := grownCap_ge w (olds.length + news.length) c e
  have hrun := run_app_grow (P := P) (tt := tt) (w := w) h0 h1 ht ht' hi hzv ha hb hfo hfn hlt hbig hby
  generalize hcap : grownCap w (olds.length + news.length) c e = cap at *
  have hlo := hRo.length
  have hln := hRn.length
  have hU : ∀ b, g.U b → b < w.heap.size := by rw [← hgU]; exact hH.ubd
  have hheap : ∀ (b : Nat) (ob : Obj), (w.drew.alloc ob).heap[b]? = if b = w.heap.size then some ob else w.heap[b]? := fun b ob => World.alloc_heap w.drew ob b
  have hT := hH.turn (s := s) (t := t) (b' := w.heap.size) (d' := .arr i'.size (olds ++ news) cap) (w' := w.drew.alloc (.cells ((oldc ++ newc).toArray ++ Builtin.zeroCells zv.cells (cap - (olds.length + news.length))) e)) (F' := w.heap.size :: G) (by simp) rfl rfl rfl (fun k hk _ => by rw [hheap, if_neg (by omega)])
   (by
    rw [hgU]
    refine .inr ⟨_, e, G, by omega, by rw [hheap, if_pos rfl], ?_, by simpa using hge, ?_, rfl⟩
    ·simp only [Array.size_append, List.size_toArray, zeroCells_list, hcs, List.length_append, hlo, hln, ← Nat.add_mul]
     congr 1
     omega
    ·have e1 : (((oldc ++ newc).toArray ++ Builtin.zeroCells zv.cells (cap - (olds.length + news.length))).toList.take ((olds ++ news).length * i'.size)) = oldc ++ newc := by
      simp only [Array.toList_append, List.append_assoc]
      rw [← List.append_assoc, List.length_append, Nat.add_mul, ← hlo, ← hln, ← List.length_append, List.take_left]
     rw [e1]
     have hR2 : RelOR g.U w i'.size (olds ++ news) (oldc ++ newc) (G ++ []) := hRo.append (.of hRn)
     rw [List.append_nil] at hR2
     refine hR2.mono ⟨fun _ h => h, fun b hb' => by rw [hheap, if_neg (by have := hU b hb'; omega)], fun b hb' => by rw [hheap, if_neg (by have := hRo.lt b hb'; omega)]⟩)
   (List.nodup_cons.2 ⟨fun hx => by have := hRo.lt _ hx; omega, hnd⟩)
   (fun x hx => by
    rcases List.mem_cons.1 hx with rfl | hx
    ·exact .inr (Nat.le_refl _)
    ·exact .inl (hMine x hx))
  exact ⟨_, _, _, _, _, hK, hT, by simp only [RelV, RelW, RelC]; exact ⟨_, rfl, hge, fun _ => rfl⟩, hrun⟩
 rcases xold_spec hx with ⟨rfl, hx2⟩ | ⟨s, b, ds, c, rfl, rfl, hl, hx2⟩
 ·obtain ⟨a0, rfl⟩ : ∃ a0, vx = .slice a0 0 0 := by simpa [RelV, RelW, RelC] using hrx
  obtain ⟨news, ay, cy, newc, ⟨hbig, hby, hes, hK⟩, rfl, hRn, hfn⟩ := xnew_spec (P := P) h hry hx2
  by_cases h00 : news.length = 0
  ·obtain rfl := List.eq_nil_of_length_eq_zero h00
   have hrun := run_app_none (P := P) (tt := tt) (w := w) h0 h1 ht ht' hi ha hb
   have hT := h.turn (s := t) (t := t) (b' := 0) (d' := .arr i'.size ([] ++ []) 0) (w' := w) (F' := []) (Nat.le_refl _) rfl rfl rfl (fun _ _ _ => rfl) (.inl ⟨rfl, rfl, rfl⟩) List.nodup_nil (fun x hx => by simp at hx)
   rw [← St.box_turn] at hT
   exact ⟨_, _, _, _, _, hK 0 0 0 (by simp) (by simp), hT, by simp [RelV, RelW, RelC], hrun⟩
  ·have hK2 := hK (news.length) w.heap.size (grownCap w news.length 0 e) (by simp) (grownCap_ge _ _ _ _)
   simp only [St.grow, St.box_turn] at hK2
   exact grown (olds := []) (s := t) (st1 := st) (oldc := []) (G := []) (by simpa using hK2) ⟨g, h, rfl, fun x hx => by simp at hx⟩ List.nodup_nil (by simp [RelOR]) hRn (by simp; omega) (by simpa using hbig) hby rfl ⟨_, _, rfl⟩ (by
    cases a0 with
    | none => exact run_firstCells_none _ _ _ _ _
    | some q => exact run_firstCells_some (P := P) w.drew i'.size 0 q 0 0 [] (by simp) (fun j v h => by simp at h)) (hfn _ (drew_below w))
 ·obtain ⟨ad, rfl, hle, hbase⟩ := RelV.lsl hrx
  obtain ⟨news, ay, cy, newc, ⟨hbig, hby, hes, hK⟩, rfl, hRn, hfn⟩ := xnew_spec (P := P) h hry hx2
  obtain ⟨Fs, hO⟩ := h.locs s _ hl
  rcases hO.loc with ⟨rfl, rfl, rfl⟩ | ⟨cells, e2, G, hc0, hcell, hsz, hle2, hR, rfl⟩
  ·by_cases h00 : news.length = 0
   ·obtain rfl := List.eq_nil_of_length_eq_zero h00
    have hrun := run_app_none (P := P) (tt := tt) (w := w) h0 h1 ht ht' hi ha hb
    have hT := h.turn (s := s) (t := t) (b' := 0) (d' := .arr i'.size ([] ++ []) 0) (w' := w) (F' := []) (Nat.le_refl _) rfl rfl rfl (fun _ _ _ => rfl) (.inl ⟨rfl, rfl, rfl⟩) List.nodup_nil (fun x hx => by simp at hx)
    exact ⟨_, _, _, _, _, hK 0 0 0 (by simp) (by simp), hT, by simp [RelV, RelW, RelC], hrun⟩
   ·have hK2 := hK (news.length) w.heap.size (grownCap w news.length 0 e) (by simp) (grownCap_ge _ _ _ _)
    refine grown (olds := []) (s := s) (st1 := st) (oldc := []) (G := []) (by simpa [St.grow] using hK2) ⟨g, h, rfl, fun x hx => by simp at hx⟩ List.nodup_nil (by simp [RelOR]) hRn (by simp; omega) (by simpa using hbig) hby rfl ⟨_, _, rfl⟩ ?_ (hfn _ (drew_below w))
    cases ad with
    | none => exact run_firstCells_none _ _ _ _ _
    | some q => exact run_firstCells_some (P := P) w.drew i'.size 0 q 0 0 [] (by simp) (fun j v h => by simp at h)
  ·obtain rfl := hbase hc0
   have hdl := hR.length
   have hln := hRn.length
   have hcap : ds.length * i'.size ≤ cells.size := by rw [hsz]; exact Nat.mul_le_mul_right _ hle2
   have hsubm : ∀ x ∈ G, Mine F g s x := fun x hx => hO.mine (by simp [hx])
   have hnd := List.nodup_cons.1 hO.nd
   by_cases hroom : ds.length + news.length ≤ c
   ·have hfit : ds.length * i'.size + newc.length ≤ cells.size := by rw [hln, hsz, ← Nat.add_mul]; exact Nat.mul_le_mul_right _ hroom
    have hrun := run_app_room (P := P) (tt := tt) (w := w) h0 h1 ht ht' hi ha hb hcell (hfn w (Below.refl _ _)) hRn.oneCell hroom hfit
    have hh := fun new => setRow_heap' w (st.gen s) cells new e2 (0, 0) hcell
    have hT := h.turn (s := s) (t := t) (b' := st.gen s) (d' := .arr i'.size (ds ++ news) c) (w' := w.setRow (st.gen s) (cells.toList.take (ds.length * i'.size) ++ newc ++ cells.toList.drop (ds.length * i'.size + newc.length)).toArray) (F' := st.gen s :: G) (by rw [setRow_size]; exact Nat.le_refl _) rfl rfl rfl
     (fun k hk hM => by
      rw [hh, if_neg]
      rintro rfl
      exact hM (hO.mine (by simp)))
     (by
      refine .inr ⟨_, e2, G, hc0, by rw [hh, if_pos rfl], ?_, by simpa using hroom, ?_, rfl⟩
      ·simp only [List.size_toArray, List.length_append, List.length_take, List.length_drop, Array.length_toList]
       omega
      ·have e1 : ((cells.toList.take (ds.length * i'.size) ++ newc ++ cells.toList.drop (ds.length * i'.size + newc.length)).toArray.toList.take ((ds ++ news).length * i'.size)) = cells.toList.take (ds.length * i'.size) ++ newc := by
        rw [List.length_append, Nat.add_mul, ← hln]
        have l1 : (cells.toList.take (ds.length * i'.size) ++ newc).length = ds.length * i'.size + newc.length := by simp; omega
        rw [← l1]
        exact List.take_left
       rw [e1]
       have hR2 := hR.append (.of hRn)
       rw [List.append_nil] at hR2
       refine hR2.mono ⟨fun _ h => h, fun k hU => ?_, fun k hk => ?_⟩
       ·rw [hh, if_neg]
        rintro rfl
        exact hO.nu _ (by simp) hU
       ·rw [hh, if_neg]
        rintro rfl
        exact hnd.1 hk)
     hO.nd (fun x hx => .inl (hO.mine hx))
    exact ⟨_, _, _, _, _, hK _ (st.gen s) c rfl hroom, hT, by simp only [RelV, RelW, RelC]; exact ⟨_, rfl, hroom, fun _ => rfl⟩, hrun⟩
   ·have hK2 := hK (ds.length + news.length) w.heap.size (grownCap w (ds.length + news.length) c e) rfl (grownCap_ge _ _ _ _)
    refine grown (s := s) (st1 := st) (G := G) hK2 ⟨g, h, rfl, hsubm⟩ hnd.2 hR hRn (by omega) hbig hby rfl ⟨_, _, rfl⟩ ?_ (hfn _ (drew_below w))
    have := firstCells_stretch (P := P) (off := 0) (m := ds.length) (c := c) (es := i'.size) (w' := w.drew) (heap_of_below (drew_below w) hcell) (by omega)
    rw [List.drop_zero] at this
    exact this
theorem xsrc_spec (h : Holds F n g st a w) {es : Nat} {K : List D → Nat → Prop} {y : D} {vy : Value} (hy : RelV g.U w y vy) (hx : xsrc st es K y) :
  ∃ ys ay my cy cells, K ys my ∧ vy = .slice ay my cy ∧ RelR g.U w es ys cells ∧ ∀ k, k ≤ ys.length → ∀ w', Below w.heap.size w w' → (Builtin.firstCells es k vy).run P w' = .ok (cells.take (k * es)).toArray w' := by
 cases y <;> simp only [xsrc] at hx
 case nil =>
  obtain ⟨a0, rfl⟩ : ∃ a0, vy = .slice a0 0 0 := by simpa [RelV, RelW, RelC] using hy
  refine ⟨[], a0, 0, 0, [], hx, rfl, by simp [RelR], fun k hk w' _ => ?_⟩
  obtain rfl : k = 0 := by simpa using hk
  cases a0 with
  | none => simpa using run_firstCells_none w' _ _ _ _
  | some q => simpa using run_firstCells_some (P := P) w' es 0 q 0 0 [] (by simp) (fun j v h => by simp at h)
 case ro es' ys =>
  obtain ⟨rfl, hK⟩ := hx
  have hy' : RelC g.U w (.ro es' ys) [vy] := hy
  simp only [RelC] at hy'
  obtain ⟨ad, c, hv, _, hr⟩ := hy'
  obtain rfl : vy = .slice ad ys.length c := by simpa using hv
  rcases hr with rfl | ⟨b, off, cells, e, fz, rfl, hU, hc, hR⟩
  ·refine ⟨[], ad, 0, c, [], hK, rfl, by simp [RelR], fun k hk w' _ => ?_⟩
   obtain rfl : k = 0 := by simpa using hk
   cases ad with
   | none => simpa using run_firstCells_none w' _ _ _ _
   | some q => simpa using run_firstCells_some (P := P) w' es' 0 q 0 c [] (by simp) (fun j v h => by simp at h)
  ·refine ⟨ys, _, ys.length, c, _, hK, rfl, hR, fun k hk w' hw => ?_⟩
   have hl := hR.length
   simp only [List.length_take, List.length_drop, Array.length_toList] at hl
   have hk' : k * es' ≤ ys.length * es' := Nat.mul_le_mul_right _ hk
   rw [List.take_take, Nat.min_eq_left hk']
   have hcw := heap_of_below hw hc
   refine run_firstCells_some (P := P) w' es' k ⟨b, off, none⟩ ys.length c _ (by simp; omega) fun j v hv => ?_
   have e : ((⟨b, off, none⟩ : Addr).add j) = ⟨b, off + j, none⟩ := by unfold Addr.add; split <;> simp_all
   rw [List.getElem?_take] at hv
   split at hv
   ·rw [List.getElem?_drop] at hv
    rw [e]
    simp [World.cell?, hcw, ← hv]
   ·cases hv
 case lsl s b m c =>
  obtain ⟨rfl, hx⟩ := hx
  cases hl : st.lc s with
  | none => simp [hl] at hx
  | some d =>
   cases d <;> simp only [hl] at hx
   rename_i es' ds cp
   obtain ⟨rfl, hbare, hK⟩ := hx
   obtain ⟨ad, rfl, hle, hb⟩ := RelV.lsl hy
   have hlen : (ds.take m).length ≤ m := by simp; omega
   have hlen2 : (ds.take m).length ≤ ds.length := by simp; omega
   obtain ⟨cells, q1, q2⟩ := row_read' (P := P) h hl hbare (i := 0) (m := (ds.take m).length) (c := c) (ad := ad) (by omega) (by omega) (fun h => by rw [hb h]; simp) m
   have e : (ds.drop 0).take (ds.take m).length = ds.take m := by simp [List.take_eq_take_iff]
   rw [e] at q1
   exact ⟨ds.take m, ad, m, c, cells, hK, rfl, q1, fun k hk => q2 k hk⟩
 case lvw s b i o m c =>
  obtain ⟨rfl, hx⟩ := hx
  cases hl : st.lc s with
  | none => simp [hl] at hx
  | some d =>
   cases d <;> simp only [hl] at hx
   rename_i es' ds cp
   obtain ⟨rfl, rfl, hbare, hK⟩ := hx
   obtain ⟨ad, rfl, hle, hb⟩ := RelV.lvw hy
   by_cases hi : i ≤ ds.length
   ·have hlen : ((ds.drop i).take m).length ≤ m := by simp; omega
    have hlen2 : i + ((ds.drop i).take m).length ≤ ds.length := by simp; omega
    obtain ⟨cells, q1, q2⟩ := row_read' (P := P) h hl hbare (i := i) (m := ((ds.drop i).take m).length) (c := c) (ad := ad) hlen2 (by omega) hb m
    have e : (ds.drop i).take ((ds.drop i).take m).length = (ds.drop i).take m := by simp [List.take_eq_take_iff]
    rw [e] at q1
    exact ⟨(ds.drop i).take m, ad, m, c, cells, hK, rfl, q1, fun k hk => q2 k hk⟩
   ·have e : (ds.drop i).take m = [] := by rw [List.drop_eq_nil_of_le (by omega)]; simp
    rw [e] at hK
    refine ⟨[], ad, m, c, [], hK, rfl, by simp [RelR], fun k hk w' _ => ?_⟩
    obtain rfl : k = 0 := by simpa using hk
    cases ad with
    | none => simpa using run_firstCells_none w' _ _ _ _
    | some q => simpa using run_firstCells_some (P := P) w' es' 0 q m c [] (by simp) (fun j v h => by simp at h)
theorem xdst_spec {es : Nat} {K : Nat → Nat → Nat → List D → Nat → Prop} {x : D} {vx : Value} (hx : RelV g.U w x vx) (hd : xdst st es K x) :
  ∃ s i m ds cp ad c, vx = .slice ad m c ∧ m ≤ c ∧ (c ≠ 0 → ad = some ⟨st.gen s, i * es, none⟩) ∧ st.lc s = some (.arr es ds cp) ∧ i ≤ ds.length ∧ i + m ≤ cp ∧ ds.map D.bare = ds ∧ K s i m ds cp := by
 cases x <;> simp only [xdst] at hd
 case lsl s b m c =>
  obtain ⟨rfl, hd⟩ := hd
  cases hl : st.lc s with
  | none => simp [hl] at hd
  | some d =>
   cases d <;> simp only [hl] at hd
   obtain ⟨rfl, hle2, hbare, hK⟩ := hd
   obtain ⟨ad, rfl, hle, hb⟩ := RelV.lsl hx
   exact ⟨s, 0, m, _, _, ad, c, rfl, hle, fun h => by rw [hb h]; simp, hl, by omega, by omega, hbare, hK⟩
 case lvw s b i o m c =>
  obtain ⟨rfl, hd⟩ := hd
  cases hl : st.lc s with
  | none => simp [hl] at hd
  | some d =>
   cases d <;> simp only [hl] at hd
   obtain ⟨rfl, rfl, hle1, hle2, hbare, hK⟩ := hd
   obtain ⟨ad, rfl, hle, hb⟩ := RelV.lvw hx
   exact ⟨s, i, m, _, _, ad, c, rfl, hle, hb, hl, hle1, hle2, hbare, hK⟩
theorem RelR.append {U : Nat → Prop} {w : World} {es : Nat} : ∀ {ds : List D} {cs : List Value} {ds' : List D} {cs' : List Value}, RelR U w es ds cs → RelR U w es ds' cs' → RelR U w es (ds ++ ds') (cs ++ cs')
 | [], _, _, _, h, h' => by simp only [RelR] at h; subst h; exact h'
 | d :: ds, _, _, _, h, h' => by
  simp only [RelR] at h
  obtain ⟨c1, c2, rfl, h1, h2, h3⟩ := h
  simp only [List.cons_append, RelR]
  exact ⟨c1, _, by simp, h1, h2, h3.append h'⟩
theorem eltOf_spec {t : TypeId} {es : Nat} (ht : eltOf P t = some es) : ∃ e inf, P.underlying t = some (.slice e) ∧ P.info? e = some inf ∧ inf.size = es := by
 unfold eltOf at ht
 split at ht
 ·rename_i e hu
  rw [Option.map_eq_some_iff] at ht
  obtain ⟨⟨r, r'⟩, r1, ht⟩ := ht
  simp only at ht
  subst ht
  obtain ⟨inf, dd, hinf, _, hs, _⟩ := varOf_info r1
  exact ⟨e, inf, hu, hinf, hs⟩
 ·cases ht
theorem xcpy_sound (h : Holds F n g st a w) {es : Nat} {x y : D} {vx vy : Value} {K : D → St → Prop} {at_ : Array TypeId} {as : Array Value} {tt ty : TypeId} (he : eltOf P ty = some es) (hes : es ≠ 0) (h0 : at_[0]? = some ty) (ha : as[0]? = some vx) (hb : as[1]? = some vy) (hrx : RelV g.U w x vx) (hry : RelV g.U w y vy) (hx : xcpy st es x y K) :
  ∃ d v g' st' w', K d st' ∧ Holds F n g' st' a w' ∧ RelV g'.U w' d v ∧ (Builtin.copy_ at_ tt as).run P w = .ok v w' := by
 obtain ⟨e, inf, hu, hinf, rfl⟩ := eltOf_spec he
 unfold xcpy at hx
 obtain ⟨s, i, m, ds, cp, ad, c, rfl, hmc, had, hl, hid, him, hbare, hx⟩ := xdst_spec hrx hx
 obtain ⟨ys, ay, my, cy, cells2, hK, rfl, hRy, hfy⟩ := xsrc_spec (P := P) h hry hx
 have hlo : ∀ w', (Builtin.lenOf (.slice ay my cy)).run P w' = .ok my w' := fun w' => by simp [Builtin.lenOf]
 generalize hk : min my m = k at *
 have hk' : Nat.min my m = k := hk
 obtain ⟨hky, hfin⟩ := hK k rfl
 have hkm : k ≤ m := by omega
 have hf := hfy k hky w (Below.refl _ _)
 obtain ⟨Fs, hO⟩ := h.locs s _ hl
 have hRk := hRy.take k
 have hlk : (ys.take k).length = k := by simp; omega
 rw [hlk] at hRk
 have hlen := hRk.length
 rw [hlk] at hlen
 by_cases hk0 : k = 0
 ·subst hk0
  have e1 : ds.take i ++ ys.take 0 ++ ds.drop (i + 0) = ds := by simp
  rw [e1] at hfin
  have hst : st.setLc s (.arr inf.size ds cp) = st := by
   unfold St.setLc
   have : upd st.lc s (some (.arr inf.size ds cp)) = st.lc := by funext j; rw [upd_apply]; split <;> simp_all
   rw [this]
  rw [hst] at hfin
  refine ⟨_, .int .i64 0, g, st, w, hfin, h, rfl, ?_⟩
  simp only [Nat.zero_mul, List.take_zero] at hf
  cases ad <;> simp [Builtin.copy_, h0, ha, hb, Sem.run_bind, run_underlying hu, hlo, hk', sizeOf, typeInfo, hinf, hf, storeCells, goInt]
 ·obtain rfl := had (by omega)
  rcases hO.loc with ⟨_, rfl, _⟩ | ⟨cells, e2, G, hc0, hcell, hsz, hl2, hR, rfl⟩
  ·omega
  have hR' := hR.bare
  rw [hbare] at hR'
  have hmul : i * inf.size + k * inf.size ≤ cells.size := by rw [← Nat.add_mul, hsz]; exact Nat.mul_le_mul_right _ (by omega)
  have hmul1 : i * inf.size ≤ ds.length * inf.size := Nat.mul_le_mul_right _ hid
  have hmul2 : ds.length * inf.size ≤ cells.size := by rw [hsz]; exact Nat.mul_le_mul_right _ hl2
  have h1c := hRk.oneCell
  have hsto := run_storeCells_at P (st.gen s) (i * inf.size) e2 (cells2.take (k * inf.size)) 0 cells w hcell (by rw [hlen]; omega) h1c
  simp only [Nat.add_zero] at hsto
  have hrun : (Builtin.copy_ at_ tt as).run P w = .ok (.int .i64 k) (w.setRow (st.gen s) (cells.toList.take (i * inf.size) ++ cells2.take (k * inf.size) ++ cells.toList.drop (i * inf.size + (cells2.take (k * inf.size)).length)).toArray) := by
   simp [Builtin.copy_, h0, ha, hb, Sem.run_bind, run_underlying hu, hlo, hk', sizeOf, typeInfo, hinf, hf, hsto, goInt]
  have hh := fun new => setRow_heap' w (st.gen s) cells new e2 (0, 0) hcell
  have hB := h.setLcO (d' := .arr inf.size (ds.take i ++ ys.take k ++ ds.drop (i + k)) cp) (F' := [st.gen s]) hO (by simp) (hh ((cells.toList.take (i * inf.size) ++ cells2.take (k * inf.size) ++ cells.toList.drop (i * inf.size + (cells2.take (k * inf.size)).length)).toArray)) (setRow_size _ _ _) rfl rfl rfl (by
   refine .inr ⟨(cells.toList.take (i * inf.size) ++ cells2.take (k * inf.size) ++ cells.toList.drop (i * inf.size + (cells2.take (k * inf.size)).length)).toArray, e2, [], hc0, by rw [hh, if_pos rfl], ?_, ?_, ?_, rfl⟩
   ·simp only [List.size_toArray, List.length_append, List.length_take, List.length_drop, Array.length_toList, hlen]
    omega
   ·simp only [List.length_append, List.length_take, List.length_drop]; omega
   ·have hmono : ∀ {dd : List D} {cc : List Value}, RelR g.U w inf.size dd cc → RelR g.U (w.setRow (st.gen s) (cells.toList.take (i * inf.size) ++ cells2.take (k * inf.size) ++ cells.toList.drop (i * inf.size + (cells2.take (k * inf.size)).length)).toArray) inf.size dd cc := fun hq => hq.mono ⟨fun _ h => h, fun b hU => by
     rw [hh, if_neg]
     rintro rfl
     exact hO.nu _ (by simp) hU⟩
    have t1 := hR'.take i
    have li : (ds.take i).length = i := by simp; omega
    rw [li, List.take_take, Nat.min_eq_left (by omega)] at t1
    have t2 := hR'.drop (i + k)
    have hall := (t1.append hRk).append t2
    have ecells : (cells.toList.take (i * inf.size) ++ cells2.take (k * inf.size) ++ cells.toList.drop (i * inf.size + (cells2.take (k * inf.size)).length)).take ((ds.take i ++ ys.take k ++ ds.drop (i + k)).length * inf.size) = cells.toList.take (i * inf.size) ++ cells2.take (k * inf.size) ++ (cells.toList.take (ds.length * inf.size)).drop ((i + k) * inf.size) := by
     have l1 : (ds.take i ++ ys.take k ++ ds.drop (i + k)).length = i + k + (ds.length - (i + k)) := by simp; omega
     rw [l1, hlen, Nat.add_mul, Nat.add_mul]
     have l2 : (cells.toList.take (i * inf.size) ++ cells2.take (k * inf.size)).length = i * inf.size + k * inf.size := by simp [hlen]; omega
     rw [← l2, List.take_length_add_append, List.drop_take, l2, Nat.sub_mul, Nat.add_mul]
    show RelOR g.U _ _ _ (List.take _ (List.toArray _).toList) _
    rw [show (List.toArray (cells.toList.take (i * inf.size) ++ cells2.take (k * inf.size) ++ cells.toList.drop (i * inf.size + (cells2.take (k * inf.size)).length))).toList = _ from rfl, ecells]
    exact .of (hmono hall)) (by simp)
  exact ⟨_, _, _, _, _, hfin, hB, rfl, hrun⟩
theorem xclr_sound (h : Holds F n g st a w) {x : D} {vx : Value} {K : D → St → Prop} {at_ : Array TypeId} {as : Array Value} {tt ty : TypeId} {z : D} {bytes : Nat} (hm : mkOf P ty = some (z, bytes)) (h0 : at_[0]? = some ty) (ha : as[0]? = some vx) (hrx : RelV g.U w x vx) (hx : xclr st z.len x K) :
  ∃ d v g' st' w', K d st' ∧ Holds F n g' st' a w' ∧ RelV g'.U w' d v ∧ (Builtin.clear_ at_ tt as).run P w = .ok v w' := by
 unfold mkOf at hm
 split at hm
 case h_2 => cases hm
 rename_i e ht
 split at hm
 case h_2 => cases hm
 rename_i z' i' hz1 hi'
 simp only [Option.some.injEq, Prod.mk.injEq] at hm
 obtain ⟨rfl, rfl⟩ := hm
 obtain ⟨i0, zv, hi, hzv, hlen, _, hrel⟩ := zeroD_spec hz1
 obtain rfl : i' = i0 := by rw [hi] at hi'; exact (Option.some.inj hi').symm
 have hcs : zv.cells.size = i'.size := by have := (hrel g.U w).length; rw [hlen] at this; simpa using this
 have h1z : ∀ v ∈ zv.cells.toList, v.oneCell' = true := (hrel g.U w).oneCell
 unfold xclr at hx
 rw [hlen] at hx
 cases x <;> simp only at hx
 case nil =>
  obtain ⟨a0, rfl⟩ : ∃ a0, vx = .slice a0 0 0 := by simpa [RelV, RelW, RelC] using hrx
  refine ⟨_, .tuple #[], g, st, w, hx, h, ⟨#[], rfl, rfl⟩, ?_⟩
  cases a0 <;> simp [Builtin.clear_, h0, ha, Sem.run_bind, run_underlying ht]
 case lvw s b vi o m c =>
  obtain ⟨rfl, hx⟩ := hx
  cases hl : st.lc s with
  | none => simp [hl] at hx
  | some d =>
   cases d <;> simp only [hl] at hx
   rename_i es' ds cp
   obtain ⟨rfl, rfl, hdi, him, hK⟩ := hx
   obtain ⟨ad, rfl, hmc, had⟩ := RelV.lvw hrx
   by_cases hm0 : m = 0
   ·subst hm0
    refine ⟨_, .tuple #[], g, st, w, hK, h, ⟨#[], rfl, rfl⟩, ?_⟩
    cases ad <;> simp [Builtin.clear_, h0, ha, Sem.run_bind, run_underlying ht]
   ·obtain rfl := had (by omega)
    obtain ⟨Fs, hO⟩ := h.locs s _ hl
    rcases hO.loc with ⟨hcp0, _, _⟩ | ⟨cells, e2, G, hc0, hcell, hsz, hl2, hR, rfl⟩
    ·omega
    have hzl : (Builtin.zeroCells zv.cells m).toList.length = m * i'.size := by simp [zeroCells_list, hcs]
    have hfit : vi * i'.size + m * i'.size ≤ cells.size := by rw [hsz, ← Nat.add_mul]; exact Nat.mul_le_mul_right _ him
    have hone : ∀ v ∈ (Builtin.zeroCells zv.cells m).toList, v.oneCell' = true := fun v hv => by
     simp only [Builtin.zeroCells, Array.toList_map, List.mem_map, Array.toList_range, List.mem_range] at hv
     obtain ⟨j, hj, rfl⟩ := hv
     have hpos : 0 < zv.cells.size := by
      rcases Nat.eq_zero_or_pos zv.cells.size with h | h
      ·rw [h] at hj; simp at hj
      ·exact h
     have hlt := Nat.mod_lt j hpos
     rw [getElem!_pos zv.cells _ hlt]
     exact h1z _ (by simp)
    have hsto := run_storeCells_at P (st.gen s) (vi * i'.size) e2 (Builtin.zeroCells zv.cells m).toList 0 cells w hcell (by rw [hzl]; omega) hone
    simp only [Nat.add_zero] at hsto
    have hrun : (Builtin.clear_ at_ tt as).run P w = .ok (.tuple #[]) (w.setRow (st.gen s) (cells.toList.take (vi * i'.size) ++ (Builtin.zeroCells zv.cells m).toList ++ cells.toList.drop (vi * i'.size + (Builtin.zeroCells zv.cells m).toList.length)).toArray) := by
     cases m with
     | zero => exact absurd rfl hm0
     | succ m => simp [Builtin.clear_, h0, ha, Sem.run_bind, run_underlying ht, zeroValue, typeInfo, hi, hzv, hsto]
    have hh := fun new => setRow_heap' w (st.gen s) cells new e2 (0, 0) hcell
    have hdl : ds.length * i'.size ≤ vi * i'.size := Nat.mul_le_mul_right _ hdi
    have hB := h.setLcO (d' := .arr i'.size ds cp) (F' := st.gen s :: G) hO (by simp) (hh ((cells.toList.take (vi * i'.size) ++ (Builtin.zeroCells zv.cells m).toList ++ cells.toList.drop (vi * i'.size + (Builtin.zeroCells zv.cells m).toList.length)).toArray)) (setRow_size _ _ _) rfl rfl rfl (by
     refine .inr ⟨(cells.toList.take (vi * i'.size) ++ (Builtin.zeroCells zv.cells m).toList ++ cells.toList.drop (vi * i'.size + (Builtin.zeroCells zv.cells m).toList.length)).toArray, e2, G, hc0, by rw [hh, if_pos rfl], ?_, hl2, ?_, rfl⟩
     ·simp only [List.size_toArray, List.length_append, List.length_take, List.length_drop, Array.length_toList, hzl]
      omega
     ·have ecells : (cells.toList.take (vi * i'.size) ++ (Builtin.zeroCells zv.cells m).toList ++ cells.toList.drop (vi * i'.size + (Builtin.zeroCells zv.cells m).toList.length)).take (ds.length * i'.size) = cells.toList.take (ds.length * i'.size) := by
       rw [List.append_assoc, List.take_append_of_le_length (by simp; omega), List.take_take, Nat.min_eq_left hdl]
      show RelOR g.U _ _ _ (List.take _ (List.toArray _).toList) _
      rw [show (List.toArray (cells.toList.take (vi * i'.size) ++ (Builtin.zeroCells zv.cells m).toList ++ cells.toList.drop (vi * i'.size + (Builtin.zeroCells zv.cells m).toList.length))).toList = _ from rfl, ecells]
      have hnd := List.nodup_cons.1 hO.nd
      refine hR.mono ⟨fun _ h => h, fun b hU => ?_, fun b hb => ?_⟩
      ·rw [hh, if_neg]
       rintro rfl
       exact hO.nu _ (by simp) hU
      ·rw [hh, if_neg]
       rintro rfl
       exact hnd.1 hb) (List.Sublist.refl _)
    have hst : st.setLc s (.arr i'.size ds cp) = st := by
     unfold St.setLc
     have : upd st.lc s (some (.arr i'.size ds cp)) = st.lc := by funext j; rw [upd_apply]; split <;> simp_all
     rw [this]
    rw [hst] at hB
    exact ⟨_, _, _, _, _, hK, hB, ⟨#[], rfl, rfl⟩, hrun⟩
theorem xappP_sound (h : Holds F n g st a w) {t bytes s b vi o m c : Nat} {z y : D} {vx vy : Value} {K : D → St → Prop} {at_ : Array TypeId} {as : Array Value} {tt ty ty' e' : TypeId} (hm : mkOf P ty = some (z, bytes)) (h0 : at_[0]? = some ty) (h1 : at_[1]? = some ty') (ht' : P.underlying ty' = some (.slice e'))
  (ha : as[0]? = some vx) (hb : as[1]? = some vy) (hrx : RelV g.U w (.lvw s b vi o m c) vx) (hry : RelV g.U w y vy) (hx : xappP st t z.len bytes s b vi o m c y K) :
  ∃ d v g' st' w', K d st' ∧ Holds F n g' st' a w' ∧ RelV g'.U w' d v ∧ (Builtin.append_ at_ tt as).run P w = .ok v w' := by
 unfold mkOf at hm
 split at hm
 case h_2 => cases hm
 rename_i e ht
 split at hm
 case h_2 => cases hm
 rename_i z' i' hz1 hi'
 simp only [Option.some.injEq, Prod.mk.injEq] at hm
 obtain ⟨rfl, rfl⟩ := hm
 obtain ⟨i, zv, hi, hzv, hlen, _, hrel⟩ := zeroD_spec hz1
 obtain rfl : i' = i := by rw [hi] at hi'; exact (Option.some.inj hi').symm
 have hcs : zv.cells.size = i'.size := by have := (hrel g.U w).length; rw [hlen] at this; simpa using this
 unfold xappP at hx
 rw [hlen] at hx
 obtain ⟨rfl, rfl, rfl, hx⟩ := hx
 cases hl : st.lc s with
 | none => simp [hl] at hx
 | some d =>
  cases d <;> simp only [hl] at hx
  rename_i es' ds cp
  obtain ⟨rfl, hle, rfl, hbare, hx⟩ := hx
  obtain ⟨news, ay, cy, newc, ⟨hbig, hby, hes, hK1, hK2⟩, rfl, hRn, hfn⟩ := xnew_spec (P := P) h hry hx
  obtain ⟨ad, rfl, hmc, had⟩ := RelV.lvw hrx
  obtain ⟨oldc, hRo, hfo⟩ := row_read (P := P) h hl hbare (i := 0) (m := m) (c := c) (ad := ad) (by omega) hmc (fun h => by rw [had h]; simp)
  simp only [List.drop_zero] at hRo
  have hlt : (ds.take m).length = m := by simp; omega
  have hlo := hRo.length
  rw [hlt] at hlo
  have hln := hRn.length
  have hfo' := fun w' hw => hfo m (Nat.le_refl _) w' hw
  rw [← hlo, List.take_length] at hfo'
  obtain ⟨Fs, hO⟩ := h.locs s _ hl
  by_cases hroom : m + news.length ≤ c
  ·have hfin := hK1 hroom
   by_cases hc0 : c = 0
   ·subst hc0
    obtain rfl : m = 0 := by omega
    have hn0 : news.length = 0 := by omega
    obtain rfl := List.eq_nil_of_length_eq_zero hn0
    have hrun := run_app_none (P := P) (tt := tt) (w := w) h0 h1 ht ht' hi ha hb
    have hT := h.turn (s := s) (t := t) (b' := st.gen s) (d' := .arr i'.size (ds.take 0 ++ []) 0) (w' := w) (F' := []) (Nat.le_refl _) rfl rfl rfl (fun _ _ _ => rfl) (.inl ⟨rfl, by simp, rfl⟩) List.nodup_nil (fun x hx => by simp at hx)
    exact ⟨_, _, _, _, _, hfin, hT, by simp [RelV, RelW, RelC], hrun⟩
   ·obtain rfl := had hc0
    rcases hO.loc with ⟨hq, _, _⟩ | ⟨cells, e2, G, _, hcell, hsz, hle2, hR, rfl⟩
    ·exact absurd hq hc0
    have hfit : m * i'.size + newc.length ≤ cells.size := by rw [hln, hsz, ← Nat.add_mul]; exact Nat.mul_le_mul_right _ hroom
    have hrun := run_app_room (P := P) (tt := tt) (w := w) h0 h1 ht ht' hi ha hb hcell (hfn w (Below.refl _ _)) hRn.oneCell hroom hfit
    have hh := fun new => setRow_heap' w (st.gen s) cells new e2 (0, 0) hcell
    have hoc : oldc = cells.toList.take (m * i'.size) := by
     have hq := hfo' w (Below.refl _ _)
     have hq2 := firstCells_stretch (P := P) (off := 0) (m := m) (c := c) (es := i'.size) (w' := w) hcell (by rw [Nat.zero_add]; have := Nat.mul_le_mul_right i'.size hmc; omega)
     rw [hq2] at hq
     simp only [List.drop_zero, Result.ok.injEq, and_true] at hq
     have := congrArg Array.toList hq
     simpa using this.symm
    have hT := h.turn (s := s) (t := t) (b' := st.gen s) (d' := .arr i'.size (ds.take m ++ news) c) (w' := w.setRow (st.gen s) (cells.toList.take (m * i'.size) ++ newc ++ cells.toList.drop (m * i'.size + newc.length)).toArray) (F' := [st.gen s]) (by rw [setRow_size]; exact Nat.le_refl _) rfl rfl rfl
     (fun k hk hM => by
      rw [hh, if_neg]
      rintro rfl
      exact hM (hO.mine (by simp)))
     (by
      refine .inr ⟨_, e2, [], hc0, by rw [hh, if_pos rfl], ?_, by simp; omega, ?_, rfl⟩
      ·simp only [List.size_toArray, List.length_append, List.length_take, List.length_drop, Array.length_toList]
       omega
      ·have e1 : ((cells.toList.take (m * i'.size) ++ newc ++ cells.toList.drop (m * i'.size + newc.length)).toArray.toList.take ((ds.take m ++ news).length * i'.size)) = oldc ++ newc := by
        rw [List.length_append, hlt, Nat.add_mul, ← hln, hoc]
        have l1 : (cells.toList.take (m * i'.size) ++ newc).length = m * i'.size + newc.length := by simp; omega
        rw [← l1]
        exact List.take_left
       rw [e1]
       have hR2 := hRo.append hRn
       exact .of (hR2.mono ⟨fun _ h => h, fun k hU => by
        rw [hh, if_neg]
        rintro rfl
        exact hO.nu _ (by simp) hU⟩))
     (by simp) (fun x hx => .inl (hO.mine (by simp at hx; simp [hx])))
    exact ⟨_, _, _, _, _, hfin, hT, by simp only [RelV, RelW, RelC]; exact ⟨_, rfl, hroom, fun _ => rfl⟩, hrun⟩
  ·have hge := grownCap_ge w (m + news.length) c e
   have hfin := hK2 (by omega) (m + news.length) w.heap.size (grownCap w (m + news.length) c e) rfl hge
   have hrun := run_app_grow (P := P) (tt := tt) (w := w) h0 h1 ht ht' hi hzv ha hb (hfo' _ (drew_below w)) (hfn _ (drew_below w)) (by omega) hbig hby
   generalize hcap : grownCap w (m + news.length) c e = cap at *
   have hheap : ∀ (b : Nat) (ob : Obj), (w.drew.alloc ob).heap[b]? = if b = w.heap.size then some ob else w.heap[b]? := fun b ob => World.alloc_heap w.drew ob b
   have hT := h.turn (s := t) (t := t) (b' := w.heap.size) (d' := .arr i'.size (ds.take m ++ news) cap) (w' := w.drew.alloc (.cells ((oldc ++ newc).toArray ++ Builtin.zeroCells zv.cells (cap - (m + news.length))) e)) (F' := [w.heap.size]) (by simp) rfl rfl rfl (fun k hk _ => by rw [hheap, if_neg (by omega)])
    (by
     refine .inr ⟨_, e, [], by omega, by rw [hheap, if_pos rfl], ?_, by simp; omega, ?_, rfl⟩
     ·simp only [Array.size_append, List.size_toArray, zeroCells_list, hcs, List.length_append, hlo, hln, ← Nat.add_mul]
      congr 1
      omega
     ·have e1 : (((oldc ++ newc).toArray ++ Builtin.zeroCells zv.cells (cap - (m + news.length))).toList.take ((ds.take m ++ news).length * i'.size)) = oldc ++ newc := by
       simp only [Array.toList_append, List.append_assoc]
       rw [← List.append_assoc, List.length_append, hlt, Nat.add_mul, ← hlo, ← hln, ← List.length_append, List.take_left]
      rw [e1]
      exact .of ((hRo.append hRn).mono ⟨fun _ h => h, fun b hb' => by rw [hheap, if_neg (by have := h.ubd b hb'; omega)]⟩))
    (by simp) (fun x hx => .inr (by simp at hx; omega))
   rw [← St.box_turn] at hT
   exact ⟨_, _, _, _, _, hfin, hT, by simp only [RelV, RelW, RelC]; exact ⟨_, rfl, hge, fun _ => rfl⟩, hrun⟩
theorem xappA_sound (h : Holds F n g st a w) {t bytes : Nat} {z x y : D} {vx vy : Value} {K : D → St → Prop} {at_ : Array TypeId} {as : Array Value} {tt ty ty' e' : TypeId} (hm : mkOf P ty = some (z, bytes)) (h0 : at_[0]? = some ty) (h1 : at_[1]? = some ty') (ht' : P.underlying ty' = some (.slice e'))
  (ha : as[0]? = some vx) (hb : as[1]? = some vy) (hrx : RelV g.U w x vx) (hry : RelV g.U w y vy) (hx : xappA st t z.len bytes x y K) :
  ∃ d v g' st' w', K d st' ∧ Holds F n g' st' a w' ∧ RelV g'.U w' d v ∧ (Builtin.append_ at_ tt as).run P w = .ok v w' := by
 unfold xappA at hx
 split at hx
 ·exact xappP_sound h hm h0 h1 ht' ha hb hrx hry hx
 ·exact xapp_sound h hm h0 h1 ht' ha hb hrx hry hx
theorem run_app_zeros {at_ : Array TypeId} {as : Array Value} {tt ty ty' e : TypeId} {i : TypeInfo} {z : Value} {kn : IntKind} (h0 : at_[0]? = some ty) (h1 : at_[1]? = some ty') (ht : P.underlying ty = some (.slice e)) (ht' : P.underlying ty' = some (.int kn)) (hi : P.info? e = some i) (hz : i.zero = some z) {base : Option Addr} {n k c : Nat} {kq : IntKind} {olds : List Value} (ha : as[0]? = some (.slice base n c)) (hb : as[1]? = some (.int kq k))
  (hfo : (Builtin.firstCells i.size n (.slice base n c)).run P w.drew = .ok olds.toArray w.drew) (h0k : 0 < k) (hs : i.size ≠ 0) (hg : c < n + k) (h63 : n + k ≤ 1073741824) (hfit : i.bytes ≤ 65536) :
  (Builtin.append_ at_ tt as).run P w = .ok (.slice (some ⟨w.heap.size, 0, none⟩) (n + k) (grownCap w (n + k) c e)) (w.drew.alloc (.cells (olds.toArray ++ Builtin.zeroCells z.cells k ++ Builtin.zeroCells z.cells (grownCap w (n + k) c e - (n + k))) e)) := by
 have hk : k ≠ 0 := by omega
 have hw : IntKind.i64.wrap (k : Int) = k := by rw [IntKind.wrap_i64]; omega
 have hn : ¬ (n + k ≤ c) := by omega
 have h63' : ¬ (9223372036854775807 < ((n : Int) + (k : Int))) := by omega
 have h48' : ¬ (281474976710656 < Builtin.nextslicecap (n + k) c * i.bytes) := by
  have h1 := nextcap_le hg
  have h2 : Builtin.nextslicecap (n + k) c * i.bytes ≤ (2 * (n + k)) * 65536 := Nat.mul_le_mul h1 hfit
  omega
 have h48i : ¬ (281474976710656 < (k : Int) * (i.bytes : Int)) := by
  rw [← Int.natCast_mul]
  have : k * i.bytes ≤ k * 65536 := Nat.mul_le_mul_left _ hfit
  omega
 have hneg : ¬ ((k : Int) < 0) := by omega
 have hns : ¬ (k * i.size = 0) := Nat.mul_ne_zero hk hs
 simp [Builtin.append_, h0, h1, ha, hb, run_underlying ht, run_underlying ht', sizeOf, typeInfo, zeroValue, hi, hz, asInt, asIntOf, hw, hn, hneg, hns, h63', h48', h48i, Question.forced, hfo, newRow, grownCap]
theorem RelR.zeros {U : Nat → Prop} {z : D} {zc : Array Value} (h : RelC U w z zc.toList) (hl : zc.size = z.len) (k : Nat) : RelR U w z.len (List.replicate k z) (Builtin.zeroCells zc k).toList := by
 have e : Builtin.zeroCells zc k = madeCells zc (k * zc.size) := rfl
 rw [e, madeCells_rep]
 exact RelF.toR (lensOk_rep z _) (RelF.rep h k)
theorem xappZr_sound (h : Holds F n g st a w) {t bytes s b m c : Nat} {k : Int} {q : IntKind} {z : D} {ad : Option Addr} {K : D → St → Prop} {at_ : Array TypeId} {as : Array Value} {tt ty ty' : TypeId} {kn : IntKind} (hm : mkOf P ty = some (z, bytes)) (h0 : at_[0]? = some ty) (h1 : at_[1]? = some ty') (ht' : P.underlying ty' = some (.int kn))
  (ha : as[0]? = some (.slice ad m c)) (hb : as[1]? = some (.int q k)) (had : c ≠ 0 → ad = some ⟨b, 0, none⟩) (hx : xappZr st t z bytes s b m c k K) :
  ∃ d v g' st' w', K d st' ∧ Holds F n g' st' a w' ∧ RelV g'.U w' d v ∧ (Builtin.append_ at_ tt as).run P w = .ok v w' := by
 unfold mkOf at hm
 split at hm
 case h_2 => cases hm
 rename_i e ht
 split at hm
 case h_2 => cases hm
 rename_i z' i' hz1 hi'
 simp only [Option.some.injEq, Prod.mk.injEq] at hm
 obtain ⟨rfl, rfl⟩ := hm
 obtain ⟨i, zv, hi, hzv, hlen, _, hrel⟩ := zeroD_spec hz1
 obtain rfl : i' = i := by rw [hi] at hi'; exact (Option.some.inj hi').symm
 have hcs : zv.cells.size = i'.size := by have := (hrel g.U w).length; rw [hlen] at this; simpa using this
 unfold xappZr at hx
 rw [hlen] at hx
 obtain ⟨rfl, hk0, hg, hbig, hby, hes, hx⟩ := hx
 obtain ⟨k, rfl⟩ : ∃ k' : Nat, k = k' := ⟨k.toNat, by omega⟩
 cases hl : st.lc s with
 | none => simp [hl] at hx
 | some d =>
  cases d <;> simp only [hl] at hx
  rename_i es' ds cp
  obtain ⟨rfl, hle, hmc, hbare, hx⟩ := hx
  obtain ⟨oldc, hRo, hfo⟩ := row_read (P := P) h hl hbare (i := 0) (m := m) (c := c) (ad := ad) (by omega) hmc (fun h => by rw [had h]; simp)
  simp only [List.drop_zero] at hRo
  have hlt : (ds.take m).length = m := by simp; omega
  have hlo := hRo.length
  rw [hlt] at hlo
  have hfo' := fun w' hw => hfo m (Nat.le_refl _) w' hw
  rw [← hlo, List.take_length] at hfo'
  have hge := grownCap_ge w (m + k) c e
  have hfin := hx (m + k) w.heap.size (grownCap w (m + k) c e) (by simp) hge
  have hrun := run_app_zeros (P := P) (tt := tt) (w := w) h0 h1 ht ht' hi hzv ha hb (hfo' _ (drew_below w)) (by omega) hes (by omega) (by omega) hby
  generalize hcap : grownCap w (m + k) c e = cap at *
  have hheap : ∀ (b : Nat) (ob : Obj), (w.drew.alloc ob).heap[b]? = if b = w.heap.size then some ob else w.heap[b]? := fun b ob => World.alloc_heap w.drew ob b
  have hzR := RelR.zeros (hrel g.U w) (by rw [hlen]; exact hcs) k
  rw [hlen] at hzR
  have hzl := hzR.length
  rw [List.length_replicate] at hzl
  have hT := h.turn (s := t) (t := t) (b' := w.heap.size) (d' := .arr i'.size (ds.take m ++ List.replicate k z') cap) (w' := w.drew.alloc (.cells (oldc.toArray ++ Builtin.zeroCells zv.cells k ++ Builtin.zeroCells zv.cells (cap - (m + k))) e)) (F' := [w.heap.size]) (by simp) rfl rfl rfl (fun k hk _ => by rw [hheap, if_neg (by omega)])
   (by
    refine .inr ⟨_, e, [], by omega, by rw [hheap, if_pos rfl], ?_, by simp; omega, ?_, rfl⟩
    ·simp only [Array.size_append, List.size_toArray, zeroCells_list, hcs, hlo, ← Nat.add_mul]
     congr 1
     omega
    ·have e1 : ((oldc.toArray ++ Builtin.zeroCells zv.cells k ++ Builtin.zeroCells zv.cells (cap - (m + k))).toList.take ((ds.take m ++ List.replicate k z').length * i'.size)) = oldc ++ (Builtin.zeroCells zv.cells k).toList := by
      simp only [Array.toList_append]
      rw [List.length_append, hlt, List.length_replicate, Nat.add_mul, ← hlo, ← hzl, ← List.length_append, List.take_left]
     rw [e1]
     exact .of ((hRo.append hzR).mono ⟨fun _ h => h, fun b hb' => by rw [hheap, if_neg (by have := h.ubd b hb'; omega)]⟩))
   (by simp) (fun x hx => .inr (by simp at hx; omega))
  rw [← St.box_turn] at hT
  have e2 : (k : Int).toNat = k := by simp
  rw [e2] at hfin
  exact ⟨_, _, _, _, _, hfin, hT, by simp only [RelV, RelW, RelC]; exact ⟨_, rfl, hge, fun _ => rfl⟩, hrun⟩
theorem xappZ_sound (h : Holds F n g st a w) {t bytes : Nat} {z x y : D} {vx vy : Value} {K : D → St → Prop} {at_ : Array TypeId} {as : Array Value} {tt ty ty' : TypeId} {kn : IntKind} (hm : mkOf P ty = some (z, bytes)) (h0 : at_[0]? = some ty) (h1 : at_[1]? = some ty') (ht' : P.underlying ty' = some (.int kn))
  (ha : as[0]? = some vx) (hb : as[1]? = some vy) (hrx : RelV g.U w x vx) (hry : RelV g.U w y vy) (hx : xappZ st t z bytes x y K) :
  ∃ d v g' st' w', K d st' ∧ Holds F n g' st' a w' ∧ RelV g'.U w' d v ∧ (Builtin.append_ at_ tt as).run P w = .ok v w' := by
 unfold xappZ at hx
 split at hx
 ·rename_i s b m c q k
  obtain ⟨ad, rfl, hle, hbb⟩ := RelV.lsl hrx
  obtain rfl : vy = .int q k := by simpa [RelV, RelW, RelC] using hry
  exact xappZr_sound h hm h0 h1 ht' ha hb hbb hx
 ·rename_i s b i o m c q k
  obtain ⟨rfl, rfl, hx⟩ := hx
  obtain ⟨ad, rfl, hle, hbb⟩ := RelV.lvw hrx
  obtain rfl : vy = .int q k := by simpa [RelV, RelW, RelC] using hry
  exact xappZr_sound h hm h0 h1 ht' ha hb hbb hx
 ·exact hx.elim
theorem overlaps_apart2 {P : Program} (w : World) (tS tR e : TypeId) (ht : P.underlying tS = some (.slice e)) (size : Nat) (hz : ∀ w, (Go.sizeOf e).run P w = .ok size w)
  (a b : Addr) (la ca lb cb : Nat) (hne : a.block ≠ b.block) (tA tB : TypeId) (kA kB : Nat)
  (hsa : w.shape? a.block = some (tA, kA)) (hsb : w.shape? b.block = some (tB, kB)) (hkA : kA ≠ 0) (hkB : kB ≠ 0)
  (hfa : w.frozen? b = false) (hfe : w.frozen? { block := b.block, off := kB } = false) :
  (Extern.SlicesOverlaps.overlaps #[tS, tS] #[tR] #[.slice (some a) la ca, .slice (some b) lb cb]).run P w = .ok (.bool false) w := by
 have hnb : (a.block != b.block) = true := by simpa using hne
 have hnb' : (a.block == b.block) = false := by simpa using hne
 change Sem.run P (α := Value) (do
  let some t := (#[tS, tS] : Array TypeId)[0]? | stuck "slices.overlaps: no parameter types"
  let .slice elem ← underlying t | stuck "slices.overlaps: slice type expected"
  let size ← sizeOf elem
  match (some a : Option Addr), (some b : Option Addr) with
  | some a, some b =>
   if la = 0 ∨ lb = 0 ∨ size = 0 then pure (Value.bool false)
   else if a.block != b.block && (← frozen a) && (← frozen b) then unsupported .addressObserved
   else do
    if a.block != b.block then do
     noView a; noView b
     if ← mayBeOne a b then return Value.bool ((← choose (.extern "sameAddr.stringBytes" 2)) == 1)
    pure (Value.bool (a.block == b.block && a.off < b.off + lb * size && b.off < a.off + la * size))
  | _, _ => pure (Value.bool false)) w = _
 by_cases h0 : la = 0 ∨ lb = 0 ∨ size = 0
 ·simp [run_underlying ht, hz, h0]
 ·cases kB with
  | zero => exact absurd rfl hkB
  | succ kB =>
  cases kA with
  | zero => exact absurd rfl hkA
  | succ kA =>
   cases h1 : w.frozen? a <;> cases h2 : w.frozen? { block := a.block, off := kA + 1 } <;>
   simp [run_underlying ht, hz, h0, hnb, hnb', frozen, noView, viewAt, mayBeOne, stringish, shape, Sem.run, hsa, hsb, hfa, hfe, h1, h2]
theorem xovl_sound (h : Holds F n g st a w) {f : FuncId} {x y : D} {vx vy : Value} {q : Prop} (hrx : RelV g.U w x vx) (hry : RelV g.U w y vy) (hx : xovl P st q f x y) : q ∧ (callFunc f #[vx, vy]).run P w = .ok (.value (.bool false)) w := by
 unfold xovl at hx
 split at hx
 ·rename_i s b nx c s' b' i o ny c'
  obtain ⟨⟨fn, t, r, e, size, k1, k2, k3, k4, k5, k6, k7⟩, hne, hc, hc', rfl, rfl, hx⟩ := hx
  obtain ⟨ad, rfl, hle, hbb⟩ := RelV.lsl hrx
  obtain ⟨ad', rfl, hle', hbb'⟩ := RelV.lvw hry
  obtain rfl := hbb hc
  obtain rfl := hbb' hc'
  cases hl : st.lc s with
  | none => simp [hl] at hx
  | some d =>
  cases hl' : st.lc s' with
  | none => simp [hl, hl'] at hx
  | some d' =>
  cases d <;> cases d' <;> simp only [hl, hl'] at hx
  obtain ⟨q1, q2, q3, hq⟩ := hx
  refine ⟨hq, ?_⟩
  obtain ⟨Fs, hO⟩ := h.locs s _ hl
  obtain ⟨Fs', hO'⟩ := h.locs s' _ hl'
  rcases hO.loc with ⟨hz, _⟩ | ⟨cells, e1, G, _, hcell, hsz, _, _, rfl⟩
  ·exact absurd hz q1
  rcases hO'.loc with ⟨hz, _⟩ | ⟨cells', e1', G', _, hcell', hsz', _, _, rfl⟩
  ·exact absurd hz q2
  have hdb : st.gen s ≠ st.gen s' := fun e => by
   have m1 := hO.own (st.gen s) (by simp)
   have m2 := hO'.own (st.gen s) (by rw [e]; simp)
   rw [m1] at m2
   cases m2
   simp at hne
  have hnz : cells'.size ≠ 0 := by rw [hsz']; exact Nat.mul_ne_zero q2 q3
  rw [run_callFunc_extern k1 k2 k3 k4 k5,
   Lib.run_overlaps_apart w t r e k6 size k7 ⟨st.gen s, 0, none⟩ ⟨st.gen s', o, none⟩ nx c ny c' hdb e1 e1' cells.size cells'.size (by simp [World.shape?, hcell]) (by simp [World.shape?, hcell']) hnz (by simp [World.frozen?, hcell]) (by simp [World.frozen?, hcell])]
  rfl
 ·rename_i es ds s' b' i o ny c'
  obtain ⟨⟨fn, t, r, e, size, k1, k2, k3, k4, k5, k6, k7⟩, hds, hc', rfl, hx⟩ := hx
  have hr' : RelC g.U w (.ro es ds) [vx] := hrx
  simp only [RelC] at hr'
  obtain ⟨ad, nc, e0, hle, hro⟩ := hr'
  simp only [List.cons.injEq, and_true] at e0
  subst e0
  obtain ⟨ad', rfl, hle', hbb'⟩ := RelV.lvw hry
  obtain rfl := hbb' hc'
  have hd0 : ds ≠ [] := fun e => hds (by rw [e]; simp)
  rcases hro with hro | ⟨b, off, cells, e1, fz, rfl, hU, hcell, hR⟩
  ·exact absurd hro hd0
  cases hl' : st.lc s' with
  | none => simp [hl'] at hx
  | some d' =>
  cases d' <;> simp only [hl'] at hx
  obtain ⟨q2, q3, hq⟩ := hx
  refine ⟨hq, ?_⟩
  obtain ⟨Fs', hO'⟩ := h.locs s' _ hl'
  have hnu := fun x hx => hO'.nu x hx
  rcases hO'.loc with ⟨hz, _⟩ | ⟨cells', e1', G', _, hcell', hsz', _, _, rfl⟩
  ·exact absurd hz q2
  have hdb : b ≠ st.gen s' := fun e => hnu (st.gen s') (by simp) (e ▸ hU)
  have hnz : cells'.size ≠ 0 := by rw [hsz']; exact Nat.mul_ne_zero q2 q3
  have hkA : cells.size ≠ 0 := fun e => by
   have hlen := hR.length
   have e2 : cells.toList = [] := by simpa using e
   rw [e2] at hlen
   simp only [List.drop_nil, List.take_nil, List.length_nil] at hlen
   exact hds hlen.symm
  rw [run_callFunc_extern k1 k2 k3 k4 k5,
   overlaps_apart2 w t r e k6 size k7 ⟨b, off, none⟩ ⟨st.gen s', o, none⟩ ds.length nc ny c' hdb e1 e1' cells.size cells'.size (by simp [World.shape?, hcell]) (by simp [World.shape?, hcell']) hkA hnz (by simp [World.frozen?, hcell']) (by simp [World.frozen?, hcell'])]
  rfl
 ·exact hx.elim
theorem bsl_run0 {t : TypeId} {z : D} {bytes : Nat} (hz : mkOf P t = some (z, bytes)) : ∃ e, (Instr.buildSlice t 0 #[]).run P w = .ok (.slice (some ⟨w.heap.size, 0, none⟩) 0 0) (w.alloc (.cells #[] e)) := by
 unfold mkOf at hz
 split at hz
 ·rename_i e hu
  split at hz
  ·rename_i z' i' hz1 hi'
   obtain ⟨i, zv, hi, hzv, hlen, _, hrel⟩ := zeroD_spec hz1
   obtain rfl : i' = i := by rw [hi] at hi'; exact (Option.some.inj hi').symm
   have hsz : (sizeOf e).run P w = .ok i'.size w := by simp [sizeOf, typeInfo, hi]
   refine ⟨e, ?_⟩
   unfold Instr.buildSlice
   simp only [Sem.run_bind, run_underlying hu, Result.andThen_ok, hsz]
   have e0 : ∀ f : Nat → Value, (Array.range 0).map f = #[] := fun f => Array.eq_empty_of_size_eq_zero (by simp)
   simp [Instr.fill, newRow, Sem.run_bind]
   rw [e0]
  ·cases hz
 ·cases hz
theorem bsl_run (h : Holds F n g st a w) {t : TypeId} {len : Nat} {parts : Array (Nat × Operand)} {z : D} {bytes : Nat} {K : List D → Prop} (hz : mkOf P t = some (z, bytes)) (hle : len * z.len ≤ 16777216) (hne : len * z.len ≠ 0)
  (hx : xbd (.agg (List.replicate len z)) (parts.toList.map fun p => (p.1, p.1 * z.len, z.len, st.ev p.2)) (xrows z.len K)) :
  ∃ ds cs e, K ds ∧ ds.length = len ∧ RelR g.U w z.len ds cs.toList ∧ (Instr.buildSlice t len (parts.map fun (i, x) => (i, a.eval x))).run P w = .ok (.slice (some ⟨w.heap.size, 0, none⟩) len len) (w.alloc (.cells cs e)) := by
 unfold mkOf at hz
 split at hz
 ·rename_i e hu
  split at hz
  ·rename_i z' i' hz1 hi'
   simp only [Option.some.injEq, Prod.mk.injEq] at hz
   obtain ⟨rfl, rfl⟩ := hz
   obtain ⟨i, zv, hi, hzv, hlen, _, hrel⟩ := zeroD_spec hz1
   obtain rfl : i' = i := by rw [hi] at hi'; exact (Option.some.inj hi').symm
   have hcs : zv.cells.size = i'.size := by have := (hrel g.U w).length; rw [hlen] at this; simpa using this
   have hsz : (sizeOf e).run P w = .ok i'.size w := by simp [sizeOf, typeInfo, hi]
   have hrel2 : RelC g.U w (.agg (List.replicate len z')) (madeCells zv.cells (len * i'.size)).toList := by
    rw [← hcs, madeCells_rep]
    simp only [RelC]
    exact RelF.rep (hrel g.U w) len
   rw [hlen] at hle hne hx
   have hx' : xbd (.agg (List.replicate len z')) ((parts.toList.map fun p => (p.1, p.1 * i'.size, i'.size, p.2)).map fun p => (p.1, p.2.1, p.2.2.1, st.ev p.2.2.2)) (xrows i'.size K) := by
    rw [List.map_map]
    exact hx
   obtain ⟨d, cs, k1, k2, k3, k4, k5⟩ := fill_sound h (place := fun i => some (i * i'.size, i'.size)) (fun p hp => by obtain ⟨q, _, rfl⟩ := List.mem_map.1 hp; rfl) hrel2 hx'
   rw [List.map_map] at k2
   have hfill : Instr.fill (fun i => some (i * i'.size, i'.size)) (madeCells zv.cells (len * i'.size)) (parts.map fun (i, x) => (i, a.eval x)).toList = some cs := by
    rw [← k2, Array.toList_map]
    rfl
   have hrun : (Instr.buildSlice t len (parts.map fun (i, x) => (i, a.eval x))).run P w = .ok (.slice (some ⟨w.heap.size, 0, none⟩) len len) (w.alloc (.cells cs e)) := by
    unfold Instr.buildSlice
    have hzr : (zeroValue e).run P w = .ok zv w := by simp [zeroValue, typeInfo, hi, hzv]
    simp only [Sem.run_bind, run_underlying hu, Result.andThen_ok, hsz, if_neg (show ¬ len * i'.size > 2 ^ 24 by omega), if_neg hne, hzr, Sem.run_pure]
    have hm : (Array.range (len * i'.size)).map (fun x => zv.cells[x % zv.cells.size]!) = madeCells zv.cells (len * i'.size) := rfl
    rw [hm, hfill]
    simp [newRow, Sem.run_bind]
   cases d <;> try exact k1.elim
   rename_i ds
   obtain ⟨kl, k1⟩ := k1
   simp only [RelC] at k3
   have k3R := RelF.toR kl k3
   have hdl : ds.length = len := by
    have h1 := k3.length
    have h2 := k3R.length
    have h3 := hrel2.length
    simp only [D.len] at k5 h3
    rw [← k5, ← h1, h2] at h3
    rw [← hcs, madeCells_rep] at h3
    simp at h3
    have h4 : ds.length * i'.size = len * i'.size := by
     have e1 : cs.size = ds.length * i'.size := by simpa using h2
     have e2 : D.lens (List.replicate len z') = len * i'.size := by
      have := hrel2.length
      rw [← hcs, madeCells_rep] at this
      simp only [D.len] at this
      rw [← this]
      simp [hcs]
     have e3 : cs.size = D.lens ds := by simpa using h1
     omega
    have hpos : 0 < i'.size := Nat.pos_of_ne_zero fun e0 => hne (by rw [e0]; simp)
    exact Nat.eq_of_mul_eq_mul_right hpos h4
   rw [hlen]
   exact ⟨ds, cs, e, k1, hdl, k3R, hrun⟩
  ·cases hz
 ·cases hz
theorem xop_sound (h : Holds F n g st a w) (o : Oper) {K : D → St → Prop} (hx : xop P o.dst st K o.op) {next : Act → World → Prop} {Q : Exit → Act → World → Prop}
  (hn : ∀ d v st' g' w', K d st' → Holds F n g' st' a w' → RelV g'.U w' d v → next (a.put o.dst v) w') : o.wp P a w next Q := by
 have pure_case : xpure P st (fun d => K d st) o.op → o.wp P a w next Q := fun hp => by
  obtain ⟨d, v, hK, hR, hrun⟩ := xpure_sound h o hp
  unfold Oper.wp
  rw [hrun w (Below.refl _ _)]
  exact hn d v st g w hK h hR
 have app_case : ∀ {c : Call}, o.op = .call c → c.callee = .builtin .append → (match o.dst, c.args[0]?, c.args[1]?, c.argTypes[0]?, c.argTypes[1]? with
   | some t, some x, some y, some ty, some ty' => match mkOf P ty, P.underlying ty' with
    | some (z, bytes), some (.slice _) => xappA st t z.len bytes (st.ev x) (st.ev y) K
    | some (z, bytes), some (.int .i64) => xappZ st t z bytes (st.ev x) (st.ev y) K
    | _, _ => False
   | _, _, _, _, _ => False) → o.wp P a w next Q := fun {c} hop hc hx => by
  split at hx
  ·rename_i t x y ty ty' hd hx0 hy0 h0 h1
   split at hx
   ·rename_i z bytes e' hm ht'
    obtain ⟨d, v, g', st', w', hK, hH, hR, hrun⟩ := xappA_sound (P := P) (as := c.args.map a.eval) (at_ := c.argTypes) (tt := o.type) h hm h0 h1 ht' (by simp [hx0]) (by simp [hy0]) (h.ev x) (h.ev y) hx
    have hh := hn d v st' g' w' hK hH hR
    unfold Oper.wp execOp
    obtain ⟨callee, args, argTypes⟩ := c
    simp only at hc
    subst hc
    simp only [hop]
    simp only [Sem.run_bind, resolve, invoke, builtin, Result.andThen_ok, Sem.run_pure] at hrun ⊢
    simp [hrun]
    exact hh
   ·rename_i z bytes hm ht'
    obtain ⟨d, v, g', st', w', hK, hH, hR, hrun⟩ := xappZ_sound (P := P) (as := c.args.map a.eval) (at_ := c.argTypes) (tt := o.type) h hm h0 h1 ht' (by simp [hx0]) (by simp [hy0]) (h.ev x) (h.ev y) hx
    have hh := hn d v st' g' w' hK hH hR
    unfold Oper.wp execOp
    obtain ⟨callee, args, argTypes⟩ := c
    simp only at hc
    subst hc
    simp only [hop]
    simp only [Sem.run_bind, resolve, invoke, builtin, Result.andThen_ok, Sem.run_pure] at hrun ⊢
    simp [hrun]
    exact hh
   ·exact hx.elim
  ·exact hx.elim
 have copy_case : ∀ {c : Call}, o.op = .call c → c.callee = .builtin .copy → (match c.args[0]?, c.args[1]?, c.argTypes[0]? with
   | some x, some y, some ty => match eltOf P ty with
    | some es => es ≠ 0 ∧ xcpy st es (st.ev x) (st.ev y) K
    | none => False
   | _, _, _ => False) → o.wp P a w next Q := fun {c} hop hc hx => by
  split at hx
  ·rename_i x y ty hx0 hy0 h0
   split at hx
   ·rename_i es he
    obtain ⟨d, v, g', st', w', hK, hH, hR, hrun⟩ := xcpy_sound (P := P) (as := c.args.map a.eval) (at_ := c.argTypes) (tt := o.type) h he hx.1 h0 (by simp [hx0]) (by simp [hy0]) (h.ev x) (h.ev y) hx.2
    have hh := hn d v st' g' w' hK hH hR
    unfold Oper.wp execOp
    obtain ⟨callee, args, argTypes⟩ := c
    simp only at hc
    subst hc
    simp only [hop]
    simp only [Sem.run_bind, resolve, invoke, builtin, Result.andThen_ok, Sem.run_pure] at hrun ⊢
    simp [hrun]
    exact hh
   ·exact hx.elim
  ·exact hx.elim
 have clear_case : ∀ {c : Call}, o.op = .call c → c.callee = .builtin .clear → (match c.args[0]?, c.argTypes[0]? with
   | some x, some ty => match mkOf P ty with
    | some (z, _) => xclr st z.len (st.ev x) K
    | none => False
   | _, _ => False) → o.wp P a w next Q := fun {c} hop hc hx => by
  split at hx
  ·rename_i x ty hx0 h0
   split at hx
   ·rename_i z bytes hm
    obtain ⟨d, v, g', st', w', hK, hH, hR, hrun⟩ := xclr_sound (P := P) (as := c.args.map a.eval) (at_ := c.argTypes) (tt := o.type) h hm h0 (by simp [hx0]) (h.ev x) hx
    have hh := hn d v st' g' w' hK hH hR
    unfold Oper.wp execOp
    obtain ⟨callee, args, argTypes⟩ := c
    simp only at hc
    subst hc
    simp only [hop]
    simp only [Sem.run_bind, resolve, invoke, builtin, Result.andThen_ok, Sem.run_pure] at hrun ⊢
    simp [hrun]
    exact hh
   ·exact hx.elim
  ·exact hx.elim
 cases hop : o.op <;> rw [hop] at hx <;> simp only [xop] at hx
 case alloc t =>
  cases hd : o.dst with
  | none => simp [hd] at hx
  | some s =>
   cases hz : zeroD P t with
   | none => simp [hd, hz] at hx
   | some z =>
    simp only [hd, hz] at hx
    obtain ⟨i, zv, hi, hzv, _, _, hrel⟩ := zeroD_spec hz
    have hB := h.box s (hrel g.U w) t
    have hh := hn _ (.pointer (some ⟨w.heap.size, 0, none⟩)) _ _ _ (hx w.heap.size) hB (by simp [RelV, RelW, RelC])
    unfold Oper.wp execOp
    simp only [hop]
    simp only [Instr.alloc, zeroValue, typeInfo, newVar, newRow, Sem.run_bind, run_program, Result.andThen_ok, hi, hzv, Sem.run_pure]
    exact hh
 case makeMap t r =>
  cases hd : o.dst with
  | none => simp [hd] at hx
  | some s =>
   simp only [hd] at hx
   obtain ⟨rfl, hx⟩ := hx
   have hB := h.boxO s (d := .mp []) (G := [w.heap.size]) (.map #[] 0) ⟨rfl, #[], 0, by rw [World.alloc_heap, if_pos rfl], rfl⟩ (by simp) (by simp)
   have hh := hn _ (.map (some w.heap.size)) _ _ _ (hx w.heap.size) hB (by simp [RelV, RelW, RelC])
   unfold Oper.wp execOp
   simp only [hop]
   simp only [Instr.makeMap, Option.map_none, newObj, Sem.run_bind, Result.andThen_ok, Sem.run_pure]
   exact hh
 case mapUpdate t m k x =>
  obtain ⟨ht, hx⟩ := hx
  cases hdm : st.ev m <;> cases hdk : st.ev k <;> cases hdx : st.ev x <;> simp only [hdm, hdk, hdx, xmu] at hx
  rename_i s gn ky v
  obtain ⟨hg, hx⟩ := hx
  cases hl : st.lc s with
  | none => simp [hl] at hx
  | some c =>
   cases c <;> simp only [hl] at hx
   rename_i l
   have hr := h.ev m
   rw [hdm] at hr
   have hv : a.eval m = .map (some gn) := by simpa [RelV, RelW, RelC] using hr
   subst hg
   obtain ⟨Fs, hO⟩ := h.locs s _ hl
   obtain ⟨hFs, es, clk, hb, hm⟩ := hO.loc
   have hk : a.eval k = .string ky := by have := h.ev k; rw [hdk] at this; simpa [RelV, RelW, RelC] using this
   have hxv : a.eval x = .bool v := by have := h.ev x; rw [hdx] at this; simpa [RelV, RelW, RelC] using this
   obtain ⟨es', clk', hrun, hm'⟩ := run_update_str (P := P) (k := ky) (v := v) ht hb hm
   have hlt := (Array.getElem?_eq_some_iff.1 hb).1
   have hgk : ∀ q, ({ w with heap := w.heap.setIfInBounds (st.gen s) (.map es' clk') } : World).heap[q]? = if q = st.gen s then some (.map es' clk') else w.heap[q]? := fun q => by
    by_cases e : q = st.gen s
    ·subst e; simp [hlt]
    ·simp [Array.getElem?_setIfInBounds, Ne.symm e, e]
   have hB := h.setLcO (d' := .mp (kset l ky v)) hO (by rw [hFs]; simp) hgk (by simp) rfl rfl rfl (F' := [st.gen s]) ⟨rfl, es', clk', by rw [hgk, if_pos rfl], hm'⟩ (by rw [hFs]; exact List.Sublist.refl _)
   have hh := hn _ undef _ _ _ hx hB rfl
   unfold Oper.wp execOp
   simp only [hop]
   simp only [Sem.run_bind, hv, hk, hxv, hrun, Result.andThen_ok, Sem.run_pure]
   exact hh
 case buildSlice t len parts =>
  cases hd : o.dst with
  | none => simp [hd] at hx
  | some s =>
   cases hz : mkOf P t with
   | none => simp [hd, hz] at hx
   | some r =>
    obtain ⟨z, bytes⟩ := r
    simp only [hd, hz] at hx
    by_cases hl0 : len = 0
    ·rw [if_pos hl0] at hx
     subst hl0
     obtain ⟨rfl, hK⟩ := hx
     obtain ⟨e, hrun⟩ := bsl_run0 (w := w) hz
     have hB : Holds F n g st a (w.alloc (.cells #[] e)) := h.below ⟨rfl, rfl, rfl, by simp, fun k hk => by rw [World.alloc_heap, if_neg (by omega)]⟩
     have hh := hn _ (.slice (some ⟨w.heap.size, 0, none⟩) 0 0) _ _ _ hK hB (by simp [RelV, RelW, RelC])
     unfold Oper.wp execOp
     simp only [hop]
     simp only [Array.map_empty, Sem.run_bind, hrun, Result.andThen_ok, Sem.run_pure]
     exact hh
    ·rw [if_neg hl0] at hx
     obtain ⟨hle, hne, hx⟩ := hx
     obtain ⟨ds, cs, e, k1, hdl, k3R, hrun⟩ := bsl_run h hz hle hne hx
     obtain ⟨g1, hg1, hB⟩ := h.boxR s k3R e
     rw [hdl] at hB
     have hh := hn _ (.slice (some ⟨w.heap.size, 0, none⟩) len len) _ _ _ (k1 w.heap.size) hB (by simp [RelV, RelW, RelC])
     unfold Oper.wp execOp
     simp only [hop]
     simp only [Sem.run_bind, hrun, Result.andThen_ok, Sem.run_pure]
     exact hh
 case build t parts =>
  cases hz : zeroD P t with
  | none => simp [hz] at hx
  | some z =>
   cases hpo : partsOf P t parts.toList with
   | none => simp [hz, hpo] at hx
   | some l =>
    simp only [hz, hpo] at hx
    obtain ⟨hb, hza, hx⟩ := hx
    obtain ⟨i, zv, hi, hzv, _, hag, hrel⟩ := zeroD_spec hz
    obtain ⟨fs, places, hu, hps⟩ := builtB_spec hb
    obtain ⟨hpl, hpm⟩ := partsOf_place hu hps hpo
    obtain ⟨d, cs, k1, k2, k3, k4, _⟩ := fill_sound h (place := fun i => places.toArray[i]?) (fun p hp => by simpa using hpl p hp) (hrel g.U w) hx
    have hbt : P.built t (parts.map fun (i, x) => (i, a.eval x)).toList = some cs := by
     unfold Program.built
     simp only [hi, hu, hzv, hps]
     rw [← k2]
     congr 1
     rw [Array.toList_map, ← hpm, List.map_map]
     rfl
    have hag' : ∃ fs, d = .agg fs := by
     rw [hza] at k4
     cases d <;> first | exact ⟨_, rfl⟩ | (simp [D.isAgg] at k4)
    obtain ⟨fs', rfl⟩ := hag'
    have hrun := run_build w t (parts.map fun (i, x) => (i, a.eval x)) cs hbt
    have hR : RelV g.U w (.agg fs') (.agg cs) := ⟨cs, rfl, by simpa [RelC] using k3⟩
    have hh := hn _ (.agg cs) st g w k1 h hR
    unfold Oper.wp execOp
    simp only [hop]
    simp only [Sem.run_bind, hrun, Result.andThen_ok, Sem.run_pure]
    exact hh
 case box t x =>
  cases hd : o.dst with
  | none => simp [hd] at hx
  | some s =>
   simp only [hd] at hx
   obtain ⟨hm, hx⟩ := hx
   have hxc : RelC g.U w (st.ev x) (a.eval x).cells.toList := (h.ev x).mem hm
   have hB := h.box s hxc t
   have hh := hn _ (.pointer (some ⟨w.heap.size, 0, none⟩)) _ _ _ (hx w.heap.size) hB (by simp [RelV, RelW, RelC])
   unfold Oper.wp execOp
   simp only [hop]
   simp only [Instr.box, newVar, newRow, Sem.run_bind, Result.andThen_ok, Sem.run_pure]
   exact hh
 case makeSlice t l c =>
  cases hd : o.dst with
  | none => simp [hd] at hx
  | some s =>
   cases hz : mkOf P t with
   | none => simp [hd, hz] at hx
   | some r =>
    obtain ⟨z, bytes⟩ := r
    simp only [hd, hz] at hx
    unfold mkOf at hz
    split at hz
    ·rename_i e hu
     split at hz
     ·rename_i z' i' hz1 hi'
      simp only [Option.some.injEq, Prod.mk.injEq] at hz
      obtain ⟨rfl, rfl⟩ := hz
      obtain ⟨i, zv, hi, hzv, hlen, _, hrel⟩ := zeroD_spec hz1
      obtain rfl : i' = i := by rw [hi] at hi'; exact (Option.some.inj hi').symm
      cases hl : st.ev l <;> cases hc : st.ev c <;> rw [hl, hc] at hx <;> try exact hx.elim
      rename_i k n' k' m
      obtain ⟨h0, h1, h2, h3, hK⟩ := hx
      have vl : a.eval l = .int k n' := by have := h.ev l; rw [hl] at this; simpa [RelV, RelW, RelC] using this
      have vc : a.eval c = .int k' m := by have := h.ev c; rw [hc] at this; simpa [RelV, RelW, RelC] using this
      have hrun := run_make (P := P) (w := w) t e i' zv hu hi hzv k k' n' m h0 h1 (by omega) h3
      have hcs : zv.cells.size = i'.size := by have := (hrel g.U w).length; rw [hlen] at this; simpa using this
      have hrel2 : RelR g.U w z'.len (List.replicate m.toNat z') (madeCells zv.cells (m.toNat * i'.size)).toList := by
       rw [← hcs, madeCells_rep]
       exact RelF.toR (lensOk_rep z' _) (RelF.rep (hrel g.U w) m.toNat)
      obtain ⟨g1, hg1, hB⟩ := h.boxR s hrel2 e
      rw [List.length_replicate] at hB
      have hh := hn _ (.slice (some ⟨w.heap.size, 0, none⟩) n'.toNat m.toNat) _ _ _ (hK w.heap.size) hB (by simp [RelV, RelW, RelC]; omega)
      unfold Oper.wp execOp
      simp only [hop, vl, vc, Sem.run_bind, hrun, Result.andThen_ok, Sem.run_pure]
      exact hh
     ·cases hz
    ·cases hz
 case store t p x =>
  cases ht : varOf P t with
  | none => simp [ht] at hx
  | some r =>
   obtain ⟨sz, ag⟩ := r
   simp only [ht] at hx
   obtain ⟨hm, hl, hx⟩ := hx
   obtain ⟨g', st', w', hK, hH, hrun⟩ := xstore_sound h ht (h.ev x) hm hl (h.ev p) hx
   unfold Oper.wp execOp
   simp only [hop, Sem.run_bind, hrun, Result.andThen_ok, Sem.run_pure]
   exact hn _ _ _ _ _ hK hH rfl
 case call c =>
  cases hc : c.callee with
  | value f =>
   simp only [hc] at hx
   rcases hx with hx | hx
   ·cases hf : st.ev f <;> rw [hf] at hx <;> simp only [xcall] at hx
    rename_i fid caps
    obtain ⟨hno, hC⟩ := hx
    have hcal := hC.cal
    rw [Bool.and_eq_true] at hno
    have hcf := h.ev f
    rw [hf] at hcf
    obtain ⟨cs, hfv, hcs⟩ := RelV.fn hcf
    have hargs := (h.evs c.args.toList hno.1).append hcs.toT
    have hcall := hC.run st.fr F n g a w _ h hargs
    have hrun : (execOp a.eval o).run P w = .ok (.enter fid (c.args.toList.map a.eval ++ cs.toList).toArray) w := by
     unfold callable at hcal
     cases hfn : P.funcs[fid]? with
     | none => simp [hfn] at hcal
     | some fn =>
      simp only [hfn, Bool.and_eq_true, Bool.not_eq_true'] at hcal
      have hb : ¬ fn.body = none := by cases hq : fn.body <;> simp [hq] at hcal ⊢
      have hnm : ¬ fn.name = "runtime.NumGoroutine" := by simpa using hcal.2
      have e : (c.args.map a.eval ++ cs) = (c.args.toList.map a.eval ++ cs.toList).toArray := by apply Array.ext'; simp
      unfold execOp
      simp [hop, resolve, hc, Deferred.ofValue, hfv, invoke, callFunc, Sem.run_bind, run_program, hfn, hnm, hb, e]
    unfold Oper.wp
    rw [hrun]
    refine Calls.mono hcall fun e w' hq => ?_
    obtain ⟨v, d, g', m, rfl, hH, hR, hk⟩ := hq
    exact hn d v _ g' w' hk hH hR
   ·cases f <;> simp only [xovlc] at hx
    rename_i fid
    obtain ⟨callee, args, argTypes⟩ := c
    simp only at hc hx
    subst hc
    split at hx
    ·rename_i hl f2 x y heq hm
     first | cases heq | skip
     obtain ⟨l, rfl⟩ : ∃ l : List Operand, args = l.toArray := ⟨args.toList, by simp⟩
     match l, hm with
     | [ox, oy], hm =>
      simp only [List.toList_toArray, List.map_cons, List.map_nil, List.cons.injEq, and_true] at hm
      obtain ⟨rfl, rfl⟩ := hm
      obtain ⟨hq, hrun⟩ := xovl_sound h (h.ev ox) (h.ev oy) hx
      unfold Oper.wp execOp
      simp only [hop]
      simp only [Sem.run_bind, resolve, invoke, Deferred.ofValue, Result.andThen_ok, Sem.run_pure]
      simp
      show Oper.upon P o a next Q ((callFunc fid #[a.eval ox, a.eval oy]).run P w)
      rw [hrun]
      exact hn _ _ _ _ _ hq h rfl
    ·exact hx.elim
  | invoke r m => exact pure_case (by rw [hop]; simpa [hc] using hx)
  | builtin b =>
   by_cases hap : b = .append
   ·subst hap
    simp only [hc] at hx
    exact app_case hop hc hx
   ·by_cases hco : b = .copy
    ·subst hco
     simp only [hc] at hx
     exact copy_case hop hc hx
    ·by_cases hcl : b = .clear
     ·subst hcl
      simp only [hc] at hx
      exact clear_case hop hc hx
     ·exact pure_case (by rw [hop]; cases b <;> first | exact absurd rfl hap | exact absurd rfl hco | exact absurd rfl hcl | simpa [hc] using hx)
 all_goals exact pure_case (by rw [hop]; exact hx)
end
end Go.Ab
