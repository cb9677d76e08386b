/- Operations that write, make or call. -/
import Derived.Test.YtagleaabhljkfaaAb1
import Derived.Laws.MakeOwn
import Derived.Laws.Tables
set_option linter.unusedSimpArgs false
set_option linter.unusedVariables false
namespace Go.Ab
open Go Go.RowKit

/-! ### Zero values -/
mutual
def D.flat : D → Option (List Value)
  | .int k n => some [.int k n]
  | .bool b => some [.bool b]
  | .str s => some [.string s]
  | .nil => some [.slice none 0 0]
  | .nilp => some [.pointer none]
  | .agg fs => D.flats fs
  | _ => none
def D.flats : List D → Option (List Value)
  | [] => some []
  | d :: ds => match d.flat, D.flats ds with
    | some a, some b => some (a ++ b)
    | _, _ => none
end
mutual
theorem D.flat_rel {U : Nat → Prop} {w : World} : ∀ {d : D} {cs : List Value}, d.flat = some cs → RelC U w d cs
  | .int .., _, h | .bool .., _, h | .str .., _, h | .nil, _, h | .nilp, _, h => by simp only [D.flat, Option.some.injEq] at h; subst h; simp [RelC]
  | .agg fs, cs, h => by simp only [D.flat] at h; simp only [RelC]; exact D.flats_rel h
  | .ro .., _, h | .sl .., _, h | .ptr .., _, h | .undef, _, h | .any, _, h | .lref .., _, h | .lsl .., _, h | .mp _, _, h | .lmp .., _, h | .cref _, _, h | .tup _, _, h | .fn .., _, h => by simp [D.flat] at h
theorem D.flats_rel {U : Nat → Prop} {w : World} : ∀ {ds : List D} {cs : List Value}, D.flats ds = some cs → RelF U w ds cs
  | [], _, h => by simp only [D.flats, Option.some.injEq] at h; subst h; simp [RelF]
  | d :: ds, cs, h => by
    simp only [D.flats] at h
    cases h1 : d.flat with
    | none => simp [h1] at h
    | some x =>
      cases h2 : D.flats ds with
      | none => simp [h1, h2] at h
      | some y =>
        simp only [h1, h2, Option.some.injEq] at h
        subst h
        simp only [RelF]
        exact ⟨x, y, rfl, D.flat_rel h1, D.flats_rel h2⟩
end
def sameLeaf : Value → Value → Bool
  | .int k n, .int k' m => decide (k = k') && decide (n = m)
  | .bool a, .bool b => a == b
  | .string a, .string b => a.size == 0 && b.size == 0
  | .slice none 0 0, .slice none 0 0 => true
  | .pointer none, .pointer none => true
  | _, _ => false
theorem size_zero_eq {a b : ByteArray} (h1 : a.size = 0) (h2 : b.size = 0) : a = b := by
  obtain ⟨a⟩ := a
  obtain ⟨b⟩ := b
  have e1 : a.size = 0 := h1
  have e2 : b.size = 0 := h2
  rw [Array.eq_empty_of_size_eq_zero e1, Array.eq_empty_of_size_eq_zero e2]
theorem sameLeaf_eq {a b : Value} (h : sameLeaf a b = true) : a = b := by
  unfold sameLeaf at h
  split at h
  · simp at h; simp [h.1, h.2]
  · simp at h; simp [h]
  · simp at h; rw [h.1, h.2]
  · rfl
  · rfl
  · cases h
def sameAll : List Value → List Value → Bool
  | [], [] => true
  | a :: x, b :: y => sameLeaf a b && sameAll x y
  | _, _ => false
theorem sameAll_eq : ∀ {x y : List Value}, sameAll x y = true → x = y
  | [], [], _ => rfl
  | a :: x, b :: y, h => by
    simp only [sameAll, Bool.and_eq_true] at h
    rw [sameLeaf_eq h.1, sameAll_eq h.2]
  | [], _ :: _, h => by simp [sameAll] at h
  | _ :: _, [], h => by simp [sameAll] at h
def zeroF (P : Program) : Nat → TypeId → Option D
  | 0, _ => none
  | k + 1, t => match P.underlying t with
    | some .bool => some (.bool false)
    | some (.int q) => some (.int q 0)
    | some .string => some (.str ⟨#[]⟩)
    | some (.slice _) => some .nil
    | some (.pointer _) => some .nilp
    | some (.struct fs) => (fs.toList.mapM fun f => zeroF P k f.type).map .agg
    | _ => none
def isAggV : Value → Bool
  | .agg _ => true
  | _ => false
def zeroD (P : Program) (t : TypeId) : Option D :=
  match zeroF P 12 t, P.info? t with
  | some d, some i => match i.zero, d.flat with
    | some z, some cs => if sameAll cs z.cells.toList && (d.isAgg == isAggV z) && (d.len == i.size) then some d else none
    | _, _ => none
  | _, _ => none
theorem zeroD_spec {P : Program} {t : TypeId} {d : D} (h : zeroD P t = some d) : ∃ i z, P.info? t = some i ∧ i.zero = some z ∧ d.len = i.size ∧ d.isAgg = isAggV z ∧ ∀ U w, RelC U w d z.cells.toList := by
  unfold zeroD at h
  split at h
  · rename_i d' i h1 h2
    split at h
    · rename_i z cs h3 h4
      split at h
      · rename_i hc
        simp only [Option.some.injEq] at h
        subst h
        simp only [Bool.and_eq_true, beq_iff_eq] at hc
        exact ⟨i, z, h2, h3, hc.2, hc.1.2, fun U w => by rw [← sameAll_eq hc.1.1]; exact D.flat_rel h4⟩
      · cases h
    · cases h
  · cases h

/-! ### Operations that write, make or call -/
structure HoldsH (U : Nat → Prop) (hp : Nat → Option Row) (w : World) : Prop where
  heap : ∀ b r, hp b = some r → ∃ cells, w.heap[b]? = some (.cells cells r.elem (0, 0)) ∧ cells.size = r.cap * r.es ∧ r.ds.length ≤ r.cap ∧ RelR U w r.es r.ds (cells.toList.take (r.ds.length * r.es)) ∧ ¬ U b
  ubd : ∀ b, U b → b < w.heap.size
def Dom (hp : Nat → Option Row) (b : Nat) : Prop := (hp b).isSome = true
def callable (P : Program) (f : FuncId) : Bool :=
  match P.funcs[f]? with
  | some fn => fn.body.isSome && !(fn.name == "runtime.NumGoroutine")
  | none => false
/-- A call, from what is tracked: K tells what it hands back, and what is tracked then. -/
def XC (P : Program) (f : FuncId) (ds : List D) (hp : Nat → Option Row) (K : D → (Nat → Option Row) → Prop) : Prop :=
  callable P f = true ∧ ∀ U w vs, HoldsH U hp w → RelT U w ds vs → Calls P f vs.toArray w fun e w' => ∃ v d hp' U', e = .returned v ∧ HoldsH U' hp' w' ∧ RelV U' w' d v ∧ Keeps (Dom hp) w w' ∧
    (∀ b, U b → U' b) ∧ (∀ b, U' b → U b ∨ w.heap.size ≤ b) ∧ (∀ b, Dom hp' b → Dom hp b ∨ w.heap.size ≤ b) ∧ K d hp'
def D.noL : D → Bool
  | .lref .. => false
  | .lsl .. => false
  | .lmp .. => false
  | .tup _ => false
  | _ => true
def xat (o : Nat) : Option (D × Nat) → Prop
  | some (_, o') => o' = o
  | none => False
def xset (r : Option D) (K : D → Prop) : Prop :=
  match r with
  | some d => K d
  | none => False
def xstore (st : St) (x : D) (K : St → Prop) : D → Prop
  | .lref s g p o => g = st.gen s ∧ match st.lc s with
    | some c => c.mpB = false ∧ xat o (c.at p) ∧ xset (c.set p x) fun c' => K (st.setLc s c')
    | none => False
  | .ptr b es i p o => match st.hp b with
    | some r => r.es = es ∧ match r.ds[i]? with
      | some c => xat o (c.at p) ∧ xset (c.set p x) fun c' => K (st.setHp (upd st.hp b (some { r with ds := r.ds.set i c' })))
      | none => False
    | none => False
  | _ => False
def xcall (P : Program) (st : St) (ds : List D) (K : D → St → Prop) : D → Prop
  | .fn f caps => (ds.all D.noL && caps.all D.noL) = true ∧ XC P f (ds ++ caps) st.hp (fun d hp' => K d (st.setHp hp'))
  | _ => False
def mkOf (P : Program) (t : TypeId) : Option (D × Nat) :=
  match P.underlying t with
  | some (.slice e) => match zeroD P e, P.info? e with
    | some z, some i => some (z, i.bytes)
    | _, _ => none
  | _ => none
def xmk (st : St) (s : Nat) (z : D) (bytes : Nat) (K : D → St → Prop) : D → D → Prop
  | .int _ n, .int _ m => 0 ≤ n ∧ n ≤ m ∧ (bytes : Int) * m ≤ 140737488355328 ∧ m ≤ 9223372036854775807 ∧ K (.lsl s (st.gen s + 1) n.toNat m.toNat) (st.box s (.agg (List.replicate m.toNat z)))
  | _, _ => False
def xmu (st : St) (K : St → Prop) : D → D → D → Prop
  | .lmp s g, .str k, .bool v => g = st.gen s ∧ match st.lc s with
    | some (.mp l) => K (st.setLc s (.mp (kset l k v)))
    | _ => False
  | _, _, _ => False
def builtB (P : Program) (t : TypeId) : Bool := match P.underlying t with
  | some (.struct fields) => (fields.toList.mapM fun f => (P.info? f.type).map fun i => (f.offset, i.size)).isSome && aggB P t
  | _ => false
theorem built_zero {P : Program} {t : TypeId} {i : TypeInfo} {z : Value} (hi : P.info? t = some i) (hz : i.zero = some z) (hb : builtB P t = true) : P.built t [] = some z.cells := by
  unfold builtB at hb
  unfold Program.built
  split at hb
  · rename_i fs hu
    simp only [Bool.and_eq_true] at hb
    obtain ⟨ps, hps⟩ := Option.isSome_iff_exists.1 hb.1
    simp only [hi, hu, hz, hps]
    rfl
  · cases hb
def xop (P : Program) (dst : Option Nat) (st : St) (K : D → St → Prop) : Op → Prop
  | .makeSlice t l c => match dst, mkOf P t with
    | some s, some (z, bytes) => xmk st s z bytes K (st.ev l) (st.ev c)
    | _, _ => False
  | .alloc t => match dst, zeroD P t with
    | some s, some z => K (.lref s (st.gen s + 1) [] 0) (st.box s z)
    | _, _ => False
  | .box _ x => match dst with
    | some s => (st.ev x).memB = true ∧ K (.lref s (st.gen s + 1) [] 0) (st.box s (st.ev x))
    | none => False
  | .store t p x => match varOf P t with
    | some (sz, _) => (st.ev x).memB = true ∧ (st.ev x).len = sz ∧ xstore st (st.ev x) (fun st' => K .undef st') (st.ev p)
    | none => False
  | .makeMap t r => match dst with
    | some s => r = none ∧ K (.lmp s (st.gen s + 1)) (st.box s (.mp []))
    | none => False
  | .mapUpdate t m k x => mapStrB P t = true ∧ xmu st (fun st' => K .undef st') (st.ev m) (st.ev k) (st.ev x)
  | .build t parts => match zeroD P t with
    | some z => parts = #[] ∧ builtB P t = true ∧ z.isAgg = true ∧ K z st
    | none => False
  | .call c => match c.callee with
    | .value f => xcall P st (c.args.toList.map st.ev) K (st.ev f)
    | _ => xpure P st (fun d => K d st) (.call c)
  | op => xpure P st (fun d => K d st) op

section
variable {P : Program} {F : Fix} {n : Nat} {g : G} {st : St} {a : Act} {w : World}

theorem Holds.below (h : Holds F n g st a w) {w' : World} (hb : Below w.heap.size w w') : Holds F n g st a w' := by
  have x : Ext g.U g.U w w' := ⟨fun _ h => h, fun b hU => hb.block b (h.ubd b hU)⟩
  refine ⟨h.size, h.defers, fun i => (h.slots i).ext x (fun s gn _ hle => ⟨hle, fun e1 e2 => ⟨e1, e2, rfl⟩⟩), fun s d hl => ?_, h.linj, fun b r hr => ?_, h.uin, fun b hU => ?_, h.uout, ?_⟩
  · obtain ⟨h1, h2⟩ := h.locs s d hl
    exact ⟨h1.mono x (hb.block _ h1.lt), h2⟩
  · obtain ⟨c, hc, h1, h2, h3, h4⟩ := h.heap b r hr
    exact ⟨c, heap_of_below hb hc, h1, h2, RelR.mono x h3, h4⟩
  · have := h.ubd b hU; have := hb.size; omega
  · refine ⟨hb.os.trans h.keep.os, hb.tape.trans h.keep.tape, hb.output.trans h.keep.output, Nat.le_trans h.keep.size hb.size, fun k hk hH => ?_⟩
    rw [hb.block k (Nat.lt_of_lt_of_le hk h.keep.size)]
    exact h.keep.block k hk hH
theorem Holds.H (h : Holds F n g st a w) : HoldsH g.U st.hp w :=
  ⟨fun b r hr => by obtain ⟨c, hc, h1, h2, h3, h4, _⟩ := h.heap b r hr; exact ⟨c, hc, h1, h2, h3, h4⟩, h.ubd⟩
theorem Holds.evs (h : Holds F n g st a w) : ∀ (xs : List Operand), (xs.map st.ev).all D.noL = true → RelT g.U w (xs.map st.ev) (xs.map a.eval)
  | [], _ => by simp [RelT]
  | x :: xs, hn => by
    simp only [List.map_cons, List.all_cons, Bool.and_eq_true] at hn
    simp only [List.map_cons, RelT]
    refine ⟨_, _, rfl, ?_, h.evs xs hn.2⟩
    have := h.ev x
    cases hd : st.ev x <;> rw [hd] at this hn <;> first | exact this | (simp [D.noL] at hn)

theorem Dom_of {hp : Nat → Option Row} {b : Nat} {r : Row} (h : hp b = some r) : Dom hp b := by simp [Dom, h]
theorem RelR.set_cells {U : Nat → Prop} {w : World} {es o : Nat} {xs : List Value} {c c' : D} : ∀ {ds : List D} {cs : List Value} {i : Nat}, RelR U w es ds cs → ds[i]? = some c → RelC U w c' (((cs.drop (i * es)).take es).take o ++ xs ++ ((cs.drop (i * es)).take es).drop (o + xs.length)) → c'.len = c.len → o + xs.length ≤ ((cs.drop (i * es)).take es).length →
    RelR U w es (ds.set i c') (cs.take (i * es + o) ++ xs ++ cs.drop (i * es + o + xs.length))
  | [], _, _, _, hi, _, _, _ => by simp at hi
  | d :: ds, cs, 0, h, hi, hc, hl, ho => by
    simp only [RelR] at h
    obtain ⟨c1, c2, rfl, h1, h2, h3⟩ := h
    simp only [List.set_cons_zero, RelR]
    have e : (((c1 ++ c2).drop (0 * es)).take es) = c1 := by rw [Nat.zero_mul, List.drop_zero, ← h1, List.take_left]
    rw [e] at hc ho
    refine ⟨_, c2, ?_, ?_, hc, h3⟩
    · rw [Nat.zero_mul, Nat.zero_add, List.take_append_of_le_length (by omega), List.drop_append_of_le_length (by omega)]
      simp [List.append_assoc]
    · simp; omega
  | d :: ds, cs, i + 1, h, hi, hc, hl, ho => by
    simp only [RelR] at h
    obtain ⟨c1, c2, rfl, h1, h2, h3⟩ := h
    have e : ((c1 ++ c2).drop ((i + 1) * es)) = c2.drop (i * es) := by rw [Nat.add_mul, Nat.one_mul, Nat.add_comm, ← h1, ← List.drop_drop, List.drop_left]
    rw [e] at hc ho
    have ih := RelR.set_cells (i := i) h3 (by simpa using hi) hc hl ho
    simp only [List.set_cons_succ, RelR]
    refine ⟨c1, _, ?_, h1, h2, ih⟩
    have e2 : (i + 1) * es + o = c1.length + (i * es + o) := by rw [h1, Nat.add_mul]; omega
    rw [e2, List.take_length_add_append, Nat.add_assoc c1.length, ← List.drop_drop, List.drop_left]
    simp [List.append_assoc]
theorem Holds.setHp_row (h : Holds F n g st a w) {b : Nat} {r : Row} (hr : st.hp b = some r) {i : Nat} {c : D} (hi : r.ds[i]? = some c) {x c' c0 : D} {xs : List Value} {q : List Nat} {o : Nat} (hx : RelC g.U w x xs) (ha : c.at q = some (c0, o)) (hs : c.set q x = some c') :
    ∃ old new, w.heap[b]? = some (.cells old r.elem (0, 0)) ∧ i * r.es + o + xs.length ≤ old.size ∧ new = (old.toList.take (i * r.es + o) ++ xs ++ old.toList.drop (i * r.es + o + xs.length)).toArray ∧
      Holds F n g (st.setHp (upd st.hp b (some { r with ds := r.ds.set i c' }))) a (w.setRow b new) := by
  obtain ⟨old, hc, hsz, hcap, hR, hnU, hlo⟩ := h.heap b r hr
  obtain ⟨h6, h7, h8⟩ := hR.get hi
  obtain ⟨h9, h10, h11, h12⟩ := h6.set hx ha hs
  have hl' := hR.length
  simp only [List.length_take, List.length_drop, Array.length_toList] at h8 h12 hl'
  refine ⟨old, _, hc, by omega, rfl, ?_⟩
  generalize hnew : (old.toList.take (i * r.es + o) ++ xs ++ old.toList.drop (i * r.es + o + xs.length)).toArray = new
  have hnl : new.size = old.size := by rw [← hnew]; simp; omega
  have hh := setRow_heap' w b old new r.elem (0, 0) hc
  have x2 : Ext g.U g.U w (w.setRow b new) := ⟨fun _ h => h, fun k hb => by rw [hh, if_neg (fun q => hnU (by rw [← q]; exact hb))]⟩
  refine ⟨h.size, h.defers, fun k => (h.slots k).ext x2 (fun s gn _ hle => ⟨hle, fun e1 e2 => ⟨e1, e2, rfl⟩⟩), fun s d hl => ?_, h.linj, fun k r2 hr2 => ?_, h.uin, fun k hU => by rw [setRow_size]; exact h.ubd k hU, h.uout, ?_⟩
  · obtain ⟨q1, q2, q3, q4⟩ := h.locs s d hl
    have hne : g.lam s ≠ b := fun e => by rw [e, hr] at q4; cases q4
    refine ⟨q1.mono x2 (by rw [hh, if_neg hne]), q2, q3, ?_⟩
    show upd st.hp b _ (g.lam s) = none
    unfold upd
    rw [if_neg hne]
    exact q4
  · have hr2' : upd st.hp b (some { r with ds := r.ds.set i c' }) k = some r2 := hr2
    unfold upd at hr2'
    by_cases e : k = b
    · simp only [e, if_true, Option.some.injEq] at hr2'
      subst hr2'
      subst e
      refine ⟨new, by rw [hh, if_pos rfl], by simp only; omega, by simpa using hcap, ?_, hnU, hlo⟩
      have e1 : new.toList.take ((r.ds.set i c').length * r.es) = ((old.toList.take (r.ds.length * r.es)).take (i * r.es + o)) ++ xs ++ ((old.toList.take (r.ds.length * r.es)).drop (i * r.es + o + xs.length)) := by
        rw [← hnew]
        simp only [List.length_set]
        rw [List.append_assoc, List.take_append, List.take_append, List.drop_take, List.take_take, List.take_take]
        have l1 : (old.toList.take (i * r.es + o)).length = i * r.es + o := by simp; omega
        rw [l1]
        have hm1 : min (r.ds.length * r.es) (i * r.es + o) = i * r.es + o := by omega
        have hm2 : min (i * r.es + o) (r.ds.length * r.es) = i * r.es + o := by omega
        rw [hm1, hm2, List.take_of_length_le (l := xs) (by omega), List.append_assoc, Nat.sub_sub]
      show RelR g.U (w.setRow k new) r.es (r.ds.set i c') (new.toList.take ((r.ds.set i c').length * r.es))
      rw [e1]
      exact (RelR.set_cells hR hi h9 h10 (by rw [List.length_take, List.length_drop, List.length_take, Array.length_toList]; omega)).mono x2
    · simp only [e, if_false] at hr2'
      obtain ⟨c2, hc2, q1, q2, q3, q4⟩ := h.heap k r2 hr2'
      exact ⟨c2, by rw [hh, if_neg e]; exact hc2, q1, q2, RelR.mono x2 q3, q4⟩
  · refine ⟨h.keep.os, h.keep.tape, h.keep.output, by rw [setRow_size]; exact h.keep.size, fun k hk hH => ?_⟩
    rw [hh, if_neg (fun e => ?_)]
    · exact h.keep.block k hk hH
    · subst e
      rcases hlo with hlo | hlo
      · omega
      · exact hH hlo
theorem xstore_sound (h : Holds F n g st a w) {t : TypeId} {sz : Nat} {ag : Bool} (ht : varOf P t = some (sz, ag)) {x p : D} {vx vp : Value} {K : St → Prop} (hx : RelS g st w x vx) (hm : x.memB = true) (hl : x.len = sz) (hp : RelS g st w p vp) (hk : xstore st x K p) :
    ∃ st' w', K st' ∧ Holds F n g st' a w' ∧ (Instr.storeAt t vp vx).run P w = .ok () w' := by
  obtain ⟨inf, dd, hi, hu, e1, e2⟩ := varOf_info ht
  have hnl : x.frB = false := by cases x <;> first | rfl | (simp [D.memB] at hm)
  have hxc : RelC g.U w x vx.cells.toList := by
    refine RelW.of_mem ?_ hm
    have := hx.toV hnl
    cases x <;> first | exact this | (simp [D.memB] at hm)
  have hlen := hxc.length
  have h1 := hxc.oneCell
  have hrun : ∀ (b o : Nat) (old : Array Value) (e : TypeId), w.heap[b]? = some (.cells old e (0, 0)) → o + vx.cells.toList.length ≤ old.size → (Instr.storeAt t (.pointer (some ⟨b, o, none⟩)) vx).run P w = .ok () (w.setRow b (old.toList.take o ++ vx.cells.toList ++ old.toList.drop (o + vx.cells.toList.length)).toArray) := fun b o old e hc hle => by
    have := run_storeCells_at (P := P) b o e vx.cells.toList 0 old w hc (by simpa using hle) h1
    have hs : vx.cells.size = inf.size := by rw [e1, ← hl, ← hlen]; simp
    unfold Instr.storeAt storeVar
    simp only [Instr.sureAddr, Sem.run_bind, Sem.run_pure, Result.andThen_ok, sizeOf, typeInfo]
    simp [hi, hs, this]
  cases p <;> simp only [xstore] at hk
  case lref s gn q o =>
    obtain ⟨hg, hk⟩ := hk
    cases hc : st.lc s with
    | none => simp [hc] at hk
    | some c =>
      simp only [hc] at hk
      obtain ⟨hmp, hk1, hk2⟩ := hk
      cases ha : c.at q with
      | none => simp [ha, xat] at hk1
      | some r =>
        obtain ⟨c0, o'⟩ := r
        simp only [ha, xat] at hk1
        subst hk1
        cases hs : c.set q x with
        | none => simp [hs, xset] at hk2
        | some c' =>
          simp only [hs, xset] at hk2
          obtain ⟨cells, e, hcc, hcell⟩ := (h.locs s c hc).1.cells hmp
          obtain ⟨h3, h4, h5, h6⟩ := hcell.set hxc ha hs
          have hv := hp.2 hg (by simp [hc])
          refine ⟨_, _, hk2, h.setLc (new := (cells.toList.take o' ++ vx.cells.toList ++ cells.toList.drop (o' + vx.cells.toList.length)).toArray) hc hcc (by simpa using h3), ?_⟩
          rw [hv]
          exact hrun _ _ _ _ hcc (by simpa using h6)
  case ptr b es i q o =>
    obtain rfl : vp = .pointer (some ⟨b, i * es + o, none⟩) := by simpa [RelS, RelV, RelW, RelC] using hp
    cases hr : st.hp b with
    | none => simp [hr] at hk
    | some r =>
      simp only [hr] at hk
      obtain ⟨rfl, hk⟩ := hk
      cases hi2 : r.ds[i]? with
      | none => simp [hi2] at hk
      | some c =>
        simp only [hi2] at hk
        obtain ⟨hk1, hk2⟩ := hk
        cases ha : c.at q with
        | none => simp [ha, xat] at hk1
        | some r' =>
          obtain ⟨c0, o'⟩ := r'
          simp only [ha, xat] at hk1
          subst hk1
          cases hs : c.set q x with
          | none => simp [hs, xset] at hk2
          | some c' =>
            simp only [hs, xset] at hk2
            obtain ⟨old, new, hc, hle, hnew, hH⟩ := h.setHp_row hr hi2 hxc ha hs
            refine ⟨_, _, hk2, hH, ?_⟩
            rw [hnew]
            exact hrun _ _ _ _ hc hle

theorem RelL.toT {U : Nat → Prop} : ∀ {ds : List D} {vs : List Value}, RelL U w ds vs → RelT U w ds vs
  | [], _, h => by simpa [RelL, RelT] using h
  | d :: ds, _, h => by
    simp only [RelL, RelT] at h ⊢
    obtain ⟨v, r, h1, h2, h3, h4⟩ := h
    refine ⟨v, r, h1, ?_, RelL.toT h4⟩
    rcases h3 with h3 | ⟨c, rfl, hp⟩
    · cases d <;> first | exact h3 | (simp [D.isAgg] at h2; done) | (simp [RelC] at h3)
    · exact hp
theorem RelT.append {U : Nat → Prop} : ∀ {ds : List D} {vs : List Value} {es : List D} {us : List Value}, RelT U w ds vs → RelT U w es us → RelT U w (ds ++ es) (vs ++ us)
  | [], _, _, _, h, h' => by simp only [RelT] at h; subst h; exact h'
  | d :: ds, _, _, _, h, h' => by
    simp only [RelT] at h
    obtain ⟨v, r, rfl, h2, h3⟩ := h
    simp only [List.cons_append, RelT]
    exact ⟨v, _, rfl, h2, h3.append h'⟩
theorem RelS.of_Vl {d : D} {v : Value} (h : RelV g.U w d v) : RelS g st w d v := by
  cases d <;> first | exact h | (simp [RelV, RelW, RelC] at h)
theorem Holds.called (h : Holds F n g st a w) {hp' : Nat → Option Row} {U' : Nat → Prop} {w' : World} (hH : HoldsH U' hp' w') (hK : Keeps (Dom st.hp) w w') (hU1 : ∀ b, g.U b → U' b) (hU2 : ∀ b, U' b → g.U b ∨ w.heap.size ≤ b) (hD : ∀ b, Dom hp' b → Dom st.hp b ∨ w.heap.size ≤ b) :
    Holds F n { g with U := U' } (st.setHp hp') a w' := by
  have hs : F.w0.heap.size ≤ w.heap.size := h.keep.size
  have hnd : ∀ b, g.U b → ¬ Dom st.hp b := fun b hU hd => by
    obtain ⟨r, hr⟩ := Option.isSome_iff_exists.1 hd
    obtain ⟨_, _, _, _, _, hn, _⟩ := h.heap b r hr
    exact hn hU
  have x : Ext g.U U' w w' := ⟨hU1, fun b hU => hK.block b (h.ubd b hU) (hnd b hU)⟩
  refine ⟨h.size, h.defers, fun i => (h.slots i).ext x (fun s gn _ hle => ⟨hle, fun e1 e2 => ⟨e1, e2, rfl⟩⟩), fun s d hl => ?_, h.linj, fun b r hr => ?_, fun b hb => hU1 b (h.uin b hb), hH.ubd, fun b hU => ?_, ?_⟩
  · obtain ⟨h1, h2, h3, h4⟩ := h.locs s d hl
    have hlt := h1.lt
    refine ⟨h1.mono x (hK.block _ hlt (by simp [Dom, h4])), h2, fun hU => ?_, ?_⟩
    · rcases hU2 _ hU with q | q
      · exact h3 q
      · exact absurd hlt (Nat.not_lt.2 q)
    · cases hq : hp' (g.lam s) with
      | none => exact hq
      | some r =>
        rcases hD _ (Dom_of hq) with q | q
        · simp [Dom, h4] at q
        · exact absurd hlt (Nat.not_lt.2 q)
  · obtain ⟨c, hc, h1, h2, h3, h4⟩ := hH.heap b r hr
    refine ⟨c, hc, h1, h2, h3, h4, ?_⟩
    rcases hD b (Dom_of hr) with q | q
    · obtain ⟨r2, hr2⟩ := Option.isSome_iff_exists.1 q
      obtain ⟨_, _, _, _, _, _, q2⟩ := h.heap b r2 hr2
      exact q2
    · exact .inl (by omega)
  · rcases hU2 b hU with q | q
    · exact h.uout b q
    · exact .inr (by omega)
  · refine ⟨hK.os.trans h.keep.os, hK.tape.trans h.keep.tape, hK.output.trans h.keep.output, Nat.le_trans hs hK.size, fun k hk hH0 => ?_⟩
    rw [hK.block k (by omega) (fun hd => ?_)]
    · exact h.keep.block k hk hH0
    · obtain ⟨r, hr⟩ := Option.isSome_iff_exists.1 hd
      obtain ⟨_, _, _, _, _, _, q⟩ := h.heap k r hr
      rcases q with q | q
      · omega
      · exact hH0 q

theorem RelF.rep {U : Nat → Prop} {d : D} {cs : List Value} (h : RelC U w d cs) : ∀ m : Nat, RelF U w (List.replicate m d) (List.replicate m cs).flatten
  | 0 => by simp [RelF]
  | m + 1 => by
    simp only [List.replicate_succ, RelF, List.flatten_cons]
    exact ⟨_, _, rfl, h, RelF.rep h m⟩
theorem madeCells_rep (z : Array Value) : ∀ m : Nat, (madeCells z (m * z.size)).toList = (List.replicate m z.toList).flatten
  | 0 => by simp [madeCells]
  | m + 1 => by
    have ih := madeCells_rep z m
    rw [List.replicate_succ', List.flatten_append, ← ih]
    simp only [madeCells, List.flatten_singleton]
    apply List.ext_getElem?
    intro i
    by_cases h1 : i < m * z.size
    · have h2 : i < (m + 1) * z.size := by rw [Nat.add_mul]; omega
      rw [List.getElem?_append_left (by simpa using h1)]
      simp [h1, h2]
    · rw [List.getElem?_append_right (by simpa using h1)]
      by_cases h2 : i < (m + 1) * z.size
      · have h4 : i - m * z.size < z.size := by rw [Nat.add_mul] at h2; omega
        have h3 : i % z.size = i - m * z.size := by
          have e : i = (i - m * z.size) + m * z.size := by omega
          rw [e, Nat.add_mul_mod_self_right, Nat.mod_eq_of_lt h4]
          omega
        simp [h2, h3, h4]
      · have h4 : ¬ i - m * z.size < z.size := by rw [Nat.add_mul] at h2; omega
        simp [h2, h4]

theorem xop_sound (h : Holds F n g st a w) (o : Oper) {K : D → St → Prop} (hx : xop P o.dst st K o.op) {next : Act → World → Prop} {Q : Exit → Act → World → Prop}
    (hn : ∀ d v st' g' w', K d st' → Holds F n g' st' a w' → RelS g' st' w' d v → next (a.put o.dst v) w') : o.wp P a w next Q := by
  have pure_case : xpure P st (fun d => K d st) o.op → o.wp P a w next Q := fun hp => by
    obtain ⟨d, v, hK, hR, hrun⟩ := xpure_sound h o hp
    unfold Oper.wp
    rw [hrun w (Below.refl _ _)]
    exact hn d v st g w hK h hR
  cases hop : o.op <;> rw [hop] at hx <;> simp only [xop] at hx
  case alloc t =>
    cases hd : o.dst with
    | none => simp [hd] at hx
    | some s =>
      cases hz : zeroD P t with
      | none => simp [hd, hz] at hx
      | some z =>
        simp only [hd, hz] at hx
        obtain ⟨i, zv, hi, hzv, _, _, hrel⟩ := zeroD_spec hz
        have hB := h.box s (hrel g.U w) t
        have hh := hn _ (.pointer (some ⟨w.heap.size, 0, none⟩)) _ _ _ hx hB ⟨by simp [St.box, upd], fun _ _ => by simp [upd]⟩
        unfold Oper.wp execOp
        simp only [hop]
        simp only [Instr.alloc, zeroValue, typeInfo, newVar, newRow, Sem.run_bind, run_program, Result.andThen_ok, hi, hzv, Sem.run_pure]
        exact hh
  case makeMap t r =>
    cases hd : o.dst with
    | none => simp [hd] at hx
    | some s =>
      simp only [hd] at hx
      obtain ⟨rfl, hx⟩ := hx
      have hB := h.boxO s (d := .mp []) (.map #[] 0) ⟨#[], 0, by rw [World.alloc_heap, if_pos rfl], rfl⟩
      have hh := hn _ (.map (some w.heap.size)) _ _ _ hx hB ⟨by simp [St.box, upd], fun _ _ => by simp [upd]⟩
      unfold Oper.wp execOp
      simp only [hop]
      simp only [Instr.makeMap, Option.map_none, newObj, Sem.run_bind, Result.andThen_ok, Sem.run_pure]
      exact hh
  case mapUpdate t m k x =>
    obtain ⟨ht, hx⟩ := hx
    cases hdm : st.ev m <;> cases hdk : st.ev k <;> cases hdx : st.ev x <;> simp only [hdm, hdk, hdx, xmu] at hx
    rename_i s gn ky v
    obtain ⟨hg, hx⟩ := hx
    cases hl : st.lc s with
    | none => simp [hl] at hx
    | some c =>
      cases c <;> simp only [hl] at hx
      rename_i l
      have hr := h.ev m
      rw [hdm] at hr
      have hv := hr.2 hg (by simp [hl])
      obtain ⟨es, clk, hb, hm⟩ := (h.locs s _ hl).1
      have hk : a.eval k = .string ky := by have := h.ev k; rw [hdk] at this; simpa [RelS, RelV, RelW, RelC] using this
      have hxv : a.eval x = .bool v := by have := h.ev x; rw [hdx] at this; simpa [RelS, RelV, RelW, RelC] using this
      obtain ⟨es', clk', hrun, hm'⟩ := run_update_str (P := P) (k := ky) (v := v) ht hb hm
      have hlt := (Array.getElem?_eq_some_iff.1 hb).1
      have hgk : ∀ q, ({ w with heap := w.heap.setIfInBounds (g.lam s) (.map es' clk') } : World).heap[q]? = if q = g.lam s then some (.map es' clk') else w.heap[q]? := fun q => by
        by_cases e : q = g.lam s
        · subst e; simp [hlt]
        · simp [Array.getElem?_setIfInBounds, Ne.symm e, e]
      have hB := h.setLcO (d' := .mp (kset l ky v)) hl hgk (by simp) rfl rfl rfl ⟨es', clk', by rw [hgk, if_pos rfl], hm'⟩
      have hh := hn _ undef _ _ _ hx hB rfl
      unfold Oper.wp execOp
      simp only [hop]
      simp only [Sem.run_bind, hv, hk, hxv, hrun, Result.andThen_ok, Sem.run_pure]
      exact hh
  case build t parts =>
    cases hz : zeroD P t with
    | none => simp [hz] at hx
    | some z =>
      simp only [hz] at hx
      obtain ⟨rfl, hb, hza, hk⟩ := hx
      obtain ⟨i, zv, hi, hzv, _, hag, hrel⟩ := zeroD_spec hz
      have hbz := built_zero hi hzv hb
      have hag' : ∃ fs, z = .agg fs := by cases z <;> first | exact ⟨_, rfl⟩ | (simp [D.isAgg] at hza)
      obtain ⟨fs, rfl⟩ := hag'
      have hrun : (Instr.build t #[]).run P w = .ok (.agg zv.cells) w := run_build w t #[] _ (by simpa using hbz)
      have hR : RelS g st w (.agg fs) (.agg zv.cells) := ⟨zv.cells, rfl, by simpa [RelC] using hrel g.U w⟩
      have hh := hn _ (.agg zv.cells) st g w hk h hR
      unfold Oper.wp execOp
      simp only [hop]
      simp only [Array.map_empty, Sem.run_bind, hrun, Result.andThen_ok, Sem.run_pure]
      exact hh
  case box t x =>
    cases hd : o.dst with
    | none => simp [hd] at hx
    | some s =>
      simp only [hd] at hx
      obtain ⟨hm, hx⟩ := hx
      have hnl : (st.ev x).frB = false := by
         cases hq : st.ev x <;> first | rfl | (rw [hq] at hm; simp [D.memB] at hm)
      have hxc : RelC g.U w (st.ev x) (a.eval x).cells.toList := by
        have := (h.ev x).toV hnl
        refine RelW.of_mem ?_ hm
        cases hq : st.ev x <;> rw [hq] at this hm <;> first | exact this | (simp [D.memB] at hm)
      have hB := h.box s hxc t
      have hh := hn _ (.pointer (some ⟨w.heap.size, 0, none⟩)) _ _ _ hx hB ⟨by simp [St.box, upd], fun _ _ => by simp [upd]⟩
      unfold Oper.wp execOp
      simp only [hop]
      simp only [Instr.box, newVar, newRow, Sem.run_bind, Result.andThen_ok, Sem.run_pure]
      exact hh
  case makeSlice t l c =>
    cases hd : o.dst with
    | none => simp [hd] at hx
    | some s =>
      cases hz : mkOf P t with
      | none => simp [hd, hz] at hx
      | some r =>
        obtain ⟨z, bytes⟩ := r
        simp only [hd, hz] at hx
        unfold mkOf at hz
        split at hz
        · rename_i e hu
          split at hz
          · rename_i z' i' hz1 hi'
            simp only [Option.some.injEq, Prod.mk.injEq] at hz
            obtain ⟨rfl, rfl⟩ := hz
            obtain ⟨i, zv, hi, hzv, hlen, _, hrel⟩ := zeroD_spec hz1
            obtain rfl : i' = i := by rw [hi] at hi'; exact (Option.some.inj hi').symm
            cases hl : st.ev l <;> cases hc : st.ev c <;> rw [hl, hc] at hx <;> try exact hx.elim
            rename_i k n' k' m
            obtain ⟨h0, h1, h2, h3, hK⟩ := hx
            have vl : a.eval l = .int k n' := by have := h.ev l; rw [hl] at this; simpa [RelS, RelV, RelW, RelC] using this
            have vc : a.eval c = .int k' m := by have := h.ev c; rw [hc] at this; simpa [RelS, RelV, RelW, RelC] using this
            have hrun := run_make (P := P) (w := w) t e i' zv hu hi hzv k k' n' m h0 h1 (by omega) h3
            have hcs : zv.cells.size = i'.size := by have := (hrel g.U w).length; rw [hlen] at this; simpa using this
            have hrel2 : RelC g.U w (.agg (List.replicate m.toNat z')) (madeCells zv.cells (m.toNat * i'.size)).toList := by
              rw [← hcs, madeCells_rep]
              simp only [RelC]
              exact RelF.rep (hrel g.U w) m.toNat
            have hB := h.box s hrel2 e
            have hh := hn _ (.slice (some ⟨w.heap.size, 0, none⟩) n'.toNat m.toNat) _ _ _ hK hB ⟨by simp [St.box, upd], fun _ _ => by simp [upd]⟩
            unfold Oper.wp execOp
            simp only [hop, vl, vc, Sem.run_bind, hrun, Result.andThen_ok, Sem.run_pure]
            exact hh
          · cases hz
        · cases hz
  case store t p x =>
    cases ht : varOf P t with
    | none => simp [ht] at hx
    | some r =>
      obtain ⟨sz, ag⟩ := r
      simp only [ht] at hx
      obtain ⟨hm, hl, hx⟩ := hx
      obtain ⟨st', w', hK, hH, hrun⟩ := xstore_sound h ht (h.ev x) hm hl (h.ev p) hx
      unfold Oper.wp execOp
      simp only [hop, Sem.run_bind, hrun, Result.andThen_ok, Sem.run_pure]
      exact hn _ _ _ _ _ hK hH rfl
  case call c =>
    cases hc : c.callee with
    | value f =>
      simp only [hc] at hx
      cases hf : st.ev f <;> rw [hf] at hx <;> simp only [xcall] at hx
      rename_i fid caps
      obtain ⟨hno, hcal, hC⟩ := hx
      rw [Bool.and_eq_true] at hno
      have hcf := h.ev f
      rw [hf] at hcf
      obtain ⟨cs, hfv, hcs⟩ := hcf
      have hargs := (h.evs c.args.toList hno.1).append hcs.toT
      have hcall := hC g.U w _ h.H hargs
      have hrun : (execOp a.eval o).run P w = .ok (.enter fid (c.args.toList.map a.eval ++ cs.toList).toArray) w := by
        unfold callable at hcal
        cases hfn : P.funcs[fid]? with
        | none => simp [hfn] at hcal
        | some fn =>
          simp only [hfn, Bool.and_eq_true, Bool.not_eq_true'] at hcal
          have hb : ¬ fn.body = none := by cases hq : fn.body <;> simp [hq] at hcal ⊢
          have hnm : ¬ fn.name = "runtime.NumGoroutine" := by simpa using hcal.2
          have e : (c.args.map a.eval ++ cs) = (c.args.toList.map a.eval ++ cs.toList).toArray := by apply Array.ext'; simp
          unfold execOp
          simp [hop, resolve, hc, Deferred.ofValue, hfv, invoke, callFunc, Sem.run_bind, run_program, hfn, hnm, hb, e]
      unfold Oper.wp
      rw [hrun]
      refine Calls.mono hcall fun e w' hq => ?_
      obtain ⟨v, d, hp', U', rfl, hH, hR, hK, hU1, hU2, hD, hk⟩ := hq
      exact hn d v _ _ w' hk (h.called hH hK hU1 hU2 hD) (RelS.of_Vl hR)
    | invoke r m => exact pure_case (by rw [hop]; simpa [hc] using hx)
    | builtin b => exact pure_case (by rw [hop]; simpa [hc] using hx)
  all_goals exact pure_case (by rw [hop]; exact hx)
end
end Go.Ab
