/- Steps towards the law: the machine, contracts of functions and facts of lists. -/
import Derived.Test.YtalddljlemppnaaAb2
set_option linter.unusedSimpArgs false
set_option linter.unusedVariables false
namespace Go.Ab
open Go Go.RowKit
def putN (n : Nat) (dst : Option Nat) (d : D) (st : St) (K : St → Prop) : Prop :=
 match dst with
 | none => K st
 | some i => i < n ∧ K (st.put i d)
def xguard : D → Bool → Prop → Prop → Prop
 | .bool b, true, A, B => Br b A B
 | .bool b, false, A, B => Br b B A
 | .undef, _, _, B => B
 | _, _, _, _ => False
def gslot (ops : Array Oper) (o : Oper) : Option (Option Nat × Bool) := o.guard.map fun g => ((ops[g.1]?).bind (·.dst), g.2)
def xops (P : Program) (n : Nat) (ops : Array Oper) : List Oper → St → (St → Prop) → Prop
 | [], st, K => K st
 | o :: os, st, K =>
  match gslot ops o with
  | none => xop P o.dst st (fun d st' => putN n o.dst d st' fun st2 => xops P n ops os st2 K) o.op
  | some (some t, want) => xguard (st.fr t) want (xop P o.dst st (fun d st' => putN n o.dst d st' fun st2 => xops P n ops os st2 K) o.op) (putN n o.dst .undef st fun st2 => xops P n ops os st2 K)
  | some (none, _) => False
section
variable {P : Program} {F : Fix} {n : Nat} {g : G} {st : St} {a : Act} {w : World}
theorem wanted_of {ops : Array Oper} {o : Oper} (h : Holds F n g st a w) {t : Nat} {want : Bool} (hg : gslot ops o = some (some t, want)) :
  (∀ b, st.fr t = .bool b → Region.wanted o (yielded ops a.tmps) = (b == want)) ∧ (st.fr t = .undef → Region.wanted o (yielded ops a.tmps) = false) := by
 unfold gslot at hg
 cases hq : o.guard with
 | none => simp [hq] at hg
 | some gw =>
  obtain ⟨j, wt⟩ := gw
  simp only [hq, Option.map_some, Option.some.injEq, Prod.mk.injEq] at hg
  obtain ⟨hj, rfl⟩ := hg
  have hs := h.slots t
  unfold Region.wanted yielded
  simp only [hq, hj, Option.bind_some]
  constructor
  ·intro b hb
   rw [hb] at hs
   have hv : a.tmps.getD t undef = .bool b := by simpa [RelV, RelW, RelC] using hs
   have ht : a.tmps[t]? = some (.bool b) := by
    rw [Array.getD_eq_getD_getElem?] at hv
    cases hx : a.tmps[t]? with
    | none => rw [hx] at hv; simp [undef] at hv
    | some v => rw [hx] at hv; simpa using hv
   simp only [ht]
   cases b <;> cases wt <;> rfl
  ·intro hb
   rw [hb] at hs
   have hv : a.tmps.getD t undef = undef := hs
   rw [Array.getD_eq_getD_getElem?] at hv
   cases hx : a.tmps[t]? with
   | none => rfl
   | some v => rw [hx] at hv; simp at hv; subst hv; rfl
theorem wanted_none {ops : Array Oper} {o : Oper} (hg : gslot ops o = none) (y : Nat → Option Bool) : Region.wanted o y = true := by
 unfold gslot at hg
 simp at hg
 simp [Region.wanted, hg]
theorem putN_sound {dst : Option Nat} {d : D} {K : St → Prop} (hp : putN n dst d st K) : ∃ st', K st' ∧ ∀ (F : Fix) (g : G) (a : Act) (w : World) (v : Value), Holds F n g st a w → RelV g.U w d v → Holds F n g st' (a.put dst v) w := by
 cases dst with
 | none => exact ⟨st, hp, fun F g a w v h _ => h⟩
 | some i => exact ⟨_, hp.2, fun F g a w v h hd => h.put hp.1 hd⟩
theorem xops_sound {ops : Array Oper} {Q : Post} : ∀ (os : List Oper) {st : St} {g : G} {a : Act} {w : World}, Holds F n g st a w → xops P n ops os st (fun st' => Q .normal st') → wpList P ops (lift F n Q) os a w
 | [], st, g, a, w, h, hx => ⟨g, st, h, hx⟩
 | o :: os, st, g, a, w, h, hx => by
  have step : xop P o.dst st (fun d st' => putN n o.dst d st' fun st2 => xops P n ops os st2 (fun st' => Q .normal st')) o.op → o.wp P a w (wpList P ops (lift F n Q) os) (lift F n Q) := fun hx => by
   refine xop_sound h o hx fun d v st' g' w' hK hH hR => ?_
   obtain ⟨st2, hK2, hput⟩ := putN_sound hK
   exact xops_sound os (hput F g' a w' v hH hR) hK2
  have skip : (putN n o.dst .undef st fun st2 => xops P n ops os st2 (fun st' => Q .normal st')) → wpList P ops (lift F n Q) os (a.put o.dst undef) w := fun hx => by
   obtain ⟨st2, hK2, hput⟩ := putN_sound hx
   exact xops_sound os (hput F g a w undef h rfl) hK2
  simp only [xops] at hx
  unfold wpList
  cases hg : gslot ops o with
  | none =>
   simp only [hg] at hx
   rw [if_pos (wanted_none hg _)]
   exact .inl (step hx)
  | some q =>
   obtain ⟨t, want⟩ := q
   cases t with
   | none => simp [hg] at hx
   | some t =>
    simp only [hg] at hx
    obtain ⟨hw1, hw2⟩ := wanted_of h hg
    cases hd : st.fr t
    case bool b =>
     rw [hw1 b hd]
     rw [hd] at hx
     cases b <;> cases want <;> simp only [xguard] at hx
     ·exact .inl (step (hx.no rfl))
     ·exact skip (hx.no rfl)
     ·exact skip (hx.yes rfl)
     ·exact .inl (step (hx.yes rfl))
    case undef =>
     rw [hw2 hd]
     rw [hd] at hx
     exact skip hx
    all_goals (rw [hd] at hx; simp [xguard] at hx)
/-! ### Regions that draw their order and only read and call quietly -/
mutual
/-- Data that determine their cells. -/
def D.plainC : D → Bool
 | .int .. | .bool _ | .str _ => true
 | .agg fs => D.plainCs fs
 | _ => false
def D.plainCs : List D → Bool
 | [] => true
 | d :: ds => d.plainC && D.plainCs ds
end
def D.plainB : D → Bool
 | .tup ds => D.plainCs ds
 | d => d.plainC
mutual
theorem D.plainC_flat : ∀ {d : D}, d.plainC = true → ∃ x, d.flat = some x
 | .int .., _ | .bool .., _ | .str .., _ => ⟨_, rfl⟩
 | .agg fs, hp => by simp only [D.plainC] at hp; simp only [D.flat]; exact D.plainCs_flat hp
 | .tup fs, hp | .nil, hp | .nilp, hp | .ro .., hp | .undef, hp | .any, hp | .lref .., hp | .lsl .., hp | .lvw .., hp | .mp _, hp | .lmp .., hp | .cref _, hp | .fn .., hp | .arr .., hp | .ow .., hp => by simp [D.plainC] at hp
theorem D.plainCs_flat : ∀ {ds : List D}, D.plainCs ds = true → ∃ x, D.flats ds = some x
 | [], _ => ⟨[], rfl⟩
 | d :: ds, hp => by
  simp only [D.plainCs, Bool.and_eq_true] at hp
  obtain ⟨x, hx⟩ := D.plainC_flat hp.1
  obtain ⟨y, hy⟩ := D.plainCs_flat hp.2
  exact ⟨x ++ y, by simp only [D.flats, hx, hy]⟩
end
mutual
theorem RelC.flat {U : Nat → Prop} {w : World} : ∀ {d : D} {x : List Value}, d.plainC = true → RelC U w d x → d.flat = some x
 | .int .., _, _, h | .bool .., _, _, h | .str .., _, _, h => by simp only [RelC] at h; rw [h, D.flat]
 | .agg fs, _, hp, h => by simp only [RelC] at h; simp only [D.plainC] at hp; simp only [D.flat]; exact RelF.flat hp h
 | .tup fs, _, hp, h => by simp [RelC] at h
 | .nil, _, hp, _ | .nilp, _, hp, _ | .ro .., _, hp, _ | .undef, _, hp, _ | .any, _, hp, _ | .lref .., _, hp, _ | .lsl .., _, hp, _ | .lvw .., _, hp, _ | .mp _, _, hp, _ | .lmp .., _, hp, _ | .cref _, _, hp, _ | .fn .., _, hp, _ | .arr .., _, hp, _ | .ow .., _, hp, _ => by simp [D.plainC] at hp
theorem RelF.flat {U : Nat → Prop} {w : World} : ∀ {ds : List D} {x : List Value}, D.plainCs ds = true → RelF U w ds x → D.flats ds = some x
 | [], _, _, h => by simp only [RelF] at h; rw [h, D.flats]
 | d :: ds, _, hp, h => by
  simp only [RelF] at h
  simp only [D.plainCs, Bool.and_eq_true] at hp
  obtain ⟨a, b, rfl, h1, h2⟩ := h
  simp only [D.flats, RelC.flat hp.1 h1, RelF.flat hp.2 h2]
end
def D.valW : D → Value
 | .int k n => .int k n
 | .bool b => .bool b
 | .str s => .string s
 | .agg fs => .agg ((D.flats fs).getD []).toArray
 | _ => Go.undef
def D.val : D → Value
 | .tup ds => .tuple (ds.map D.valW).toArray
 | d => d.valW
theorem RelW.val {U : Nat → Prop} {w : World} {d : D} {x : Value} (hp : d.plainC = true) (h : RelW U w d x) : x = d.valW := by
 cases d <;> (try (simp [D.plainC] at hp; done))
 case agg fs =>
  obtain ⟨c, rfl, h1⟩ := h
  simp only [D.plainC] at hp
  simp [D.valW, RelF.flat hp h1]
 all_goals (simp only [RelW, RelC, List.cons.injEq, and_true] at h; rw [h, D.valW])
theorem RelW.plain {U : Nat → Prop} {w : World} {d : D} (hp : d.plainC = true) : RelW U w d d.valW := by
 cases d <;> (try (simp [D.plainC] at hp; done))
 case agg fs =>
  simp only [D.plainC] at hp
  obtain ⟨x, hx⟩ := D.plainCs_flat hp
  exact ⟨x.toArray, by simp [D.valW, hx], by simpa using D.flats_rel hx⟩
 all_goals simp [RelW, RelC, D.valW]
theorem RelT.val {U : Nat → Prop} {w : World} : ∀ {ds : List D} {x : List Value}, D.plainCs ds = true → RelT U w ds x → x = ds.map D.valW
 | [], _, _, h => by simp only [RelT] at h; rw [h, List.map_nil]
 | d :: ds, _, hp, h => by
  simp only [RelT] at h
  simp only [D.plainCs, Bool.and_eq_true] at hp
  obtain ⟨a, b, rfl, h1, h2⟩ := h
  rw [RelW.val hp.1 h1, RelT.val hp.2 h2, List.map_cons]
theorem RelT.plain {U : Nat → Prop} {w : World} : ∀ {ds : List D}, D.plainCs ds = true → RelT U w ds (ds.map D.valW)
 | [], _ => by simp [RelT]
 | d :: ds, hp => by
  simp only [D.plainCs, Bool.and_eq_true] at hp
  simp only [RelT, List.map_cons]
  exact ⟨_, _, rfl, RelW.plain hp.1, RelT.plain hp.2⟩
theorem RelV.val {U : Nat → Prop} {w : World} {d : D} {x : Value} (hp : d.plainB = true) (h : RelV U w d x) : x = d.val := by
 cases d
 case tup ds =>
  obtain ⟨c, rfl, h1⟩ := h
  simp only [D.plainB] at hp
  have := RelT.val hp h1
  simp only [D.val, ← this]
 all_goals exact RelW.val (U := U) (w := w) hp h
theorem RelV.plain {U : Nat → Prop} {w : World} {d : D} (hp : d.plainB = true) : RelV U w d d.val := by
 cases d
 case tup ds =>
  simp only [D.plainB] at hp
  exact ⟨_, rfl, by simpa using RelT.plain hp⟩
 all_goals exact RelW.plain (U := U) (w := w) hp
/-- A call that only reads: from memory that may be read alone it hands back d. -/
def Rdr (P : Program) (f : FuncId) (ds : List D) (d : D) : Prop :=
 callable P f = true ∧ ∀ U w vs, (∀ b, U b → b < w.heap.size) → RelT U w ds vs → Calls P f vs.toArray w fun e w' => ∃ v, e = .returned v ∧ RelV (fun b => U b ∨ (w.heap.size ≤ b ∧ b < w'.heap.size)) w' d v ∧ Keeps (fun _ => False) w w'
theorem Holds.read (h : Holds F n g st a w) {w' : World} (h3 : Keeps (fun _ => False) w w') : Holds F n { g with U := fun b => g.U b ∨ (w.heap.size ≤ b ∧ b < w'.heap.size) } st a w' := by
 have x : Ext g.U (fun b => g.U b ∨ (w.heap.size ≤ b ∧ b < w'.heap.size)) w w' := ⟨fun b hb => .inl hb, fun b hb => h3.block b (h.ubd b hb) (by simp)⟩
 have hs := h3.size
 have hs0 := h.keep.size
 refine ⟨h.size, h.defers, fun i => (h.slots i).mono x, fun s d hl => ?_, fun b hb => .inl (h.uin b hb), fun b hb => ?_, fun b hb => ?_, ?_⟩
 ·obtain ⟨Fs, hO⟩ := h.locs s d hl
  refine ⟨Fs, hO.loc.mono ⟨x.u, x.heap, fun b hb => h3.block b (hO.loc.lt b hb) (by simp)⟩, hO.nd, hO.own, fun b hb hU => ?_, hO.lo⟩
  rcases hU with hU | hU
  ·exact hO.nu b hb hU
  ·have := hO.loc.lt b hb; omega
 ·rcases hb with hb | hb
  ·have := h.ubd b hb; omega
  ·exact hb.2
 ·rcases hb with hb | hb
  ·exact h.uout b hb
  ·exact .inr (.inl (by omega))
 ·refine ⟨h3.os.trans h.keep.os, h3.tape.trans h.keep.tape, h3.output.trans h.keep.output, by omega, fun k hk hH => ?_⟩
  rw [h3.block k (by omega) (by simp)]
  exact h.keep.block k hk hH
/-- What is owned, as a state tells. -/
def MemH (F : Fix) (g : G) (st : St) (w : World) : Prop := ∀ s d, st.lc s = some d → ∃ Fs, Own F g w s (st.gen s) d Fs
def UO (F : Fix) (g : G) (st : St) (w : World) (b : Nat) : Prop := g.U b ∨ ∃ s c Fs, st.lc s = some c ∧ Own F g w s (st.gen s) c Fs ∧ b ∈ Fs
/-- An owned address, lent to be read. -/
def Bor (st : St) (d d' : D) : Prop := ∀ F g w v, MemH F g st w → RelW g.U w d v → RelW (UO F g st w) w d' v
theorem Bor.refl (st : St) (d : D) : Bor st d d := fun F g w v hH hr => hr.mono ⟨fun _ h => .inl h, fun _ _ => rfl⟩
theorem Bor.row {st : St} {s b n c es : Nat} {ds : List D} {cp : Nat} (hl : st.lc s = some (.arr es ds cp)) (hb : st.gen s = b) (hn : n = ds.length) : Bor st (.lsl s b n c) (.ro es (D.frozs ds)) := fun F g w v hH hr => by
 obtain ⟨Fs, hO⟩ := hH s _ hl
 have h1 : RelC g.U w (.lsl s b n c) [v] := hr
 have := Frz.rel (F := F) (g := g) (s := s) (d := .lsl s b n c) (d' := .ro es ((D.frozs ds).take n)) hO.loc (U' := UO F g st w) (fun _ h => .inl h) (fun x hx => .inr ⟨s, _, Fs, hl, hO, hx⟩) ⟨hb.symm, es, ds, cp, rfl, by omega, rfl⟩ h1
 rw [hn, ← D.frozs_length ds, List.take_length] at this
 exact this
inductive BorL (st : St) : List D → List D → Prop
 | nil : BorL st [] []
 | cons {d d' : D} {ds ds' : List D} (h : Bor st d d') (hs : BorL st ds ds') : BorL st (d :: ds) (d' :: ds')
theorem Bor.cells {st : St} {d d' : D} (h : Bor st d d') (hl : d'.len = d.len) (hm : d.memB = true) (hm' : d'.memB = true) {F : Fix} {g : G} {w : World} {cs : List Value} (hH : MemH F g st w) (hr : RelC g.U w d cs) : RelC (UO F g st w) w d' cs := by
 have h1 := RelW.of_cells hr
 have h2 := RelW.of_mem (h F g w _ hH h1) hm'
 have hlen := hr.length
 cases ha : d.isAgg with
 | true => rw [ha] at h2; simpa [Value.cells] using h2
 | false =>
  rw [ha] at h2
  have hl1 : d.len = 1 := D.len_one ha
  rw [hl1] at hlen
  obtain ⟨v, rfl⟩ := List.length_eq_one_iff.1 hlen
  have h1c := hr.oneCell v (by simp)
  have e : v.cells = #[v] := by cases v <;> first | rfl | (simp [Value.oneCell'] at h1c)
  simpa [e] using h2
theorem BorL.cells {st : St} {F : Fix} {g : G} {w : World} (hH : MemH F g st w) : ∀ {ds ds' : List D} {cs : List Value}, BorL st ds ds' → (∀ d ∈ ds, d.memB = true) → (∀ d ∈ ds', d.memB = true) → (ds'.map D.len) = ds.map D.len → RelF g.U w ds cs → RelF (UO F g st w) w ds' cs
 | _, _, _, .nil, _, _, _, h => by simpa [RelF] using h
 | _, _, _, .cons hb hs, hm, hm', hl, h => by
  simp only [RelF] at h ⊢
  obtain ⟨c1, c2, rfl, h1, h2⟩ := h
  simp only [List.map_cons, List.cons.injEq] at hl
  exact ⟨c1, c2, rfl, hb.cells hl.1 (hm _ (by simp)) (hm' _ (by simp)) hH h1, BorL.cells hH hs (fun d hd => hm d (by simp [hd])) (fun d hd => hm' d (by simp [hd])) hl.2 h2⟩
theorem Bor.agg {st : St} {fs fs' : List D} (h : BorL st fs fs') (hm : fs.all D.memB = true) (hm' : fs'.all D.memB = true) (hl : fs'.map D.len = fs.map D.len) : Bor st (.agg fs) (.agg fs') := fun F g w v hH hr => by
 obtain ⟨cs, rfl, hR⟩ := hr
 exact ⟨cs, rfl, h.cells hH (fun d hd => List.all_eq_true.1 hm d hd) (fun d hd => List.all_eq_true.1 hm' d hd) hl hR⟩
theorem Bor.box {st : St} {s b o : Nat} {p : List Nat} {c d0 d1 : D} (hl : st.lc s = some c) (hb : st.gen s = b) (hmp : c.mpB = false) (hat : c.at p = some (d0, o)) (hbare : d0.bare = d0) (h : Bor st d0 d1) (hm : d0.memB = true) (hm1 : d1.memB = true) (hlen : d1.len = d0.len) : Bor st (.lref s b p o) (.cref d1) := fun F g w v hH hr => by
 have hv : v = .pointer (some ⟨b, o, none⟩) := by simpa [RelW, RelC] using hr
 obtain ⟨Fs, hO⟩ := hH s _ hl
 obtain ⟨cells, e, H, hc, hR, hFs⟩ := hO.loc.cells hmp
 obtain ⟨H', q1, q2, q3⟩ := hR.at hat
 have q1' := q1.bare
 rw [hbare] at q1'
 have := h.cells hlen hm hm1 hH q1'
 refine RelV.cref_mk ⟨b, o, cells, e, _, hv, .inr ⟨s, c, Fs, hl, hO, ?_⟩, by rw [← hb]; exact hc, by rw [hlen]; simpa using q3, by rw [hlen]; exact this⟩
 rw [hFs, hb]
 simp
theorem BorL.relT {st : St} {F : Fix} {g : G} {w : World} (hH : MemH F g st w) : ∀ {ds ds' : List D} {vs : List Value}, BorL st ds ds' → RelT g.U w ds vs → RelT (UO F g st w) w ds' vs
 | _, _, _, .nil, h => by simpa [RelT] using h
 | _, _, _, .cons hb hs, h => by
  simp only [RelT] at h ⊢
  obtain ⟨v, r, h1, h2, h3⟩ := h
  exact ⟨v, r, h1, hb F g w v hH h2, BorL.relT hH hs h3⟩
/-- A call that only reads, of what is owned too if its answer determines its value. -/
def QR (P : Program) (f : FuncId) (ds : List D) (st : St) (d : D) : Prop := Rdr P f ds d ∨ ∃ ds', BorL st ds ds' ∧ Rdr P f ds' d ∧ d.plainB = true
theorem QR.cal {P : Program} {f : FuncId} {ds : List D} {st : St} {d : D} (h : QR P f ds st d) : callable P f = true := by
 rcases h with h | ⟨_, _, h, _⟩ <;> exact h.1
theorem QR.run {P : Program} {f : FuncId} {ds : List D} {st : St} {d : D} (h : QR P f ds st d) {fr : Nat → D} {F : Fix} {n : Nat} {g : G} {a : Act} {w : World} {vs : List Value} (hH : Holds F n g { st with fr := fr } a w) (hT : RelT g.U w ds vs) :
  Calls P f vs.toArray w fun e w' => ∃ v g', e = .returned v ∧ Holds F n g' { st with fr := fr } a w' ∧ RelV g'.U w' d v := by
 rcases h with h | ⟨ds', hb, h, hp⟩
 ·exact (h.2 g.U w vs hH.ubd hT).mono fun e w' ⟨v, h1, h2, h3⟩ => ⟨v, _, h1, hH.read h3, h2⟩
 ·have hM : MemH F g st w := hH.locs
  refine (h.2 _ w vs (fun b hb' => ?_) (hb.relT hM hT)).mono fun e w' ⟨v, h1, h2, h3⟩ => ?_
  ·rcases hb' with q | ⟨s, c, Fs, _, hO, hx⟩
   ·exact hH.ubd b q
   ·exact hO.loc.lt b hx
  ·exact ⟨v, _, h1, hH.read h3, by rw [h2.val hp]; exact RelV.plain hp⟩
theorem XCL.of_QR {P : Program} {f : FuncId} {ds : List D} {st : St} {K : D → St → Prop} {d : D} (h : QR P f ds st d) (hK : K d st) : XCL P f ds st K :=
 ⟨h.cal, fun fr F n g a w vs hH hT => (h.run hH hT).mono fun e w' ⟨v, g', h1, h2, h3⟩ => ⟨v, d, g', st, h1, h2, h3, hK⟩⟩
theorem XCL.of_rdr {P : Program} {f : FuncId} {ds : List D} {st : St} {K : D → St → Prop} {d : D} (h : Rdr P f ds d) (hK : K d st) : XCL P f ds st K := .of_QR (.inl h) hK
theorem XCL.of_rdrB {P : Program} {f : FuncId} {ds ds' : List D} {st : St} {K : D → St → Prop} {d : D} (h : Rdr P f ds' d) (hb : BorL st ds ds') (hp : d.plainB = true) (hK : K d st) : XCL P f ds st K := .of_QR (.inr ⟨ds', hb, h, hp⟩) hK
/-- In a region that draws its order: such a call. -/
structure QC (P : Program) (f : FuncId) (ds : List D) (st : St) (K : D → Prop) : Prop where
 ex : ∃ d, K d ∧ QR P f ds st d
theorem QC.of_rdr {P : Program} {f : FuncId} {ds : List D} {st : St} {K : D → Prop} {d : D} (h : Rdr P f ds d) (hK : K d) : QC P f ds st K := ⟨d, hK, .inl h⟩
theorem QC.of_rdrB {P : Program} {f : FuncId} {ds ds' : List D} {st : St} {K : D → Prop} {d : D} (h : Rdr P f ds' d) (hb : BorL st ds ds') (hp : d.plainB = true) (hK : K d) : QC P f ds st K := ⟨d, hK, .inr ⟨ds', hb, h, hp⟩⟩
/-- The same, where one name more is laid. -/
theorem BorL.box {st : St} {s b : Nat} {z : D} (hs : st.lc s = none) : ∀ {ds ds' : List D}, BorL st ds ds' → BorL (st.box s b z) ds ds'
 | _, _, .nil => .nil
 | _, _, .cons h hs' => .cons (fun F g w v hM hr => by
  have hne : ∀ k d, st.lc k = some d → k ≠ s := fun k d hk e => by rw [e, hs] at hk; cases hk
  have hl : ∀ k d, st.lc k = some d → (st.box s b z).lc k = some d ∧ (st.box s b z).gen k = st.gen k := fun k d hk => by
   have := hne k d hk
   simp [St.box, upd_apply, this, hk]
  have hM' : MemH F g st w := fun k d hk => by
   obtain ⟨h1, h2⟩ := hl k d hk
   obtain ⟨Fs, hO⟩ := hM k d h1
   exact ⟨Fs, by rw [← h2]; exact hO⟩
  refine (h F g w v hM' hr).mono ⟨fun x hx => ?_, fun _ _ => rfl⟩
  rcases hx with q | ⟨k, c, Fs, q1, q2, q3⟩
  ·exact .inl q
  ·obtain ⟨h1, h2⟩ := hl k c q1
   exact .inr ⟨k, c, Fs, h1, by rw [h2]; exact q2, q3⟩) (BorL.box hs hs')
theorem QR.box {P : Program} {f : FuncId} {ds : List D} {st : St} {d : D} {s b : Nat} {z : D} (hs : st.lc s = none) (h : QR P f ds st d) : QR P f ds (st.box s b z) d := h.imp id fun ⟨ds', h1, h2⟩ => ⟨ds', h1.box hs, h2⟩
theorem BorL.fr {st : St} {fr : Nat → D} : ∀ {ds ds' : List D}, BorL st ds ds' → BorL { st with fr := fr } ds ds'
 | _, _, .nil => .nil
 | _, _, .cons h hs' => .cons h (BorL.fr hs')
theorem QR.fr {P : Program} {f : FuncId} {ds : List D} {st : St} {d : D} {fr : Nat → D} (h : QR P f ds st d) : QR P f ds { st with fr := fr } d := h.imp id fun ⟨ds', h1, h2⟩ => ⟨ds', h1.fr, h2⟩
/-- A row of the region's own, from the first only read. -/
theorem Holds.allocU (h : Holds F n g st a w) (cells : Array Value) (e : TypeId) : Holds F n { g with U := fun b => g.U b ∨ b = w.heap.size } st a (w.alloc (.cells cells e)) := by
 have hB : Below w.heap.size w (w.alloc (.cells cells e)) := ⟨rfl, rfl, rfl, by simp, fun k hk => by rw [World.alloc_heap, if_neg (by omega)]⟩
 have h2 := h.below hB
 have hs := h.keep.size
 refine ⟨h2.size, h2.defers, fun i => (h2.slots i).mono ⟨fun _ h => .inl h, fun _ _ => rfl⟩, fun s d hl => ?_, fun b hb => .inl (h.uin b hb), fun b hb => ?_, fun b hb => ?_, h2.keep⟩
 ·obtain ⟨Fs, hO⟩ := h.locs s d hl
  refine ⟨Fs, hO.loc.mono ⟨fun _ h => .inl h, fun b hb => hB.block b (h.ubd b hb), fun b hb => hB.block b (hO.loc.lt b hb)⟩, hO.nd, hO.own, fun b hb hU => ?_, hO.lo⟩
  rcases hU with hU | hU
  ·exact hO.nu b hb hU
  ·have := hO.loc.lt b hb; omega
 ·rcases hb with hb | hb
  ·exact h2.ubd b hb
  ·subst hb; simp
 ·rcases hb with hb | hb
  ·exact h.uout b hb
  ·exact .inr (.inl (by omega))
theorem Keeps.below {w w' : World} (h : Keeps (fun _ => False) w w') : Below w.heap.size w w' := ⟨h.os, h.tape, h.output, h.size, fun k hk => h.block k hk (by simp)⟩
/-- A region that draws its order. -/
structure XD (P : Program) (n : Nat) (id : Nat) (ops : Array Oper) (st : St) (K : St → Prop) : Prop where
 sem : P.follows .mixedOrders = true → ∀ Q : Post, (∀ st', K st' → Q .normal st') → Sem P n (.region id ops true) st Q
def xcond : D → Prop → Prop → Prop
 | .bool b, A, B => Br b A B
 | _, _, _ => False
theorem wp_loop_ix {c : Code} {Q : Exit → Act → World → Prop} (I : Nat → Act → World → Prop) {k0 : Nat} (h0 : I k0 a w)
  (round : ∀ k a w, I k a w → c.wp P (Exit.then (fun a' w' => ∃ k', k' < k ∧ I k' a' w') Q) a w) : (Code.loop c).wp P Q a w := by
 intro b ks cs
 have key : ∀ k a w, I k a w → ∃ e a' w', Q e a' w' ∧ Arrives P (lone (b.at a (.code c :: .inLoop c :: ks)) cs w) b ks cs e a' w' := by
  intro k
  induction k using Nat.strongRecOn with
  | _ k ih =>
   intro a w hI
   obtain ⟨e, a1, w1, hq, harr⟩ := round k a w hI b (.inLoop c :: ks) cs
   cases e with
   | normal =>
    obtain ⟨k', hlt, hI'⟩ := hq
    obtain ⟨e2, a2, w2, hq2, harr2⟩ := ih k' hlt a1 w1 hI'
    exact ⟨e2, a2, w2, hq2, .of_steps (Steps.trans harr (.one step_inLoop)) harr2⟩
   | exit id => exact ⟨_, a1, w1, hq, .pass (x := .inLoop c) rfl (fun _ _ => .inl (by simp)) harr⟩
   | goto l => exact ⟨_, a1, w1, hq, .pass (x := .inLoop c) rfl (fun _ _ => .inl (by simp)) harr⟩
   | ret => exact ⟨_, a1, w1, hq, .pass (x := .inLoop c) rfl (fun _ _ => .inl (by simp)) harr⟩
   | panic ch => exact ⟨_, a1, w1, hq, .pass (x := .inLoop c) rfl (fun _ _ => .inl (by simp)) harr⟩
   | outgrown => exact ⟨_, a1, w1, hq, .pass (x := .inLoop c) rfl (fun _ _ => .inl (by simp)) harr⟩
 obtain ⟨e, a', w', hq, harr⟩ := key _ a w h0
 exact ⟨e, a', w', hq, .of_steps (.one step_loop) harr⟩
end
end Go.Ab
