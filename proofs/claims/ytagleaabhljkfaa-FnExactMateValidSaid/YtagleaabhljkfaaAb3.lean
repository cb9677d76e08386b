/- Regions, readers, loops. -/
import Derived.Test.YtagleaabhljkfaaAb2
set_option linter.unusedSimpArgs false
set_option linter.unusedVariables false
namespace Go.Ab
open Go Go.RowKit

def putN (n : Nat) (dst : Option Nat) (d : D) (st : St) (K : St → Prop) : Prop :=
  match dst with
  | none => K st
  | some i => i < n ∧ K (st.put i d)
def xguard : D → Bool → Prop → Prop → Prop
  | .bool b, true, A, B => Br b A B
  | .bool b, false, A, B => Br b B A
  | .undef, _, _, B => B
  | _, _, _, _ => False
def gslot (ops : Array Oper) (o : Oper) : Option (Option Nat × Bool) := o.guard.map fun g => ((ops[g.1]?).bind (·.dst), g.2)
def xops (P : Program) (n : Nat) (ops : Array Oper) : List Oper → St → (St → Prop) → Prop
  | [], st, K => K st
  | o :: os, st, K =>
    match gslot ops o with
    | none => xop P o.dst st (fun d st' => putN n o.dst d st' fun st2 => xops P n ops os st2 K) o.op
    | some (some t, want) => xguard (st.fr t) want (xop P o.dst st (fun d st' => putN n o.dst d st' fun st2 => xops P n ops os st2 K) o.op) (putN n o.dst .undef st fun st2 => xops P n ops os st2 K)
    | some (none, _) => False

section
variable {P : Program} {F : Fix} {n : Nat} {g : G} {st : St} {a : Act} {w : World}

theorem RelS.undef_iff {v : Value} (h : RelS g st w .undef v) : v = undef := h
theorem wanted_of {ops : Array Oper} {o : Oper} (h : Holds F n g st a w) {t : Nat} {want : Bool} (hg : gslot ops o = some (some t, want)) :
    (∀ b, st.fr t = .bool b → Region.wanted o (yielded ops a.tmps) = (b == want)) ∧ (st.fr t = .undef → Region.wanted o (yielded ops a.tmps) = false) := by
  unfold gslot at hg
  cases hq : o.guard with
  | none => simp [hq] at hg
  | some gw =>
    obtain ⟨j, wt⟩ := gw
    simp only [hq, Option.map_some, Option.some.injEq, Prod.mk.injEq] at hg
    obtain ⟨hj, rfl⟩ := hg
    have hs := h.slots t
    unfold Region.wanted yielded
    simp only [hq, hj, Option.bind_some]
    constructor
    · intro b hb
      rw [hb] at hs
      have hv : a.tmps.getD t undef = .bool b := by simpa [RelS, RelV, RelW, RelC] using hs
      have ht : a.tmps[t]? = some (.bool b) := by
        rw [Array.getD_eq_getD_getElem?] at hv
        cases hx : a.tmps[t]? with
        | none => rw [hx] at hv; simp [undef] at hv
        | some v => rw [hx] at hv; simpa using hv
      simp only [ht]
      cases b <;> cases wt <;> rfl
    · intro hb
      rw [hb] at hs
      have hv : a.tmps.getD t undef = undef := hs
      rw [Array.getD_eq_getD_getElem?] at hv
      cases hx : a.tmps[t]? with
      | none => rfl
      | some v => rw [hx] at hv; simp at hv; subst hv; rfl
theorem wanted_none {ops : Array Oper} {o : Oper} (hg : gslot ops o = none) (y : Nat → Option Bool) : Region.wanted o y = true := by
  unfold gslot at hg
  simp at hg
  simp [Region.wanted, hg]
theorem putN_sound {dst : Option Nat} {d : D} {K : St → Prop} (hp : putN n dst d st K) : ∃ st', K st' ∧ ∀ (F : Fix) (g : G) (a : Act) (w : World) (v : Value), Holds F n g st a w → RelS g st w d v → Holds F n g st' (a.put dst v) w := by
  cases dst with
  | none => exact ⟨st, hp, fun F g a w v h _ => h⟩
  | some i => exact ⟨_, hp.2, fun F g a w v h hd => h.put hp.1 hd⟩
theorem xops_sound {ops : Array Oper} {Q : Post} : ∀ (os : List Oper) {st : St} {g : G} {a : Act} {w : World}, Holds F n g st a w → xops P n ops os st (fun st' => Q .normal st') → wpList P ops (lift F n Q) os a w
  | [], st, g, a, w, h, hx => ⟨g, st, h, hx⟩
  | o :: os, st, g, a, w, h, hx => by
    have step : xop P o.dst st (fun d st' => putN n o.dst d st' fun st2 => xops P n ops os st2 (fun st' => Q .normal st')) o.op → o.wp P a w (wpList P ops (lift F n Q) os) (lift F n Q) := fun hx => by
      refine xop_sound h o hx fun d v st' g' w' hK hH hR => ?_
      obtain ⟨st2, hK2, hput⟩ := putN_sound hK
      exact xops_sound os (hput F g' a w' v hH hR) hK2
    have skip : (putN n o.dst .undef st fun st2 => xops P n ops os st2 (fun st' => Q .normal st')) → wpList P ops (lift F n Q) os (a.put o.dst undef) w := fun hx => by
      obtain ⟨st2, hK2, hput⟩ := putN_sound hx
      exact xops_sound os (hput F g a w undef h rfl) hK2
    simp only [xops] at hx
    unfold wpList
    cases hg : gslot ops o with
    | none =>
      simp only [hg] at hx
      rw [if_pos (wanted_none hg _)]
      exact .inl (step hx)
    | some q =>
      obtain ⟨t, want⟩ := q
      cases t with
      | none => simp [hg] at hx
      | some t =>
        simp only [hg] at hx
        obtain ⟨hw1, hw2⟩ := wanted_of h hg
        cases hd : st.fr t
        case bool b =>
          rw [hw1 b hd]
          rw [hd] at hx
          cases b <;> cases want <;> simp only [xguard] at hx
          · exact .inl (step (hx.no rfl))
          · exact skip (hx.no rfl)
          · exact skip (hx.yes rfl)
          · exact .inl (step (hx.yes rfl))
        case undef =>
          rw [hw2 hd]
          rw [hd] at hx
          exact skip hx
        all_goals (rw [hd] at hx; simp [xguard] at hx)

/-! ### Regions that draw their order and only read and call quietly -/
mutual
/-- Data that determine their cells. -/
def D.plainC : D → Bool
  | .int .. | .bool _ | .str _ => true
  | .agg fs => D.plainCs fs
  | _ => false
def D.plainCs : List D → Bool
  | [] => true
  | d :: ds => d.plainC && D.plainCs ds
end
def D.plainB : D → Bool
  | .tup ds => D.plainCs ds
  | d => d.plainC
mutual
theorem D.plainC_flat : ∀ {d : D}, d.plainC = true → ∃ x, d.flat = some x
  | .int .., _ | .bool .., _ | .str .., _ => ⟨_, rfl⟩
  | .agg fs, hp => by simp only [D.plainC] at hp; simp only [D.flat]; exact D.plainCs_flat hp
  | .tup fs, hp | .nil, hp | .nilp, hp | .sl .., hp | .ptr .., hp | .ro .., hp | .undef, hp | .any, hp | .lref .., hp | .lsl .., hp | .mp _, hp | .lmp .., hp | .cref _, hp | .fn .., hp => by simp [D.plainC] at hp
theorem D.plainCs_flat : ∀ {ds : List D}, D.plainCs ds = true → ∃ x, D.flats ds = some x
  | [], _ => ⟨[], rfl⟩
  | d :: ds, hp => by
    simp only [D.plainCs, Bool.and_eq_true] at hp
    obtain ⟨x, hx⟩ := D.plainC_flat hp.1
    obtain ⟨y, hy⟩ := D.plainCs_flat hp.2
    exact ⟨x ++ y, by simp only [D.flats, hx, hy]⟩
end
mutual
theorem RelC.flat {U : Nat → Prop} {w : World} : ∀ {d : D} {x : List Value}, d.plainC = true → RelC U w d x → d.flat = some x
  | .int .., _, _, h | .bool .., _, _, h | .str .., _, _, h => by simp only [RelC] at h; rw [h, D.flat]
  | .agg fs, _, hp, h => by simp only [RelC] at h; simp only [D.plainC] at hp; simp only [D.flat]; exact RelF.flat hp h
  | .tup fs, _, hp, h => by simp [RelC] at h
  | .nil, _, hp, _ | .nilp, _, hp, _ | .sl .., _, hp, _ | .ptr .., _, hp, _ | .ro .., _, hp, _ | .undef, _, hp, _ | .any, _, hp, _ | .lref .., _, hp, _ | .lsl .., _, hp, _ | .mp _, _, hp, _ | .lmp .., _, hp, _ | .cref _, _, hp, _ | .fn .., _, hp, _ => by simp [D.plainC] at hp
theorem RelF.flat {U : Nat → Prop} {w : World} : ∀ {ds : List D} {x : List Value}, D.plainCs ds = true → RelF U w ds x → D.flats ds = some x
  | [], _, _, h => by simp only [RelF] at h; rw [h, D.flats]
  | d :: ds, _, hp, h => by
    simp only [RelF] at h
    simp only [D.plainCs, Bool.and_eq_true] at hp
    obtain ⟨a, b, rfl, h1, h2⟩ := h
    simp only [D.flats, RelC.flat hp.1 h1, RelF.flat hp.2 h2]
end
def D.valW : D → Value
  | .int k n => .int k n
  | .bool b => .bool b
  | .str s => .string s
  | .agg fs => .agg ((D.flats fs).getD []).toArray
  | _ => Go.undef
def D.val : D → Value
  | .tup ds => .tuple (ds.map D.valW).toArray
  | d => d.valW
theorem RelW.val {U : Nat → Prop} {w : World} {d : D} {x : Value} (hp : d.plainC = true) (h : RelW U w d x) : x = d.valW := by
  cases d <;> (try (simp [D.plainC] at hp; done))
  case agg fs =>
    obtain ⟨c, rfl, h1⟩ := h
    simp only [D.plainC] at hp
    simp [D.valW, RelF.flat hp h1]
  all_goals (simp only [RelW, RelC, List.cons.injEq, and_true] at h; rw [h, D.valW])
theorem RelW.plain {U : Nat → Prop} {w : World} {d : D} (hp : d.plainC = true) : RelW U w d d.valW := by
  cases d <;> (try (simp [D.plainC] at hp; done))
  case agg fs =>
    simp only [D.plainC] at hp
    obtain ⟨x, hx⟩ := D.plainCs_flat hp
    exact ⟨x.toArray, by simp [D.valW, hx], by simpa using D.flats_rel hx⟩
  all_goals simp [RelW, RelC, D.valW]
theorem RelT.val {U : Nat → Prop} {w : World} : ∀ {ds : List D} {x : List Value}, D.plainCs ds = true → RelT U w ds x → x = ds.map D.valW
  | [], _, _, h => by simp only [RelT] at h; rw [h, List.map_nil]
  | d :: ds, _, hp, h => by
    simp only [RelT] at h
    simp only [D.plainCs, Bool.and_eq_true] at hp
    obtain ⟨a, b, rfl, h1, h2⟩ := h
    rw [RelW.val hp.1 h1, RelT.val hp.2 h2, List.map_cons]
theorem RelT.plain {U : Nat → Prop} {w : World} : ∀ {ds : List D}, D.plainCs ds = true → RelT U w ds (ds.map D.valW)
  | [], _ => by simp [RelT]
  | d :: ds, hp => by
    simp only [D.plainCs, Bool.and_eq_true] at hp
    simp only [RelT, List.map_cons]
    exact ⟨_, _, rfl, RelW.plain hp.1, RelT.plain hp.2⟩
theorem RelV.val {U : Nat → Prop} {w : World} {d : D} {x : Value} (hp : d.plainB = true) (h : RelV U w d x) : x = d.val := by
  cases d
  case tup ds =>
    obtain ⟨c, rfl, h1⟩ := h
    simp only [D.plainB] at hp
    have := RelT.val hp h1
    simp only [D.val, ← this]
  all_goals exact RelW.val (U := U) (w := w) hp h
theorem RelV.plain {U : Nat → Prop} {w : World} {d : D} (hp : d.plainB = true) : RelV U w d d.val := by
  cases d
  case tup ds =>
    simp only [D.plainB] at hp
    exact ⟨_, rfl, by simpa using RelT.plain hp⟩
  all_goals exact RelW.plain (U := U) (w := w) hp

/-- A call that only reads: from memory that may be read alone it hands back d. -/
def Rdr (P : Program) (f : FuncId) (ds : List D) (d : D) : Prop :=
  callable P f = true ∧ ∀ U w vs, (∀ b, U b → b < w.heap.size) → RelT U w ds vs → Calls P f vs.toArray w fun e w' => ∃ v, e = .returned v ∧ RelV (fun b => U b ∨ (w.heap.size ≤ b ∧ b < w'.heap.size)) w' d v ∧ Keeps (fun _ => False) w w'
/-- In a region that draws its order: such a call, of data that determine their value. -/
structure QC (P : Program) (f : FuncId) (ds : List D) (hp : Nat → Option Row) (K : D → Prop) : Prop where
  ex : ∃ d, K d ∧ Rdr P f ds d
theorem QC.of_rdr {P : Program} {f : FuncId} {ds : List D} {hp : Nat → Option Row} {K : D → Prop} {d : D} (h : Rdr P f ds d) (_ : true = true) (hK : K d) : QC P f ds hp K := ⟨d, hK, h⟩
theorem XC.of_rdr {P : Program} {f : FuncId} {ds : List D} {hp : Nat → Option Row} {K : D → (Nat → Option Row) → Prop} {d : D} (h : Rdr P f ds d) (hK : K d hp) : XC P f ds hp K := by
  refine ⟨h.1, fun U w vs hH hT => (h.2 U w vs hH.ubd hT).mono fun e w' ⟨v, h1, h2, h3⟩ => ?_⟩
  have hlt : ∀ b, Dom hp b → b < w.heap.size := fun b hb => by
    obtain ⟨r, hr⟩ := Option.isSome_iff_exists.1 hb
    obtain ⟨c, hc, _⟩ := hH.heap b r hr
    exact (Array.getElem?_eq_some_iff.1 hc).1
  have x : Ext U (fun b => U b ∨ (w.heap.size ≤ b ∧ b < w'.heap.size)) w w' := ⟨fun b hb => .inl hb, fun b hb => h3.block b (hH.ubd b hb) (by simp)⟩
  refine ⟨v, d, hp, _, h1, ⟨fun b r hr => ?_, fun b hb => ?_⟩, h2, ⟨h3.os, h3.tape, h3.output, h3.size, fun k hk _ => h3.block k hk (by simp)⟩, fun b hb => .inl hb, fun b hb => hb.imp id (fun q => q.1), fun b hb => .inl hb, hK⟩
  · obtain ⟨c, hc, q1, q2, q3, q4⟩ := hH.heap b r hr
    refine ⟨c, by rw [h3.block b (hlt b (Dom_of hr)) (by simp)]; exact hc, q1, q2, RelR.mono x q3, fun hq => ?_⟩
    rcases hq with hq | hq
    · exact q4 hq
    · have := hlt b (Dom_of hr); omega
  · rcases hb with hb | hb
    · have := hH.ubd b hb; have := h3.size; omega
    · exact hb.2
theorem Keeps.below {w w' : World} (h : Keeps (fun _ => False) w w') : Below w.heap.size w w' := ⟨h.os, h.tape, h.output, h.size, fun k hk => h.block k hk (by simp)⟩
/-- A region that draws its order. -/
structure XD (P : Program) (n : Nat) (id : Nat) (ops : Array Oper) (st : St) (K : St → Prop) : Prop where
  sem : P.follows .mixedOrders = true → ∀ Q : Post, (∀ st', K st' → Q .normal st') → Sem P n (.region id ops true) st Q
def xcond : D → Prop → Prop → Prop
  | .bool b, A, B => Br b A B
  | _, _, _ => False
theorem wp_loop_ix {c : Code} {Q : Exit → Act → World → Prop} (I : Nat → Act → World → Prop) {k0 : Nat} (h0 : I k0 a w)
    (round : ∀ k a w, I k a w → c.wp P (Exit.then (fun a' w' => ∃ k', k' < k ∧ I k' a' w') Q) a w) : (Code.loop c).wp P Q a w := by
  intro b ks cs
  have key : ∀ k a w, I k a w → ∃ e a' w', Q e a' w' ∧ Arrives P (lone (b.at a (.code c :: .inLoop c :: ks)) cs w) b ks cs e a' w' := by
    intro k
    induction k using Nat.strongRecOn with
    | _ k ih =>
      intro a w hI
      obtain ⟨e, a1, w1, hq, harr⟩ := round k a w hI b (.inLoop c :: ks) cs
      cases e with
      | normal =>
        obtain ⟨k', hlt, hI'⟩ := hq
        obtain ⟨e2, a2, w2, hq2, harr2⟩ := ih k' hlt a1 w1 hI'
        exact ⟨e2, a2, w2, hq2, .of_steps (Steps.trans harr (.one step_inLoop)) harr2⟩
      | exit id => exact ⟨_, a1, w1, hq, .pass (x := .inLoop c) rfl (fun _ _ => .inl (by simp)) harr⟩
      | goto l => exact ⟨_, a1, w1, hq, .pass (x := .inLoop c) rfl (fun _ _ => .inl (by simp)) harr⟩
      | ret => exact ⟨_, a1, w1, hq, .pass (x := .inLoop c) rfl (fun _ _ => .inl (by simp)) harr⟩
      | panic ch => exact ⟨_, a1, w1, hq, .pass (x := .inLoop c) rfl (fun _ _ => .inl (by simp)) harr⟩
      | outgrown => exact ⟨_, a1, w1, hq, .pass (x := .inLoop c) rfl (fun _ _ => .inl (by simp)) harr⟩
  obtain ⟨e, a', w', hq, harr⟩ := key _ a w h0
  exact ⟨e, a', w', hq, .of_steps (.one step_loop) harr⟩
end
end Go.Ab
