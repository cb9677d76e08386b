/- Single steps of the walk. -/
import Derived.Test.YtagleaabhljkfaaAb7
set_option linter.unusedSimpArgs false
set_option linter.unusedVariables false
namespace Go.Ab
open Go Go.RowKit
section
variable {P : Program} {n : Nat} {st : St} {Q : Post}
theorem Br.t {b : Bool} {A B : Prop} (h : b = true) (k : A) : Br b A B := ⟨fun _ => k, fun e => by rw [h] at e; cases e⟩
theorem Br.f {b : Bool} {A B : Prop} (h : b = false) (k : B) : Br b A B := ⟨fun e => (by rw [h] at e; cases e), fun _ => k⟩
theorem g_skip (h : Q .normal st) : xw P n .skip st Q := h
theorem g_ops {l : List COp} (h : xos P n l st fun st' => Q .normal st') : xw P n (.ops l) st Q := h
theorem g_quiet {l : List COp} (h : xqs P n l st fun st' => Q .normal st') : xw P n (.quiet l) st Q := h
theorem g_seq {x y : CC} (h : xw P n x st fun e st' => match e with
    | .normal => XS P n y st' Q
    | e => Q e st') : xw P n (.seq x y) st Q := h
theorem g_cond {c : Opd} {x y : CC} (h : xcond (c.ev st) (xw P n x st Q) (xw P n y st Q)) : xw P n (.cond c x y) st Q := h
theorem g_block {id : Nat} {c : CC} (h : xw P n c st fun e st' => match e with
    | .exit i => if i = id then Q .normal st' else Q (.exit i) st'
    | e => Q e st') : xw P n (.block id c) st Q := h
theorem g_exit {id : Nat} (h : Q (.exit id) st) : xw P n (.exit id) st Q := h
theorem g_ret (h : Q .ret st) : xw P n .ret st Q := h
theorem g_loop {c : CC} (h : XLc P n c st Q) : xw P n (.loop c) st Q := h
theorem g_nil {K : St → Prop} (h : K st) : xos P n [] st K := h
theorem g_op {dst : Option Nat} {op : XOp} {os : List COp} {K : St → Prop} (h : xo P dst st (fun d st' => putS n dst d st' fun st2 => xos P n os st2 K) op) : xos P n (⟨dst, op, none⟩ :: os) st K := h
theorem g_opg {dst : Option Nat} {op : XOp} {t : Nat} {want : Bool} {os : List COp} {K : St → Prop} (h : xguard (st.fr t) want (xo P dst st (fun d st' => putS n dst d st' fun st2 => xos P n os st2 K) op) (putS n dst .undef st fun st2 => xos P n os st2 K)) : xos P n (⟨dst, op, some (t, want)⟩ :: os) st K := h
theorem q_nil {K : St → Prop} (h : K st) : xqs P n [] st K := h
theorem q_op {dst : Option Nat} {op : XOp} {os : List COp} {K : St → Prop} (h : xq P st (fun d => putS n dst d st fun st2 => xqs P n os st2 K) op) : xqs P n (⟨dst, op, none⟩ :: os) st K := h
theorem q_opg {dst : Option Nat} {op : XOp} {t : Nat} {want : Bool} {os : List COp} {K : St → Prop} (h : xguard (st.fr t) want (xq P st (fun d => putS n dst d st fun st2 => xqs P n os st2 K) op) (putS n dst .undef st fun st2 => xqs P n os st2 K)) : xqs P n (⟨dst, op, some (t, want)⟩ :: os) st K := h
theorem r_nil {K : List D → Prop} (h : K []) : xr st [] K := h
theorem r_t {i : Nat} {rs : List CR} {K : List D → Prop} (h : (st.fr i).noL = true ∧ xr st rs fun ds => K (st.fr i :: ds)) : xr st (.t i :: rs) K := h
theorem r_c {i sz : Nat} {ag : Bool} {rs : List CR} {K : List D → Prop} (h : xload st sz ag (st.fr i) fun d => d.noL = true ∧ xr st rs fun ds => K (d :: ds)) : xr st (.c i sz ag :: rs) K := h
end
end Go.Ab
namespace Go.Ab
open Go Go.RowKit
/-! ### Loops, with what is kept in mind laid out in lists -/
structure St.Le (st st' : St) : Prop where
  fr : ∀ i, st'.fr i = .any ∨ st'.fr i = st.fr i
  gen : ∀ s, st'.gen s = st.gen s
  lc : ∀ s, st'.lc s = none ∨ st'.lc s = st.lc s
  hp : st'.hp = st.hp
section
variable {P : Program} {F : Fix} {n : Nat} {g : G} {st st' : St} {a : Act} {w : World}
theorem Holds.weaken (h : Holds F n g st a w) (le : St.Le st st') : Holds F n g st' a w := by
  have hl : ∀ s d, st'.lc s = some d → st.lc s = some d := fun s d e => by
    rcases le.lc s with q | q
    · rw [q] at e; cases e
    · rw [← q]; exact e
  have hS : ∀ s, (st'.lc s).isSome = true → (st.lc s).isSome = true := fun s e => by
    obtain ⟨d, hd⟩ := Option.isSome_iff_exists.1 e
    simp [hl s d hd]
  refine ⟨h.size, h.defers, fun i => ?_, fun s d e => ?_, fun s s' h1 h2 => h.linj s s' (hS s h1) (hS s' h2), fun b r e => h.heap b r (by rw [← le.hp]; exact e), h.uin, h.ubd, h.uout, h.keep⟩
  · rcases le.fr i with q | q
    · rw [q]
      exact trivial
    · rw [q]
      exact RelS.ext (st := st) ⟨fun _ h => h, fun _ _ => rfl⟩ (fun s gn _ hle => by rw [le.gen]; exact ⟨hle, fun e1 e2 => ⟨e1, hS s e2, rfl⟩⟩) (h.slots i)
  · obtain ⟨q1, q3, q4, q5⟩ := h.locs s d (hl s d e)
    exact ⟨q1, q3, q4, by rw [le.hp]; exact q5⟩
def LeF (f : Nat → D) : Nat → List D → Prop
  | _, [] => True
  | j, .any :: l => LeF f (j + 1) l
  | j, d :: l => f j = d ∧ LeF f (j + 1) l
def LeL (f : Nat → Option D) : Nat → List (Option D) → Prop
  | _, [] => True
  | j, none :: l => LeL f (j + 1) l
  | j, some d :: l => f j = some d ∧ LeL f (j + 1) l
theorem LeF.get {f : Nat → D} : ∀ {l : List D} {j : Nat}, LeF f j l → ∀ i, l.getD i .any = .any ∨ l.getD i .any = f (j + i)
  | [], j, h, i => .inl (by simp)
  | d :: l, j, h, i => by
    have h' : (d = .any ∨ f j = d) ∧ LeF f (j + 1) l := by
      cases d <;> first | exact ⟨.inl rfl, h⟩ | exact ⟨.inr h.1, h.2⟩
    cases i with
    | zero =>
      rcases h'.1 with q | q
      · exact .inl (by simpa using q)
      · exact .inr (by simpa using q.symm)
    | succ i =>
      have := LeF.get h'.2 i
      have e : j + 1 + i = j + (i + 1) := by omega
      rw [e] at this
      simpa using this
theorem LeL.get {f : Nat → Option D} : ∀ {l : List (Option D)} {j : Nat}, LeL f j l → ∀ i, l.getD i none = none ∨ l.getD i none = f (j + i)
  | [], j, h, i => .inl (by simp)
  | d :: l, j, h, i => by
    have h' : (d = none ∨ f j = d) ∧ LeL f (j + 1) l := by
      cases d <;> first | exact ⟨.inl rfl, h⟩ | exact ⟨.inr h.1, h.2⟩
    cases i with
    | zero =>
      rcases h'.1 with q | q
      · exact .inl (by simpa using q)
      · exact .inr (by simpa using q.symm)
    | succ i =>
      have := LeL.get h'.2 i
      have e : j + 1 + i = j + (i + 1) := by omega
      rw [e] at this
      simpa using this
def St.mkL (fs : List D) (gs : Nat → Nat) (ls : List (Option D)) (hp : Nat → Option Row) : St := { fr := fun i => fs.getD i .any, gen := gs, lc := fun s => ls.getD s none, hp := hp }
structure Fits (st : St) (fs : List D) (ls : List (Option D)) (hp : Nat → Option Row) : Prop where
  fr : LeF st.fr 0 fs
  lc : LeL st.lc 0 ls
  hp : st.hp = hp
theorem Fits.le {fs : List D} {ls : List (Option D)} {hp : Nat → Option Row} (h : Fits st fs ls hp) : St.Le st (St.mkL fs st.gen ls hp) :=
  ⟨fun i => by have := h.fr.get i; rw [Nat.zero_add] at this; exact this, fun _ => rfl, fun s => by have := h.lc.get s; rw [Nat.zero_add] at this; exact this, h.hp.symm⟩
/-- A join: what is not needed any more is let go. -/
theorem XS.weaken {cc : CC} {Q : Post} {fs : List D} {ls : List (Option D)} {hp : Nat → Option Row} (hf : Fits st fs ls hp) (h : XS P n cc (St.mkL fs st.gen ls hp) Q) : XS P n cc st Q :=
  h.ghost fun _ g _ _ hH => ⟨g, hH.weaken hf.le⟩
theorem XLc.mkL {α : Type} {body : CC} {Q : Post} (I : α → Prop) (m : α → Nat) (fs : α → (Nat → Nat) → List D) (ls : α → (Nat → Nat) → List (Option D)) (hps : Nat → Option Row) (a0 : α)
    (hI : I a0) (h0 : Fits st (fs a0 st.gen) (ls a0 st.gen) hps)
    (step : ∀ x gs, I x → xw P n body (St.mkL (fs x gs) gs (ls x gs) hps) fun e st2 => match e with
      | .normal => ∃ y, I y ∧ m y < m x ∧ Fits st2 (fs y st2.gen) (ls y st2.gen) hps
      | e => Q e st2) : XLc P n body st Q :=
  ⟨fun hm nq c hc F g a w hH => by
    refine wp_loop_ix (fun k a w => ∃ g x gs, Holds F n g (St.mkL (fs x gs) gs (ls x gs) hps) a w ∧ I x ∧ m x = k) ⟨g, a0, st.gen, hH.weaken h0.le, hI, rfl⟩ ?_
    rintro k a' w' ⟨g', x, gs, hH', hIx, rfl⟩
    refine wp_mono (xw_sound hm c hc (step x gs hIx) F g' a' w' hH') fun e a2 w2 hq => ?_
    cases e with
    | normal =>
      obtain ⟨g2, st2, hH2, y, hIy, hlt, hf⟩ := hq
      exact ⟨_, hlt, g2, y, st2.gen, hH2.weaken hf.le, hIy, rfl⟩
    | exit id => exact hq
    | ret => exact hq
    | goto l => exact hq
    | panic c => exact hq
    | outgrown => exact hq⟩
end
end Go.Ab
namespace Go.Ab
open Go Go.RowKit
/-! ### Words for rows that are filled one by one -/
theorem ats_arr {es : Nat} : ∀ {L : List D} {i : Nat} {d : D}, L[i]? = some d → (∀ x ∈ L, x.len = es) → D.ats L i [] = some (d, i * es)
  | [], i, d, h, _ => by simp at h
  | x :: L, 0, d, h, he => by
    simp at h
    subst h
    simp only [D.ats, Nat.zero_mul]
    cases x <;> rfl
  | x :: L, i + 1, d, h, he => by
    have := ats_arr (i := i) (d := d) (by simpa using h) (fun y hy => he y (by simp [hy]))
    simp only [D.ats, this, Option.map_some, he x (by simp), Nat.add_mul, Nat.one_mul]
    simp [Nat.add_comm]
theorem at_arr {es : Nat} {L : List D} {i : Nat} {d : D} (h : L[i]? = some d) (he : ∀ x ∈ L, x.len = es) : (D.agg L).at [i] = some (d, i * es) := ats_arr h he
theorem sets_arr {x : D} : ∀ {L : List D} {i : Nat} {d : D}, L[i]? = some d → d.len = x.len → d.isAgg = x.isAgg → D.sets L i [] x = some (L.set i x)
  | [], i, d, h, _, _ => by simp at h
  | y :: L, 0, d, h, h1, h2 => by
    simp at h
    subst h
    have e : y.set [] x = some x := by
      have : y.set [] x = if y.len = x.len ∧ y.isAgg = x.isAgg then some x else none := by cases y <;> rfl
      rw [this, if_pos ⟨h1, h2⟩]
    simp only [D.sets, e, Option.map_some, List.set_cons_zero]
  | y :: L, i + 1, d, h, h1, h2 => by
    have := sets_arr (L := L) (i := i) (d := d) (by simpa using h) h1 h2
    simp only [D.sets, this, Option.map_some, List.set_cons_succ]
theorem set_arr {x : D} {L : List D} {i : Nat} {d : D} (h : L[i]? = some d) (h1 : d.len = x.len) (h2 : d.isAgg = x.isAgg) : (D.agg L).set [i] x = some (.agg (L.set i x)) := by
  simp only [D.set, sets_arr h h1 h2, Option.map_some]
def fill (z : D) (ds : List D) (i : Nat) : List D := ds.take i ++ List.replicate (ds.length - i) z
theorem fill_zero (z : D) (ds : List D) : fill z ds 0 = List.replicate ds.length z := by simp [fill]
theorem fill_all (z : D) (ds : List D) : fill z ds ds.length = ds := by simp [fill]
theorem fill_length {z : D} {ds : List D} {i : Nat} (h : i ≤ ds.length) : (fill z ds i).length = ds.length := by simp [fill]; omega
theorem fill_get {z : D} {ds : List D} {i : Nat} (h : i < ds.length) : (fill z ds i)[i]? = some z := by
  unfold fill
  rw [List.getElem?_append_right (by simp; omega)]
  have e : i - (List.take i ds).length = 0 := by simp; omega
  rw [e, List.getElem?_replicate, if_pos (by omega)]
theorem fill_set {z : D} {ds : List D} {i : Nat} (h : i < ds.length) : (fill z ds i).set i (ds.getD i .any) = fill z ds (i + 1) := by
  apply List.ext_getElem?
  intro j
  unfold fill
  rw [List.getElem?_set]
  by_cases hj : i = j
  · subst hj
    rw [if_pos rfl, if_pos (by simp; omega), List.getElem?_append_left (by simp; omega), List.getElem?_take, if_pos (by omega)]
    simp [h]
  · rw [if_neg hj]
    by_cases hk : j < i
    · rw [List.getElem?_append_left (by simp; omega), List.getElem?_append_left (by simp; omega), List.getElem?_take, List.getElem?_take, if_pos hk, if_pos (by omega)]
    · rw [List.getElem?_append_right (by simp; omega), List.getElem?_append_right (by simp; omega), List.getElem?_replicate, List.getElem?_replicate]
      simp only [List.length_take]
      have e1 : min i ds.length = i := by omega
      have e2 : min (i + 1) ds.length = i + 1 := by omega
      rw [e1, e2]
      by_cases hb : j < ds.length
      · rw [if_pos (by omega), if_pos (by omega)]
      · rw [if_neg (by omega), if_neg (by omega)]
theorem fill_lens {z : D} {ds : List D} {i es : Nat} (hz : z.len = es) (hd : ∀ x ∈ ds, x.len = es) : ∀ x ∈ fill z ds i, x.len = es := by
  intro x hx
  unfold fill at hx
  rcases List.mem_append.1 hx with h | h
  · exact hd x (List.mem_of_mem_take h)
  · rw [List.eq_of_mem_replicate h]; exact hz
theorem wrap_ok {n : Int} (h0 : -9223372036854775808 ≤ n) (h1 : n ≤ 9223372036854775807) : IntKind.wrap .i64 n = n := by
  rw [IntKind.wrap_i64]; omega
end Go.Ab
