/- Steps towards the law: the machine, contracts of functions and facts of lists. -/
import Derived.Test.YtalddljlemppnaaAb7
set_option linter.unusedSimpArgs false
set_option linter.unusedVariables false
namespace Go.Ab
open Go Go.RowKit
section
variable {P : Program} {n : Nat} {st : St} {Q : Post}
theorem Br.t {b : Bool} {A B : Prop} (h : b = true) (k : A) : Br b A B := ⟨fun _ => k, fun e => by rw [h] at e; cases e⟩
theorem Br.f {b : Bool} {A B : Prop} (h : b = false) (k : B) : Br b A B := ⟨fun e => (by rw [h] at e; cases e), fun _ => k⟩
theorem g_skip (h : Q .normal st) : xw P n .skip st Q := h
theorem g_ops {l : List COp} (h : xos P n l st fun st' => Q .normal st') : xw P n (.ops l) st Q := h
theorem g_quiet {l : List COp} (h : xqs P n l st fun st' => Q .normal st') : xw P n (.quiet l) st Q := h
theorem g_drawn {l : List (COp × Bool × List Opd)} (h : xd P n l st fun st' => Q .normal st') : xw P n (.drawn l) st Q := h
theorem g_seq {x y : CC} (h : xw P n x st fun e st' => match e with
  | .normal => XS P n y st' Q
  | e => Q e st') : xw P n (.seq x y) st Q := h
theorem g_cond {c : Opd} {x y : CC} (h : xcond (c.ev st) (xw P n x st Q) (xw P n y st Q)) : xw P n (.cond c x y) st Q := h
theorem g_block {id : Nat} {c : CC} (h : xw P n c st fun e st' => match e with
  | .exit i => if i = id then Q .normal st' else Q (.exit i) st'
  | e => Q e st') : xw P n (.block id c) st Q := h
theorem g_exit {id : Nat} (h : Q (.exit id) st) : xw P n (.exit id) st Q := h
theorem g_ret (h : Q .ret st) : xw P n .ret st Q := h
theorem g_loop {c : CC} (h : XLc P n c st Q) : xw P n (.loop c) st Q := h
theorem g_nil {K : St → Prop} (h : K st) : xos P n [] st K := h
theorem g_op {dst : Option Nat} {op : XOp} {os : List COp} {K : St → Prop} (h : xo P dst st (fun d st' => putS n dst d st' fun st2 => xos P n os st2 K) op) : xos P n (⟨dst, op, none⟩ :: os) st K := h
theorem g_opg {dst : Option Nat} {op : XOp} {t : Nat} {want : Bool} {os : List COp} {K : St → Prop} (h : xguard (st.fr t) want (xo P dst st (fun d st' => putS n dst d st' fun st2 => xos P n os st2 K) op) (putS n dst .undef st fun st2 => xos P n os st2 K)) : xos P n (⟨dst, op, some (t, want)⟩ :: os) st K := h
theorem d_nil {K : St → Prop} (h : K st) : xd P n [] st K := h
theorem d_p {dst : Option Nat} {op : XOp} {rs : List Opd} {os : List (COp × Bool × List Opd)} {K : St → Prop} (h : xq P st (fun d => putS n dst d st fun st2 => xd P n os st2 K) op) : xd P n ((⟨dst, op, none⟩, false, rs) :: os) st K := h
theorem d_e {dst : Option Nat} {op : XOp} {rs : List Opd} {os : List (COp × Bool × List Opd)} {K : St → Prop} (h : rdN st rs fun ks => xo P dst st (fun d st' => sameN st st' ks ∧ putS n dst d st' fun st2 => xd P n os st2 K) op) : xd P n ((⟨dst, op, none⟩, true, rs) :: os) st K := h
theorem q_nil {K : St → Prop} (h : K st) : xqs P n [] st K := h
theorem q_op {dst : Option Nat} {op : XOp} {os : List COp} {K : St → Prop} (h : xq P st (fun d => putS n dst d st fun st2 => xqs P n os st2 K) op) : xqs P n (⟨dst, op, none⟩ :: os) st K := h
theorem r_nil {K : List D → Prop} (h : K []) : xr st [] K := h
theorem r_t {i : Nat} {rs : List CR} {K : List D → Prop} (h : (st.fr i).noL = true ∧ xr st rs fun ds => K (st.fr i :: ds)) : xr st (.t i :: rs) K := h
theorem r_c {i sz : Nat} {ag : Bool} {rs : List CR} {K : List D → Prop} (h : xload st sz ag (st.fr i) fun d => d.noL = true ∧ xr st rs fun ds => K (d :: ds)) : xr st (.c i sz ag :: rs) K := h
end
end Go.Ab
namespace Go.Ab
open Go Go.RowKit
/-! ### Loops, with what is kept in mind laid out in lists -/
structure St.Le (st st' : St) : Prop where
 fr : ∀ i, st'.fr i = .any ∨ st'.fr i = st.fr i
 gen : ∀ s, st'.gen s = st.gen s
 lc : ∀ s, st'.lc s = none ∨ st'.lc s = st.lc s
section
variable {P : Program} {F : Fix} {n : Nat} {g : G} {st st' : St} {a : Act} {w : World}
theorem Holds.weaken (h : Holds F n g st a w) (le : St.Le st st') : Holds F n g st' a w := by
 refine ⟨h.size, h.defers, fun i => ?_, fun s d e => ?_, h.uin, h.ubd, h.uout, h.keep⟩
 ·rcases le.fr i with q | q
  ·rw [q]; exact trivial
  ·rw [q]; exact h.slots i
 ·rcases le.lc s with q | q
  ·rw [q] at e; cases e
  ·obtain ⟨Fs, hO⟩ := h.locs s d (by rw [← q]; exact e)
   exact ⟨Fs, by rw [le.gen]; exact hO⟩
def LeF (f : Nat → D) : Nat → List D → Prop
 | _, [] => True
 | j, .any :: l => LeF f (j + 1) l
 | j, d :: l => f j = d ∧ LeF f (j + 1) l
def LeL (f : Nat → Option D) : Nat → List (Option D) → Prop
 | _, [] => True
 | j, none :: l => LeL f (j + 1) l
 | j, some d :: l => f j = some d ∧ LeL f (j + 1) l
theorem LeF.get {f : Nat → D} : ∀ {l : List D} {j : Nat}, LeF f j l → ∀ i, l.getD i .any = .any ∨ l.getD i .any = f (j + i)
 | [], j, h, i => .inl (by simp)
 | d :: l, j, h, i => by
  have h' : (d = .any ∨ f j = d) ∧ LeF f (j + 1) l := by
   cases d <;> first | exact ⟨.inl rfl, h⟩ | exact ⟨.inr h.1, h.2⟩
  cases i with
  | zero =>
   rcases h'.1 with q | q
   ·exact .inl (by simpa using q)
   ·exact .inr (by simpa using q.symm)
  | succ i =>
   have := LeF.get h'.2 i
   have e : j + 1 + i = j + (i + 1) := by omega
   rw [e] at this
   simpa using this
theorem LeL.get {f : Nat → Option D} : ∀ {l : List (Option D)} {j : Nat}, LeL f j l → ∀ i, l.getD i none = none ∨ l.getD i none = f (j + i)
 | [], j, h, i => .inl (by simp)
 | d :: l, j, h, i => by
  have h' : (d = none ∨ f j = d) ∧ LeL f (j + 1) l := by
   cases d <;> first | exact ⟨.inl rfl, h⟩ | exact ⟨.inr h.1, h.2⟩
  cases i with
  | zero =>
   rcases h'.1 with q | q
   ·exact .inl (by simpa using q)
   ·exact .inr (by simpa using q.symm)
  | succ i =>
   have := LeL.get h'.2 i
   have e : j + 1 + i = j + (i + 1) := by omega
   rw [e] at this
   simpa using this
def St.mkL (fs : List D) (gs : Nat → Nat) (ls : List (Option D)) : St := { fr := fun i => fs.getD i .any, gen := gs, lc := fun s => ls.getD s none }
structure Fits (st : St) (fs : List D) (ls : List (Option D)) : Prop where
 fr : LeF st.fr 0 fs
 lc : LeL st.lc 0 ls
theorem Fits.le {fs : List D} {ls : List (Option D)} (h : Fits st fs ls) : St.Le st (St.mkL fs st.gen ls) :=
 ⟨fun i => by have := h.fr.get i; rw [Nat.zero_add] at this; exact this, fun _ => rfl, fun s => by have := h.lc.get s; rw [Nat.zero_add] at this; exact this⟩
theorem XLc.mkL {α : Type} {body : CC} {Q : Post} (I : α → Prop) (m : α → Nat) (fs : α → (Nat → Nat) → List D) (ls : α → (Nat → Nat) → List (Option D)) (a0 : α)
  (hI : I a0) (h0 : Fits st (fs a0 st.gen) (ls a0 st.gen))
  (step : ∀ x gs, I x → xw P n body (St.mkL (fs x gs) gs (ls x gs)) fun e st2 => match e with
   | .normal => ∃ y, I y ∧ m y < m x ∧ Fits st2 (fs y st2.gen) (ls y st2.gen)
   | e => Q e st2) : XLc P n body st Q :=
 ⟨fun hm nq c hc F g a w hH => by
  refine wp_loop_ix (fun k a w => ∃ g x gs, Holds F n g (St.mkL (fs x gs) gs (ls x gs)) a w ∧ I x ∧ m x = k) ⟨g, a0, st.gen, hH.weaken h0.le, hI, rfl⟩ ?_
  rintro k a' w' ⟨g', x, gs, hH', hIx, rfl⟩
  refine wp_mono (xw_sound hm c hc (step x gs hIx) F g' a' w' hH') fun e a2 w2 hq => ?_
  cases e with
  | normal =>
   obtain ⟨g2, st2, hH2, y, hIy, hlt, hf⟩ := hq
   exact ⟨_, hlt, g2, y, st2.gen, hH2.weaken hf.le, hIy, rfl⟩
  | exit id => exact hq
  | ret => exact hq
  | goto l => exact hq
  | panic c => exact hq
  | outgrown => exact hq⟩
end
end Go.Ab
namespace Go.Ab
open Go Go.RowKit
/-! ### Loops, with the names' contents as pairs -/
def lcA : List (Nat × D) → Nat → Option D
 | [], _ => none
 | p :: l, i => bif Nat.beq p.1 i then some p.2 else lcA l i
def LeA (f : Nat → Option D) : List (Nat × D) → Prop
 | [] => True
 | p :: l => f p.1 = some p.2 ∧ LeA f l
def St.mkA (fs : List D) (gs : Nat → Nat) (ls : List (Nat × D)) : St := { fr := fun i => fs.getD i .any, gen := gs, lc := lcA ls }
structure FitA (st : St) (fs : List D) (ls : List (Nat × D)) : Prop where
 fr : LeF st.fr 0 fs
 lc : LeA st.lc ls
section
variable {P : Program} {n : Nat} {st : St} {Q : Post}
theorem LeA.get {f : Nat → Option D} : ∀ {l : List (Nat × D)}, LeA f l → ∀ i, lcA l i = none ∨ lcA l i = f i
 | [], _, i => .inl rfl
 | p :: l, h, i => by
  simp only [lcA]
  cases hq : Nat.beq p.1 i with
  | true =>
   have e : p.1 = i := Nat.eq_of_beq_eq_true hq
   refine .inr ?_
   simp only [cond_true]
   rw [← e, h.1]
  | false => simpa using LeA.get h.2 i
theorem FitA.le {fs : List D} {ls : List (Nat × D)} (h : FitA st fs ls) : St.Le st (St.mkA fs st.gen ls) :=
 ⟨fun i => by have := h.fr.get i; rw [Nat.zero_add] at this; exact this, fun _ => rfl, fun s => h.lc.get s⟩
theorem XS.weakenA {cc : CC} {Q : Post} {fs : List D} {ls : List (Nat × D)} (hf : FitA st fs ls) (h : XS P n cc (St.mkA fs st.gen ls) Q) : XS P n cc st Q :=
 h.ghost fun _ g _ _ hH => ⟨g, hH.weaken hf.le⟩
theorem XLc.mkA {α : Type} {body : CC} {Q : Post} (I : α → Prop) (m : α → Nat) (fs : α → (Nat → Nat) → List D) (ls : α → (Nat → Nat) → List (Nat × D)) (a0 : α)
  (hI : I a0) (h0 : FitA st (fs a0 st.gen) (ls a0 st.gen))
  (step : ∀ x gs, I x → xw P n body (St.mkA (fs x gs) gs (ls x gs)) fun e st2 => match e with
   | .normal => ∃ y, I y ∧ m y < m x ∧ FitA st2 (fs y st2.gen) (ls y st2.gen)
   | e => Q e st2) : XLc P n body st Q :=
 ⟨fun hm nq c hc F g a w hH => by
  refine wp_loop_ix (fun k a w => ∃ g x gs, Holds F n g (St.mkA (fs x gs) gs (ls x gs)) a w ∧ I x ∧ m x = k) ⟨g, a0, st.gen, hH.weaken h0.le, hI, rfl⟩ ?_
  rintro k a' w' ⟨g', x, gs, hH', hIx, rfl⟩
  refine wp_mono (xw_sound hm c hc (step x gs hIx) F g' a' w' hH') fun e a2 w2 hq => ?_
  cases e with
  | normal =>
   obtain ⟨g2, st2, hH2, y, hIy, hlt, hf⟩ := hq
   exact ⟨_, hlt, g2, y, st2.gen, hH2.weaken hf.le, hIy, rfl⟩
  | exit id => exact hq
  | ret => exact hq
  | goto l => exact hq
  | panic c => exact hq
  | outgrown => exact hq⟩
/-- The same; the invariant may tell of the blocks. -/
theorem XLc.mkG {α : Type} {body : CC} {Q : Post} (I : α → (Nat → Nat) → Prop) (m : α → Nat) (fs : α → (Nat → Nat) → List D) (ls : α → (Nat → Nat) → List (Nat × D)) (a0 : α)
  (hI : I a0 st.gen) (h0 : FitA st (fs a0 st.gen) (ls a0 st.gen))
  (step : ∀ x gs, I x gs → xw P n body (St.mkA (fs x gs) gs (ls x gs)) fun e st2 => match e with
   | .normal => ∃ y, I y st2.gen ∧ m y < m x ∧ FitA st2 (fs y st2.gen) (ls y st2.gen)
   | e => Q e st2) : XLc P n body st Q :=
 ⟨fun hm nq c hc F g a w hH => by
  refine wp_loop_ix (fun k a w => ∃ g x gs, Holds F n g (St.mkA (fs x gs) gs (ls x gs)) a w ∧ I x gs ∧ m x = k) ⟨g, a0, st.gen, hH.weaken h0.le, hI, rfl⟩ ?_
  rintro k a' w' ⟨g', x, gs, hH', hIx, rfl⟩
  refine wp_mono (xw_sound hm c hc (step x gs hIx) F g' a' w' hH') fun e a2 w2 hq => ?_
  cases e with
  | normal =>
   obtain ⟨g2, st2, hH2, y, hIy, hlt, hf⟩ := hq
   exact ⟨_, hlt, g2, y, st2.gen, hH2.weaken hf.le, hIy, rfl⟩
  | exit id => exact hq
  | ret => exact hq
  | goto l => exact hq
  | panic c => exact hq
  | outgrown => exact hq⟩
/-! ### Names -/
def rn (t : Nat) : D → D
 | .lsl _ b n c => .lsl t b n c
 | .lref _ b p o => .lref t b p o
 | .lmp _ b => .lmp t b
 | d => d
theorem rn_relC {U : Nat → Prop} {w : World} {t : Nat} {d : D} {cs : List Value} (h : RelC U w d cs) : RelC U w (rn t d) cs := by
 cases d <;> exact h
theorem rn_rel {U : Nat → Prop} {w : World} {t : Nat} {d : D} {v : Value} (h : RelV U w d v) : RelV U w (rn t d) v := by
 cases d <;> exact h
/-- A block gets another name. -/
theorem XS.move {cc : CC} {Q : Post} (s t : Nat) (L : List Nat) {c : D} (hl : st.lc s = some c) (h : XS P n cc { fr := fun i => bif elemN i L then rn t (st.fr i) else st.fr i, gen := upd st.gen t (st.gen s), lc := upd (upd st.lc s none) t (some c) } Q) : XS P n cc st Q :=
 h.ghost fun F g a w hH => by
  obtain ⟨Fs, hO⟩ := hH.locs s c hl
  have hT := hH.turn (s := s) (t := t) (b' := st.gen s) (d' := c) (w' := w) (Nat.le_refl _) rfl rfl rfl (fun _ _ _ => rfl) hO.loc hO.nd (fun x hx => .inl (hO.mine hx))
  refine ⟨_, hT.size, hT.defers, fun i => ?_, hT.locs, hT.uin, hT.ubd, hT.uout, hT.keep⟩
  show RelV _ w (bif elemN i L then rn t (st.fr i) else st.fr i) _
  cases elemN i L with
  | true => exact rn_rel (hT.slots i)
  | false => exact hT.slots i
/-- The name within a box is told anew. -/
theorem XS.hintB {cc : CC} {Q : Post} (k t : Nat) (p : List Nat) {c d0 c1 : D} {o : Nat} (hl : st.lc k = some c) (hmp : c.mpB = false) (hat : c.at p = some (d0, o)) (hset : c.set p (rn t d0) = some c1) (hm1 : c1.mpB = false) (hd : ∀ es ds cp, d0 ≠ .ow es ds cp) (hag : d0.isAgg = false) (h : XS P n cc { st with lc := upd st.lc k (some c1) } Q) : XS P n cc st Q :=
 h.ghost fun F g a w hH => by
  refine ⟨g, hH.size, hH.defers, hH.slots, fun k' d hk => ?_, hH.uin, hH.ubd, hH.uout, hH.keep⟩
  have hk' : upd st.lc k (some c1) k' = some d := hk
  simp only [upd_apply] at hk'
  split at hk'
  ·rename_i e
   subst e
   simp only [Option.some.injEq] at hk'
   subst hk'
   obtain ⟨Fs, hO⟩ := hH.locs k' _ hl
   obtain ⟨cells, e1, H, hcell, hR, hFs⟩ := hO.loc.cells hmp
   obtain ⟨H1, q1, _, _⟩ := hR.at hat
   have hrc : RelC g.U w d0 ((cells.toList.drop o).take d0.len) := by
    cases d0 <;> first | exact (q1).1 | (cases hag; done) | exact absurd rfl (hd _ _ _)
   obtain ⟨H2, q3, q4⟩ := hR.reset hat (rn_relC (t := t) hrc) hset
   have hsub : (st.gen k' :: H2).Sublist Fs := by rw [hFs]; exact q4.cons_cons _
   exact ⟨_, .of hcell q3, hO.nd.sublist hsub, fun x hx => hO.own x (hsub.subset hx), fun x hx => hO.nu x (hsub.subset hx), fun x hx => hO.lo x (hsub.subset hx)⟩
  ·exact hH.locs k' d hk'
end
end Go.Ab
namespace Go.Ab
open Go Go.RowKit
/-! ### Words for rows that are filled one by one -/
def fill (z : D) (ds : List D) (i : Nat) : List D := ds.take i ++ List.replicate (ds.length - i) z
theorem fill_zero (z : D) (ds : List D) : fill z ds 0 = List.replicate ds.length z := by simp [fill]
theorem fill_all (z : D) (ds : List D) : fill z ds ds.length = ds := by simp [fill]
theorem fill_length {z : D} {ds : List D} {i : Nat} (h : i ≤ ds.length) : (fill z ds i).length = ds.length := by simp [fill]; omega
theorem fill_get {z : D} {ds : List D} {i : Nat} (h : i < ds.length) : (fill z ds i)[i]? = some z := by
 unfold fill
 rw [List.getElem?_append_right (by simp; omega)]
 have e : i - (List.take i ds).length = 0 := by simp; omega
 rw [e, List.getElem?_replicate, if_pos (by omega)]
theorem fill_set {z : D} {ds : List D} {i : Nat} (h : i < ds.length) : (fill z ds i).set i (ds.getD i .any) = fill z ds (i + 1) := by
 apply List.ext_getElem?
 intro j
 unfold fill
 rw [List.getElem?_set]
 by_cases hj : i = j
 ·subst hj
  rw [if_pos rfl, if_pos (by simp; omega), List.getElem?_append_left (by simp; omega), List.getElem?_take, if_pos (by omega)]
  simp [h]
 ·rw [if_neg hj]
  by_cases hk : j < i
  ·rw [List.getElem?_append_left (by simp; omega), List.getElem?_append_left (by simp; omega), List.getElem?_take, List.getElem?_take, if_pos hk, if_pos (by omega)]
  ·rw [List.getElem?_append_right (by simp; omega), List.getElem?_append_right (by simp; omega), List.getElem?_replicate, List.getElem?_replicate]
   simp only [List.length_take]
   have e1 : min i ds.length = i := by omega
   have e2 : min (i + 1) ds.length = i + 1 := by omega
   rw [e1, e2]
   by_cases hb : j < ds.length
   ·rw [if_pos (by omega), if_pos (by omega)]
   ·rw [if_neg (by omega), if_neg (by omega)]
theorem fill_lens {z : D} {ds : List D} {i es : Nat} (hz : z.len = es) (hd : ∀ x ∈ ds, x.len = es) : ∀ x ∈ fill z ds i, x.len = es := by
 intro x hx
 unfold fill at hx
 rcases List.mem_append.1 hx with h | h
 ·exact hd x (List.mem_of_mem_take h)
 ·rw [List.eq_of_mem_replicate h]; exact hz
theorem wrap_ok {n : Int} (h0 : -9223372036854775808 ≤ n) (h1 : n ≤ 9223372036854775807) : IntKind.wrap .i64 n = n := by
 rw [IntKind.wrap_i64]; omega
@[reducible] def Oo (d : Nat) (x : XOp) : COp := ⟨some d, x, none⟩
@[reducible] def Om (d a : Nat) : COp := ⟨some d, .mv (.t a), none⟩
@[reducible] def Ol (d a : Nat) : COp := ⟨some d, .ld 1 false (.t a), none⟩
@[reducible] def On (d a : Nat) : COp := ⟨some d, .nilc (.t a), none⟩
@[reducible] def Of (d k a : Nat) : COp := ⟨some d, .fa k 1 k (.t a), none⟩
@[reducible] def Og (d a : Nat) : COp := ⟨some d, .lenl (.t a), none⟩
@[reducible] def Ox (d e a i : Nat) : COp := ⟨some d, .ix e (.t a) (.t i), none⟩
@[reducible] def Od (d e a : Nat) : COp := ⟨some d, .ld e true (.t a), none⟩
@[reducible] def Oi (d a : Nat) : COp := ⟨some d, .bin .add (.t a) (.k (.int .i64 1)), none⟩
@[reducible] def Ob (d : Nat) (o : BinOp) (a c : Nat) : COp := ⟨some d, .bin o (.t a) (.t c), none⟩
@[reducible] def Ok (d : Nat) (z : D) : COp := ⟨some d, .mv (.k z), none⟩
@[reducible] def Oc (d f : Nat) (l : List Opd) : COp := ⟨some d, .call f l, none⟩
@[reducible] def Qo (d : Nat) (x : XOp) : COp × Bool × List Opd := (⟨some d, x, none⟩, false, [])
@[reducible] def Qm (d a : Nat) : COp × Bool × List Opd := (⟨some d, .mv (.t a), none⟩, false, [])
@[reducible] def Ql (d a : Nat) : COp × Bool × List Opd := (⟨some d, .ld 1 false (.t a), none⟩, false, [])
@[reducible] def Qn (d a : Nat) : COp × Bool × List Opd := (⟨some d, .nilc (.t a), none⟩, false, [])
@[reducible] def Qf (d k a : Nat) : COp × Bool × List Opd := (⟨some d, .fa k 1 k (.t a), none⟩, false, [])
@[reducible] def Qg (d a : Nat) : COp × Bool × List Opd := (⟨some d, .lenl (.t a), none⟩, false, [])
@[reducible] def Qx (d e a i : Nat) : COp × Bool × List Opd := (⟨some d, .ix e (.t a) (.t i), none⟩, false, [])
@[reducible] def Qd (d e a : Nat) : COp × Bool × List Opd := (⟨some d, .ld e true (.t a), none⟩, false, [])
@[reducible] def Qi (d a : Nat) : COp × Bool × List Opd := (⟨some d, .bin .add (.t a) (.k (.int .i64 1)), none⟩, false, [])
@[reducible] def Qb (d : Nat) (o : BinOp) (a c : Nat) : COp × Bool × List Opd := (⟨some d, .bin o (.t a) (.t c), none⟩, false, [])
@[reducible] def Qk (d : Nat) (z : D) : COp × Bool × List Opd := (⟨some d, .mv (.k z), none⟩, false, [])
@[reducible] def Qc (d f : Nat) (l : List Opd) : COp × Bool × List Opd := (⟨some d, .call f l, none⟩, false, [])
@[reducible] def Os (e a b : Nat) : COp := ⟨none, .st e (.t a) (.t b), none⟩
@[reducible] def Qs (e a b : Nat) : COp × Bool × List Opd := (⟨none, .st e (.t a) (.t b), none⟩, true, [])
theorem au0 {p : Prop} (h : p := by first | exact rfl | exact Nat.le_of_ble_eq_true rfl | decide | omega) : p := h
theorem au1 {p : Prop} (h : p := by first | (simp only [List.length_set]; assumption) | assumption | omega) : p := h
theorem au2 {p : Prop} (h : p := by first | exact elt_set (by first | assumption | (simp only [List.length_set]; assumption)) | assumption) : p := h
theorem au3 {p : Prop} (h : p := by first | assumption | (simp only [List.length_set]; assumption)) : p := h
end Go.Ab
