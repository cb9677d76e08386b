/- Steps towards the law: the machine, contracts of functions and facts of lists. -/
import Derived.Test.YtalddljlemppnaaAb9
set_option linter.unusedSimpArgs false
set_option linter.unusedVariables false
namespace Go.Ab
open Go Go.RowKit
/-! ### Guarded operations without a split: what a slot holds where some earlier tests went so -/
structure En where
 s : Nat
 p : List (Nat × Bool)
 d : D
def En.find : List En → Nat → Option (List (Nat × Bool) × D)
 | [], _ => none
 | ⟨s, p, d⟩ :: e, i => bif s == i then some (p, d) else En.find e i
def memP (t : Nat) (w : Bool) : List (Nat × Bool) → Bool
 | [] => false
 | (t', w') :: g => (t == t' && w == w') || memP t w g
def subP : List (Nat × Bool) → List (Nat × Bool) → Bool
 | [], _ => true
 | (t, w) :: p, g => memP t w g && subP p g
def notS (s : Nat) : List (Nat × Bool) → Bool
 | [] => true
 | (t, _) :: g => !(t == s) && notS s g
def noP (s : Nat) : List En → Bool
 | [] => true
 | ⟨_, p, _⟩ :: e => notS s p && noP s e
def look (fr : Nat → D) (e : List En) (i : Nat) : D := match En.find e i with
 | some (_, d) => d
 | none => fr i
def openS (st : St) (e : List En) : St := { st with fr := look st.fr e }
def okX (e : List En) (g : List (Nat × Bool)) : Opd → Bool
 | .t i => match En.find e i with
  | some (p, _) => subP p g
  | none => true
 | .k _ => true
def okL (e : List En) (g : List (Nat × Bool)) : List Opd → Bool
 | [] => true
 | x :: xs => okX e g x && okL e g xs
def frD (e : List En) (s : Nat) : Bool := (En.find e s).isNone && noP s e
def frE (e : List En) (s : Nat) (g : List (Nat × Bool)) : Bool := noP s e && notS s g
def gOf (st : St) (e : List En) (t : Nat) : Option (List (Nat × Bool)) := match En.find e t with
 | some (p, .bool _) => some p
 | some _ => none
 | none => match st.fr t with
  | .bool _ => some []
  | _ => none
def under (st : St) (e : List En) : List (Nat × Bool) → Prop → Prop
 | [], p => p
 | (t, w) :: g, p => match look st.fr e t with
  | .bool c => c = w → under st e g p
  | _ => False
def XOp.opds : XOp → List Opd
 | .mv x | .nilc x | .not x | .neg x | .cvi _ x | .cvs x | .fa _ _ _ x | .fld _ _ _ _ x | .ld _ _ x | .ext x _ | .lens x | .lenl x | .bst x | .capl x => [x]
 | .slc3 x lo hi mx => [x, lo, hi, mx]
 | .bin _ x y | .binb _ x y | .ptb _ x y | .cmp _ _ x y | .ix _ x y | .sx x y | .lk x y | .mnx _ x y => [x, y]
 | .slc _ _ x lo hi => x :: (lo.toList ++ hi.toList)
 | .fnm _ xs => xs
 | .bld _ ps => ps.map (·.2.2.2)
 | _ => []
/-- Lists that are taken without a split. -/
def XOp.ixB : XOp → Bool
 | .ix .. => true
 | .ld .. => true
 | .st .. => true
 | _ => false
def lzOk (l : List COp) : Bool := l.any fun o => o.gd.isSome || o.op.ixB
theorem memP_mem : ∀ {g : List (Nat × Bool)} {t : Nat} {w : Bool}, memP t w g = true → (t, w) ∈ g
 | (t', w') :: g, t, w, h => by
  simp only [memP, Bool.or_eq_true, Bool.and_eq_true, beq_iff_eq] at h
  rcases h with ⟨rfl, rfl⟩ | h
  ·exact List.mem_cons_self ..
  ·exact List.mem_cons_of_mem _ (memP_mem h)
 | [], _, _, h => by simp [memP] at h
def holdsP (fr : Nat → D) (p : List (Nat × Bool)) : Prop := ∀ x ∈ p, fr x.1 = .bool x.2
theorem subP_holds {fr : Nat → D} : ∀ {p g : List (Nat × Bool)}, subP p g = true → holdsP fr g → holdsP fr p
 | [], g, _, _ => fun x hx => by simp at hx
 | (t, w) :: p, g, h, hg => by
  simp only [subP, Bool.and_eq_true] at h
  intro x hx
  rcases List.mem_cons.1 hx with rfl | hx
  ·exact hg _ (memP_mem h.1)
  ·exact subP_holds h.2 hg x hx
theorem notS_ne : ∀ {p : List (Nat × Bool)} {s : Nat}, notS s p = true → ∀ x ∈ p, x.1 ≠ s
 | (t, w) :: p, s, h, x, hx => by
  simp only [notS, Bool.and_eq_true, Bool.not_eq_true', beq_eq_false_iff_ne] at h
  rcases List.mem_cons.1 hx with rfl | hx
  ·exact h.1
  ·exact notS_ne h.2 x hx
 | [], _, _, x, hx => by simp at hx
theorem holdsP_upd {fr : Nat → D} {p : List (Nat × Bool)} {s : Nat} (v : D) (h : notS s p = true) : holdsP (upd fr s v) p ↔ holdsP fr p := by
 constructor <;> intro q x hx <;> have := q x hx <;> have hne := notS_ne h x hx
 ·rwa [upd_apply, if_neg hne] at this
 ·rwa [upd_apply, if_neg hne]
theorem noP_find : ∀ {e : List En} {s i : Nat} {p : List (Nat × Bool)} {d : D}, noP s e = true → En.find e i = some (p, d) → notS s p = true
 | ⟨s', p', d'⟩ :: e, s, i, p, d, h, hf => by
  simp only [noP, Bool.and_eq_true] at h
  simp only [En.find] at hf
  cases hq : s' == i with
  | true => simp [hq] at hf; obtain ⟨rfl, rfl⟩ := hf; exact h.1
  | false => simp [hq] at hf; exact noP_find h.2 hf
 | [], _, _, _, _, _, hf => by simp [En.find] at hf
structure Inv (st : St) (e : List En) (fr : Nat → D) : Prop where
 no : ∀ i, En.find e i = none → fr i = st.fr i
 yes : ∀ i p d, En.find e i = some (p, d) → holdsP fr p → fr i = d
 un : ∀ i p d, En.find e i = some (p, d) → ¬ holdsP fr p → fr i = .undef
section
variable {P : Program} {q : Bool} {n : Nat} {st : St} {e : List En} {fr : Nat → D} {K : St → Prop}
theorem Inv.ev (h : Inv st e fr) {g : List (Nat × Bool)} {x : Opd} (hx : okX e g x = true) (hg : holdsP fr g) : x.ev { st with fr := fr } = x.ev (openS st e) := by
 cases x with
 | k d => rfl
 | t i =>
  show fr i = look st.fr e i
  unfold look
  simp only [okX] at hx
  cases hf : En.find e i with
  | none => exact h.no i hf
  | some r => obtain ⟨p, d⟩ := r; rw [hf] at hx; exact h.yes i p d hf (subP_holds hx hg)
theorem Inv.evL (h : Inv st e fr) {g : List (Nat × Bool)} (hg : holdsP fr g) : ∀ {xs : List Opd}, okL e g xs = true → ∀ x ∈ xs, x.ev { st with fr := fr } = x.ev (openS st e)
 | x :: xs, hx, y, hy => by
  simp only [okL, Bool.and_eq_true] at hx
  rcases List.mem_cons.1 hy with rfl | hy
  ·exact h.ev hx.1 hg
  ·exact h.evL hg hx.2 y hy
 | [], _, y, hy => by simp at hy
theorem Inv.put (h : Inv st e fr) {s : Nat} (hd : frD e s = true) (d : D) : Inv (st.put s d) e (upd fr s d) := by
 simp only [frD, Bool.and_eq_true, Option.isNone_iff_eq_none] at hd
 refine ⟨fun i hi => ?_, fun i p d' hi hp => ?_, fun i p d' hi hp => ?_⟩
 ·show upd fr s d i = upd st.fr s d i
  simp only [upd_apply]
  split
  ·rfl
  ·exact h.no i hi
 all_goals
  have hne : i ≠ s := fun e => by rw [e, hd.1] at hi; cases hi
  rw [upd_apply, if_neg hne]
  rw [holdsP_upd d (noP_find hd.2 hi)] at hp
 ·exact h.yes i p d' hi hp
 ·exact h.un i p d' hi hp
theorem Inv.add (h : Inv st e fr) {s : Nat} {g : List (Nat × Bool)} {d v : D} (hd : frE e s g = true) (h1 : holdsP fr g → v = d) (h2 : ¬ holdsP fr g → v = .undef) : Inv st (⟨s, g, d⟩ :: e) (upd fr s v) := by
 simp only [frE, Bool.and_eq_true] at hd
 refine ⟨fun i hi => ?_, fun i p d' hi hp => ?_, fun i p d' hi hp => ?_⟩
 all_goals
  simp only [En.find] at hi
  cases hq : s == i
 ·simp [hq] at hi
  have hne : i ≠ s := fun e => by rw [e] at hq; simp at hq
  rw [upd_apply, if_neg hne]
  exact h.no i hi
 ·simp [hq] at hi
 ·simp [hq] at hi
  have hne : i ≠ s := fun e => by rw [e] at hq; simp at hq
  rw [upd_apply, if_neg hne]
  rw [holdsP_upd v (noP_find hd.1 hi)] at hp
  exact h.yes i p d' hi hp
 ·simp [hq] at hi
  obtain ⟨rfl, rfl⟩ := hi
  have he : i = s := by simpa using (beq_iff_eq.1 hq).symm
  rw [upd_apply, if_pos he]
  rw [holdsP_upd v hd.2] at hp
  exact h1 hp
 ·simp [hq] at hi
  have hne : i ≠ s := fun e => by rw [e] at hq; simp at hq
  rw [upd_apply, if_neg hne]
  rw [holdsP_upd v (noP_find hd.1 hi)] at hp
  exact h.un i p d' hi hp
 ·simp [hq] at hi
  obtain ⟨rfl, rfl⟩ := hi
  have he : i = s := by simpa using (beq_iff_eq.1 hq).symm
  rw [upd_apply, if_pos he]
  rw [holdsP_upd v hd.2] at hp
  exact h2 hp
theorem under_elim (h : Inv st e fr) {p : Prop} : ∀ {g : List (Nat × Bool)}, holdsP fr g → under st e g p → p
 | [], _, hu => hu
 | (t, w) :: g, hg, hu => by
  simp only [under] at hu
  have ht : fr t = .bool w := hg (t, w) (List.mem_cons_self ..)
  have hr : holdsP fr g := fun x hx => hg x (List.mem_cons_of_mem _ hx)
  have key : ∀ c, look st.fr e t = .bool c → c = w := fun c hc => by
   unfold look at hc
   cases hf : En.find e t with
   | none =>
    rw [hf] at hc
    have := h.no t hf
    rw [ht] at this
    rw [← this] at hc
    simpa using hc.symm
   | some r =>
    obtain ⟨pp, d⟩ := r
    rw [hf] at hc
    simp only at hc
    subst hc
    by_cases hh : holdsP fr pp
    ·have := h.yes t _ _ hf hh
     rw [ht] at this
     simpa using this.symm
    ·have := h.un t _ _ hf hh
     rw [ht] at this
     cases this
  cases hl : look st.fr e t <;> rw [hl] at hu <;> first | exact hu.elim | exact under_elim h hr (hu (key _ hl))
theorem xp_fr {f1 f2 : Nat → D} {K : D → Prop} {op : XOp} (hp : op.pureB = true) (ho : ∀ x ∈ op.opds, x.ev { st with fr := f2 } = x.ev { st with fr := f1 }) (h : xp { st with fr := f1 } K op) : xp { st with fr := f2 } K op := by
 cases op <;> simp only [XOp.pureB, Bool.false_eq_true] at hp <;> simp only [XOp.opds, List.mem_cons, List.not_mem_nil, or_false, forall_eq_or_imp, forall_eq] at ho <;> simp only [xp] at h ⊢
 case slc es tx x lo hi =>
  have e1 : ∀ K, xblo { st with fr := f2 } lo K = xblo { st with fr := f1 } lo K := fun K => by cases lo with | none => rfl | some y => show xbnd K _ = xbnd K _; rw [ho.2 y (by simp)]
  have e2 : ∀ m K, xbhi { st with fr := f2 } m hi K = xbhi { st with fr := f1 } m hi K := fun m K => by cases hi with | none => rfl | some y => show xbnd K _ = xbnd K _; rw [ho.2 y (by simp)]
  simp only [e1, e2, ho.1]
  exact h
 case slc3 => rw [ho.1, ho.2.1, ho.2.2.1, ho.2.2.2]; exact h
 case ld => rw [ho]; exact xload_fr h
 case lk => rw [ho.1, ho.2]; exact xlk_fr h
 case bst => rw [ho]; exact xbst_fr h
 case bld z ps =>
  have e : (ps.map fun p => (p.1, p.2.1, p.2.2.1, p.2.2.2.ev { st with fr := f2 })) = ps.map fun p => (p.1, p.2.1, p.2.2.1, p.2.2.2.ev { st with fr := f1 }) := List.map_congr_left fun p hp => by rw [ho p.2.2.2 (List.mem_map.2 ⟨p, hp, rfl⟩)]
  rw [e]
  exact h
 case fnm f xs =>
  have e : xs.map (Opd.ev { st with fr := f2 }) = xs.map (Opd.ev { st with fr := f1 }) := List.map_congr_left fun x hx => ho x hx
  rw [e]
  exact h
 all_goals first | (rw [ho]; exact h) | (rw [ho.1, ho.2]; exact h)
def XX (q : Bool) (P : Program) (n : Nat) (os : List COp) (st : St) (K : St → Prop) : Prop := match q with
 | true => xqs P n os st K
 | false => xos P n os st K
def xo1 (q : Bool) (P : Program) (n : Nat) (dst : Option Nat) (op : XOp) (st : St) (k : St → Prop) : Prop := match q with
 | true => xq P st (fun d => putS n dst d st k) op
 | false => xo P dst st (fun d st' => putS n dst d st' k) op
theorem XX_none {dst : Option Nat} {op : XOp} {os : List COp} : XX q P n (⟨dst, op, none⟩ :: os) st K = xo1 q P n dst op st (fun st2 => XX q P n os st2 K) := by cases q <;> rfl
theorem XX_some {dst : Option Nat} {op : XOp} {os : List COp} {t : Nat} {w : Bool} : XX q P n (⟨dst, op, some (t, w)⟩ :: os) st K = xguard (st.fr t) w (xo1 q P n dst op st (fun st2 => XX q P n os st2 K)) (putN n dst .undef st fun st2 => XX q P n os st2 K) := by cases q <;> rfl
theorem xo1_pure {dst : Option Nat} {op : XOp} {k : St → Prop} (hp : op.pureB = true) (h : xp st (fun d => putS n dst d st k) op) : xo1 q P n dst op st k := by
 cases q <;> cases op <;> first | exact h | (simp [XOp.pureB] at hp)
theorem xo1_call {dst : Option Nat} {f : Nat} {xs : List Opd} {k : St → Prop} {d : D} (hnl : (xs.map (Opd.ev st)).all D.noL = true) (hR : QR P f (xs.map (Opd.ev st)) st d) (h : putS n dst d st k) : xo1 q P n dst (.call f xs) st k := by
 cases q
 ·exact ⟨hnl, XCL.of_QR hR h⟩
 ·exact ⟨hnl, ⟨d, h, hR⟩⟩
theorem xo1_pick {dst : Option Nat} {c a b : Opd} {k : St → Prop} (h : xpick (c.ev st) (putS n dst (a.ev st) st k) (putS n dst (b.ev st) st k)) : xo1 q P n dst (.pick c a b) st k := by
 cases q <;> exact h
theorem xguard_bool {c w : Bool} {A B : Prop} (ha : c = w → A) (hb : c ≠ w → B) : xguard (.bool c) w A B := by
 cases w
 ·exact ⟨fun e => hb (by simp [e]), fun e => ha e⟩
 ·exact ⟨fun e => ha e, fun e => hb (by simp [e])⟩
structure LZ (P : Program) (q : Bool) (n : Nat) (os : List COp) (st : St) (e : List En) (K : St → Prop) : Prop where
 run : ∀ fr, Inv st e fr → XX q P n os { st with fr := fr } K
theorem LZ.start {os : List COp} (h : LZ P q n os st [] K) : XX q P n os st K := h.run st.fr ⟨fun _ _ => rfl, fun i p d h => by simp [En.find] at h, fun i p d h => by simp [En.find] at h⟩
theorem zs_ops {l : List COp} {Q : Post} (hl : lzOk l = true) (h : LZ P false n l st [] fun st' => Q .normal st') : xw P n (.ops l) st Q := h.start
theorem zs_quiet {l : List COp} {Q : Post} (hl : lzOk l = true) (h : LZ P true n l st [] fun st' => Q .normal st') : xw P n (.quiet l) st Q := h.start
def fillS (st : St) (e : List En) (vals : Nat → D) : St := { st with fr := fun i => match En.find e i with
 | some _ => vals i
 | none => st.fr i }
theorem z_nil (h : ∀ vals : Nat → D, K (fillS st e vals)) : LZ P q n [] st e K := by
 refine ⟨fun fr hI => ?_⟩
 have e1 : fillS st e fr = { st with fr := fr } := by
  unfold fillS
  congr 1
  funext i
  cases hf : En.find e i with
  | none => exact (hI.no i hf).symm
  | some r => rfl
 have := h fr
 rw [e1] at this
 cases q <;> exact this
theorem LZ.k {os : List COp} {s : Nat} {d : D} (hI : Inv st e fr) (hd : frD e s = true) (h : putS n (some s) d st fun st2 => LZ P q n os st2 e K) : putS n (some s) d { st with fr := fr } fun st2 => XX q P n os st2 K := by
 rw [putS_eq] at h ⊢
 exact ⟨h.1, h.2.run (upd fr s d) (hI.put hd d)⟩
theorem LZ.kg {os : List COp} {s : Nat} {g : List (Nat × Bool)} {d v : D} (hI : Inv st e fr) (hd : frE e s g = true) (hn : s < n) (h1 : holdsP fr g → v = d) (h2 : ¬ holdsP fr g → v = .undef) (h : LZ P q n os st (⟨s, g, d⟩ :: e) K) : putS n (some s) v { st with fr := fr } fun st2 => XX q P n os st2 K := by
 rw [putS_eq]
 exact ⟨hn, h.run (upd fr s v) (hI.add hd h1 h2)⟩
theorem nilP {fr : Nat → D} : holdsP fr [] := fun x hx => by simp at hx
theorem z_op {s : Nat} {op : XOp} {os : List COp} (hh : (op.pureB && okL e [] op.opds && frD e s) = true) (h : xp (openS st e) (fun d => putS n (some s) d st fun st2 => LZ P q n os st2 e K) op) : LZ P q n (⟨some s, op, none⟩ :: os) st e K := by
 simp only [Bool.and_eq_true] at hh
 obtain ⟨⟨hp, ho⟩, hd⟩ := hh
 exact ⟨fun fr hI => by
  rw [XX_none]
  exact xo1_pure hp (xp_fr hp (hI.evL nilP ho) (xp_mono (fun d hk => LZ.k hI hd hk) h))⟩
theorem z_eff {dst : Option Nat} {op : XOp} {os : List COp} (h : xo P dst st (fun d st' => putS n dst d st' fun st2 => LZ P false n os st2 [] K) op) : LZ P false n (⟨dst, op, none⟩ :: os) st [] K :=
 ⟨fun fr hI => by
  have e1 : fr = st.fr := funext fun i => hI.no i rfl
  subst e1
  rw [XX_none]
  show xo P dst st (fun d st' => putS n dst d st' fun st2 => XX false P n os st2 K) op
  refine xo_mono (fun d st' hk => ?_) h
  rw [putS_eq] at hk ⊢
  exact putN_mono (fun st2 h2 => h2.start) hk⟩
/-- A guarded step. -/
theorem LZ.guard {s t : Nat} {w : Bool} {op : XOp} {os : List COp} {g : List (Nat × Bool)} {d : D} (hg : gOf st e t = some g) (hd : frE e s ((t, w) :: g) = true) (hn : s < n)
  (hx : ∀ fr (k : St → Prop), Inv st e fr → holdsP fr ((t, w) :: g) → (putS n (some s) d { st with fr := fr } k) → xo1 q P n (some s) op { st with fr := fr } k)
  (hK : LZ P q n os st (⟨s, (t, w) :: g, d⟩ :: e) K) : LZ P q n (⟨some s, op, some (t, w)⟩ :: os) st e K :=
 ⟨fun fr hI => by
  rw [XX_some]
  have hskip : ¬ holdsP fr ((t, w) :: g) → putN n (some s) .undef { st with fr := fr } fun st2 => XX q P n os st2 K := fun hh => by
   have := LZ.kg (v := .undef) hI hd hn (fun h => absurd h hh) (fun _ => rfl) hK
   rw [putS_eq] at this
   exact this
  have key : (holdsP fr g ∧ ∃ c, fr t = .bool c) ∨ (¬ holdsP fr g ∧ fr t = .undef) := by
   unfold gOf at hg
   cases hf : En.find e t with
   | none =>
    rw [hf] at hg
    simp only at hg
    cases hs : st.fr t <;> rw [hs] at hg <;> simp at hg
    subst hg
    exact .inl ⟨nilP, _, (hI.no t hf).trans hs⟩
   | some r =>
    obtain ⟨p, d'⟩ := r
    rw [hf] at hg
    cases d' <;> simp at hg
    subst hg
    by_cases hh : holdsP fr p
    ·exact .inl ⟨hh, _, hI.yes t _ _ hf hh⟩
    ·exact .inr ⟨hh, hI.un t _ _ hf hh⟩
  rcases key with ⟨hh, c, hc⟩ | ⟨hh, hu⟩
  ·show xguard (fr t) w _ _
   rw [hc]
   refine xguard_bool (fun hcw => ?_) (fun hcw => ?_)
   ·have hall : holdsP fr ((t, w) :: g) := fun x hx => by
     rcases List.mem_cons.1 hx with rfl | hx
     ·rw [hc, hcw]
     ·exact hh x hx
    exact hx fr _ hI hall (LZ.kg hI hd hn (fun _ => rfl) (fun h => absurd hall h) hK)
   ·refine hskip fun h => hcw ?_
    have := h (t, w) (List.mem_cons_self ..)
    rw [hc] at this
    simpa using this
  ·show xguard (fr t) w _ _
   rw [hu]
   have : putN n (some s) .undef { st with fr := fr } fun st2 => XX q P n os st2 K := hskip fun h => hh fun x hx => h x (List.mem_cons_of_mem _ hx)
   cases w <;> exact this⟩
def gK (st : St) (e : List En) (t : Nat) (K : List (Nat × Bool) → Prop) : Prop := match En.find e t with
 | some (p, .bool _) => K p
 | some _ => False
 | none => match st.fr t with
  | .bool _ => K []
  | _ => False
theorem gK_val {st : St} {e : List En} {t : Nat} {K : List (Nat × Bool) → Prop} (h : gK st e t K) : ∃ g, gOf st e t = some g ∧ K g := by
 unfold gK at h
 unfold gOf
 split at h
 ·exact ⟨_, by simp only [*], h⟩
 ·exact h.elim
 ·split at h
  ·exact ⟨_, by simp only [*], h⟩
  ·exact h.elim
theorem z_opg0 {s t : Nat} {w : Bool} {op : XOp} {os : List COp}
  (h : gK st e t fun g => (op.pureB && okL e ((t, w) :: g) op.opds && frE e s ((t, w) :: g) && Nat.ble (s + 1) n) = true ∧ xp (openS st e) (fun d => deepK d fun d => LZ P q n os st (⟨s, (t, w) :: g, d⟩ :: e) K) op) : LZ P q n (⟨some s, op, some (t, w)⟩ :: os) st e K := by
 obtain ⟨g, hg, hh, h⟩ := gK_val h
 simp only [Bool.and_eq_true] at hh
 obtain ⟨⟨⟨hp, ho⟩, hd⟩, hn⟩ := hh
 obtain ⟨d, hK, hx⟩ := xp_val hp h
 rw [deepK_eq] at hK
 exact LZ.guard hg hd (Nat.le_of_ble_eq_true hn) (fun fr k hI hh hk => xo1_pure hp (xp_fr hp (hI.evL hh ho) (xp_mono (fun d' e' => by rw [e']; exact hk) hx))) hK
/-- A guard that is known to go the other way. -/
theorem z_skip {s t : Nat} {w : Bool} {op : XOp} {os : List COp} (hc : look st.fr e t = .bool (!w))
  (h : gK st e t fun g => (frE e s ((t, w) :: g) && Nat.ble (s + 1) n) = true ∧ LZ P q n os st (⟨s, (t, w) :: g, .bool false⟩ :: e) K) : LZ P q n (⟨some s, op, some (t, w)⟩ :: os) st e K := by
 obtain ⟨g, hg, hh, h⟩ := gK_val h
 simp only [Bool.and_eq_true] at hh
 refine LZ.guard hg hh.1 (Nat.le_of_ble_eq_true hh.2) (fun fr k hI hall _ => ?_) h
 have : under st e [(t, w)] False := by
  simp only [under, hc]
  intro hw
  cases w <;> cases hw
 exact (under_elim hI (g := [(t, w)]) (fun x hx => hall x (by simp at hx; subst hx; exact List.mem_cons_self ..)) this).elim
theorem z_skipT {s t : Nat} {op : XOp} {os : List COp} (hc : look st.fr e t = .bool true)
  (h : gK st e t fun g => (frE e s ((t, false) :: g) && Nat.ble (s + 1) n) = true ∧ LZ P q n os st (⟨s, (t, false) :: g, .bool false⟩ :: e) K) : LZ P q n (⟨some s, op, some (t, false)⟩ :: os) st e K := z_skip hc h
theorem z_skipF {s t : Nat} {op : XOp} {os : List COp} (hc : look st.fr e t = .bool false)
  (h : gK st e t fun g => (frE e s ((t, true) :: g) && Nat.ble (s + 1) n) = true ∧ LZ P q n os st (⟨s, (t, true) :: g, .bool false⟩ :: e) K) : LZ P q n (⟨some s, op, some (t, true)⟩ :: os) st e K := z_skip hc h
theorem z_skipT' {s t : Nat} {op : XOp} {os : List COp} (hc : look st.fr e t = .bool (!false))
  (h : gK st e t fun g => (frE e s ((t, false) :: g) && Nat.ble (s + 1) n) = true ∧ LZ P q n os st (⟨s, (t, false) :: g, .bool false⟩ :: e) K) : LZ P q n (⟨some s, op, some (t, false)⟩ :: os) st e K := z_skip hc h
structure RC (P : Program) (q : Bool) (f : Nat) (ds : List D) (st : St) (K : D → Prop) : Prop where
 ex : ∃ d, QR P f ds st d ∧ K d
theorem RC.of {f : Nat} {ds : List D} {d : D} {K : D → Prop} (h : Rdr P f ds d) (hq : true = true) (hk : K d) : RC P q f ds st K := ⟨d, .inl h, hk⟩
theorem RC.ofB {f : Nat} {ds ds' : List D} {d : D} {K : D → Prop} (h : Rdr P f ds' d) (hb : BorL st ds ds') (hp : d.plainB = true) (hk : K d) : RC P q f ds st K := ⟨d, .inr ⟨ds', hb, h, hp⟩, hk⟩
theorem z_callg0 {s t f : Nat} {w : Bool} {xs : List Opd} {os : List COp}
  (h : gK st e t fun g => (okL e ((t, w) :: g) xs && frE e s ((t, w) :: g) && Nat.ble (s + 1) n && (xs.map (Opd.ev (openS st e))).all D.noL) = true ∧ RC P q f (xs.map (Opd.ev (openS st e))) st fun d => LZ P q n os st (⟨s, (t, w) :: g, d⟩ :: e) K) : LZ P q n (⟨some s, .call f xs, some (t, w)⟩ :: os) st e K := by
 obtain ⟨g, hg, hh, h⟩ := gK_val h
 simp only [Bool.and_eq_true] at hh
 obtain ⟨⟨⟨ho, hd⟩, hn⟩, hnl⟩ := hh
 obtain ⟨d, hR, hK⟩ := h.ex
 exact LZ.guard hg hd (Nat.le_of_ble_eq_true hn) (fun fr k hI hh hk => by
  have ev : xs.map (Opd.ev { st with fr := fr }) = xs.map (Opd.ev (openS st e)) := List.map_congr_left fun x hx => hI.evL hh ho x hx
  exact xo1_call (by rw [ev]; exact hnl) (by rw [ev]; exact hR.fr) hk) hK
theorem z_call {s f : Nat} {xs : List Opd} {os : List COp} (hh : (okL e [] xs && frD e s && (xs.map (Opd.ev (openS st e))).all D.noL) = true)
  (h : RC P q f (xs.map (Opd.ev (openS st e))) st fun d => putS n (some s) d st fun st2 => LZ P q n os st2 e K) : LZ P q n (⟨some s, .call f xs, none⟩ :: os) st e K := by
 simp only [Bool.and_eq_true] at hh
 obtain ⟨⟨ho, hd⟩, hnl⟩ := hh
 obtain ⟨d, hR, h⟩ := h.ex
 exact ⟨fun fr hI => by
  rw [XX_none]
  have ev : xs.map (Opd.ev { st with fr := fr }) = xs.map (Opd.ev (openS st e)) := List.map_congr_left fun x hx => hI.evL nilP ho x hx
  exact xo1_call (by rw [ev]; exact hnl) (by rw [ev]; exact hR.fr) (LZ.k hI hd h)⟩
structure IX (P : Program) (q : Bool) (n : Nat) (s es : Nat) (x i : Opd) (os : List COp) (st : St) (e : List En) (K : St → Prop) : Prop where
 h : LZ P q n (⟨some s, .ix es x i, none⟩ :: os) st e K
structure IXG (P : Program) (q : Bool) (n : Nat) (s es : Nat) (x i : Opd) (t : Nat) (w : Bool) (os : List COp) (st : St) (e : List En) (K : St → Prop) : Prop where
 h : LZ P q n (⟨some s, .ix es x i, some (t, w)⟩ :: os) st e K
theorem z_ix1 {s es : Nat} {x i : Opd} {os : List COp} (h : IX P q n s es x i os st e K) : LZ P q n (⟨some s, .ix es x i, none⟩ :: os) st e K := h.h
theorem z_ix1g {s es t : Nat} {w : Bool} {x i : Opd} {os : List COp} (h : IXG P q n s es x i t w os st e K) : LZ P q n (⟨some s, .ix es x i, some (t, w)⟩ :: os) st e K := h.h
theorem z_ix0 {s es : Nat} {x i : Opd} {os : List COp} (ho : okL e [] [x, i] = true) (hd : frD e s = true) (h : xp (openS st e) (fun d => putS n (some s) d st fun st2 => LZ P q n os st2 e K) (.ix es x i)) : IX P q n s es x i os st e K := ⟨z_op (by simp only [Bool.and_eq_true]; exact ⟨⟨rfl, ho⟩, hd⟩) h⟩
theorem z_ix {s es : Nat} {x i : Opd} {os : List COp} {α : Type} [Inhabited α] {F : α → D} {xs : List α} {k : IntKind} {m : Int} (hx : x.ev (openS st e) = .ro es (xs.map F)) (hi : i.ev (openS st e) = .int k m) (ho : okL e [] [x, i] = true) (hd : frD e s = true) (hes : Nat.ble 1 es = true) (h0 : 0 ≤ m ∧ m < xs.length)
  (h : putS n (some s) (.cref (F (xs.getD m.toNat default))) st fun st2 => LZ P q n os st2 e K) : IX P q n s es x i os st e K :=
 ⟨z_op (by simp only [Bool.and_eq_true]; exact ⟨⟨rfl, ho⟩, hd⟩) (by
  simp only [xp, hx, hi, xidx]
  have hlt : m.toNat < xs.length := by omega
  refine ⟨trivial, by have := Nat.le_of_ble_eq_true hes; omega, h0.1, by simpa using h0.2, ?_⟩
  have e1 : (xs.map F).getD m.toNat .any = F (xs.getD m.toNat default) := by simp [hlt]
  rw [e1]
  exact h)⟩
theorem z_ixg {s t es : Nat} {w : Bool} {x i : Opd} {os : List COp} {g : List (Nat × Bool)} {α : Type} [Inhabited α] {F : α → D} {xs : List α} {k : IntKind} {m : Int} (hg : gOf st e t = some g) (hx : x.ev (openS st e) = .ro es (xs.map F)) (hi : i.ev (openS st e) = .int k m) (ho : okL e ((t, w) :: g) [x, i] = true) (hd : frE e s ((t, w) :: g) = true) (hn : Nat.ble (s + 1) n = true) (hes : Nat.ble 1 es = true)
  (h0 : under st e ((t, w) :: g) (0 ≤ m ∧ m < xs.length))
  (hK : LZ P q n os st (⟨s, (t, w) :: g, .cref (F (xs.getD m.toNat default))⟩ :: e) K) : IXG P q n s es x i t w os st e K :=
 ⟨LZ.guard hg hd (Nat.le_of_ble_eq_true hn) (fun fr k hI hh hk => xo1_pure rfl (xp_fr rfl (hI.evL hh ho) (by
  have h0 := under_elim hI hh h0
  show xp (openS st e) _ _
  simp only [xp, hx, hi, xidx]
  have hlt : m.toNat < xs.length := by omega
  refine ⟨trivial, by have := Nat.le_of_ble_eq_true hes; omega, h0.1, by simpa using h0.2, ?_⟩
  have e1 : (xs.map F).getD m.toNat .any = F (xs.getD m.toNat default) := by simp [hlt]
  rw [e1]
  exact hk))) hK⟩
/-! ### Loads and stores in rows -/
structure LD (P : Program) (q : Bool) (n : Nat) (s sz : Nat) (ag : Bool) (x : Opd) (os : List COp) (st : St) (e : List En) (K : St → Prop) : Prop where
 h : LZ P q n (⟨some s, .ld sz ag x, none⟩ :: os) st e K
structure LDG (P : Program) (q : Bool) (n : Nat) (s sz : Nat) (ag : Bool) (x : Opd) (t : Nat) (w : Bool) (os : List COp) (st : St) (e : List En) (K : St → Prop) : Prop where
 h : LZ P q n (⟨some s, .ld sz ag x, some (t, w)⟩ :: os) st e K
theorem z_ld1 {s sz : Nat} {ag : Bool} {x : Opd} {os : List COp} (h : LD P q n s sz ag x os st e K) : LZ P q n (⟨some s, .ld sz ag x, none⟩ :: os) st e K := h.h
theorem z_ld1g {s sz t : Nat} {ag w : Bool} {x : Opd} {os : List COp} (h : LDG P q n s sz ag x t w os st e K) : LZ P q n (⟨some s, .ld sz ag x, some (t, w)⟩ :: os) st e K := h.h
theorem z_ld0 {s sz : Nat} {ag : Bool} {x : Opd} {os : List COp} (hh : (okL e [] [x] && frD e s) = true) (h : xp (openS st e) (fun d => putS n (some s) d st fun st2 => LZ P q n os st2 e K) (.ld sz ag x)) : LD P q n s sz ag x os st e K := ⟨z_op (by simp only [Bool.and_eq_true] at hh ⊢; exact ⟨⟨rfl, hh.1⟩, hh.2⟩) h⟩
theorem z_ld0g {s sz t : Nat} {ag w : Bool} {x : Opd} {os : List COp} (h : gK st e t fun g => ((XOp.ld sz ag x).pureB && okL e ((t, w) :: g) (XOp.ld sz ag x).opds && frE e s ((t, w) :: g) && Nat.ble (s + 1) n) = true ∧ xp (openS st e) (fun d => deepK d fun d => LZ P q n os st (⟨s, (t, w) :: g, d⟩ :: e) K) (.ld sz ag x)) : LDG P q n s sz ag x t w os st e K := ⟨z_opg0 h⟩
theorem z_ld {s sz k b j o : Nat} {ag : Bool} {x : Opd} {os : List COp} {p : List Nat} {es cp : Nat} {ds : List D} {el : D} (hx : x.ev (openS st e) = .lref k b (j :: p) o) (hl : st.lc k = some (.arr es ds cp)) (hb : st.gen k = b) (hh : (okL e [] [x] && frD e s) = true) (hj : j < ds.length) (hel : ds.getD j .any = el)
  (h : xpart sz ag o (j * es) (el.at p) fun d => putS n (some s) d st fun st2 => LZ P q n os st2 e K) : LD P q n s sz ag x os st e K :=
 ⟨z_op (by simp only [Bool.and_eq_true] at hh ⊢; exact ⟨⟨rfl, hh.1⟩, hh.2⟩) (by
  simp only [xp, hx, xload]
  refine ⟨hb, ?_⟩
  show match st.lc k with
   | some c => xcont sz ag o c (j :: p) _
   | none => False
  rw [hl]
  refine ⟨hj, ?_⟩
  rw [hel]
  exact h)⟩
theorem z_ldg {s sz k b j o t : Nat} {w ag : Bool} {x : Opd} {os : List COp} {g : List (Nat × Bool)} {p : List Nat} {es cp : Nat} {ds : List D} {el d : D} {o' : Nat} (hg : gOf st e t = some g) (hx : x.ev (openS st e) = .lref k b (j :: p) o) (hl : st.lc k = some (.arr es ds cp)) (hb : st.gen k = b) (ho : okL e ((t, w) :: g) [x] = true) (hd : frE e s ((t, w) :: g) = true) (hn : Nat.ble (s + 1) n = true) (hj : under st e ((t, w) :: g) (j < ds.length ∧ ds.getD j .any = el))
  (hat : el.at p = some (d, o')) (hoo : j * es + o' = o) (hsz : d.len = sz) (hag : d.isAgg = ag)
  (hK : deepK d.bare fun d => LZ P q n os st (⟨s, (t, w) :: g, d⟩ :: e) K) : LDG P q n s sz ag x t w os st e K :=
 ⟨by
  rw [deepK_eq] at hK
  exact LZ.guard hg hd (Nat.le_of_ble_eq_true hn) (fun fr k' hI hh hk => xo1_pure rfl (xp_fr rfl (hI.evL hh ho) (by
   obtain ⟨hj, hel⟩ := under_elim hI hh hj
   show xp (openS st e) _ _
   simp only [xp, hx, xload]
   refine ⟨hb, ?_⟩
   show match st.lc k with
    | some c => xcont sz ag o c (j :: p) _
    | none => False
   rw [hl]
   refine ⟨hj, ?_⟩
   rw [hel, hat]
   exact ⟨hoo, hsz, hag, hk⟩))) hK⟩
structure SW (P : Program) (n : Nat) (sz : Nat) (x y : Opd) (os : List COp) (st : St) (K : St → Prop) : Prop where
 h : LZ P false n (⟨none, .st sz x y, none⟩ :: os) st [] K
theorem z_st1 {sz : Nat} {x y : Opd} {os : List COp} (h : SW P n sz x y os st K) : LZ P false n (⟨none, .st sz x y, none⟩ :: os) st [] K := h.h
theorem z_st0 {sz : Nat} {x y : Opd} {os : List COp} (h : xo P none st (fun d st' => putS n none d st' fun st2 => LZ P false n os st2 [] K) (.st sz x y)) : SW P n sz x y os st K := ⟨z_eff h⟩
theorem z_st {sz k b j o : Nat} {x y : Opd} {os : List COp} {p : List Nat} {es cp : Nat} {ds : List D} {el d0 : D} {o' : Nat} (hx : x.ev st = .lref k b (j :: p) o) (hl : st.lc k = some (.arr es ds cp)) (hb : st.gen k = b) (hj : j < ds.length) (hel : ds.getD j .any = el)
  (hat : el.at p = some (d0, o')) (hoo : j * es + o' = o) (h : deepK (y.ev st) fun d => d.memB = true ∧ d.len = sz ∧ xset (el.set p d) fun c' => deepK c' fun c' => LZ P false n os (st.setLc k (.arr es (ds.set j c') cp)) [] K) : SW P n sz x y os st K :=
 ⟨z_eff (by
  rw [deepK_eq] at h
  simp only [xo, deepK_eq]
  refine ⟨h.1, h.2.1, ?_⟩
  rw [hx, xst_eq]
  refine ⟨hb, ?_⟩
  rw [hl]
  refine ⟨hj, ?_, ?_⟩
  ·rw [hel, hat]; exact hoo
  ·rw [hel]
   have h2 := h.2.2
   unfold xset at h2 ⊢
   split at h2
   ·rw [deepK_eq] at h2
    show putS n none .undef _ _
    rw [putS_eq]
    exact h2
   ·exact h2.elim)⟩
theorem elt_map {α : Type} [Inhabited α] {F : α → D} {xs : List α} {j : Nat} (h : j < xs.length) : (xs.map F).getD j .any = F (xs.getD j default) := by simp [h]
theorem elt_set {ds : List D} {j : Nat} {d : D} (h : j < ds.length) : (ds.set j d).getD j .any = d := by simp [h]
def pickK (cb : Bool) (a b : Opd) (K : D → Prop) : D → D → Prop
 | .bool x, .bool y => match a with
  | .k (.bool true) => K (.bool (cb || y))
  | _ => match b with
   | .k (.bool false) => K (.bool (cb && x))
   | _ => K (.bool (cond cb x y))
 | .int k x, .int k' y => if k = k' then K (.int k (cond cb x y)) else False
 | .str x, .str y => K (.str (cond cb x y))
 | _, _ => False
theorem pickK_sound {cb : Bool} {a b : Opd} {da db : D} {K : D → Prop} (ha : ∀ d, a = .k d → da = d) (hb : ∀ d, b = .k d → db = d) (h : pickK cb a b K da db) : ∃ d, K d ∧ (cb = true → d = da) ∧ (cb = false → d = db) := by
 unfold pickK at h
 split at h
 ·split at h
  ·have := ha _ rfl
   simp only [D.bool.injEq] at this
   subst this
   exact ⟨_, h, by rintro rfl; rfl, by rintro rfl; rfl⟩
  ·split at h
   ·have := hb _ rfl
    simp only [D.bool.injEq] at this
    subst this
    exact ⟨_, h, by rintro rfl; rfl, by rintro rfl; rfl⟩
   ·exact ⟨_, h, by rintro rfl; rfl, by rintro rfl; rfl⟩
 ·split at h
  ·rename_i hk
   subst hk
   exact ⟨_, h, by rintro rfl; rfl, by rintro rfl; rfl⟩
  ·exact h.elim
 ·exact ⟨_, h, by rintro rfl; rfl, by rintro rfl; rfl⟩
 ·exact h.elim
def pickC (a b : Opd) (st : St) (K : D → Prop) : D → Prop
 | .bool cb => pickK cb a b K (a.ev st) (b.ev st)
 | _ => False
theorem ev_k {a : Opd} {st : St} : ∀ d, a = .k d → a.ev st = d := by rintro d rfl; rfl
theorem xo1_pickC {dst : Option Nat} {i : Nat} {a b : Opd} {k : St → Prop} {g : List (Nat × Bool)} (hI : Inv st e fr) (hg : holdsP fr g) (hc : okX e g (.t i) = true) (ha : okX e ((i, true) :: g) a = true) (hb : okX e ((i, false) :: g) b = true)
  (h : pickC a b (openS st e) (fun d => putS n dst d { st with fr := fr } k) (look st.fr e i)) : xo1 q P n dst (.pick (.t i) a b) { st with fr := fr } k := by
 refine xo1_pick ?_
 have ec : (Opd.t i).ev { st with fr := fr } = look st.fr e i := hI.ev hc hg
 have ec' : fr i = look st.fr e i := ec
 rw [ec]
 cases hl : look st.fr e i <;> rw [hl] at h <;> simp only [pickC] at h
 rename_i cb
 rw [hl] at ec'
 obtain ⟨d, hk, h1, h2⟩ := pickK_sound ev_k ev_k h
 refine ⟨fun hcb => ?_, fun hcb => ?_⟩
 ·have : a.ev { st with fr := fr } = a.ev (openS st e) := hI.ev ha fun x hx => by
   rcases List.mem_cons.1 hx with rfl | hx
   ·rw [ec', hcb]
   ·exact hg x hx
  rw [this, ← h1 hcb]
  exact hk
 ·have : b.ev { st with fr := fr } = b.ev (openS st e) := hI.ev hb fun x hx => by
   rcases List.mem_cons.1 hx with rfl | hx
   ·rw [ec', hcb]
   ·exact hg x hx
  rw [this, ← h2 hcb]
  exact hk
theorem pickC_mono {a b : Opd} {st : St} {K K' : D → Prop} {d : D} (hk : ∀ d, K d → K' d) (h : pickC a b st K d) : pickC a b st K' d := by
 cases d <;> simp only [pickC] at h ⊢
 unfold pickK at h ⊢
 split at h
 ·split at h
  ·exact hk _ h
  ·split at h <;> exact hk _ h
 ·split at h
  ·rename_i hq; rw [if_pos hq]; exact hk _ h
  ·exact h.elim
 ·exact hk _ h
 ·exact h.elim
theorem z_pick {s i : Nat} {a b : Opd} {os : List COp} (hh : (okX e [] (.t i) && okX e [(i, true)] a && okX e [(i, false)] b && frD e s) = true)
  (h : pickC a b (openS st e) (fun d => putS n (some s) d st fun st2 => LZ P q n os st2 e K) (look st.fr e i)) : LZ P q n (⟨some s, .pick (.t i) a b, none⟩ :: os) st e K := by
 simp only [Bool.and_eq_true] at hh
 obtain ⟨⟨⟨hc, ha⟩, hb⟩, hd⟩ := hh
 exact ⟨fun fr hI => by
  rw [XX_none]
  exact xo1_pickC hI nilP hc ha hb (pickC_mono (fun d hk => LZ.k hI hd hk) h)⟩
theorem pickC_val {a b : Opd} {st : St} {K : D → Prop} {d : D} (h : pickC a b st K d) : ∃ r, K r ∧ pickC a b st (fun d' => d' = r) d := by
 cases d <;> simp only [pickC] at h ⊢
 unfold pickK at h ⊢
 split at h
 ·split at h
  ·exact ⟨_, h, by simp only [*]⟩
  ·split at h
   ·exact ⟨_, h, by simp only [*]⟩
   ·exact ⟨_, h, by simp only [*]⟩
 ·split at h
  ·rename_i hq; subst hq; exact ⟨_, h, by simp only [*, if_true]⟩
  ·exact h.elim
 ·exact ⟨_, h, by simp only [*]⟩
 ·exact h.elim
theorem z_pickF {s i : Nat} {a b : Opd} {os : List COp} (hc : look st.fr e i = .bool false) (hh : (okX e [] (.t i) && okX e [(i, false)] b && frD e s) = true)
  (h : putS n (some s) (b.ev (openS st e)) st fun st2 => LZ P q n os st2 e K) : LZ P q n (⟨some s, .pick (.t i) a b, none⟩ :: os) st e K := by
 simp only [Bool.and_eq_true] at hh
 obtain ⟨⟨h1, h2⟩, hd⟩ := hh
 exact ⟨fun fr hI => by
  rw [XX_none]
  refine xo1_pick ?_
  have ec : (Opd.t i).ev { st with fr := fr } = look st.fr e i := hI.ev h1 nilP
  rw [ec, hc]
  refine ⟨fun e => (by cases e), fun _ => ?_⟩
  have : b.ev { st with fr := fr } = b.ev (openS st e) := hI.ev h2 fun x hx => by
   simp at hx
   subst hx
   exact ec.trans hc
  rw [this]
  exact LZ.k hI hd h⟩
theorem z_pickT {s i : Nat} {a b : Opd} {os : List COp} (hc : look st.fr e i = .bool true) (hh : (okX e [] (.t i) && okX e [(i, true)] a && frD e s) = true)
  (h : putS n (some s) (a.ev (openS st e)) st fun st2 => LZ P q n os st2 e K) : LZ P q n (⟨some s, .pick (.t i) a b, none⟩ :: os) st e K := by
 simp only [Bool.and_eq_true] at hh
 obtain ⟨⟨h1, h2⟩, hd⟩ := hh
 exact ⟨fun fr hI => by
  rw [XX_none]
  refine xo1_pick ?_
  have ec : (Opd.t i).ev { st with fr := fr } = look st.fr e i := hI.ev h1 nilP
  rw [ec, hc]
  refine ⟨fun _ => ?_, fun e => (by cases e)⟩
  have : a.ev { st with fr := fr } = a.ev (openS st e) := hI.ev h2 fun x hx => by
   simp at hx
   subst hx
   exact ec.trans hc
  rw [this]
  exact LZ.k hI hd h⟩
theorem z_pickg {s t i : Nat} {w : Bool} {a b : Opd} {os : List COp}
  (h : gK st e t fun g => (okX e ((t, w) :: g) (.t i) && okX e ((i, true) :: (t, w) :: g) a && okX e ((i, false) :: (t, w) :: g) b && frE e s ((t, w) :: g) && Nat.ble (s + 1) n) = true ∧ pickC a b (openS st e) (fun d => LZ P q n os st (⟨s, (t, w) :: g, d⟩ :: e) K) (look st.fr e i)) : LZ P q n (⟨some s, .pick (.t i) a b, some (t, w)⟩ :: os) st e K := by
 obtain ⟨g, hg, hh, h⟩ := gK_val h
 simp only [Bool.and_eq_true] at hh
 obtain ⟨⟨⟨⟨hc, ha⟩, hb⟩, hd⟩, hn⟩ := hh
 obtain ⟨d, hK, hx⟩ := pickC_val h
 exact LZ.guard hg hd (Nat.le_of_ble_eq_true hn) (fun fr k hI hh hk => xo1_pickC hI hh hc ha hb (pickC_mono (fun d' e' => by rw [e']; exact hk) hx)) hK
end
end Go.Ab
