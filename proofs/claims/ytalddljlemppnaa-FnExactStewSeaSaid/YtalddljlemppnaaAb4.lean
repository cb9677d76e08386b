/- Steps towards the law: the machine, contracts of functions and facts of lists. -/
import Derived.Test.YtalddljlemppnaaAb3
set_option linter.unusedSimpArgs false
set_option linter.unusedVariables false
namespace Go.Ab
open Go Go.RowKit
def St.entry (ds : List D) (ls : List Loan) : St := St.adds ls { fr := fun i => ds.getD i .undef, gen := fun _ => 0, lc := fun _ => none }
def xres (P : Program) (st : St) : List ResultVar → (List D → Prop) → Prop
 | [], K => K []
 | .tmp t :: rs, K => (st.fr t).noL = true ∧ xres P st rs fun ds => K (st.fr t :: ds)
 | .cell t ty :: rs, K => match varOf P ty with
  | some (sz, ag) => xload st sz ag (st.fr t) fun d => d.noL = true ∧ xres P st rs fun ds => K (d :: ds)
  | none => False
def mkRes : List D → D
 | [d] => d
 | ds => .tup ds
def resOne (tmps : Array Value) : ResultVar → Go.Sem Value
 | .tmp t => pure (tmps.getD t Go.undef)
 | .cell r t => do loadVar t (← asAddr (tmps.getD r Go.undef))
theorem results_eq (fn : Func) (tmps : Array Value) : results fn tmps = (do
  let vs ← fn.results.mapM (resOne tmps)
  pure (if h : vs.size = 1 then vs[0] else .tuple vs)) := by
 have e : (fun r : ResultVar => (match r with
  | .tmp t => pure (tmps.getD t Go.undef)
  | .cell r t => do loadVar t (← asAddr (tmps.getD r Go.undef)) : Go.Sem Value)) = resOne tmps := by
  funext r
  cases r <;> rfl
 rw [← e]
 rfl
section
variable {P : Program} {F : Fix} {n : Nat} {g : G} {st : St} {a : Act} {w : World}
theorem RelV.noL {U : Nat → Prop} {d : D} {v : Value} (h : RelV U w d v) (hn : d.noL = true) : RelW U w d v := by
 cases d <;> first | exact h | (simp [D.noL] at hn)
theorem xres_sound (h : Holds F n g st a w) : ∀ (rs : List ResultVar) {K : List D → Prop}, xres P st rs K →
  ∃ ds vs, K ds ∧ RelT g.U w ds vs ∧ (rs.mapM (resOne a.tmps)).run P w = .ok vs w
 | [], K, hx => ⟨[], [], hx, by simp [RelT], rfl⟩
 | .tmp t :: rs, K, hx => by
  simp only [xres] at hx
  obtain ⟨hn, hx⟩ := hx
  obtain ⟨ds, vs, hK, hT, hrun⟩ := xres_sound h rs hx
  refine ⟨_, a.tmps.getD t undef :: vs, hK, ?_, ?_⟩
  ·simp only [RelT]
   exact ⟨_, _, rfl, (h.slots t).noL hn, hT⟩
  ·simp only [List.mapM_cons, resOne, Sem.run_bind, Sem.run_pure, Result.andThen_ok, hrun]
 | .cell t ty :: rs, K, hx => by
  simp only [xres] at hx
  cases ht : varOf P ty with
  | none => simp [ht] at hx
  | some r =>
   obtain ⟨sz, ag⟩ := r
   simp only [ht] at hx
   obtain ⟨d, v, ⟨hn, hK⟩, hR, hrun⟩ := xload_sound h ht (h.slots t) hx
   obtain ⟨ds, vs, hK2, hT, hrun2⟩ := xres_sound h rs hK
   refine ⟨_, v :: vs, hK2, ?_, ?_⟩
   ·simp only [RelT]
    exact ⟨_, _, rfl, hR.noL hn, hT⟩
   ·have := hrun w (Below.refl _ _)
    have hl : (do loadVar ty (← asAddr (a.tmps.getD t undef)) : Go.Sem Value).run P w = .ok v w := by
     simp only [Instr.loadAt, Sem.run_bind] at this ⊢
     cases hv : a.tmps.getD t undef <;> rw [hv] at this <;> simp only [Instr.sureAddr, asAddr] at this ⊢
     case pointer p => cases p <;> first | exact this | (simp [stuck, Sem.run, Result.andThen] at this)
     all_goals (simp [stuck, Sem.run, Result.andThen] at this)
    simp only [List.mapM_cons, resOne, Sem.run_bind, Sem.run_pure, Result.andThen_ok, hrun2]
    simp only [Sem.run_bind] at hl
    rw [hl]
    simp only [Result.andThen_ok, hrun2]
theorem mkRes_rel {U : Nat → Prop} {ds : List D} {vs : List Value} (h : RelT U w ds vs) : RelV U w (mkRes ds) (if h : vs.toArray.size = 1 then vs.toArray[0] else .tuple vs.toArray) := by
 match ds, h with
 | [], h => simp only [RelT] at h; subst h; exact ⟨#[], rfl, by simp [RelT]⟩
 | [d], h =>
  simp only [RelT] at h
  obtain ⟨v, r, rfl, h1, rfl⟩ := h
  exact h1.V
 | d :: d' :: ds, h =>
  have h' := h
  simp only [RelT] at h'
  obtain ⟨v, r, rfl, h1, v', r', rfl, h2, h3⟩ := h'
  exact ⟨(v :: v' :: r').toArray, by simp, by simpa using h⟩
theorem entry_slots {U : Nat → Prop} {ds : List D} {vs : List Value} (h : RelT U w ds vs) (m i : Nat) : RelV U w (ds.getD i .undef) ((vs.toArray ++ Array.replicate m undef).getD i undef) := by
 have hl : ds.length = vs.length := by
  clear m i
  induction ds generalizing vs with
  | nil => simp only [RelT] at h; simp [h]
  | cons d ds ih => simp only [RelT] at h; obtain ⟨v, r, rfl, _, h2⟩ := h; simp [ih h2]
 by_cases hi : i < ds.length
 ·obtain ⟨v, hv, hR⟩ := h.get (i := i) (d := ds.getD i .undef) (by simp [hi])
  have e : (vs.toArray ++ Array.replicate m undef).getD i undef = v := by
   rw [Array.getD_eq_getD_getElem?, Array.getElem?_append_left (by simp; omega)]
   simp [hv]
  rw [e]
  exact hR.V
 ·have e : (vs.toArray ++ Array.replicate m undef).getD i undef = undef := by
   rw [Array.getD_eq_getD_getElem?, Array.getElem?_append_right (by simp; omega)]
   simp only [Array.getElem?_replicate]
   split <;> rfl
  rw [e, List.getD_eq_getElem?_getD, List.getElem?_eq_none (by omega)]
  rfl
/-- What is given back at the end. -/
def xout (st : St) (K : List Loan → Prop) : Prop := ∃ ls, LoanOk st ls ∧ K ls
theorem XC.intro {f : FuncId} {fn : Func} {c : Code} {ds : List D} {ls : List Loan} {K : D → List Loan → Prop}
  (hf : P.funcs[f]? = some fn) (hb : fn.body = some c) (hc : callable P f = true) (hn : fn.ntmps = n) (hl : ds.length ≤ n)
  (h : Sem P n c (St.entry ds ls) fun e st' => match e with
   | .exit _ => False
   | _ => xres P st' fn.results.toList fun ds => xout st' fun ls' => K (mkRes ds) ls') : XC P f ds ls K := by
 refine ⟨hc, fun U w vs Fs hUb hL hnd hnU hT => calls_of_wp hf hb ?_⟩
 have hlen : ds.length = vs.length := by
  clear h hl
  induction ds generalizing vs with
  | nil => simp only [RelT] at hT; simp [hT]
  | cons d ds ih => simp only [RelT] at hT; obtain ⟨v, r, rfl, _, h2⟩ := hT; simp [ih r h2]
 let F : Fix := { w0 := w, U0 := U, H0 := fun b => b ∈ Fs }
 have hI0 : Holds F n { U := U, own := fun _ => none } { fr := fun i => ds.getD i .undef, gen := fun _ => 0, lc := fun _ => none } { tmps := vs.toArray ++ Array.replicate (fn.ntmps - vs.toArray.size) undef, defers := [] } w := by
  refine ⟨by simp [hn]; omega, rfl, fun i => entry_slots hT _ i, fun s d hl => by simp at hl, fun b hb => hb, hUb, fun b hb => .inl hb, ⟨rfl, rfl, rfl, Nat.le_refl _, fun k _ _ => rfl⟩⟩
 obtain ⟨g, hgU, hI⟩ := hI0.taken hL hnd (fun x hx => ⟨rfl, hnU x hx, .inr hx⟩)
 refine wp_mono (h F g _ w hI) fun e a' w' hq => ?_
 have fin : ∀ g' st', Holds F n g' st' a' w' → (xres P st' fn.results.toList fun ds => xout st' fun ls' => K (mkRes ds) ls') → a'.defers = [] ∧ ∃ v, (results fn a'.tmps).run P w' = .ok v w' ∧ ∃ v2 d ls' U' F', Ending.returned v = .returned v2 ∧ HolL U' w' ls' F' ∧ F'.Nodup ∧
   (∀ x ∈ F', ¬ U' x ∧ (x ∈ Fs ∨ w.heap.size ≤ x)) ∧ RelV U' w' d v2 ∧ Keeps (fun b => b ∈ Fs) w w' ∧ (∀ b, U b → U' b) ∧ (∀ b, U' b → U b ∨ (w.heap.size ≤ b ∧ b < w'.heap.size) ∨ b ∈ Fs) ∧ K d ls' := fun g' st' hH' hx => by
  obtain ⟨rs, us, ⟨ls', hlo, hK⟩, hT', hrun⟩ := xres_sound hH' _ hx
  obtain ⟨F', q1, q2, q3⟩ := hH'.loans hlo
  refine ⟨hH'.defers, _, ?_, _, _, ls', g'.U, F', rfl, q1, q2, fun x hx => ?_, mkRes_rel hT', hH'.keep, hH'.uin, fun b hU => ?_, hK⟩
  ·rw [results_eq, Array.mapM_eq_mapM_toList, Sem.run_bind, Sem.run_map, hrun]
   rfl
  ·obtain ⟨s, _, hm⟩ := q3 x hx
   exact ⟨hm.2.1, hm.2.2.symm⟩
  ·rcases hH'.uout b hU with q | q | q
   ·exact .inl q
   ·exact .inr (.inl ⟨q, hH'.ubd b hU⟩)
   ·exact .inr (.inr q)
 cases e with
 | normal => obtain ⟨g', st', hH', hx⟩ := hq; exact fin g' st' hH' hx
 | ret => obtain ⟨g', st', hH', hx⟩ := hq; exact fin g' st' hH' hx
 | exit id => obtain ⟨g', st', hH', hx⟩ := hq; exact hx.elim
 | goto l => exact hq.elim
 | panic c => exact hq.elim
 | outgrown => exact hq.elim
mutual
/-- Values with the addresses of what was given back, as what is only read. -/
def frzV (ls : List Loan) : D → D
 | .agg fs => .agg (frzVs ls fs)
 | .tup fs => .tup (frzVs ls fs)
 | .lsl s _ n _ => frzL s n ls
 | d => d
def frzVs (ls : List Loan) : List D → List D
 | [] => []
 | d :: ds => frzV ls d :: frzVs ls ds
def frzL (s n : Nat) : List Loan → D
 | [] => .any
 | (s', _, .arr es ds _) :: ls => bif Nat.beq s' s then .ro es ((D.frozs ds).take n) else frzL s n ls
 | _ :: ls => frzL s n ls
end
mutual
def okV (ls : List Loan) : D → Prop
 | .agg fs => okVs ls fs
 | .tup fs => okVs ls fs
 | .lsl s b n _ => okL2 s b n ls
 | _ => True
def okVs (ls : List Loan) : List D → Prop
 | [] => True
 | d :: ds => okV ls d ∧ okVs ls ds
def okL2 (s b n : Nat) : List Loan → Prop
 | [] => False
 | (s', b', .arr _ ds _) :: ls => bif Nat.beq s' s then b = b' ∧ n ≤ ds.length else okL2 s b n ls
 | _ :: ls => okL2 s b n ls
end
theorem frzL_spec {s b n : Nat} : ∀ {ls : List Loan}, okL2 s b n ls → ∃ es ds cp, (s, b, D.arr es ds cp) ∈ ls ∧ n ≤ ds.length ∧ frzL s n ls = .ro es ((D.frozs ds).take n)
 | [], h => h.elim
 | (s', b', d) :: ls, h => by
  cases d
  case arr es ds cp =>
   simp only [okL2, frzL] at h ⊢
   cases hq : Nat.beq s' s with
   | true =>
    rw [hq] at h
    simp only [cond_true] at h ⊢
    have e : s' = s := Nat.eq_of_beq_eq_true hq
    obtain ⟨rfl, h2⟩ := h
    exact ⟨es, ds, cp, by simp [e], h2, rfl⟩
   | false =>
    rw [hq] at h
    simp only [cond_false] at h ⊢
    obtain ⟨es', ds', cp', h1, h2, h3⟩ := frzL_spec h
    exact ⟨es', ds', cp', by simp [h1], h2, h3⟩
  all_goals
   simp only [okL2, frzL] at h ⊢
   obtain ⟨es', ds', cp', h1, h2, h3⟩ := frzL_spec h
   exact ⟨es', ds', cp', by simp [h1], h2, h3⟩
theorem HolL.mem {U : Nat → Prop} {w : World} {l : Loan} : ∀ {ls : List Loan} {Fs : List Nat}, HolL U w ls Fs → l ∈ ls → ∃ F1, LocO U w l.2.1 l.2.2 F1 ∧ ∀ x ∈ F1, x ∈ Fs
 | [], _, _, h => by simp at h
 | m :: ls, _, hL, h => by
  simp only [HolL] at hL
  obtain ⟨F1, F2, rfl, h1, h2⟩ := hL
  rcases List.mem_cons.1 h with rfl | h
  ·exact ⟨F1, h1, fun x hx => by simp [hx]⟩
  ·obtain ⟨G, q1, q2⟩ := HolL.mem h2 h
   exact ⟨G, q1, fun x hx => by simp [q2 x hx]⟩
theorem frzL_rel {U U' : Nat → Prop} {w : World} {ls : List Loan} {Fs : List Nat} (hU : ∀ b, U b → U' b) (hF : ∀ b ∈ Fs, U' b) (hL : HolL U w ls Fs) {s b n c : Nat} {cs : List Value} (ho : okL2 s b n ls) (h : RelC U w (.lsl s b n c) cs) : RelC U' w (frzL s n ls) cs := by
 obtain ⟨es, ds, cp, h1, h2, h3⟩ := frzL_spec ho
 obtain ⟨F1, q1, q2⟩ := hL.mem h1
 rw [h3]
 exact Frz.rel (F := ⟨w, U, U⟩) (g := ⟨U, fun _ => none⟩) (s := s) (d := .lsl s b n c) q1 hU (fun x hx => hF x (q2 x hx)) ⟨rfl, es, ds, cp, rfl, h2, rfl⟩ h
mutual
theorem frzV_relC {U U' : Nat → Prop} {w : World} {ls : List Loan} {Fs : List Nat} (hU : ∀ b, U b → U' b) (hF : ∀ b ∈ Fs, U' b) (hL : HolL U w ls Fs) : ∀ {d : D} {cs : List Value}, okV ls d → RelC U w d cs → RelC U' w (frzV ls d) cs
 | .agg fs, cs, ho, h => by simp only [RelC] at h; simp only [frzV, RelC]; exact frzV_relF hU hF hL (by simpa only [okV] using ho) h
 | .lsl s b n c, cs, ho, h => by simp only [frzV]; exact frzL_rel hU hF hL (by simpa only [okV] using ho) h
 | .undef, _, _, h | .mp _, _, _, h | .tup _, _, _, h | .arr .., _, _, h | .ow .., _, _, h => by simp [RelC] at h
 | .any, _, _, h | .int .., _, _, h | .bool .., _, _, h | .str .., _, _, h | .nil, _, _, h | .nilp, _, _, h | .lref .., _, _, h | .lmp .., _, _, h | .lvw .., _, _, h | .ro .., _, _, h | .cref _, _, _, h | .fn .., _, _, h => by
  simp only [frzV]; exact h.mono ⟨hU, fun _ _ => rfl⟩
theorem frzV_relF {U U' : Nat → Prop} {w : World} {ls : List Loan} {Fs : List Nat} (hU : ∀ b, U b → U' b) (hF : ∀ b ∈ Fs, U' b) (hL : HolL U w ls Fs) : ∀ {ds : List D} {cs : List Value}, okVs ls ds → RelF U w ds cs → RelF U' w (frzVs ls ds) cs
 | [], cs, _, h => by simpa [frzVs, RelF] using h
 | d :: ds, cs, ho, h => by
  simp only [RelF] at h
  obtain ⟨c1, c2, rfl, h1, h2⟩ := h
  simp only [okVs] at ho
  simp only [frzVs, RelF]
  exact ⟨c1, c2, rfl, frzV_relC hU hF hL ho.1 h1, frzV_relF hU hF hL ho.2 h2⟩
end
theorem frzV_relW {U U' : Nat → Prop} {w : World} {ls : List Loan} {Fs : List Nat} (hU : ∀ b, U b → U' b) (hF : ∀ b ∈ Fs, U' b) (hL : HolL U w ls Fs) {d : D} {v : Value} (ho : okV ls d) (h : RelW U w d v) : RelW U' w (frzV ls d) v := by
 cases d
 case agg fs => obtain ⟨cs, rfl, hR⟩ := h; simp only [frzV]; exact ⟨cs, rfl, frzV_relF hU hF hL (by simpa only [okV] using ho) hR⟩
 case lsl s b n c =>
  have h' : RelC U w (.lsl s b n c) [v] := h
  have h2 := frzV_relC hU hF hL ho h'
  simp only [frzV] at h2 ⊢
  obtain ⟨es, ds, cp, h1, _, h3⟩ := frzL_spec (by simpa only [okV] using ho : okL2 s b n ls)
  rw [h3] at h2 ⊢
  exact h2
 case undef => exact h
 case any => exact trivial
 case tup => simp [RelW, RelC] at h
 case mp => simp [RelW, RelC] at h
 case arr => simp [RelW, RelC] at h
 case ow => simp [RelW, RelC] at h
 all_goals (simp only [frzV]; exact h.mono ⟨hU, fun _ _ => rfl⟩)
theorem frzV_relT {U U' : Nat → Prop} {w : World} {ls : List Loan} {Fs : List Nat} (hU : ∀ b, U b → U' b) (hF : ∀ b ∈ Fs, U' b) (hL : HolL U w ls Fs) : ∀ {ds : List D} {vs : List Value}, okVs ls ds → RelT U w ds vs → RelT U' w (frzVs ls ds) vs
 | [], _, _, h => by simpa [frzVs, RelT] using h
 | d :: ds, _, ho, h => by
  simp only [RelT] at h
  obtain ⟨v, r, rfl, h1, h2⟩ := h
  simp only [okVs] at ho
  simp only [frzVs, RelT]
  exact ⟨v, r, rfl, frzV_relW hU hF hL ho.1 h1, frzV_relT hU hF hL ho.2 h2⟩
theorem frzV_relV {U U' : Nat → Prop} {w : World} {ls : List Loan} {Fs : List Nat} (hU : ∀ b, U b → U' b) (hF : ∀ b ∈ Fs, U' b) (hL : HolL U w ls Fs) {d : D} {v : Value} (ho : okV ls d) (h : RelV U w d v) : RelV U' w (frzV ls d) v := by
 cases d
 case tup ds => obtain ⟨vs, rfl, hT⟩ := h; simp only [frzV]; exact ⟨vs, rfl, frzV_relT hU hF hL (by simpa only [okV] using ho) hT⟩
 all_goals
  have h2 := frzV_relW (v := v) hU hF hL ho h
  first
  | exact h2
  |(simp only [frzV] at h2 ⊢
    obtain ⟨es, ds, cp, h1, _, h3⟩ := frzL_spec (by simpa only [okV] using ho)
    rw [h3] at h2 ⊢
    exact h2)
theorem Rdr.of_XCF {f : FuncId} {ds : List D} {d : D} (h : XC P f ds [] fun d' ls => okV ls d' ∧ frzV ls d' = d) : Rdr P f ds d := by
 refine ⟨h.1, fun U w vs hU hT => (h.2 U w vs [] hU rfl List.nodup_nil (fun x hx => by simp at hx) hT).mono fun e w' ⟨v, d', ls', U', F', h1, h2, h3, h4, h5, h6, h7, h8, ho, h9⟩ => ?_⟩
 subst h9
 refine ⟨v, h1, frzV_relV (U := U') (fun b hb => ?_) (fun b hb => ?_) h2 ho h5, ⟨h6.os, h6.tape, h6.output, h6.size, fun k hk _ => h6.block k hk (by simp)⟩⟩
 ·rcases h8 b hb with q | q | q
  ·exact .inl q
  ·exact .inr q
  ·simp at q
 ·rcases (h4 b hb).2 with q | q
  ·simp at q
  ·exact .inr ⟨q, h2.lt b hb⟩
theorem Rdr.of_XC {f : FuncId} {ds : List D} {d : D} (h : XC P f ds [] fun d' _ => d' = d) : Rdr P f ds d := by
 refine ⟨h.1, fun U w vs hU hT => (h.2 U w vs [] hU rfl List.nodup_nil (fun x hx => by simp at hx) hT).mono fun e w' ⟨v, d', ls', U', F', h1, h2, h3, h4, h5, h6, h7, h8, h9⟩ => ?_⟩
 subst h9
 refine ⟨v, h1, h5.mono ⟨fun b hb => ?_, fun _ _ => rfl⟩, ⟨h6.os, h6.tape, h6.output, h6.size, fun k hk _ => h6.block k hk (by simp)⟩⟩
 rcases h8 b hb with q | q | q
 ·exact .inl q
 ·exact .inr q
 ·simp at q
end
end Go.Ab
