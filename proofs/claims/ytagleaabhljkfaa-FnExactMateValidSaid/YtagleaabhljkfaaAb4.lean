/- Functions and their results. -/
import Derived.Test.YtagleaabhljkfaaAb3
set_option linter.unusedSimpArgs false
set_option linter.unusedVariables false
namespace Go.Ab
open Go Go.RowKit

def St.entry (ds : List D) (hp : Nat → Option Row) : St := { fr := fun i => ds.getD i .undef, gen := fun _ => 0, lc := fun _ => none, hp := hp }
def xres (P : Program) (st : St) : List ResultVar → (List D → Prop) → Prop
  | [], K => K []
  | .tmp t :: rs, K => (st.fr t).noL = true ∧ xres P st rs fun ds => K (st.fr t :: ds)
  | .cell t ty :: rs, K => match varOf P ty with
    | some (sz, ag) => xload st sz ag (st.fr t) fun d => d.noL = true ∧ xres P st rs fun ds => K (d :: ds)
    | none => False
def mkRes : List D → D
  | [d] => d
  | ds => .tup ds

def resOne (tmps : Array Value) : ResultVar → Go.Sem Value
  | .tmp t => pure (tmps.getD t Go.undef)
  | .cell r t => do loadVar t (← asAddr (tmps.getD r Go.undef))
theorem results_eq (fn : Func) (tmps : Array Value) : results fn tmps = (do
    let vs ← fn.results.mapM (resOne tmps)
    pure (if h : vs.size = 1 then vs[0] else .tuple vs)) := by
  have e : (fun r : ResultVar => (match r with
    | .tmp t => pure (tmps.getD t Go.undef)
    | .cell r t => do loadVar t (← asAddr (tmps.getD r Go.undef)) : Go.Sem Value)) = resOne tmps := by
    funext r
    cases r <;> rfl
  rw [← e]
  rfl
section
variable {P : Program} {F : Fix} {n : Nat} {g : G} {st : St} {a : Act} {w : World}

theorem RelS.noL {d : D} {v : Value} (h : RelS g st w d v) (hn : d.noL = true) : RelW g.U w d v := by
  cases d <;> first | exact h | (simp [D.noL] at hn)
theorem xres_sound (h : Holds F n g st a w) : ∀ (rs : List ResultVar) {K : List D → Prop}, xres P st rs K →
    ∃ ds vs, K ds ∧ RelT g.U w ds vs ∧ (rs.mapM (resOne a.tmps)).run P w = .ok vs w
  | [], K, hx => ⟨[], [], hx, by simp [RelT], rfl⟩
  | .tmp t :: rs, K, hx => by
    simp only [xres] at hx
    obtain ⟨hn, hx⟩ := hx
    obtain ⟨ds, vs, hK, hT, hrun⟩ := xres_sound h rs hx
    refine ⟨_, a.tmps.getD t undef :: vs, hK, ?_, ?_⟩
    · simp only [RelT]
      exact ⟨_, _, rfl, (h.slots t).noL hn, hT⟩
    · simp only [List.mapM_cons, resOne, Sem.run_bind, Sem.run_pure, Result.andThen_ok, hrun]
  | .cell t ty :: rs, K, hx => by
    simp only [xres] at hx
    cases ht : varOf P ty with
    | none => simp [ht] at hx
    | some r =>
      obtain ⟨sz, ag⟩ := r
      simp only [ht] at hx
      obtain ⟨d, v, ⟨hn, hK⟩, hR, hrun⟩ := xload_sound h ht (h.slots t) hx
      obtain ⟨ds, vs, hK2, hT, hrun2⟩ := xres_sound h rs hK
      refine ⟨_, v :: vs, hK2, ?_, ?_⟩
      · simp only [RelT]
        exact ⟨_, _, rfl, hR.noL hn, hT⟩
      · have := hrun w (Below.refl _ _)
        have hl : (do loadVar ty (← asAddr (a.tmps.getD t undef)) : Go.Sem Value).run P w = .ok v w := by
          simp only [Instr.loadAt, Sem.run_bind] at this ⊢
          cases hv : a.tmps.getD t undef <;> rw [hv] at this <;> simp only [Instr.sureAddr, asAddr] at this ⊢
          case pointer p => cases p <;> first | exact this | (simp [stuck, Sem.run, Result.andThen] at this)
          all_goals (simp [stuck, Sem.run, Result.andThen] at this)
        simp only [List.mapM_cons, resOne, Sem.run_bind, Sem.run_pure, Result.andThen_ok, hrun2]
        simp only [Sem.run_bind] at hl
        rw [hl]
        simp only [Result.andThen_ok, hrun2]

theorem mkRes_rel {U : Nat → Prop} {ds : List D} {vs : List Value} (h : RelT U w ds vs) : RelV U w (mkRes ds) (if h : vs.toArray.size = 1 then vs.toArray[0] else .tuple vs.toArray) := by
  match ds, h with
  | [], h => simp only [RelT] at h; subst h; exact ⟨#[], rfl, by simp [RelT]⟩
  | [d], h =>
    simp only [RelT] at h
    obtain ⟨v, r, rfl, h1, rfl⟩ := h
    exact h1.V
  | d :: d' :: ds, h =>
    have h' := h
    simp only [RelT] at h'
    obtain ⟨v, r, rfl, h1, v', r', rfl, h2, h3⟩ := h'
    exact ⟨(v :: v' :: r').toArray, by simp, by simpa using h⟩

theorem entry_slots {U : Nat → Prop} {ds : List D} {vs : List Value} {hp : Nat → Option Row} {lam : Nat → Nat} (h : RelT U w ds vs) (m i : Nat) : RelS { U := U, lam := lam } (St.entry ds hp) w ((St.entry ds hp).fr i) ((vs.toArray ++ Array.replicate m undef).getD i undef) := by
  have hl : ds.length = vs.length := by
    clear m i
    induction ds generalizing vs with
    | nil => simp only [RelT] at h; simp [h]
    | cons d ds ih => simp only [RelT] at h; obtain ⟨v, r, rfl, _, h2⟩ := h; simp [ih h2]
  show RelS _ _ w (ds.getD i .undef) _
  by_cases hi : i < ds.length
  · obtain ⟨v, hv, hR⟩ := h.get (i := i) (d := ds.getD i .undef) (by simp [hi])
    have e : (vs.toArray ++ Array.replicate m undef).getD i undef = v := by
      rw [Array.getD_eq_getD_getElem?, Array.getElem?_append_left (by simp; omega)]
      simp [hv]
    rw [e]
    exact RelS.of_Vl hR.V
  · have e : (vs.toArray ++ Array.replicate m undef).getD i undef = undef := by
      rw [Array.getD_eq_getD_getElem?, Array.getElem?_append_right (by simp; omega)]
      simp only [Array.getElem?_replicate]
      split <;> rfl
    rw [e, List.getD_eq_getElem?_getD, List.getElem?_eq_none (by omega)]
    rfl

theorem XC.intro {f : FuncId} {fn : Func} {c : Code} {ds : List D} {hp : Nat → Option Row} {K : D → (Nat → Option Row) → Prop}
    (hf : P.funcs[f]? = some fn) (hb : fn.body = some c) (hc : callable P f = true) (hn : fn.ntmps = n) (hl : ds.length ≤ n)
    (h : Sem P n c (St.entry ds hp) fun e st' => match e with
      | .exit _ => False
      | _ => xres P st' fn.results.toList fun ds => K (mkRes ds) st'.hp) : XC P f ds hp K := by
  refine ⟨hc, fun U w vs hH hT => calls_of_wp hf hb ?_⟩
  have hlen : ds.length = vs.length := by
    clear h hl
    induction ds generalizing vs with
    | nil => simp only [RelT] at hT; simp [hT]
    | cons d ds ih => simp only [RelT] at hT; obtain ⟨v, r, rfl, _, h2⟩ := hT; simp [ih r h2]
  let F : Fix := { w0 := w, U0 := U, H0 := Dom hp }
  let g : G := { U := U, lam := fun _ => 0 }
  have hI : Holds F n g (St.entry ds hp) { tmps := vs.toArray ++ Array.replicate (fn.ntmps - vs.toArray.size) undef, defers := [] } w := by
    refine ⟨by simp [hn]; omega, rfl, fun i => entry_slots hT _ i, fun s d hl => by simp [St.entry] at hl, fun s s' hl => by simp [St.entry] at hl, fun b r hr => ?_, fun b hb => hb, hH.ubd, fun b hb => .inl hb, ⟨rfl, rfl, rfl, Nat.le_refl _, fun k _ _ => rfl⟩⟩
    obtain ⟨cells, h1, h2, h3, h4, h5⟩ := hH.heap b r hr
    exact ⟨cells, h1, h2, h3, h4, h5, .inr (Dom_of hr)⟩
  refine wp_mono (h F g _ w hI) fun e a' w' hq => ?_
  have fin : ∀ g' st', Holds F n g' st' a' w' → (xres P st' fn.results.toList fun ds => K (mkRes ds) st'.hp) → a'.defers = [] ∧ ∃ v, (results fn a'.tmps).run P w' = .ok v w' ∧ ∃ v2 d hp' U', Ending.returned v = .returned v2 ∧ HoldsH U' hp' w' ∧ RelV U' w' d v2 ∧ Keeps (Dom hp) w w' ∧
      (∀ b, U b → U' b) ∧ (∀ b, U' b → U b ∨ w.heap.size ≤ b) ∧ (∀ b, Dom hp' b → Dom hp b ∨ w.heap.size ≤ b) ∧ K d hp' := fun g' st' hH' hx => by
    obtain ⟨rs, us, hK, hT', hrun⟩ := xres_sound hH' _ hx
    refine ⟨hH'.defers, _, ?_, _, _, _, g'.U, rfl, hH'.H, mkRes_rel hT', hH'.keep, hH'.uin, hH'.uout, fun b hb => ?_, hK⟩
    · rw [results_eq, Array.mapM_eq_mapM_toList, Sem.run_bind, Sem.run_map, hrun]
      rfl
    · obtain ⟨r, hr⟩ := Option.isSome_iff_exists.1 hb
      obtain ⟨_, _, _, _, _, _, hlo⟩ := hH'.heap b r hr
      exact hlo.symm
  cases e with
  | normal => obtain ⟨g', st', hH', hx⟩ := hq; exact fin g' st' hH' hx
  | ret => obtain ⟨g', st', hH', hx⟩ := hq; exact fin g' st' hH' hx
  | exit id => obtain ⟨g', st', hH', hx⟩ := hq; exact hx.elim
  | goto l => exact hq.elim
  | panic c => exact hq.elim
  | outgrown => exact hq.elim

theorem Rdr.of_XC {f : FuncId} {ds : List D} {d : D} (h : XC P f ds (fun _ => none) fun d' _ => d' = d) : Rdr P f ds d := by
  refine ⟨h.1, fun U w vs hU hT => (h.2 U w vs ⟨fun b r hr => absurd hr (by simp), hU⟩ hT).mono fun e w' ⟨v, d', hp', U', h1, h2, h3, h4, h5, h6, h7, h8⟩ => ?_⟩
  subst h8
  have x : Ext U' (fun b => U b ∨ (w.heap.size ≤ b ∧ b < w'.heap.size)) w' w' := ⟨fun b hb => (h6 b hb).imp id (fun q => ⟨q, h2.ubd b hb⟩), fun _ _ => rfl⟩
  exact ⟨v, h1, h3.mono x, ⟨h4.os, h4.tape, h4.output, h4.size, fun k hk _ => h4.block k hk (by simp [Dom])⟩⟩
end
end Go.Ab
