/- Steps towards the law: the machine, contracts of functions and facts of lists. -/
import Derived.Test.YtalddljlemppnaaAb6
import Derived.ProofKit
import Derived.Carry
import Derived.JoinedOf
import Derived.Handed
import Derived.ChangeSame
set_option linter.unusedSimpArgs false
set_option linter.unusedVariables false
namespace Go.Ab
open Go Go.RowKit Go.ChangeShapes Go.WideShapes Go.ChangeAt
section
variable {H : Type} {enc : TypeId × Value → H} {P : Program} {w : World}
def HasT : List Ty → List D → Prop
 | [], ds => ds = []
 | t :: ts, ds => ∃ d r, ds = d :: r ∧ Has t d ∧ HasT ts r
def shapesT (P : Program) : List Ty → List TypeId → Bool
 | [], ts => ts.isEmpty
 | ty :: tys, ts => match ts with
  | t :: ts => shapeOk P ty t && P.readableRec t && decide (t < P.types.size) && shapesT P tys ts
  | [] => false
theorem arg_rel {ty : Ty} {t : TypeId} {v : Value} {d : DataW H} {ps : List MemPlace} {base : Nat} (hs : shapeOk P ty t = true) (hok : Value.okWide P w .any base t v) (h : DataW.Trod enc P w 0 (fun _ => true) true t v d ps) :
  ∃ x, Has ty x ∧ RelW (inW w) w x v := by
 obtain ⟨fuel, hf⟩ := h
 obtain ⟨x, h1, h2, _⟩ := trod_rel hs hf
 refine ⟨x, h1, ?_⟩
 cases ty with
 | st tys =>
  simp only [shapeOk] at hs
  split at hs
  ·rename_i fs hk
   obtain ⟨cs, rfl, _⟩ := okWide_struct hk hok
   simp only [Has] at h1
   obtain ⟨ds, rfl, _⟩ := h1
   exact ⟨cs, rfl, by simpa [RelC, Value.cells] using h2⟩
  ·cases hs
 | int k =>
  simp only [shapeOk] at hs
  split at hs
  ·rename_i k' hk
   obtain ⟨n, rfl⟩ := okWide_int hk hok
   simp only [Has] at h1
   obtain ⟨n', rfl, _⟩ := h1
   simpa [RelW, Value.cells] using h2
  ·cases hs
 | bool =>
  simp only [shapeOk] at hs
  split at hs
  ·rename_i hk
   obtain ⟨n, rfl⟩ := okWide_bool hk hok
   simp only [Has] at h1
   obtain ⟨n', rfl⟩ := h1
   simpa [RelW, Value.cells] using h2
  ·cases hs
 | str =>
  simp only [shapeOk] at hs
  split at hs
  ·rename_i hk
   obtain ⟨n, rfl⟩ := okWide_string hk hok
   simp only [Has] at h1
   obtain ⟨n', rfl, _⟩ := h1
   simpa [RelW, Value.cells] using h2
  ·cases hs
 | sl es ty =>
  simp only [shapeOk] at hs
  split at hs
  ·rename_i e hk
   obtain ⟨a, l, c, rfl⟩ := okWide_slice hk hok
   simp only [Has] at h1
   obtain ⟨ds, rfl, _⟩ := h1
   simpa [RelW, Value.cells] using h2
  ·cases hs
theorem args_rel {base : Nat} : ∀ {tys : List Ty} {ts : List TypeId} {vs : List Value} {ds : List (DataW H)} {ps : List MemPlace}, shapesT P tys ts = true → (∀ (j : Nat) t v, ts[j]? = some t → vs[j]? = some v → Value.okWide P w .any base t v) →
  DataW.TrodAll enc P w 0 (fun _ => true) true ts vs ds ps → ∃ xs, HasT tys xs ∧ RelT (inW w) w xs vs
 | [], ts, vs, ds, ps, hs, hok, h => by
  simp only [shapesT, List.isEmpty_iff] at hs
  subst hs
  cases vs with
  | nil => exact ⟨[], rfl, rfl⟩
  | cons v vs => cases ds <;> simp [DataW.TrodAll] at h
 | ty :: tys, [], vs, ds, ps, hs, hok, h => by simp [shapesT] at hs
 | ty :: tys, t :: ts, vs, ds, ps, hs, hok, h => by
  simp only [shapesT, Bool.and_eq_true, decide_eq_true_eq] at hs
  obtain ⟨⟨⟨h1, h2⟩, h3⟩, h4⟩ := hs
  obtain ⟨v, vs', d, ds', p, q, rfl, rfl, rfl, hd, hr⟩ := trodAll_cons h
  obtain ⟨x, hx1, hx2⟩ := arg_rel h1 (hok 0 t v rfl rfl) hd
  obtain ⟨xs, hx3, hx4⟩ := args_rel h4 (fun j t' v' ht hv => hok (j + 1) t' v' (by simpa using ht) (by simpa using hv)) hr
  exact ⟨x :: xs, ⟨x, xs, rfl, hx1, hx3⟩, ⟨v, vs', rfl, hx2, hx4⟩⟩
theorem args_stay (hl : laidOutB P = true) {W W' : World} {sp : Nat → Bool} (hb : Below W.heap.size W W') : ∀ {tys : List Ty} {ts : List TypeId} {vs : List Value} {ds : List (DataW H)} {ps : List MemPlace}, shapesT P tys ts = true →
  DataW.TrodAll enc P W 0 (fun _ => true) true ts vs ds ps → (∀ p ∈ ps, p.block < W.heap.size) → (∀ p ∈ ps, sp p.block = true) → DataW.TrodAll enc P W' 0 sp true ts vs ds ps
 | [], ts, vs, ds, ps, hs, h, hlt, hsp => by
  simp only [shapesT, List.isEmpty_iff] at hs
  subst hs
  cases vs <;> cases ds <;> first | exact h | exact h.elim
 | ty :: tys, [], vs, ds, ps, hs, h, hlt, hsp => by simp [shapesT] at hs
 | ty :: tys, t :: ts, vs, ds, ps, hs, h, hlt, hsp => by
  simp only [shapesT, Bool.and_eq_true, decide_eq_true_eq] at hs
  obtain ⟨⟨⟨h1, h2⟩, h3⟩, h4⟩ := hs
  obtain ⟨v, vs', d, ds', p, q, rfl, rfl, rfl, hd, hr⟩ := trodAll_cons h
  refine ⟨p, q, WideElems.Trod_stays hl h2 h3 hd (fun x hx => hb.same (hlt x (by simp [hx]))) (fun x hx => hsp x (by simp [hx])), ?_, rfl⟩
  exact args_stay hl hb h4 hr (fun x hx => hlt x (by simp [hx])) (fun x hx => hsp x (by simp [hx]))
end
theorem TrodAll_len {H : Type} {enc : TypeId × Value → H} {P : Program} {W : World} {b : Nat} {sp : Nat → Bool} {hd : Bool} : ∀ {ts : List TypeId} {vs : List Value} {ds : List (DataW H)} {ps : List MemPlace}, DataW.TrodAll enc P W b sp hd ts vs ds ps → ds.length = ts.length
 | [], vs, ds, ps, h => by cases vs <;> cases ds <;> simp [DataW.TrodAll] at h ⊢
 | t :: ts, vs, ds, ps, h => by
  obtain ⟨v, vs', d, ds', p, q, rfl, rfl, rfl, hd, hr⟩ := trodAll_cons h
  simp [TrodAll_len hr]
/-- A law that reads its arguments and returns true. -/
theorem law_reads {a : Assume} {C : Checked} {os : Os} {f : FuncId} {fn : Func} {s : ChangeSpec} {conds : List PathCond} {apart fresh handsOn again : Bool} {H : Type} {enc : TypeId × Value → H} {bt : TypeId}
  (own : ownKnob C.prog.godebug = none) (started : os.Started) (noInit : C.prog.inits.idxOf? f = none) (hfn : C.prog.funcs[f]? = some fn)
  (witness : ∃ (w : World) (tape : Tape) (i : Input), w.os = os ∧ (w.forCall tape i).Shaped C.prog ∧ i.vars = [] ∧ Input.okWide C.prog (w.forCall tape i) .any w.heap.size f i ∧
   s.pre6 enc C.prog fn conds apart (w.forCall tape i).memory i.args ∧ a.holds C.prog (lone (Frame.enter C.prog f i.args .normal) [] (w.forCall tape i)))
  (hl : laidOutB C.prog = true) (tys : List Ty) (hsh : shapesT C.prog tys fn.params.toList = true) (hvars : s.vars = []) (hres : fn.resultTypes = #[bt]) (hbt : C.prog.underlying bt = some .bool)
  (hfnv : ∀ ds : List (DataW H), ds.length = fn.params.toList.length → s.fn H ds = { results := [.lit (.bool true)], args := ds })
  (hR : ∀ ds, HasT tys ds → Rdr C.prog f ds (.bool true)) :
  ReturnsInHanded a C os f .any (s.pre6 enc C.prog fn conds apart) (s.post enc C.prog fn apart fresh handsOn again) := by
 refine returnsInHanded_of_change (C := C) own started noInit hfn witness ?_
 intro W base args ds gs before hval hW _ _
 have hW' := hW
 obtain ⟨p, q, hA, hV, rfl, _, _⟩ := hW
 rw [hvars] at hV
 have hV' : gs = [] ∧ q = [] := by cases gs <;> simp_all [DataW.TrodVars]
 obtain ⟨rfl, rfl⟩ := hV'
 obtain ⟨xs, hx1, hx2⟩ := args_rel hsh (fun j t v ht hv => hval j t v (by simpa using ht) (by simpa using hv)) hA
 have hC := (hR xs hx1).2 (inW W) W args.toList (fun b hb => hb) hx2
 have ea : args.toList.toArray = args := by simp
 rw [ea] at hC
 have e : s.fn H (ds ++ []) = { results := [.lit (.bool true)], args := ds } := by rw [List.append_nil]; exact hfnv ds (TrodAll_len hA)
 refine hC.mono fun e' W' ⟨v, h1, h2, h3⟩ => ?_
 have hv : v = .bool true := by simpa [RelV, RelW, RelC] using h2
 subst hv
 subst h1
 have hb : Below W.heap.size W W' := h3.below
 refine ⟨_, rfl, ?_⟩
 have hlt : ∀ x ∈ p, x.block < W.heap.size := fun x hx => by simpa using hW'.lt x (by simp [hx])
 have hargs : ∀ sp : Nat → Bool, (∀ x ∈ p, sp x.block = true) → DataW.TrodAll enc C.prog W' 0 sp true fn.params.toList args.toList (s.fn H (ds ++ [])).args p := fun sp hsp => by
  rw [e]
  exact args_stay hl hb hsh hA hlt hsp
 have hvs : ∀ sp : Nat → Bool, DataW.TrodVars enc C.prog W' sp s.vars (s.fn H (ds ++ [])).vars [] := fun sp => by
  rw [e, hvars]
  rfl
 have hrs : ∀ (b : Nat) (sp : Nat → Bool) (hd : Bool), DataW.TrodAll enc C.prog W' b sp hd fn.resultTypes.toList ((Value.bool true).resultList fn.resultTypes.size) (s.fn H (ds ++ [])).results [] := fun b sp hd => by
  rw [e, hres]
  exact trodAll_mk1 (shut_bool hbt true)
 refine ⟨ds, [], p ++ [], [], p, [], hW', hrs _ _ _, hargs _ (fun x hx => by simpa using hlt x hx), hvs _, hb.frame _, fun _ => ?_⟩
 obtain ⟨_, _, _, _, _, hz, hn⟩ := hW'
 refine ⟨ok_one hres rfl (okWide_bool_mk hbt true), _, _, ([] ++ p) ++ [], ⟨[] ++ p, [], trodAll_append (hargs _ (fun _ _ => rfl)) (hrs _ _ _), hvs _, rfl, ?_, ?_⟩, ?_⟩
 ·intro b off hp
  have hp' : MemPlace.cell b off ∈ p := by simpa using hp
  rw [hb.frozen (p := ⟨b, off, none⟩) (hlt _ hp')]
  exact hz b off (by simpa using hp')
 ·intro ha
  simpa using hn ha
 ·intro x hx _
  simpa using hx
end Go.Ab
