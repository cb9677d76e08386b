/- Calls with what is owned, rows inside contents, loops with a goal of their own. -/
import Derived.Test.YtagleaabhljkfaaAb10
set_option linter.unusedSimpArgs false
set_option linter.unusedVariables false
namespace Go.Ab
open Go Go.RowKit
/-! ### What speaks of no memory that is only read -/
mutual
def D.cl : D → Bool
  | .ro .. | .cref _ | .fn .. => false
  | .agg fs => D.cls fs
  | .ow _ ds _ => D.cls ds
  | .arr _ ds _ => D.cls ds
  | .tup ds => D.cls ds
  | _ => true
def D.cls : List D → Bool
  | [] => true
  | d :: ds => d.cl && D.cls ds
end
theorem D.cls_map {α : Type} {f : α → D} (h : ∀ x, (f x).cl = true) : ∀ (xs : List α), D.cls (xs.map f) = true
  | [] => rfl
  | x :: xs => by simp only [List.map_cons, D.cls, h x, D.cls_map h xs, Bool.and_true]
mutual
theorem RelC.cl {U V : Nat → Prop} {w : World} : ∀ {d : D} {cs : List Value}, d.cl = true → RelC U w d cs → RelC V w d cs
  | .any, _, _, h | .int .., _, _, h | .bool .., _, _, h | .str .., _, _, h | .nil, _, _, h | .nilp, _, _, h | .lref .., _, _, h | .lsl .., _, _, h | .lvw .., _, _, h | .lmp .., _, _, h => by simpa [RelC] using h
  | .agg fs, cs, c, h => by
    simp only [RelC] at h ⊢
    exact RelF.cl (by simpa [D.cl] using c) h
  | .ro .., _, c, _ | .cref _, _, c, _ | .fn .., _, c, _ => by simp [D.cl] at c
  | .undef, _, _, h | .mp _, _, _, h | .tup _, _, _, h | .arr .., _, _, h | .ow .., _, _, h => by simp [RelC] at h
theorem RelF.cl {U V : Nat → Prop} {w : World} : ∀ {ds : List D} {cs : List Value}, D.cls ds = true → RelF U w ds cs → RelF V w ds cs
  | [], _, _, h => by simpa [RelF] using h
  | d :: ds, _, c, h => by
    simp only [RelF] at h ⊢
    simp only [D.cls, Bool.and_eq_true] at c
    obtain ⟨c1, c2, h1, h2, h3⟩ := h
    exact ⟨c1, c2, h1, RelC.cl c.1 h2, RelF.cl c.2 h3⟩
end
mutual
theorem RelO.cl {U V : Nat → Prop} {w : World} : ∀ {d : D} {cs : List Value} {F : List Nat}, d.cl = true → RelO U w d cs F → RelO V w d cs F
  | .agg fs, cs, F, c, h => by
    simp only [RelO] at h ⊢
    exact RelOF.cl (by simpa [D.cl] using c) h
  | .ow es ds k, cs, F, c, h => by
    simp only [RelO] at h ⊢
    obtain ⟨a, h1, h2⟩ := h
    refine ⟨a, h1, h2.imp id ?_⟩
    rintro ⟨b, cells, e, G, h3, h4, h5, h6, h7, h8, rfl⟩
    exact ⟨b, cells, e, G, h3, h4, h5, h6, h7, RelOR.cl (by simpa [D.cl] using c) h8, rfl⟩
  | .ro .., _, _, c, _ | .cref _, _, _, c, _ | .fn .., _, _, c, _ => by simp [D.cl] at c
  | .undef, _, _, _, h | .mp _, _, _, _, h | .tup _, _, _, _, h | .arr .., _, _, _, h => by simp [RelO, RelC] at h
  | .any, _, _, c, h | .int .., _, _, c, h | .bool .., _, _, c, h | .str .., _, _, c, h | .nil, _, _, c, h | .nilp, _, _, c, h | .lref .., _, _, c, h | .lsl .., _, _, c, h | .lvw .., _, _, c, h | .lmp .., _, _, c, h => by
    simp only [RelO] at h ⊢
    exact ⟨RelC.cl c h.1, h.2⟩
theorem RelOF.cl {U V : Nat → Prop} {w : World} : ∀ {ds : List D} {cs : List Value} {F : List Nat}, D.cls ds = true → RelOF U w ds cs F → RelOF V w ds cs F
  | [], _, _, _, h => by simpa [RelOF] using h
  | d :: ds, _, _, c, h => by
    simp only [RelOF] at h ⊢
    simp only [D.cls, Bool.and_eq_true] at c
    obtain ⟨c1, c2, F1, F2, h1, h2, h3, h4⟩ := h
    exact ⟨c1, c2, F1, F2, h1, h2, RelO.cl c.1 h3, RelOF.cl c.2 h4⟩
theorem RelOR.cl {U V : Nat → Prop} {w : World} {es : Nat} : ∀ {ds : List D} {cs : List Value} {F : List Nat}, D.cls ds = true → RelOR U w es ds cs F → RelOR V w es ds cs F
  | [], _, _, _, h => by simpa [RelOR] using h
  | d :: ds, _, _, c, h => by
    simp only [RelOR] at h ⊢
    simp only [D.cls, Bool.and_eq_true] at c
    obtain ⟨c1, c2, F1, F2, h1, h2, h0, h3, h4⟩ := h
    exact ⟨c1, c2, F1, F2, h1, h2, h0, RelO.cl c.1 h3, RelOR.cl c.2 h4⟩
end
theorem RelW.cl {U V : Nat → Prop} {w : World} {d : D} {v : Value} (c : d.cl = true) (h : RelW U w d v) : RelW V w d v := by
  cases d
  case agg fs => simp only [RelW] at h ⊢; obtain ⟨cs, h1, h2⟩ := h; exact ⟨cs, h1, RelF.cl (by simpa [D.cl] using c) h2⟩
  all_goals (simp only [RelW] at h ⊢ <;> first | exact h | exact RelC.cl c h)
theorem RelT.cl {U V : Nat → Prop} {w : World} : ∀ {ds : List D} {vs : List Value}, D.cls ds = true → RelT U w ds vs → RelT V w ds vs
  | [], _, _, h => by simpa [RelT] using h
  | d :: ds, _, c, h => by
    simp only [RelT] at h ⊢
    simp only [D.cls, Bool.and_eq_true] at c
    obtain ⟨v, r, h1, h2, h3⟩ := h
    exact ⟨v, r, h1, h2.cl c.1, RelT.cl c.2 h3⟩
theorem RelV.cl {U V : Nat → Prop} {w : World} {d : D} {v : Value} (c : d.cl = true) (h : RelV U w d v) : RelV V w d v := by
  cases d
  case tup ds => simp only [RelV] at h ⊢; obtain ⟨vs, h1, h2⟩ := h; exact ⟨vs, h1, h2.cl (by simpa [D.cl] using c)⟩
  all_goals (simp only [RelV] at h ⊢; exact RelW.cl c h)
theorem LocO.cl {U V : Nat → Prop} {w : World} {b : Nat} {d : D} {F : List Nat} (c : d.cl = true) (h : LocO U w b d F) : LocO V w b d F := by
  by_cases hd : d.mpB = true
  · cases d <;> first | (cases hd; done) | skip
    · exact h
    · rcases h with h | ⟨cells, e, G, h3, h4, h5, h6, h8, rfl⟩
      · exact .inl h
      · exact .inr ⟨cells, e, G, h3, h4, h5, h6, h8.cl (by simpa [D.cl] using c), rfl⟩
  · obtain ⟨k, e, G, h1, h2, rfl⟩ := h.cells (by simpa using hd)
    exact .of h1 (h2.cl c)
def clL : List Loan → Bool
  | [] => true
  | l :: ls => l.2.2.cl && clL ls
theorem HolL.cl {U V : Nat → Prop} {w : World} : ∀ {ls : List Loan} {F : List Nat}, clL ls = true → HolL U w ls F → HolL V w ls F
  | [], _, _, h => h
  | l :: ls, _, c, h => by
    simp only [clL, Bool.and_eq_true] at c
    obtain ⟨F1, F2, h1, h2, h3⟩ := h
    exact ⟨F1, F2, h1, h2.cl c.1, HolL.cl c.2 h3⟩
theorem HolL.mono' {U U' : Nat → Prop} {w w' : World} : ∀ {ls : List Loan} {F : List Nat}, ExtO U U' F w w' → HolL U w ls F → HolL U' w' ls F
  | [], _, _, h => h
  | l :: ls, _, x, h => by
    obtain ⟨F1, F2, rfl, h2, h3⟩ := h
    exact ⟨F1, F2, rfl, h2.mono (x.of fun b hb => by simp [hb]), HolL.mono' (x.of fun b hb => by simp [hb]) h3⟩
theorem HolL.appF {U : Nat → Prop} {w : World} {ls2 : List Loan} {F2 : List Nat} (h2 : HolL U w ls2 F2) : ∀ {ls : List Loan} {F : List Nat}, HolL U w ls F → HolL U w (ls ++ ls2) (F ++ F2)
  | [], F, h => by
    have h : F = [] := h
    subst h
    exact h2
  | l :: ls, F, ⟨F1, G, e, h, hs⟩ => ⟨F1, G ++ F2, by rw [e, List.append_assoc], h, HolL.appF h2 hs⟩
/-- A call that only reads may be called with what is owned. -/
theorem XC.bor {P : Program} {f : FuncId} {ds : List D} {ls : List Loan} {K : D → List Loan → Prop} (h : XC P f (frzVs ls ds) [] K) (hok : okVs ls ds) (hcl : ∀ d l, K d l → d.cl = true ∧ clL l = true) :
    XC P f ds ls fun d l2 => ∃ l, l2 = ls ++ l ∧ K d l := by
  unfold XC at h ⊢
  refine ⟨h.1, fun U w vs F hU hH hn hF hT => ?_⟩
  have hlt := hH.lt
  have q := h.2 (fun x => U x ∨ x ∈ F) w vs [] (fun b hb => hb.elim (hU b) (hlt b)) rfl List.nodup_nil (by simp) (frzV_relT (fun _ h => .inl h) (fun _ h => .inr h) hH hok hT)
  refine q.mono fun e w' ⟨v, d, l, U', F', h1, h2, h3, h4, h5, h6, h7, h8, h9⟩ => ?_
  obtain ⟨c1, c2⟩ := hcl d l h9
  have hk : ∀ b, b < w.heap.size → w'.heap[b]? = w.heap[b]? := fun b hb => h6.block b hb (by simp)
  have hnew : ∀ x ∈ F', w.heap.size ≤ x := fun x hx => (h4 x hx).2.resolve_left (by simp)
  refine ⟨v, d, ls ++ l, U, F ++ F', h1, HolL.appF (h2.cl c2) (hH.mono' ⟨fun _ h => h, fun b hb => hk b (hU b hb), fun b hb => hk b (hlt b hb)⟩), ?_, fun x hx => ?_, h5.cl c1, ⟨h6.os, h6.tape, h6.output, h6.size, fun k hk' _ => hk k hk'⟩, fun _ h => h, fun _ h => .inl h, l, rfl, h9⟩
  · refine List.nodup_append.2 ⟨hn, h3, fun a ha b hb e => ?_⟩
    subst e
    have := hlt a ha
    have := hnew a hb
    omega
  · rcases List.mem_append.1 hx with hx | hx
    · exact ⟨hF x hx, .inl hx⟩
    · refine ⟨fun hUx => ?_, .inr (hnew x hx)⟩
      have := hU x hUx
      have := hnew x hx
      omega
end Go.Ab
namespace Go.Ab
open Go Go.RowKit
/-! ### Rows inside contents: given a name, and put back -/
theorem setNil {d x d' : D} (h : d.set [] x = some d') : d' = x ∧ d.len = x.len := by
  have h : (if d.len = x.len ∧ d.isAgg = x.isAgg then some x else none) = some d' := by cases d <;> exact h
  split at h
  · rename_i hc; simp only [Option.some.injEq] at h; exact ⟨h.symm, hc.1⟩
  · cases h
theorem atNil {d d' : D} {o : Nat} (h : d.at [] = some (d', o)) : d = d' := by
  cases d <;> (simp only [D.at, Option.some.injEq, Prod.mk.injEq] at h; exact h.1)
theorem RelO.unp0 {U : Nat → Prop} {w : World} {es c : Nat} {ds : List D} {cs : List Value} {F : List Nat} (t : Nat) (h : RelO U w (.ow es ds c) cs F) : ∃ b, RelO U w (.lsl t b ds.length c) cs [] ∧ LocO U w b (.arr es ds c) F := by
  simp only [RelO] at h
  obtain ⟨a, rfl, h⟩ := h
  rcases h with ⟨rfl, rfl, rfl⟩ | ⟨b, cells, e, G, h3, h4, h5, h6, h7, h8, rfl⟩
  · exact ⟨0, by simp [RelO, RelC], .inl ⟨rfl, rfl, rfl⟩⟩
  · refine ⟨b, ?_, .inr ⟨cells, e, G, h4, h5, h6, h7, h8, rfl⟩⟩
    simp only [RelO, RelC]
    exact ⟨⟨a, rfl, h7, fun _ => h3⟩, trivial⟩
theorem RelO.pak0 {U : Nat → Prop} {w : World} {t b es c : Nat} {ds : List D} {cs : List Value} {F H : List Nat} (h : RelO U w (.lsl t b ds.length c) cs F) (hl : LocO U w b (.arr es ds c) H) : RelO U w (.ow es ds c) cs H ∧ F = [] := by
  simp only [RelO, RelC] at h
  obtain ⟨⟨a, rfl, h1, h2⟩, rfl⟩ := h
  refine ⟨?_, rfl⟩
  simp only [RelO]
  refine ⟨a, rfl, ?_⟩
  rcases hl with ⟨rfl, rfl, rfl⟩ | ⟨cells, e, G, h3, h4, h5, h6, h7, rfl⟩
  · exact .inl ⟨rfl, rfl, rfl⟩
  · exact .inr ⟨b, cells, e, G, h2 h3, h3, h4, h5, h6, h7, rfl⟩
mutual
theorem RelO.unp {U : Nat → Prop} {w : World} {es c : Nat} {ds : List D} (t : Nat) : ∀ {d : D} {cs : List Value} {F p : List Nat} {o : Nat}, RelO U w d cs F → d.at p = some (.ow es ds c, o) →
    ∃ b H F', (∀ d', d.set p (.lsl t b ds.length c) = some d' → RelO U w d' cs F') ∧ LocO U w b (.arr es ds c) H ∧ (H ++ F').Perm F
  | d, cs, F, [], o, h, e => by
    obtain rfl := atNil e
    obtain ⟨b, h1, h2⟩ := h.unp0 t
    exact ⟨b, F, [], fun d' hs => by rw [(setNil hs).1]; exact h1, h2, by simp⟩
  | .agg fs, cs, F, i :: p, o, h, e => by
    simp only [RelO] at h
    simp only [D.at] at e
    obtain ⟨b, H, F', h1, h2, h3⟩ := RelOF.unps t h e
    refine ⟨b, H, F', fun d' hs => ?_, h2, h3⟩
    simp only [D.set, Option.map_eq_some_iff] at hs
    obtain ⟨fs', h4, rfl⟩ := hs
    simp only [RelO]
    exact h1 _ h4
  | .undef, _, _, _ :: _, _, h, e | .any, _, _, _ :: _, _, h, e | .int .., _, _, _ :: _, _, h, e | .bool .., _, _, _ :: _, _, h, e | .str .., _, _, _ :: _, _, h, e | .nil, _, _, _ :: _, _, h, e | .nilp, _, _, _ :: _, _, h, e | .ro .., _, _, _ :: _, _, h, e | .lref .., _, _, _ :: _, _, h, e | .lsl .., _, _, _ :: _, _, h, e | .lvw .., _, _, _ :: _, _, h, e | .mp _, _, _, _ :: _, _, h, e | .lmp .., _, _, _ :: _, _, h, e | .cref .., _, _, _ :: _, _, h, e | .tup _, _, _, _ :: _, _, h, e | .fn .., _, _, _ :: _, _, h, e | .arr .., _, _, _ :: _, _, h, e | .ow .., _, _, _ :: _, _, h, e => by simp [D.at] at e
theorem RelOF.unps {U : Nat → Prop} {w : World} {es c : Nat} {ds : List D} (t : Nat) : ∀ {fs : List D} {cs : List Value} {F : List Nat} {i : Nat} {p : List Nat} {o : Nat}, RelOF U w fs cs F → D.ats fs i p = some (.ow es ds c, o) →
    ∃ b H F', (∀ fs', D.sets fs i p (.lsl t b ds.length c) = some fs' → RelOF U w fs' cs F') ∧ LocO U w b (.arr es ds c) H ∧ (H ++ F').Perm F
  | [], _, _, _, _, _, _, e => by simp [D.ats] at e
  | d :: fs, cs, F, 0, p, o, h, e => by
    simp only [RelOF] at h
    obtain ⟨c1, c2, F1, F2, rfl, rfl, h1, h2⟩ := h
    simp only [D.ats] at e
    obtain ⟨b, H, F', q1, q2, q3⟩ := RelO.unp t h1 e
    refine ⟨b, H, F' ++ F2, fun fs' hs => ?_, q2, ?_⟩
    · simp only [D.sets, Option.map_eq_some_iff] at hs
      obtain ⟨d', h4, rfl⟩ := hs
      simp only [RelOF]
      exact ⟨c1, c2, F', F2, rfl, rfl, q1 _ h4, h2⟩
    · rw [← List.append_assoc]
      exact q3.append_right F2
  | d :: fs, cs, F, i + 1, p, o, h, e => by
    simp only [RelOF] at h
    obtain ⟨c1, c2, F1, F2, rfl, rfl, h1, h2⟩ := h
    simp only [D.ats] at e
    cases hr : D.ats fs i p with
    | none => simp [hr] at e
    | some r =>
      simp only [hr, Option.map_some, Option.some.injEq, Prod.mk.injEq] at e
      obtain ⟨r1, r2⟩ := r
      obtain ⟨e1, e2⟩ := e
      simp only at e1
      subst e1
      obtain ⟨b, H, F', q1, q2, q3⟩ := RelOF.unps t h2 hr
      refine ⟨b, H, F1 ++ F', fun fs' hs => ?_, q2, ?_⟩
      · simp only [D.sets, Option.map_eq_some_iff] at hs
        obtain ⟨d', h4, rfl⟩ := hs
        simp only [RelOF]
        exact ⟨c1, c2, F1, F', rfl, rfl, h1, q1 _ h4⟩
      · have e3 : (H ++ (F1 ++ F')).Perm (F1 ++ (H ++ F')) := by
          rw [← List.append_assoc, ← List.append_assoc]
          exact List.Perm.append_right F' List.perm_append_comm
        exact e3.trans (q3.append_left F1)
end
mutual
theorem RelO.pak {U : Nat → Prop} {w : World} {t b es c : Nat} {ds : List D} {H : List Nat} (hl : LocO U w b (.arr es ds c) H) : ∀ {d d' : D} {cs : List Value} {F p : List Nat} {o : Nat}, RelO U w d cs F → d.at p = some (.lsl t b ds.length c, o) → d.set p (.ow es ds c) = some d' →
    ∃ F', RelO U w d' cs F' ∧ F'.Perm (H ++ F)
  | d, d', cs, F, [], o, h, e, hs => by
    obtain rfl := atNil e
    obtain ⟨h1, rfl⟩ := h.pak0 hl
    exact ⟨H, by rw [(setNil hs).1]; exact h1, by simp⟩
  | .agg fs, d', cs, F, i :: p, o, h, e, hs => by
    simp only [RelO] at h
    simp only [D.at] at e
    simp only [D.set, Option.map_eq_some_iff] at hs
    obtain ⟨fs', h4, rfl⟩ := hs
    obtain ⟨F', h1, h2⟩ := RelOF.paks hl h e h4
    exact ⟨F', by simp only [RelO]; exact h1, h2⟩
  | .undef, _, _, _, _ :: _, _, h, e, _ | .any, _, _, _, _ :: _, _, h, e, _ | .int .., _, _, _, _ :: _, _, h, e, _ | .bool .., _, _, _, _ :: _, _, h, e, _ | .str .., _, _, _, _ :: _, _, h, e, _ | .nil, _, _, _, _ :: _, _, h, e, _ | .nilp, _, _, _, _ :: _, _, h, e, _ | .ro .., _, _, _, _ :: _, _, h, e, _ | .lref .., _, _, _, _ :: _, _, h, e, _ | .lsl .., _, _, _, _ :: _, _, h, e, _ | .lvw .., _, _, _, _ :: _, _, h, e, _ | .mp _, _, _, _, _ :: _, _, h, e, _ | .lmp .., _, _, _, _ :: _, _, h, e, _ | .cref .., _, _, _, _ :: _, _, h, e, _ | .tup _, _, _, _, _ :: _, _, h, e, _ | .fn .., _, _, _, _ :: _, _, h, e, _ | .arr .., _, _, _, _ :: _, _, h, e, _ | .ow .., _, _, _, _ :: _, _, h, e, _ => by simp [D.at] at e
theorem RelOF.paks {U : Nat → Prop} {w : World} {t b es c : Nat} {ds : List D} {H : List Nat} (hl : LocO U w b (.arr es ds c) H) : ∀ {fs fs' : List D} {cs : List Value} {F : List Nat} {i : Nat} {p : List Nat} {o : Nat}, RelOF U w fs cs F → D.ats fs i p = some (.lsl t b ds.length c, o) → D.sets fs i p (.ow es ds c) = some fs' →
    ∃ F', RelOF U w fs' cs F' ∧ F'.Perm (H ++ F)
  | [], _, _, _, _, _, _, _, e, _ => by simp [D.ats] at e
  | d :: fs, fs', cs, F, 0, p, o, h, e, hs => by
    simp only [RelOF] at h
    obtain ⟨c1, c2, F1, F2, rfl, rfl, h1, h2⟩ := h
    simp only [D.ats] at e
    simp only [D.sets, Option.map_eq_some_iff] at hs
    obtain ⟨d', h4, rfl⟩ := hs
    obtain ⟨F', q1, q2⟩ := RelO.pak hl h1 e h4
    refine ⟨F' ++ F2, ?_, ?_⟩
    · simp only [RelOF]
      exact ⟨c1, c2, F', F2, rfl, rfl, q1, h2⟩
    · rw [← List.append_assoc]
      exact q2.append_right F2
  | d :: fs, fs', cs, F, i + 1, p, o, h, e, hs => by
    simp only [RelOF] at h
    obtain ⟨c1, c2, F1, F2, rfl, rfl, h1, h2⟩ := h
    simp only [D.ats] at e
    simp only [D.sets, Option.map_eq_some_iff] at hs
    obtain ⟨d', h4, rfl⟩ := hs
    cases hr : D.ats fs i p with
    | none => simp [hr] at e
    | some r =>
      simp only [hr, Option.map_some, Option.some.injEq, Prod.mk.injEq] at e
      obtain ⟨r1, r2⟩ := r
      obtain ⟨e1, e2⟩ := e
      simp only at e1
      subst e1
      obtain ⟨F', q1, q2⟩ := RelOF.paks hl h2 hr h4
      refine ⟨F1 ++ F', ?_, ?_⟩
      · simp only [RelOF]
        exact ⟨c1, c2, F1, F', rfl, rfl, h1, q1⟩
      · have e3 : (F1 ++ (H ++ F2)).Perm (H ++ (F1 ++ F2)) := by
          rw [← List.append_assoc, ← List.append_assoc]
          exact List.Perm.append_right F2 List.perm_append_comm
        exact (q2.append_left F1).trans e3
end
theorem RelOR.part {U : Nat → Prop} {w : World} {es : Nat} : ∀ {ds : List D} {cs : List Value} {F : List Nat} {i : Nat}, RelOR U w es ds cs F → i < ds.length →
    ∃ c1 ce c2 F1 Fe F2, cs = c1 ++ ce ++ c2 ∧ F = F1 ++ Fe ++ F2 ∧ ce.length = es ∧ RelO U w (ds.getD i .any) ce Fe ∧ ∀ d' Fe', RelO U w d' ce Fe' → RelOR U w es (ds.set i d') (c1 ++ ce ++ c2) (F1 ++ Fe' ++ F2)
  | [], _, _, _, _, h => absurd h (by simp)
  | d :: ds, cs, F, 0, h, _ => by
    simp only [RelOR] at h
    obtain ⟨c1, c2, F1, F2, rfl, rfl, h1, h2, h3⟩ := h
    refine ⟨[], c1, c2, [], F1, F2, rfl, rfl, h1, h2, fun d' Fe' hd => ?_⟩
    simp only [List.set_cons_zero, RelOR]
    exact ⟨c1, c2, Fe', F2, rfl, rfl, h1, hd, h3⟩
  | d :: ds, cs, F, i + 1, h, hi => by
    simp only [RelOR] at h
    obtain ⟨c1, c2, F1, F2, rfl, rfl, h1, h2, h3⟩ := h
    obtain ⟨a1, ae, a2, G1, Ge, G2, rfl, rfl, q3, q4, q5⟩ := RelOR.part h3 (by simpa using hi)
    refine ⟨c1 ++ a1, ae, a2, F1 ++ G1, Ge, G2, by simp, by simp, q3, q4, fun d' Fe' hd => ?_⟩
    simp only [List.set_cons_succ, RelOR]
    exact ⟨c1, a1 ++ ae ++ a2, F1, G1 ++ Fe' ++ G2, by simp, by simp, h1, h2, q5 d' Fe' hd⟩
theorem perm_mid {H A B F1 F2 : List Nat} (h : (H ++ B).Perm A) : (H ++ (F1 ++ B ++ F2)).Perm (F1 ++ A ++ F2) := by
  have e : (H ++ (F1 ++ B ++ F2)).Perm (F1 ++ (H ++ B) ++ F2) := by
    simp only [← List.append_assoc]
    exact List.Perm.append_right F2 (List.Perm.append_right B List.perm_append_comm)
  exact e.trans ((h.append_left F1).append_right F2)
theorem LocO.unpR {U : Nat → Prop} {w : World} {b0 es cp i es' cp' o : Nat} {ds ds' : List D} {q F : List Nat} (t : Nat) (h : LocO U w b0 (.arr es ds cp) F) (hi : i < ds.length) (hat : (ds.getD i .any).at q = some (.ow es' ds' cp', o)) :
    ∃ b H F', (∀ d1, (ds.getD i .any).set q (.lsl t b ds'.length cp') = some d1 → LocO U w b0 (.arr es (ds.set i d1) cp) F') ∧ LocO U w b (.arr es' ds' cp') H ∧ (H ++ F').Perm F := by
  rcases h with ⟨_, rfl, _⟩ | ⟨cells, e, G, h3, h4, h5, h6, h7, rfl⟩
  · simp at hi
  obtain ⟨c1, ce, c2, F1, Fe, F2, q1, rfl, q3, q4, q5⟩ := h7.part hi
  obtain ⟨b, H, F', r1, r2, r3⟩ := q4.unp t hat
  refine ⟨b, H, b0 :: (F1 ++ F' ++ F2), fun d1 hs => .inr ⟨cells, e, _, h3, h4, h5, by simpa using h6, ?_, rfl⟩, r2, ?_⟩
  · rw [List.length_set, q1]
    exact q5 _ _ (r1 _ hs)
  · exact List.perm_middle.trans ((perm_mid r3).cons b0)
theorem LocO.unpB {U : Nat → Prop} {w : World} {b0 es' cp' o : Nat} {c : D} {ds' : List D} {q F : List Nat} (t : Nat) (h : LocO U w b0 c F) (hmp : c.mpB = false) (hat : c.at q = some (.ow es' ds' cp', o)) :
    ∃ b H F', (∀ d1, c.set q (.lsl t b ds'.length cp') = some d1 → LocO U w b0 d1 F') ∧ LocO U w b (.arr es' ds' cp') H ∧ (H ++ F').Perm F := by
  obtain ⟨cells, e, G, h1, h2, rfl⟩ := h.cells hmp
  obtain ⟨b, H, F', r1, r2, r3⟩ := h2.unp t hat
  exact ⟨b, H, b0 :: F', fun d1 hs => .of h1 (r1 _ hs), r2, List.perm_middle.trans (r3.cons b0)⟩
theorem LocO.pakR {U : Nat → Prop} {w : World} {b0 es cp i es' cp' o t b : Nat} {ds ds' : List D} {q F H : List Nat} {d1 : D} (h : LocO U w b0 (.arr es ds cp) F) (hi : i < ds.length) (hat : (ds.getD i .any).at q = some (.lsl t b ds'.length cp', o)) (hl : LocO U w b (.arr es' ds' cp') H) (hs : (ds.getD i .any).set q (.ow es' ds' cp') = some d1) :
    ∃ F', LocO U w b0 (.arr es (ds.set i d1) cp) F' ∧ F'.Perm (H ++ F) := by
  rcases h with ⟨_, rfl, _⟩ | ⟨cells, e, G, h3, h4, h5, h6, h7, rfl⟩
  · simp at hi
  obtain ⟨c1, ce, c2, F1, Fe, F2, q1, rfl, q3, q4, q5⟩ := h7.part hi
  obtain ⟨F', r1, r2⟩ := q4.pak hl hat hs
  refine ⟨b0 :: (F1 ++ F' ++ F2), .inr ⟨cells, e, _, h3, h4, h5, by simpa using h6, ?_, rfl⟩, ?_⟩
  · rw [List.length_set, q1]
    exact q5 _ _ r1
  · exact (((perm_mid r2.symm).cons b0).symm).trans List.perm_middle.symm
theorem LocO.pakB {U : Nat → Prop} {w : World} {b0 es' cp' o t b : Nat} {c : D} {ds' : List D} {q F H : List Nat} {d1 : D} (h : LocO U w b0 c F) (hmp : c.mpB = false) (hat : c.at q = some (.lsl t b ds'.length cp', o)) (hl : LocO U w b (.arr es' ds' cp') H) (hs : c.set q (.ow es' ds' cp') = some d1) :
    ∃ F', LocO U w b0 d1 F' ∧ F'.Perm (H ++ F) := by
  obtain ⟨cells, e, G, h1, h2, rfl⟩ := h.cells hmp
  obtain ⟨F', r1, r2⟩ := h2.pak hl hat hs
  exact ⟨b0 :: F', .of h1 r1, (r2.cons b0).trans List.perm_middle.symm⟩
section
variable {P : Program} {F : Fix} {n : Nat} {g : G} {st : St} {a : Act} {w : World}
theorem Holds.unp (h : Holds F n g st a w) {k t b : Nat} {c c1 d2 : D} {Fs F' H : List Nat} (hO : Own F g w k (st.gen k) c Fs) (hkt : k ≠ t) (h1 : LocO g.U w (st.gen k) c1 F') (h2 : LocO g.U w b d2 H) (hp : (H ++ F').Perm Fs) :
    Holds F n { g with own := fun x => if x ∈ H then some t else g.own x } { st with gen := upd st.gen t b, lc := upd (upd st.lc k (some c1)) t (some d2) } a w := by
  have hnd := hp.nodup_iff.2 hO.nd
  have hsH : ∀ x ∈ H, x ∈ Fs := fun x hx => hp.subset (by simp [hx])
  have hsF : ∀ x ∈ F', x ∈ Fs := fun x hx => hp.subset (by simp [hx])
  obtain ⟨nH, nF, nd⟩ := List.nodup_append.1 hnd
  refine ⟨h.size, h.defers, h.slots, fun j d hj => ?_, h.uin, h.ubd, h.uout, h.keep⟩
  have hj' : upd (upd st.lc k (some c1)) t (some d2) j = some d := hj
  rw [upd_apply] at hj'
  show ∃ Fs, Own F _ w j (upd st.gen t b j) d Fs
  rw [upd_apply]
  split at hj'
  · rename_i e
    subst e
    simp only [Option.some.injEq] at hj'
    subst hj'
    rw [if_pos rfl]
    exact ⟨H, h2, nH, fun x hx => by simp [hx], fun x hx => hO.nu x (hsH x hx), fun x hx => hO.lo x (hsH x hx)⟩
  · rename_i hne
    rw [if_neg hne]
    rw [upd_apply] at hj'
    split at hj'
    · rename_i e
      subst e
      simp only [Option.some.injEq] at hj'
      subst hj'
      refine ⟨F', h1, nF, fun x hx => ?_, fun x hx => hO.nu x (hsF x hx), fun x hx => hO.lo x (hsF x hx)⟩
      have : x ∉ H := fun hx' => nd x hx' x hx rfl
      simp only [this, if_false]
      exact hO.own x (hsF x hx)
    · rename_i hne2
      obtain ⟨Gs, hG⟩ := h.locs j d hj'
      refine ⟨Gs, hG.loc, hG.nd, fun x hx => ?_, hG.nu, hG.lo⟩
      have : x ∉ H := fun hx' => by
        have q1 := hG.own x hx
        rw [hO.own x (hsH x hx')] at q1
        simp at q1
        exact hne2 q1.symm
      simp only [this, if_false]
      exact hG.own x hx
theorem Holds.pak (h : Holds F n g st a w) {k t : Nat} {c c1 d2 : D} {Fs F' H : List Nat} (hO : Own F g w k (st.gen k) c Fs) (hT : Own F g w t (st.gen t) d2 H) (hkt : k ≠ t) (h1 : LocO g.U w (st.gen k) c1 F') (hp : F'.Perm (H ++ Fs)) :
    Holds F n { g with own := fun x => if x ∈ H then some k else g.own x } { st with lc := upd (upd st.lc k (some c1)) t none } a w := by
  have hdis : ∀ x ∈ H, x ∉ Fs := fun x hx hx' => by
    have q1 := hT.own x hx
    rw [hO.own x hx'] at q1
    simp at q1
    exact hkt q1
  refine ⟨h.size, h.defers, h.slots, fun j d hj => ?_, h.uin, h.ubd, h.uout, h.keep⟩
  have hj' : upd (upd st.lc k (some c1)) t none j = some d := hj
  rw [upd_apply] at hj'
  show ∃ Fs, Own F _ w j (st.gen j) d Fs
  split at hj'
  · cases hj'
  · rename_i hne
    rw [upd_apply] at hj'
    split at hj'
    · rename_i e
      subst e
      simp only [Option.some.injEq] at hj'
      subst hj'
      have hm : ∀ x ∈ F', x ∈ H ∨ x ∈ Fs := fun x hx => List.mem_append.1 (hp.subset hx)
      refine ⟨F', h1, hp.nodup_iff.2 (List.nodup_append.2 ⟨hT.nd, hO.nd, fun x hx y hy e => hdis x hx (e ▸ hy)⟩), fun x hx => ?_, fun x hx => (hm x hx).elim (hT.nu x) (hO.nu x), fun x hx => (hm x hx).elim (hT.lo x) (hO.lo x)⟩
      rcases hm x hx with q | q
      · simp [q]
      · by_cases e : x ∈ H
        · simp [e]
        · simp only [e, if_false]; exact hO.own x q
    · rename_i hne2
      obtain ⟨Gs, hG⟩ := h.locs j d hj'
      refine ⟨Gs, hG.loc, hG.nd, fun x hx => ?_, hG.nu, hG.lo⟩
      have : x ∉ H := fun hx' => by
        have q1 := hG.own x hx
        rw [hT.own x hx'] at q1
        simp at q1
        exact hne q1.symm
      simp only [this, if_false]
      exact hG.own x hx
/-- A row inside an element of a row is given the name t. -/
theorem XS.unpR {cc : CC} {Q : Post} (k t i : Nat) (q : List Nat) {es cp es' cp' o : Nat} {ds ds' : List D} (hkt : Nat.beq k t = false) (hl : st.lc k = some (.arr es ds cp)) (hi : i < ds.length) (hat : (ds.getD i .any).at q = some (.ow es' ds' cp', o)) {d1 : Nat → D} (hset : ∀ b, (ds.getD i .any).set q (.lsl t b ds'.length cp') = some (d1 b))
    (h : ∀ b, XS P n cc { st with gen := upd st.gen t b, lc := upd (upd st.lc k (some (.arr es (ds.set i (d1 b)) cp))) t (some (.arr es' ds' cp')) } Q) : XS P n cc st Q :=
  ⟨fun hm nq c hc F g a w hH => by
    obtain ⟨Fs, hO⟩ := hH.locs k _ hl
    obtain ⟨b, H, F', h1, h2, h3⟩ := hO.loc.unpR t hi hat
    exact (h b).sem hm nq c hc F _ a w (hH.unp hO (Nat.ne_of_beq_eq_false hkt) (h1 _ (hset b)) h2 h3)⟩
/-- A row inside a box is given the name t. -/
theorem XS.unpB {cc : CC} {Q : Post} (k t : Nat) (q : List Nat) {es' cp' o : Nat} {ds' : List D} {c : D} (hkt : Nat.beq k t = false) (hl : st.lc k = some c) (hmp : c.mpB = false) (hat : c.at q = some (.ow es' ds' cp', o)) {d1 : Nat → D} (hset : ∀ b, c.set q (.lsl t b ds'.length cp') = some (d1 b))
    (h : ∀ b, XS P n cc { st with gen := upd st.gen t b, lc := upd (upd st.lc k (some (d1 b))) t (some (.arr es' ds' cp')) } Q) : XS P n cc st Q :=
  ⟨fun hm nq cd hc F g a w hH => by
    obtain ⟨Fs, hO⟩ := hH.locs k _ hl
    obtain ⟨b, H, F', h1, h2, h3⟩ := hO.loc.unpB t hmp hat
    exact (h b).sem hm nq cd hc F _ a w (hH.unp hO (Nat.ne_of_beq_eq_false hkt) (h1 _ (hset b)) h2 h3)⟩
/-- The row named t goes back into an element of a row. -/
theorem XS.pakR {cc : CC} {Q : Post} (k t i : Nat) (q : List Nat) {es cp es' cp' o m : Nat} {ds ds' : List D} {d1 : D} (hkt : Nat.beq k t = false) (hl : st.lc k = some (.arr es ds cp)) (hlt : st.lc t = some (.arr es' ds' cp')) (hi : i < ds.length) (hat : (ds.getD i .any).at q = some (.lsl t (st.gen t) m cp', o)) (hn : m = ds'.length) (hset : (ds.getD i .any).set q (.ow es' ds' cp') = some d1)
    (h : XS P n cc { st with lc := upd (upd st.lc k (some (.arr es (ds.set i d1) cp))) t none } Q) : XS P n cc st Q :=
  h.ghost fun F g a w hH => by
    subst hn
    obtain ⟨Fs, hO⟩ := hH.locs k _ hl
    obtain ⟨H, hT⟩ := hH.locs t _ hlt
    obtain ⟨F', h1, h2⟩ := hO.loc.pakR hi hat hT.loc hset
    exact ⟨_, hH.pak hO hT (Nat.ne_of_beq_eq_false hkt) h1 h2⟩
/-- The row named t goes back into a box. -/
theorem XS.pakB {cc : CC} {Q : Post} (k t : Nat) (q : List Nat) {es' cp' o m : Nat} {ds' : List D} {c d1 : D} (hkt : Nat.beq k t = false) (hl : st.lc k = some c) (hlt : st.lc t = some (.arr es' ds' cp')) (hmp : c.mpB = false) (hat : c.at q = some (.lsl t (st.gen t) m cp', o)) (hn : m = ds'.length) (hset : c.set q (.ow es' ds' cp') = some d1)
    (h : XS P n cc { st with lc := upd (upd st.lc k (some d1)) t none } Q) : XS P n cc st Q :=
  h.ghost fun F g a w hH => by
    subst hn
    obtain ⟨Fs, hO⟩ := hH.locs k _ hl
    obtain ⟨H, hT⟩ := hH.locs t _ hlt
    obtain ⟨F', h1, h2⟩ := hO.loc.pakB hmp hat hT.loc hset
    exact ⟨_, hH.pak hO hT (Nat.ne_of_beq_eq_false hkt) h1 h2⟩
end
end Go.Ab
namespace Go.Ab
open Go Go.RowKit
/-! ### A loop with a small goal of its own -/
def cutQ {α β : Type} (id : Nat) (E : α → (Nat → Nat) → Prop) (fs : α → (Nat → Nat) → List D) (ls : α → (Nat → Nat) → List (Nat × D)) (T : β → Prop) (fr : β → List D) : Post := fun e st =>
  match e with
  | .exit k => k = id ∧ ∃ y, E y st.gen ∧ FitA st (fs y st.gen) (ls y st.gen)
  | .ret => ∃ z, T z ∧ FitA st (fr z) []
  | .normal => False
section
variable {P : Program} {n : Nat} {st : St} {Q : Post}
theorem XLc.cut {α β : Type} {body : CC} (id : Nat) (E : α → (Nat → Nat) → Prop) (fs : α → (Nat → Nat) → List D) (ls : α → (Nat → Nat) → List (Nat × D)) (T : β → Prop) (fr : β → List D)
    (h1 : XLc P n body st (cutQ id E fs ls T fr)) (h3 : ∀ z gs, T z → Q .ret (St.mkA (fr z) gs [])) (h2 : ∀ y gs, E y gs → Q (.exit id) (St.mkA (fs y gs) gs (ls y gs))) : XLc P n body st Q :=
  ⟨fun hm nq c hc F g a w hH => (h1.sem hm nq c hc F g a w hH) |> fun h => wp_mono h fun e a2 w2 hq => by
    cases e with
    | normal => obtain ⟨g2, st2, hH2, q⟩ := hq; exact q.elim
    | exit k =>
      obtain ⟨g2, st2, hH2, q⟩ := hq
      obtain ⟨rfl, y, hE, hF⟩ := q
      exact ⟨g2, _, hH2.weaken hF.le, h2 y _ hE⟩
    | ret =>
      obtain ⟨g2, st2, hH2, q⟩ := hq
      obtain ⟨z, hT, hF⟩ := q
      exact ⟨g2, _, hH2.weaken hF.le, h3 z _ hT⟩
    | goto l => exact hq
    | panic c => exact hq
    | outgrown => exact hq⟩
end
end Go.Ab
namespace Go.Ab
open Go Go.RowKit
attribute [local irreducible] IntKind.wrap xw xos xqs xr xd
set_option maxRecDepth 100000
/-! ### Slices of texts and of numbers -/
def cfToL (bytes : Nat) (z : D) : CF := ⟨22, [.t 2],
  (.seq (.ops [⟨some 2, .mv (.k (.nil)), none⟩])
  (.seq (.ops [⟨some 5, .mv (.t 0), none⟩,
    ⟨some 6, .lenl (.t 5), none⟩,
    ⟨some 7, .mk z bytes (.t 6) (.t 6), none⟩,
    ⟨some 3, .mv (.t 7), none⟩])
  (.seq (.seq (.ops [⟨some 4, .mv (.k (.int .i64 0)), none⟩])
  (.block 0 (.loop (.seq (.seq (.ops [⟨some 8, .mv (.t 4), none⟩,
    ⟨some 9, .mv (.t 0), none⟩,
    ⟨some 10, .lenl (.t 9), none⟩,
    ⟨some 11, .bin .lss (.t 8) (.t 10), none⟩])
  (.cond (.t 11)
  .skip
  (.exit 0)))
  (.seq (.block 1 (.ops [⟨some 14, .mv (.t 3), none⟩,
    ⟨some 15, .mv (.t 4), none⟩,
    ⟨some 16, .mv (.t 0), none⟩,
    ⟨some 17, .mv (.t 4), none⟩,
    ⟨some 18, .ix 1 (.t 16) (.t 17), none⟩,
    ⟨some 19, .ld 1 false (.t 18), none⟩,
    ⟨some 20, .ix 1 (.t 14) (.t 15), none⟩,
    ⟨none, .st 1 (.t 20) (.t 19), none⟩]))
  (.ops [⟨some 12, .mv (.t 4), none⟩,
    ⟨some 13, .bin .add (.t 12) (.k (.int .i64 1)), none⟩,
    ⟨some 4, .mv (.t 13), none⟩]))))))
  (.seq (.ops [⟨some 21, .mv (.t 3), none⟩,
    ⟨some 2, .mv (.t 21), none⟩])
  .ret))))⟩
def cfEqL : CF := ⟨26, [.t 4],
  (.seq (.ops [⟨some 4, .mv (.k (.bool false)), none⟩])
  (.seq (.seq (.ops [⟨some 6, .mv (.t 0), none⟩,
    ⟨some 7, .lenl (.t 6), none⟩,
    ⟨some 8, .mv (.t 1), none⟩,
    ⟨some 9, .lenl (.t 8), none⟩,
    ⟨some 10, .bin .neq (.t 7) (.t 9), none⟩])
  (.cond (.t 10)
  (.seq (.ops [⟨some 4, .mv (.k (.bool false)), none⟩])
  .ret)
  .skip))
  (.seq (.seq (.ops [⟨some 5, .mv (.k (.int .i64 0)), none⟩])
  (.block 0 (.loop (.seq (.seq (.ops [⟨some 11, .mv (.t 5), none⟩,
    ⟨some 12, .mv (.t 0), none⟩,
    ⟨some 13, .lenl (.t 12), none⟩,
    ⟨some 14, .bin .lss (.t 11) (.t 13), none⟩])
  (.cond (.t 14)
  .skip
  (.exit 0)))
  (.seq (.block 1 (.seq (.quiet [⟨some 17, .mv (.t 0), none⟩,
    ⟨some 18, .mv (.t 5), none⟩,
    ⟨some 19, .ix 1 (.t 17) (.t 18), none⟩,
    ⟨some 20, .ld 1 false (.t 19), none⟩,
    ⟨some 21, .mv (.t 1), none⟩,
    ⟨some 22, .mv (.t 5), none⟩,
    ⟨some 23, .ix 1 (.t 21) (.t 22), none⟩,
    ⟨some 24, .ld 1 false (.t 23), none⟩,
    ⟨some 25, .bin .neq (.t 20) (.t 24), none⟩])
  (.cond (.t 25)
  (.seq (.ops [⟨some 4, .mv (.k (.bool false)), none⟩])
  .ret)
  .skip)))
  (.ops [⟨some 15, .mv (.t 5), none⟩,
    ⟨some 16, .bin .add (.t 15) (.k (.int .i64 1)), none⟩,
    ⟨some 5, .mv (.t 16), none⟩]))))))
  (.seq (.ops [⟨some 4, .mv (.k (.bool true)), none⟩])
  .ret))))⟩
def cfSzT : CF := ⟨28, [.t 4],
  (.seq (.ops [⟨some 4, .mv (.k (.int .i64 0)), none⟩])
  (.seq (.ops [⟨some 6, .mv (.t 1), none⟩,
    ⟨some 7, .mv (.t 0), none⟩,
    ⟨some 8, .lenl (.t 7), none⟩,
    ⟨some 9, .bin .sub (.t 6) (.t 8), none⟩,
    ⟨some 1, .mv (.t 9), none⟩])
  (.seq (.seq (.ops [⟨some 10, .mv (.t 1), none⟩,
    ⟨some 11, .bin .lss (.t 10) (.k (.int .i64 0)), none⟩])
  (.cond (.t 11)
  (.seq (.ops [⟨some 4, .mv (.k (.int .i64 (-1))), none⟩])
  .ret)
  .skip))
  (.seq (.seq (.ops [⟨some 5, .mv (.k (.int .i64 0)), none⟩])
  (.block 0 (.loop (.seq (.seq (.ops [⟨some 12, .mv (.t 5), none⟩,
    ⟨some 13, .mv (.t 0), none⟩,
    ⟨some 14, .lenl (.t 13), none⟩,
    ⟨some 15, .bin .lss (.t 12) (.t 14), none⟩])
  (.cond (.t 15)
  .skip
  (.exit 0)))
  (.seq (.block 1 (.seq (.ops [⟨some 18, .mv (.t 1), none⟩,
    ⟨some 19, .mv (.t 0), none⟩,
    ⟨some 20, .mv (.t 5), none⟩,
    ⟨some 21, .ix 1 (.t 19) (.t 20), none⟩,
    ⟨some 22, .ld 1 false (.t 21), none⟩,
    ⟨some 23, .lens (.t 22), none⟩,
    ⟨some 24, .bin .sub (.t 18) (.t 23), none⟩,
    ⟨some 1, .mv (.t 24), none⟩])
  (.seq (.ops [⟨some 25, .mv (.t 1), none⟩,
    ⟨some 26, .bin .lss (.t 25) (.k (.int .i64 0)), none⟩])
  (.cond (.t 26)
  (.seq (.ops [⟨some 4, .mv (.k (.int .i64 (-1))), none⟩])
  .ret)
  .skip))))
  (.ops [⟨some 16, .mv (.t 5), none⟩,
    ⟨some 17, .bin .add (.t 16) (.k (.int .i64 1)), none⟩,
    ⟨some 5, .mv (.t 17), none⟩]))))))
  (.seq (.ops [⟨some 27, .mv (.t 1), none⟩,
    ⟨some 4, .mv (.t 27), none⟩])
  .ret)))))⟩
section
variable {P : Program} (hm : P.follows .mixedOrders = true)
include hm
theorem toStr_xc {f bytes : Nat} {ds : List D} (hc : compileF P [] f = some (cfToL bytes (.str ⟨#[]⟩))) (hb : bytes ≤ 10000) (hl : ds.length ≤ 1048576) (hd : ∀ d ∈ ds, ∃ x : ByteArray, d = D.str x) : XC P f [.ro 1 ds] [] fun d ls => ∃ b, d = .lsl 7 b ds.length ds.length ∧ ls = [(7, b, .arr 1 ds ds.length)] := by
  have hlen : ∀ d ∈ ds, d.len = 1 := fun d h => by obtain ⟨v, rfl⟩ := hd d h; rfl
  have hbb : (bytes : Int) * (ds.length : Int) ≤ 140737488355328 := by
    have h1 : (bytes : Int) * (ds.length : Int) ≤ 10000 * (ds.length : Int) := Int.mul_le_mul_of_nonneg_right (by omega) (by omega)
    omega
  refine XC.intro' hm [7] rfl hc (Nat.le_of_ble_eq_true rfl) ?_
  conv => whnf
  repeat' (first
    | (refine g_op ?_; conv => whnf)
    | (refine And.intro ?_ ?_; (focus (first | exact rfl | exact Nat.le_of_ble_eq_true rfl | decide | omega | fail)); conv => whnf)
    | (refine g_seq ?_)
    | (refine XS.go ?_)
    | (refine g_ops ?_)
    | (refine g_loop ?_)
    | (refine g_nil ?_; conv => whnf)
    | (refine g_opg ?_; conv => whnf)
    | (refine Br.t ?_ ?_; (focus (first | assumption | exact rfl)); conv => whnf)
    | (refine Br.f ?_ ?_; (focus (first | assumption | exact rfl)); conv => whnf)
    | (refine g_cond ?_; conv => whnf)
    | (refine g_skip ?_; conv => whnf)
    | (refine g_ret ?_; conv => whnf)
    | (refine g_exit ?_; conv => whnf)
    | (refine g_block ?_)
    | (refine g_quiet ?_)
    | (refine g_drawn ?_)
    | (refine d_p ?_; conv => whnf)
    | (refine d_pg ?_; conv => whnf)
    | (refine d_e ?_; conv => whnf)
    | (refine d_eg ?_; conv => whnf)
    | (refine d_nil ?_; conv => whnf)
    | (refine q_op ?_; conv => whnf)
    | (refine q_nil ?_; conv => whnf)
    | (refine q_opg ?_; conv => whnf)
    | (refine r_t ?_; conv => whnf)
    | (refine r_c ?_; conv => whnf)
    | (refine r_nil ?_; conv => whnf)
    | (refine fun _ => ?_; conv => whnf)
    | fail)
  refine XLc.mkA (α := Nat) (fun i => i ≤ ds.length) (fun i => ds.length - i) (fun i gs => [.ro 1 ds, .any, .nil, .lsl 7 (gs 7) (ds.length : Int).toNat (ds.length : Int).toNat, .int .i64 (i : Int)]) (fun i gs => [(7, .arr 1 (fill (.str ⟨#[]⟩) ds i) (ds.length : Int).toNat)]) 0 (Nat.zero_le _) ?_ ?_
  · refine ⟨?_, ?_⟩
    · repeat' (first | exact True.intro | refine And.intro rfl ?_)
    · refine And.intro ?_ True.intro
      rw [fill_zero]
      rfl
  intro i gs hi
  repeat' (first
    | (refine g_op ?_; conv => whnf)
    | (refine And.intro ?_ ?_; (focus (first | exact rfl | exact Nat.le_of_ble_eq_true rfl | decide | omega | fail)); conv => whnf)
    | (refine g_seq ?_)
    | (refine XS.go ?_)
    | (refine g_ops ?_)
    | (refine g_loop ?_)
    | (refine g_nil ?_; conv => whnf)
    | (refine g_opg ?_; conv => whnf)
    | (refine Br.t ?_ ?_; (focus (first | assumption | exact rfl)); conv => whnf)
    | (refine Br.f ?_ ?_; (focus (first | assumption | exact rfl)); conv => whnf)
    | (refine g_cond ?_; conv => whnf)
    | (refine g_skip ?_; conv => whnf)
    | (refine g_ret ?_; conv => whnf)
    | (refine g_exit ?_; conv => whnf)
    | (refine g_block ?_)
    | (refine g_quiet ?_)
    | (refine g_drawn ?_)
    | (refine d_p ?_; conv => whnf)
    | (refine d_pg ?_; conv => whnf)
    | (refine d_e ?_; conv => whnf)
    | (refine d_eg ?_; conv => whnf)
    | (refine d_nil ?_; conv => whnf)
    | (refine q_op ?_; conv => whnf)
    | (refine q_nil ?_; conv => whnf)
    | (refine q_opg ?_; conv => whnf)
    | (refine r_t ?_; conv => whnf)
    | (refine r_c ?_; conv => whnf)
    | (refine r_nil ?_; conv => whnf)
    | (refine fun _ => ?_; conv => whnf)
    | fail)
  refine Br.mk (fun hb => ?_) (fun hb => ?_)
  · have hlt : i < ds.length := by simpa using hb
    obtain ⟨x, hv⟩ : ∃ x : ByteArray, ds.getD (i : Int).toNat .any = D.str x := by
      have e : ds.getD (i : Int).toNat .any = ds[i] := by simp [hlt]
      rw [e]
      exact hd _ (List.getElem_mem _)
    conv => whnf
    repeat' (first
      | (refine g_op ?_; conv => whnf)
      | (refine And.intro ?_ ?_; (focus (first | exact rfl | exact Nat.le_of_ble_eq_true rfl | decide | omega | fail)); conv => whnf)
      | (refine g_seq ?_)
      | (refine XS.go ?_)
      | (refine g_ops ?_)
      | (refine g_loop ?_)
      | (refine g_nil ?_; conv => whnf)
      | (refine g_opg ?_; conv => whnf)
      | (refine Br.t ?_ ?_; (focus (first | assumption | exact rfl)); conv => whnf)
      | (refine Br.f ?_ ?_; (focus (first | assumption | exact rfl)); conv => whnf)
      | (refine g_cond ?_; conv => whnf)
      | (refine g_skip ?_; conv => whnf)
      | (refine g_ret ?_; conv => whnf)
      | (refine g_exit ?_; conv => whnf)
      | (refine g_block ?_)
      | (refine g_quiet ?_)
      | (refine g_drawn ?_)
      | (refine d_p ?_; conv => whnf)
      | (refine d_pg ?_; conv => whnf)
      | (refine d_e ?_; conv => whnf)
      | (refine d_eg ?_; conv => whnf)
      | (refine d_nil ?_; conv => whnf)
      | (refine q_op ?_; conv => whnf)
      | (refine q_nil ?_; conv => whnf)
      | (refine q_opg ?_; conv => whnf)
      | (refine r_t ?_; conv => whnf)
      | (refine r_c ?_; conv => whnf)
      | (refine r_nil ?_; conv => whnf)
      | (refine fun _ => ?_; conv => whnf)
      | fail)
    rw [hv]
    refine And.intro rfl ?_
    repeat' (first
      | (refine g_op ?_; conv => whnf)
      | (refine And.intro ?_ ?_; (focus (first | exact rfl | exact Nat.le_of_ble_eq_true rfl | decide | omega | fail)); conv => whnf)
      | (refine g_seq ?_)
      | (refine XS.go ?_)
      | (refine g_ops ?_)
      | (refine g_loop ?_)
      | (refine g_nil ?_; conv => whnf)
      | (refine g_opg ?_; conv => whnf)
      | (refine Br.t ?_ ?_; (focus (first | assumption | exact rfl)); conv => whnf)
      | (refine Br.f ?_ ?_; (focus (first | assumption | exact rfl)); conv => whnf)
      | (refine g_cond ?_; conv => whnf)
      | (refine g_skip ?_; conv => whnf)
      | (refine g_ret ?_; conv => whnf)
      | (refine g_exit ?_; conv => whnf)
      | (refine g_block ?_)
      | (refine g_quiet ?_)
      | (refine g_drawn ?_)
      | (refine d_p ?_; conv => whnf)
      | (refine d_pg ?_; conv => whnf)
      | (refine d_e ?_; conv => whnf)
      | (refine d_eg ?_; conv => whnf)
      | (refine d_nil ?_; conv => whnf)
      | (refine q_op ?_; conv => whnf)
      | (refine q_nil ?_; conv => whnf)
      | (refine q_opg ?_; conv => whnf)
      | (refine r_t ?_; conv => whnf)
      | (refine r_c ?_; conv => whnf)
      | (refine r_nil ?_; conv => whnf)
      | (refine fun _ => ?_; conv => whnf)
      | fail)
    have hzl : ∀ d ∈ fill (.str ⟨#[]⟩) ds i, d.len = 1 := fill_lens rfl hlen
    have hel : (fill (.str ⟨#[]⟩) ds i).getD (i : Int).toNat .any = .str ⟨#[]⟩ := by
      have := fill_get (z := .str ⟨#[]⟩) hlt
      simp [this]
    refine And.intro ?_ ?_
    · show i < _
      rw [fill_length hi]; exact hlt
    rw [hel]
    refine And.intro rfl ?_
    conv => whnf
    repeat' (first
      | (refine g_op ?_; conv => whnf)
      | (refine And.intro ?_ ?_; (focus (first | exact rfl | exact Nat.le_of_ble_eq_true rfl | decide | omega | fail)); conv => whnf)
      | (refine g_seq ?_)
      | (refine XS.go ?_)
      | (refine g_ops ?_)
      | (refine g_loop ?_)
      | (refine g_nil ?_; conv => whnf)
      | (refine g_opg ?_; conv => whnf)
      | (refine Br.t ?_ ?_; (focus (first | assumption | exact rfl)); conv => whnf)
      | (refine Br.f ?_ ?_; (focus (first | assumption | exact rfl)); conv => whnf)
      | (refine g_cond ?_; conv => whnf)
      | (refine g_skip ?_; conv => whnf)
      | (refine g_ret ?_; conv => whnf)
      | (refine g_exit ?_; conv => whnf)
      | (refine g_block ?_)
      | (refine g_quiet ?_)
      | (refine g_drawn ?_)
      | (refine d_p ?_; conv => whnf)
      | (refine d_pg ?_; conv => whnf)
      | (refine d_e ?_; conv => whnf)
      | (refine d_eg ?_; conv => whnf)
      | (refine d_nil ?_; conv => whnf)
      | (refine q_op ?_; conv => whnf)
      | (refine q_nil ?_; conv => whnf)
      | (refine q_opg ?_; conv => whnf)
      | (refine r_t ?_; conv => whnf)
      | (refine r_c ?_; conv => whnf)
      | (refine r_nil ?_; conv => whnf)
      | (refine fun _ => ?_; conv => whnf)
      | fail)
    have hw : IntKind.wrap .i64 ((i : Int) + 1) = ((i + 1 : Nat) : Int) := by rw [wrap_ok (by omega) (by omega)]; rfl
    refine ⟨i + 1, by omega, by omega, ?_, ?_⟩
    · refine And.intro rfl ?_
      refine And.intro rfl ?_
      refine And.intro rfl ?_
      exact And.intro (congrArg (D.int .i64) hw) True.intro
    · refine And.intro ?_ True.intro
      have e : (fill (.str ⟨#[]⟩) ds i).set i (D.str x) = fill (.str ⟨#[]⟩) ds (i + 1) := by rw [← hv]; exact fill_set hlt
      exact congrArg (fun l => some (D.arr 1 l ds.length)) e
  · have he : i = ds.length := by have : ¬ ((i : Int) < ds.length) := by simpa using hb
                                  omega
    conv => whnf
    repeat' (first
      | (refine g_op ?_; conv => whnf)
      | (refine And.intro ?_ ?_; (focus (first | exact rfl | exact Nat.le_of_ble_eq_true rfl | decide | omega | fail)); conv => whnf)
      | (refine g_seq ?_)
      | (refine XS.go ?_)
      | (refine g_ops ?_)
      | (refine g_loop ?_)
      | (refine g_nil ?_; conv => whnf)
      | (refine g_opg ?_; conv => whnf)
      | (refine Br.t ?_ ?_; (focus (first | assumption | exact rfl)); conv => whnf)
      | (refine Br.f ?_ ?_; (focus (first | assumption | exact rfl)); conv => whnf)
      | (refine g_cond ?_; conv => whnf)
      | (refine g_skip ?_; conv => whnf)
      | (refine g_ret ?_; conv => whnf)
      | (refine g_exit ?_; conv => whnf)
      | (refine g_block ?_)
      | (refine g_quiet ?_)
      | (refine g_drawn ?_)
      | (refine d_p ?_; conv => whnf)
      | (refine d_pg ?_; conv => whnf)
      | (refine d_e ?_; conv => whnf)
      | (refine d_eg ?_; conv => whnf)
      | (refine d_nil ?_; conv => whnf)
      | (refine q_op ?_; conv => whnf)
      | (refine q_nil ?_; conv => whnf)
      | (refine q_opg ?_; conv => whnf)
      | (refine r_t ?_; conv => whnf)
      | (refine r_c ?_; conv => whnf)
      | (refine r_nil ?_; conv => whnf)
      | (refine fun _ => ?_; conv => whnf)
      | fail)
    rw [he, fill_all]
    exact ⟨_, rfl, rfl⟩
theorem toStr_rdr {f bytes : Nat} {l : List ByteArray} (hc : compileF P [] f = some (cfToL bytes (.str ⟨#[]⟩))) (hb : bytes ≤ 10000) (hl : l.length ≤ 1048576) : Rdr P f [.ro 1 (l.map (D.str))] (.ro 1 (l.map (D.str))) :=
  .of_XCF ((toStr_xc hm hc hb (by rw [List.length_map]; exact hl) (fun d hd => by obtain ⟨x, _, rfl⟩ := List.mem_map.1 hd; exact ⟨x, rfl⟩)).mono fun d ls ⟨b, h1, h2⟩ => by
    subst h1 h2
    refine ⟨⟨rfl, Nat.le_refl _⟩, ?_⟩
    show D.ro 1 ((D.frozs (l.map (D.str))).take (l.map (D.str)).length) = _
    rw [D.frozs_map (fun _ => rfl), List.take_length])
theorem eqStr_rdr {f : Nat} {l : List ByteArray} (hc : compileF P [] f = some cfEqL) (hl : l.length ≤ 1048576) : Rdr P f [.ro 1 (l.map (D.str)), .ro 1 (l.map (D.str))] (.bool true) := by
  refine Rdr.intro' hm hc (Nat.le_of_ble_eq_true rfl) ?_
  conv => whnf
  repeat' (first
    | (refine z_ld1 ?_; first | (refine z_ld rfl rfl rfl rfl (by first | (simp only [List.length_set]; assumption) | assumption | omega) (by first | exact elt_set (by first | assumption | (simp only [List.length_set]; assumption)) | assumption) ?_; conv => whnf) | (refine z_ld0 rfl ?_; conv => whnf))
    | (refine z_ld1g ?_; first | (refine z_ldg rfl rfl rfl rfl rfl rfl rfl (by (repeat intro _); exact ⟨(by first | (simp only [List.length_set]; assumption) | assumption | omega), (by first | exact elt_set (by first | assumption | (simp only [List.length_set]; assumption)) | assumption)⟩) rfl rfl rfl rfl ?_; conv => whnf) | (refine z_ld0g ?_; (conv => whnf); refine And.intro ?_ ?_; (focus exact rfl); conv => whnf))
    | (refine z_st1 ?_; first | (refine z_st rfl rfl rfl (by first | (simp only [List.length_set]; assumption) | assumption | omega) (by first | exact elt_set (by first | assumption | (simp only [List.length_set]; assumption)) | assumption) rfl rfl ?_; conv => whnf) | (refine z_st0 ?_; conv => whnf))
    | (refine z_ix1 ?_; first | (refine z_ix rfl rfl rfl rfl rfl ⟨by first | omega | (simp only [decide_eq_true_eq, Bool.not_eq_true', Bool.or_eq_false_iff, decide_eq_false_iff_not, Bool.and_eq_true, Bool.not_eq_false'] at *; omega), by first | omega | (simp only [decide_eq_true_eq, Bool.not_eq_true', Bool.or_eq_false_iff, decide_eq_false_iff_not, Bool.and_eq_true, Bool.not_eq_false'] at *; omega)⟩ ?_; conv => whnf) | (refine z_ix0 rfl rfl ?_; conv => whnf))
    | (refine z_ix1g ?_; refine z_ixg rfl rfl rfl rfl rfl rfl rfl (by (repeat intro _); refine ⟨?_, ?_⟩ <;> first | omega | (simp only [decide_eq_true_eq, Bool.not_eq_true', Bool.or_eq_false_iff, decide_eq_false_iff_not, Bool.and_eq_true, Bool.not_eq_false'] at *; omega)) ?_)
    | (refine z_op ?_ ?_; (focus exact rfl); conv => whnf)
    | (refine z_opg0 ?_; (conv => whnf); refine And.intro ?_ ?_; (focus exact rfl); conv => whnf)
    | (refine z_pick ?_ ?_; (focus exact rfl); conv => whnf)
    | (refine z_pickg ?_; (conv => whnf); refine And.intro ?_ ?_; (focus exact rfl); conv => whnf)
    | (refine zs_ops ?_ ?_; (focus exact rfl))
    | (refine zs_quiet ?_ ?_; (focus exact rfl))
    | (refine zs_decl ?_)
    | (refine z_nil fun vals => ?_; conv => whnf)
    | (refine z_call ?_ ?_; (focus exact rfl))
    | (refine z_eff ?_; conv => whnf)
    | (refine z_callg0 ?_; (conv => whnf); refine And.intro ?_ ?_; (focus exact rfl))
    | (refine g_op ?_; conv => whnf)
    | (refine And.intro ?_ ?_; (focus (first | exact rfl | exact Nat.le_of_ble_eq_true rfl | decide | omega | fail)); conv => whnf)
    | (refine g_seq ?_)
    | (refine XS.go ?_)
    | (refine g_ops ?_)
    | (refine g_loop ?_)
    | (refine g_nil ?_; conv => whnf)
    | (refine g_opg ?_; conv => whnf)
    | (refine Br.t ?_ ?_; (focus (first | assumption | exact rfl)); conv => whnf)
    | (refine Br.f ?_ ?_; (focus (first | assumption | exact rfl)); conv => whnf)
    | (refine g_cond ?_; conv => whnf)
    | (refine g_skip ?_; conv => whnf)
    | (refine g_ret ?_; conv => whnf)
    | (refine g_exit ?_; conv => whnf)
    | (refine g_block ?_)
    | (refine g_quiet ?_)
    | (refine g_drawn ?_)
    | (refine d_p ?_; conv => whnf)
    | (refine d_pg ?_; conv => whnf)
    | (refine d_e ?_; conv => whnf)
    | (refine d_eg ?_; conv => whnf)
    | (refine d_nil ?_; conv => whnf)
    | (refine q_op ?_; conv => whnf)
    | (refine q_nil ?_; conv => whnf)
    | (refine q_opg ?_; conv => whnf)
    | (refine r_t ?_; conv => whnf)
    | (refine r_c ?_; conv => whnf)
    | (refine r_nil ?_; conv => whnf)
    | (refine fun _ => ?_; conv => whnf)
    | fail)
  refine Br.mk (fun hb => ?_) (fun hb => ?_)
  · simp at hb
  conv => whnf
  repeat' (first
    | (refine z_ld1 ?_; first | (refine z_ld rfl rfl rfl rfl (by first | (simp only [List.length_set]; assumption) | assumption | omega) (by first | exact elt_set (by first | assumption | (simp only [List.length_set]; assumption)) | assumption) ?_; conv => whnf) | (refine z_ld0 rfl ?_; conv => whnf))
    | (refine z_ld1g ?_; first | (refine z_ldg rfl rfl rfl rfl rfl rfl rfl (by (repeat intro _); exact ⟨(by first | (simp only [List.length_set]; assumption) | assumption | omega), (by first | exact elt_set (by first | assumption | (simp only [List.length_set]; assumption)) | assumption)⟩) rfl rfl rfl rfl ?_; conv => whnf) | (refine z_ld0g ?_; (conv => whnf); refine And.intro ?_ ?_; (focus exact rfl); conv => whnf))
    | (refine z_st1 ?_; first | (refine z_st rfl rfl rfl (by first | (simp only [List.length_set]; assumption) | assumption | omega) (by first | exact elt_set (by first | assumption | (simp only [List.length_set]; assumption)) | assumption) rfl rfl ?_; conv => whnf) | (refine z_st0 ?_; conv => whnf))
    | (refine z_ix1 ?_; first | (refine z_ix rfl rfl rfl rfl rfl ⟨by first | omega | (simp only [decide_eq_true_eq, Bool.not_eq_true', Bool.or_eq_false_iff, decide_eq_false_iff_not, Bool.and_eq_true, Bool.not_eq_false'] at *; omega), by first | omega | (simp only [decide_eq_true_eq, Bool.not_eq_true', Bool.or_eq_false_iff, decide_eq_false_iff_not, Bool.and_eq_true, Bool.not_eq_false'] at *; omega)⟩ ?_; conv => whnf) | (refine z_ix0 rfl rfl ?_; conv => whnf))
    | (refine z_ix1g ?_; refine z_ixg rfl rfl rfl rfl rfl rfl rfl (by (repeat intro _); refine ⟨?_, ?_⟩ <;> first | omega | (simp only [decide_eq_true_eq, Bool.not_eq_true', Bool.or_eq_false_iff, decide_eq_false_iff_not, Bool.and_eq_true, Bool.not_eq_false'] at *; omega)) ?_)
    | (refine z_op ?_ ?_; (focus exact rfl); conv => whnf)
    | (refine z_opg0 ?_; (conv => whnf); refine And.intro ?_ ?_; (focus exact rfl); conv => whnf)
    | (refine z_pick ?_ ?_; (focus exact rfl); conv => whnf)
    | (refine z_pickg ?_; (conv => whnf); refine And.intro ?_ ?_; (focus exact rfl); conv => whnf)
    | (refine zs_ops ?_ ?_; (focus exact rfl))
    | (refine zs_quiet ?_ ?_; (focus exact rfl))
    | (refine zs_decl ?_)
    | (refine z_nil fun vals => ?_; conv => whnf)
    | (refine z_call ?_ ?_; (focus exact rfl))
    | (refine z_eff ?_; conv => whnf)
    | (refine z_callg0 ?_; (conv => whnf); refine And.intro ?_ ?_; (focus exact rfl))
    | (refine g_op ?_; conv => whnf)
    | (refine And.intro ?_ ?_; (focus (first | exact rfl | exact Nat.le_of_ble_eq_true rfl | decide | omega | fail)); conv => whnf)
    | (refine g_seq ?_)
    | (refine XS.go ?_)
    | (refine g_ops ?_)
    | (refine g_loop ?_)
    | (refine g_nil ?_; conv => whnf)
    | (refine g_opg ?_; conv => whnf)
    | (refine Br.t ?_ ?_; (focus (first | assumption | exact rfl)); conv => whnf)
    | (refine Br.f ?_ ?_; (focus (first | assumption | exact rfl)); conv => whnf)
    | (refine g_cond ?_; conv => whnf)
    | (refine g_skip ?_; conv => whnf)
    | (refine g_ret ?_; conv => whnf)
    | (refine g_exit ?_; conv => whnf)
    | (refine g_block ?_)
    | (refine g_quiet ?_)
    | (refine g_drawn ?_)
    | (refine d_p ?_; conv => whnf)
    | (refine d_pg ?_; conv => whnf)
    | (refine d_e ?_; conv => whnf)
    | (refine d_eg ?_; conv => whnf)
    | (refine d_nil ?_; conv => whnf)
    | (refine q_op ?_; conv => whnf)
    | (refine q_nil ?_; conv => whnf)
    | (refine q_opg ?_; conv => whnf)
    | (refine r_t ?_; conv => whnf)
    | (refine r_c ?_; conv => whnf)
    | (refine r_nil ?_; conv => whnf)
    | (refine fun _ => ?_; conv => whnf)
    | fail)
  refine XLc.mkL (α := Nat) (fun i => i ≤ l.length) (fun i => l.length - i) (fun i gs => [.ro 1 (l.map (D.str)), .ro 1 (l.map (D.str)), .any, .any, .bool false, .int .i64 (i : Int)]) (fun i gs => []) 0 (Nat.zero_le _) ?_ ?_
  · refine ⟨?_, True.intro⟩
    repeat' (first | exact True.intro | refine And.intro rfl ?_)
  intro i gs hi
  repeat' (first
    | (refine z_ld1 ?_; first | (refine z_ld rfl rfl rfl rfl (by first | (simp only [List.length_set]; assumption) | assumption | omega) (by first | exact elt_set (by first | assumption | (simp only [List.length_set]; assumption)) | assumption) ?_; conv => whnf) | (refine z_ld0 rfl ?_; conv => whnf))
    | (refine z_ld1g ?_; first | (refine z_ldg rfl rfl rfl rfl rfl rfl rfl (by (repeat intro _); exact ⟨(by first | (simp only [List.length_set]; assumption) | assumption | omega), (by first | exact elt_set (by first | assumption | (simp only [List.length_set]; assumption)) | assumption)⟩) rfl rfl rfl rfl ?_; conv => whnf) | (refine z_ld0g ?_; (conv => whnf); refine And.intro ?_ ?_; (focus exact rfl); conv => whnf))
    | (refine z_st1 ?_; first | (refine z_st rfl rfl rfl (by first | (simp only [List.length_set]; assumption) | assumption | omega) (by first | exact elt_set (by first | assumption | (simp only [List.length_set]; assumption)) | assumption) rfl rfl ?_; conv => whnf) | (refine z_st0 ?_; conv => whnf))
    | (refine z_ix1 ?_; first | (refine z_ix rfl rfl rfl rfl rfl ⟨by first | omega | (simp only [decide_eq_true_eq, Bool.not_eq_true', Bool.or_eq_false_iff, decide_eq_false_iff_not, Bool.and_eq_true, Bool.not_eq_false'] at *; omega), by first | omega | (simp only [decide_eq_true_eq, Bool.not_eq_true', Bool.or_eq_false_iff, decide_eq_false_iff_not, Bool.and_eq_true, Bool.not_eq_false'] at *; omega)⟩ ?_; conv => whnf) | (refine z_ix0 rfl rfl ?_; conv => whnf))
    | (refine z_ix1g ?_; refine z_ixg rfl rfl rfl rfl rfl rfl rfl (by (repeat intro _); refine ⟨?_, ?_⟩ <;> first | omega | (simp only [decide_eq_true_eq, Bool.not_eq_true', Bool.or_eq_false_iff, decide_eq_false_iff_not, Bool.and_eq_true, Bool.not_eq_false'] at *; omega)) ?_)
    | (refine z_op ?_ ?_; (focus exact rfl); conv => whnf)
    | (refine z_opg0 ?_; (conv => whnf); refine And.intro ?_ ?_; (focus exact rfl); conv => whnf)
    | (refine z_pick ?_ ?_; (focus exact rfl); conv => whnf)
    | (refine z_pickg ?_; (conv => whnf); refine And.intro ?_ ?_; (focus exact rfl); conv => whnf)
    | (refine zs_ops ?_ ?_; (focus exact rfl))
    | (refine zs_quiet ?_ ?_; (focus exact rfl))
    | (refine zs_decl ?_)
    | (refine z_nil fun vals => ?_; conv => whnf)
    | (refine z_call ?_ ?_; (focus exact rfl))
    | (refine z_eff ?_; conv => whnf)
    | (refine z_callg0 ?_; (conv => whnf); refine And.intro ?_ ?_; (focus exact rfl))
    | (refine g_op ?_; conv => whnf)
    | (refine And.intro ?_ ?_; (focus (first | exact rfl | exact Nat.le_of_ble_eq_true rfl | decide | omega | fail)); conv => whnf)
    | (refine g_seq ?_)
    | (refine XS.go ?_)
    | (refine g_ops ?_)
    | (refine g_loop ?_)
    | (refine g_nil ?_; conv => whnf)
    | (refine g_opg ?_; conv => whnf)
    | (refine Br.t ?_ ?_; (focus (first | assumption | exact rfl)); conv => whnf)
    | (refine Br.f ?_ ?_; (focus (first | assumption | exact rfl)); conv => whnf)
    | (refine g_cond ?_; conv => whnf)
    | (refine g_skip ?_; conv => whnf)
    | (refine g_ret ?_; conv => whnf)
    | (refine g_exit ?_; conv => whnf)
    | (refine g_block ?_)
    | (refine g_quiet ?_)
    | (refine g_drawn ?_)
    | (refine d_p ?_; conv => whnf)
    | (refine d_pg ?_; conv => whnf)
    | (refine d_e ?_; conv => whnf)
    | (refine d_eg ?_; conv => whnf)
    | (refine d_nil ?_; conv => whnf)
    | (refine q_op ?_; conv => whnf)
    | (refine q_nil ?_; conv => whnf)
    | (refine q_opg ?_; conv => whnf)
    | (refine r_t ?_; conv => whnf)
    | (refine r_c ?_; conv => whnf)
    | (refine r_nil ?_; conv => whnf)
    | (refine fun _ => ?_; conv => whnf)
    | fail)
  refine Br.mk (fun hb => ?_) (fun hb => ?_)
  · have hlt : i < l.length := by simpa using hb
    conv => whnf
    repeat' (first
      | (refine z_ld1 ?_; first | (refine z_ld rfl rfl rfl rfl (by first | (simp only [List.length_set]; assumption) | assumption | omega) (by first | exact elt_set (by first | assumption | (simp only [List.length_set]; assumption)) | assumption) ?_; conv => whnf) | (refine z_ld0 rfl ?_; conv => whnf))
      | (refine z_ld1g ?_; first | (refine z_ldg rfl rfl rfl rfl rfl rfl rfl (by (repeat intro _); exact ⟨(by first | (simp only [List.length_set]; assumption) | assumption | omega), (by first | exact elt_set (by first | assumption | (simp only [List.length_set]; assumption)) | assumption)⟩) rfl rfl rfl rfl ?_; conv => whnf) | (refine z_ld0g ?_; (conv => whnf); refine And.intro ?_ ?_; (focus exact rfl); conv => whnf))
      | (refine z_st1 ?_; first | (refine z_st rfl rfl rfl (by first | (simp only [List.length_set]; assumption) | assumption | omega) (by first | exact elt_set (by first | assumption | (simp only [List.length_set]; assumption)) | assumption) rfl rfl ?_; conv => whnf) | (refine z_st0 ?_; conv => whnf))
      | (refine z_ix1 ?_; first | (refine z_ix rfl rfl rfl rfl rfl ⟨by first | omega | (simp only [decide_eq_true_eq, Bool.not_eq_true', Bool.or_eq_false_iff, decide_eq_false_iff_not, Bool.and_eq_true, Bool.not_eq_false'] at *; omega), by first | omega | (simp only [decide_eq_true_eq, Bool.not_eq_true', Bool.or_eq_false_iff, decide_eq_false_iff_not, Bool.and_eq_true, Bool.not_eq_false'] at *; omega)⟩ ?_; conv => whnf) | (refine z_ix0 rfl rfl ?_; conv => whnf))
      | (refine z_ix1g ?_; refine z_ixg rfl rfl rfl rfl rfl rfl rfl (by (repeat intro _); refine ⟨?_, ?_⟩ <;> first | omega | (simp only [decide_eq_true_eq, Bool.not_eq_true', Bool.or_eq_false_iff, decide_eq_false_iff_not, Bool.and_eq_true, Bool.not_eq_false'] at *; omega)) ?_)
      | (refine z_op ?_ ?_; (focus exact rfl); conv => whnf)
      | (refine z_opg0 ?_; (conv => whnf); refine And.intro ?_ ?_; (focus exact rfl); conv => whnf)
      | (refine z_pick ?_ ?_; (focus exact rfl); conv => whnf)
      | (refine z_pickg ?_; (conv => whnf); refine And.intro ?_ ?_; (focus exact rfl); conv => whnf)
      | (refine zs_ops ?_ ?_; (focus exact rfl))
      | (refine zs_quiet ?_ ?_; (focus exact rfl))
      | (refine zs_decl ?_)
      | (refine z_nil fun vals => ?_; conv => whnf)
      | (refine z_call ?_ ?_; (focus exact rfl))
      | (refine z_eff ?_; conv => whnf)
      | (refine z_callg0 ?_; (conv => whnf); refine And.intro ?_ ?_; (focus exact rfl))
      | (refine g_op ?_; conv => whnf)
      | (refine And.intro ?_ ?_; (focus (first | exact rfl | exact Nat.le_of_ble_eq_true rfl | decide | omega | fail)); conv => whnf)
      | (refine g_seq ?_)
      | (refine XS.go ?_)
      | (refine g_ops ?_)
      | (refine g_loop ?_)
      | (refine g_nil ?_; conv => whnf)
      | (refine g_opg ?_; conv => whnf)
      | (refine Br.t ?_ ?_; (focus (first | assumption | exact rfl)); conv => whnf)
      | (refine Br.f ?_ ?_; (focus (first | assumption | exact rfl)); conv => whnf)
      | (refine g_cond ?_; conv => whnf)
      | (refine g_skip ?_; conv => whnf)
      | (refine g_ret ?_; conv => whnf)
      | (refine g_exit ?_; conv => whnf)
      | (refine g_block ?_)
      | (refine g_quiet ?_)
      | (refine g_drawn ?_)
      | (refine d_p ?_; conv => whnf)
      | (refine d_pg ?_; conv => whnf)
      | (refine d_e ?_; conv => whnf)
      | (refine d_eg ?_; conv => whnf)
      | (refine d_nil ?_; conv => whnf)
      | (refine q_op ?_; conv => whnf)
      | (refine q_nil ?_; conv => whnf)
      | (refine q_opg ?_; conv => whnf)
      | (refine r_t ?_; conv => whnf)
      | (refine r_c ?_; conv => whnf)
      | (refine r_nil ?_; conv => whnf)
      | (refine fun _ => ?_; conv => whnf)
      | (refine Br.f (by simp) ?_; conv => whnf)
      | fail)
    have hw : IntKind.wrap .i64 ((i : Int) + 1) = ((i + 1 : Nat) : Int) := by rw [wrap_ok (by omega) (by omega)]; rfl
    refine ⟨i + 1, by omega, by omega, ?_, True.intro⟩
    refine And.intro rfl ?_
    refine And.intro rfl ?_
    refine And.intro rfl ?_
    exact And.intro (congrArg (D.int .i64) hw) True.intro
  · conv => whnf
    repeat' (first
      | (refine z_ld1 ?_; first | (refine z_ld rfl rfl rfl rfl (by first | (simp only [List.length_set]; assumption) | assumption | omega) (by first | exact elt_set (by first | assumption | (simp only [List.length_set]; assumption)) | assumption) ?_; conv => whnf) | (refine z_ld0 rfl ?_; conv => whnf))
      | (refine z_ld1g ?_; first | (refine z_ldg rfl rfl rfl rfl rfl rfl rfl (by (repeat intro _); exact ⟨(by first | (simp only [List.length_set]; assumption) | assumption | omega), (by first | exact elt_set (by first | assumption | (simp only [List.length_set]; assumption)) | assumption)⟩) rfl rfl rfl rfl ?_; conv => whnf) | (refine z_ld0g ?_; (conv => whnf); refine And.intro ?_ ?_; (focus exact rfl); conv => whnf))
      | (refine z_st1 ?_; first | (refine z_st rfl rfl rfl (by first | (simp only [List.length_set]; assumption) | assumption | omega) (by first | exact elt_set (by first | assumption | (simp only [List.length_set]; assumption)) | assumption) rfl rfl ?_; conv => whnf) | (refine z_st0 ?_; conv => whnf))
      | (refine z_ix1 ?_; first | (refine z_ix rfl rfl rfl rfl rfl ⟨by first | omega | (simp only [decide_eq_true_eq, Bool.not_eq_true', Bool.or_eq_false_iff, decide_eq_false_iff_not, Bool.and_eq_true, Bool.not_eq_false'] at *; omega), by first | omega | (simp only [decide_eq_true_eq, Bool.not_eq_true', Bool.or_eq_false_iff, decide_eq_false_iff_not, Bool.and_eq_true, Bool.not_eq_false'] at *; omega)⟩ ?_; conv => whnf) | (refine z_ix0 rfl rfl ?_; conv => whnf))
      | (refine z_ix1g ?_; refine z_ixg rfl rfl rfl rfl rfl rfl rfl (by (repeat intro _); refine ⟨?_, ?_⟩ <;> first | omega | (simp only [decide_eq_true_eq, Bool.not_eq_true', Bool.or_eq_false_iff, decide_eq_false_iff_not, Bool.and_eq_true, Bool.not_eq_false'] at *; omega)) ?_)
      | (refine z_op ?_ ?_; (focus exact rfl); conv => whnf)
      | (refine z_opg0 ?_; (conv => whnf); refine And.intro ?_ ?_; (focus exact rfl); conv => whnf)
      | (refine z_pick ?_ ?_; (focus exact rfl); conv => whnf)
      | (refine z_pickg ?_; (conv => whnf); refine And.intro ?_ ?_; (focus exact rfl); conv => whnf)
      | (refine zs_ops ?_ ?_; (focus exact rfl))
      | (refine zs_quiet ?_ ?_; (focus exact rfl))
      | (refine zs_decl ?_)
      | (refine z_nil fun vals => ?_; conv => whnf)
      | (refine z_call ?_ ?_; (focus exact rfl))
      | (refine z_eff ?_; conv => whnf)
      | (refine z_callg0 ?_; (conv => whnf); refine And.intro ?_ ?_; (focus exact rfl))
      | (refine g_op ?_; conv => whnf)
      | (refine And.intro ?_ ?_; (focus (first | exact rfl | exact Nat.le_of_ble_eq_true rfl | decide | omega | fail)); conv => whnf)
      | (refine g_seq ?_)
      | (refine XS.go ?_)
      | (refine g_ops ?_)
      | (refine g_loop ?_)
      | (refine g_nil ?_; conv => whnf)
      | (refine g_opg ?_; conv => whnf)
      | (refine Br.t ?_ ?_; (focus (first | assumption | exact rfl)); conv => whnf)
      | (refine Br.f ?_ ?_; (focus (first | assumption | exact rfl)); conv => whnf)
      | (refine g_cond ?_; conv => whnf)
      | (refine g_skip ?_; conv => whnf)
      | (refine g_ret ?_; conv => whnf)
      | (refine g_exit ?_; conv => whnf)
      | (refine g_block ?_)
      | (refine g_quiet ?_)
      | (refine g_drawn ?_)
      | (refine d_p ?_; conv => whnf)
      | (refine d_pg ?_; conv => whnf)
      | (refine d_e ?_; conv => whnf)
      | (refine d_eg ?_; conv => whnf)
      | (refine d_nil ?_; conv => whnf)
      | (refine q_op ?_; conv => whnf)
      | (refine q_nil ?_; conv => whnf)
      | (refine q_opg ?_; conv => whnf)
      | (refine r_t ?_; conv => whnf)
      | (refine r_c ?_; conv => whnf)
      | (refine r_nil ?_; conv => whnf)
      | (refine fun _ => ?_; conv => whnf)
      | fail)
    rfl
theorem toInt_xc {f bytes : Nat} {ds : List D} (hc : compileF P [] f = some (cfToL bytes (.int .i64 0))) (hb : bytes ≤ 10000) (hl : ds.length ≤ 1048576) (hd : ∀ d ∈ ds, ∃ x : Int, d = D.int .i64 x) : XC P f [.ro 1 ds] [] fun d ls => ∃ b, d = .lsl 7 b ds.length ds.length ∧ ls = [(7, b, .arr 1 ds ds.length)] := by
  have hlen : ∀ d ∈ ds, d.len = 1 := fun d h => by obtain ⟨v, rfl⟩ := hd d h; rfl
  have hbb : (bytes : Int) * (ds.length : Int) ≤ 140737488355328 := by
    have h1 : (bytes : Int) * (ds.length : Int) ≤ 10000 * (ds.length : Int) := Int.mul_le_mul_of_nonneg_right (by omega) (by omega)
    omega
  refine XC.intro' hm [7] rfl hc (Nat.le_of_ble_eq_true rfl) ?_
  conv => whnf
  repeat' (first
    | (refine g_op ?_; conv => whnf)
    | (refine And.intro ?_ ?_; (focus (first | exact rfl | exact Nat.le_of_ble_eq_true rfl | decide | omega | fail)); conv => whnf)
    | (refine g_seq ?_)
    | (refine XS.go ?_)
    | (refine g_ops ?_)
    | (refine g_loop ?_)
    | (refine g_nil ?_; conv => whnf)
    | (refine g_opg ?_; conv => whnf)
    | (refine Br.t ?_ ?_; (focus (first | assumption | exact rfl)); conv => whnf)
    | (refine Br.f ?_ ?_; (focus (first | assumption | exact rfl)); conv => whnf)
    | (refine g_cond ?_; conv => whnf)
    | (refine g_skip ?_; conv => whnf)
    | (refine g_ret ?_; conv => whnf)
    | (refine g_exit ?_; conv => whnf)
    | (refine g_block ?_)
    | (refine g_quiet ?_)
    | (refine g_drawn ?_)
    | (refine d_p ?_; conv => whnf)
    | (refine d_pg ?_; conv => whnf)
    | (refine d_e ?_; conv => whnf)
    | (refine d_eg ?_; conv => whnf)
    | (refine d_nil ?_; conv => whnf)
    | (refine q_op ?_; conv => whnf)
    | (refine q_nil ?_; conv => whnf)
    | (refine q_opg ?_; conv => whnf)
    | (refine r_t ?_; conv => whnf)
    | (refine r_c ?_; conv => whnf)
    | (refine r_nil ?_; conv => whnf)
    | (refine fun _ => ?_; conv => whnf)
    | fail)
  refine XLc.mkA (α := Nat) (fun i => i ≤ ds.length) (fun i => ds.length - i) (fun i gs => [.ro 1 ds, .any, .nil, .lsl 7 (gs 7) (ds.length : Int).toNat (ds.length : Int).toNat, .int .i64 (i : Int)]) (fun i gs => [(7, .arr 1 (fill (.int .i64 0) ds i) (ds.length : Int).toNat)]) 0 (Nat.zero_le _) ?_ ?_
  · refine ⟨?_, ?_⟩
    · repeat' (first | exact True.intro | refine And.intro rfl ?_)
    · refine And.intro ?_ True.intro
      rw [fill_zero]
      rfl
  intro i gs hi
  repeat' (first
    | (refine g_op ?_; conv => whnf)
    | (refine And.intro ?_ ?_; (focus (first | exact rfl | exact Nat.le_of_ble_eq_true rfl | decide | omega | fail)); conv => whnf)
    | (refine g_seq ?_)
    | (refine XS.go ?_)
    | (refine g_ops ?_)
    | (refine g_loop ?_)
    | (refine g_nil ?_; conv => whnf)
    | (refine g_opg ?_; conv => whnf)
    | (refine Br.t ?_ ?_; (focus (first | assumption | exact rfl)); conv => whnf)
    | (refine Br.f ?_ ?_; (focus (first | assumption | exact rfl)); conv => whnf)
    | (refine g_cond ?_; conv => whnf)
    | (refine g_skip ?_; conv => whnf)
    | (refine g_ret ?_; conv => whnf)
    | (refine g_exit ?_; conv => whnf)
    | (refine g_block ?_)
    | (refine g_quiet ?_)
    | (refine g_drawn ?_)
    | (refine d_p ?_; conv => whnf)
    | (refine d_pg ?_; conv => whnf)
    | (refine d_e ?_; conv => whnf)
    | (refine d_eg ?_; conv => whnf)
    | (refine d_nil ?_; conv => whnf)
    | (refine q_op ?_; conv => whnf)
    | (refine q_nil ?_; conv => whnf)
    | (refine q_opg ?_; conv => whnf)
    | (refine r_t ?_; conv => whnf)
    | (refine r_c ?_; conv => whnf)
    | (refine r_nil ?_; conv => whnf)
    | (refine fun _ => ?_; conv => whnf)
    | fail)
  refine Br.mk (fun hb => ?_) (fun hb => ?_)
  · have hlt : i < ds.length := by simpa using hb
    obtain ⟨x, hv⟩ : ∃ x : Int, ds.getD (i : Int).toNat .any = D.int .i64 x := by
      have e : ds.getD (i : Int).toNat .any = ds[i] := by simp [hlt]
      rw [e]
      exact hd _ (List.getElem_mem _)
    conv => whnf
    repeat' (first
      | (refine g_op ?_; conv => whnf)
      | (refine And.intro ?_ ?_; (focus (first | exact rfl | exact Nat.le_of_ble_eq_true rfl | decide | omega | fail)); conv => whnf)
      | (refine g_seq ?_)
      | (refine XS.go ?_)
      | (refine g_ops ?_)
      | (refine g_loop ?_)
      | (refine g_nil ?_; conv => whnf)
      | (refine g_opg ?_; conv => whnf)
      | (refine Br.t ?_ ?_; (focus (first | assumption | exact rfl)); conv => whnf)
      | (refine Br.f ?_ ?_; (focus (first | assumption | exact rfl)); conv => whnf)
      | (refine g_cond ?_; conv => whnf)
      | (refine g_skip ?_; conv => whnf)
      | (refine g_ret ?_; conv => whnf)
      | (refine g_exit ?_; conv => whnf)
      | (refine g_block ?_)
      | (refine g_quiet ?_)
      | (refine g_drawn ?_)
      | (refine d_p ?_; conv => whnf)
      | (refine d_pg ?_; conv => whnf)
      | (refine d_e ?_; conv => whnf)
      | (refine d_eg ?_; conv => whnf)
      | (refine d_nil ?_; conv => whnf)
      | (refine q_op ?_; conv => whnf)
      | (refine q_nil ?_; conv => whnf)
      | (refine q_opg ?_; conv => whnf)
      | (refine r_t ?_; conv => whnf)
      | (refine r_c ?_; conv => whnf)
      | (refine r_nil ?_; conv => whnf)
      | (refine fun _ => ?_; conv => whnf)
      | fail)
    rw [hv]
    refine And.intro rfl ?_
    repeat' (first
      | (refine g_op ?_; conv => whnf)
      | (refine And.intro ?_ ?_; (focus (first | exact rfl | exact Nat.le_of_ble_eq_true rfl | decide | omega | fail)); conv => whnf)
      | (refine g_seq ?_)
      | (refine XS.go ?_)
      | (refine g_ops ?_)
      | (refine g_loop ?_)
      | (refine g_nil ?_; conv => whnf)
      | (refine g_opg ?_; conv => whnf)
      | (refine Br.t ?_ ?_; (focus (first | assumption | exact rfl)); conv => whnf)
      | (refine Br.f ?_ ?_; (focus (first | assumption | exact rfl)); conv => whnf)
      | (refine g_cond ?_; conv => whnf)
      | (refine g_skip ?_; conv => whnf)
      | (refine g_ret ?_; conv => whnf)
      | (refine g_exit ?_; conv => whnf)
      | (refine g_block ?_)
      | (refine g_quiet ?_)
      | (refine g_drawn ?_)
      | (refine d_p ?_; conv => whnf)
      | (refine d_pg ?_; conv => whnf)
      | (refine d_e ?_; conv => whnf)
      | (refine d_eg ?_; conv => whnf)
      | (refine d_nil ?_; conv => whnf)
      | (refine q_op ?_; conv => whnf)
      | (refine q_nil ?_; conv => whnf)
      | (refine q_opg ?_; conv => whnf)
      | (refine r_t ?_; conv => whnf)
      | (refine r_c ?_; conv => whnf)
      | (refine r_nil ?_; conv => whnf)
      | (refine fun _ => ?_; conv => whnf)
      | fail)
    have hzl : ∀ d ∈ fill (.int .i64 0) ds i, d.len = 1 := fill_lens rfl hlen
    have hel : (fill (.int .i64 0) ds i).getD (i : Int).toNat .any = .int .i64 0 := by
      have := fill_get (z := .int .i64 0) hlt
      simp [this]
    refine And.intro ?_ ?_
    · show i < _
      rw [fill_length hi]; exact hlt
    rw [hel]
    refine And.intro rfl ?_
    conv => whnf
    repeat' (first
      | (refine g_op ?_; conv => whnf)
      | (refine And.intro ?_ ?_; (focus (first | exact rfl | exact Nat.le_of_ble_eq_true rfl | decide | omega | fail)); conv => whnf)
      | (refine g_seq ?_)
      | (refine XS.go ?_)
      | (refine g_ops ?_)
      | (refine g_loop ?_)
      | (refine g_nil ?_; conv => whnf)
      | (refine g_opg ?_; conv => whnf)
      | (refine Br.t ?_ ?_; (focus (first | assumption | exact rfl)); conv => whnf)
      | (refine Br.f ?_ ?_; (focus (first | assumption | exact rfl)); conv => whnf)
      | (refine g_cond ?_; conv => whnf)
      | (refine g_skip ?_; conv => whnf)
      | (refine g_ret ?_; conv => whnf)
      | (refine g_exit ?_; conv => whnf)
      | (refine g_block ?_)
      | (refine g_quiet ?_)
      | (refine g_drawn ?_)
      | (refine d_p ?_; conv => whnf)
      | (refine d_pg ?_; conv => whnf)
      | (refine d_e ?_; conv => whnf)
      | (refine d_eg ?_; conv => whnf)
      | (refine d_nil ?_; conv => whnf)
      | (refine q_op ?_; conv => whnf)
      | (refine q_nil ?_; conv => whnf)
      | (refine q_opg ?_; conv => whnf)
      | (refine r_t ?_; conv => whnf)
      | (refine r_c ?_; conv => whnf)
      | (refine r_nil ?_; conv => whnf)
      | (refine fun _ => ?_; conv => whnf)
      | fail)
    have hw : IntKind.wrap .i64 ((i : Int) + 1) = ((i + 1 : Nat) : Int) := by rw [wrap_ok (by omega) (by omega)]; rfl
    refine ⟨i + 1, by omega, by omega, ?_, ?_⟩
    · refine And.intro rfl ?_
      refine And.intro rfl ?_
      refine And.intro rfl ?_
      exact And.intro (congrArg (D.int .i64) hw) True.intro
    · refine And.intro ?_ True.intro
      have e : (fill (.int .i64 0) ds i).set i (D.int .i64 x) = fill (.int .i64 0) ds (i + 1) := by rw [← hv]; exact fill_set hlt
      exact congrArg (fun l => some (D.arr 1 l ds.length)) e
  · have he : i = ds.length := by have : ¬ ((i : Int) < ds.length) := by simpa using hb
                                  omega
    conv => whnf
    repeat' (first
      | (refine g_op ?_; conv => whnf)
      | (refine And.intro ?_ ?_; (focus (first | exact rfl | exact Nat.le_of_ble_eq_true rfl | decide | omega | fail)); conv => whnf)
      | (refine g_seq ?_)
      | (refine XS.go ?_)
      | (refine g_ops ?_)
      | (refine g_loop ?_)
      | (refine g_nil ?_; conv => whnf)
      | (refine g_opg ?_; conv => whnf)
      | (refine Br.t ?_ ?_; (focus (first | assumption | exact rfl)); conv => whnf)
      | (refine Br.f ?_ ?_; (focus (first | assumption | exact rfl)); conv => whnf)
      | (refine g_cond ?_; conv => whnf)
      | (refine g_skip ?_; conv => whnf)
      | (refine g_ret ?_; conv => whnf)
      | (refine g_exit ?_; conv => whnf)
      | (refine g_block ?_)
      | (refine g_quiet ?_)
      | (refine g_drawn ?_)
      | (refine d_p ?_; conv => whnf)
      | (refine d_pg ?_; conv => whnf)
      | (refine d_e ?_; conv => whnf)
      | (refine d_eg ?_; conv => whnf)
      | (refine d_nil ?_; conv => whnf)
      | (refine q_op ?_; conv => whnf)
      | (refine q_nil ?_; conv => whnf)
      | (refine q_opg ?_; conv => whnf)
      | (refine r_t ?_; conv => whnf)
      | (refine r_c ?_; conv => whnf)
      | (refine r_nil ?_; conv => whnf)
      | (refine fun _ => ?_; conv => whnf)
      | fail)
    rw [he, fill_all]
    exact ⟨_, rfl, rfl⟩
theorem toInt_rdr {f bytes : Nat} {l : List Int} (hc : compileF P [] f = some (cfToL bytes (.int .i64 0))) (hb : bytes ≤ 10000) (hl : l.length ≤ 1048576) : Rdr P f [.ro 1 (l.map (D.int .i64))] (.ro 1 (l.map (D.int .i64))) :=
  .of_XCF ((toInt_xc hm hc hb (by rw [List.length_map]; exact hl) (fun d hd => by obtain ⟨x, _, rfl⟩ := List.mem_map.1 hd; exact ⟨x, rfl⟩)).mono fun d ls ⟨b, h1, h2⟩ => by
    subst h1 h2
    refine ⟨⟨rfl, Nat.le_refl _⟩, ?_⟩
    show D.ro 1 ((D.frozs (l.map (D.int .i64))).take (l.map (D.int .i64)).length) = _
    rw [D.frozs_map (fun _ => rfl), List.take_length])
theorem eqInt_rdr {f : Nat} {l : List Int} (hc : compileF P [] f = some cfEqL) (hl : l.length ≤ 1048576) : Rdr P f [.ro 1 (l.map (D.int .i64)), .ro 1 (l.map (D.int .i64))] (.bool true) := by
  refine Rdr.intro' hm hc (Nat.le_of_ble_eq_true rfl) ?_
  conv => whnf
  repeat' (first
    | (refine z_ld1 ?_; first | (refine z_ld rfl rfl rfl rfl (by first | (simp only [List.length_set]; assumption) | assumption | omega) (by first | exact elt_set (by first | assumption | (simp only [List.length_set]; assumption)) | assumption) ?_; conv => whnf) | (refine z_ld0 rfl ?_; conv => whnf))
    | (refine z_ld1g ?_; first | (refine z_ldg rfl rfl rfl rfl rfl rfl rfl (by (repeat intro _); exact ⟨(by first | (simp only [List.length_set]; assumption) | assumption | omega), (by first | exact elt_set (by first | assumption | (simp only [List.length_set]; assumption)) | assumption)⟩) rfl rfl rfl rfl ?_; conv => whnf) | (refine z_ld0g ?_; (conv => whnf); refine And.intro ?_ ?_; (focus exact rfl); conv => whnf))
    | (refine z_st1 ?_; first | (refine z_st rfl rfl rfl (by first | (simp only [List.length_set]; assumption) | assumption | omega) (by first | exact elt_set (by first | assumption | (simp only [List.length_set]; assumption)) | assumption) rfl rfl ?_; conv => whnf) | (refine z_st0 ?_; conv => whnf))
    | (refine z_ix1 ?_; first | (refine z_ix rfl rfl rfl rfl rfl ⟨by first | omega | (simp only [decide_eq_true_eq, Bool.not_eq_true', Bool.or_eq_false_iff, decide_eq_false_iff_not, Bool.and_eq_true, Bool.not_eq_false'] at *; omega), by first | omega | (simp only [decide_eq_true_eq, Bool.not_eq_true', Bool.or_eq_false_iff, decide_eq_false_iff_not, Bool.and_eq_true, Bool.not_eq_false'] at *; omega)⟩ ?_; conv => whnf) | (refine z_ix0 rfl rfl ?_; conv => whnf))
    | (refine z_ix1g ?_; refine z_ixg rfl rfl rfl rfl rfl rfl rfl (by (repeat intro _); refine ⟨?_, ?_⟩ <;> first | omega | (simp only [decide_eq_true_eq, Bool.not_eq_true', Bool.or_eq_false_iff, decide_eq_false_iff_not, Bool.and_eq_true, Bool.not_eq_false'] at *; omega)) ?_)
    | (refine z_op ?_ ?_; (focus exact rfl); conv => whnf)
    | (refine z_opg0 ?_; (conv => whnf); refine And.intro ?_ ?_; (focus exact rfl); conv => whnf)
    | (refine z_pick ?_ ?_; (focus exact rfl); conv => whnf)
    | (refine z_pickg ?_; (conv => whnf); refine And.intro ?_ ?_; (focus exact rfl); conv => whnf)
    | (refine zs_ops ?_ ?_; (focus exact rfl))
    | (refine zs_quiet ?_ ?_; (focus exact rfl))
    | (refine zs_decl ?_)
    | (refine z_nil fun vals => ?_; conv => whnf)
    | (refine z_call ?_ ?_; (focus exact rfl))
    | (refine z_eff ?_; conv => whnf)
    | (refine z_callg0 ?_; (conv => whnf); refine And.intro ?_ ?_; (focus exact rfl))
    | (refine g_op ?_; conv => whnf)
    | (refine And.intro ?_ ?_; (focus (first | exact rfl | exact Nat.le_of_ble_eq_true rfl | decide | omega | fail)); conv => whnf)
    | (refine g_seq ?_)
    | (refine XS.go ?_)
    | (refine g_ops ?_)
    | (refine g_loop ?_)
    | (refine g_nil ?_; conv => whnf)
    | (refine g_opg ?_; conv => whnf)
    | (refine Br.t ?_ ?_; (focus (first | assumption | exact rfl)); conv => whnf)
    | (refine Br.f ?_ ?_; (focus (first | assumption | exact rfl)); conv => whnf)
    | (refine g_cond ?_; conv => whnf)
    | (refine g_skip ?_; conv => whnf)
    | (refine g_ret ?_; conv => whnf)
    | (refine g_exit ?_; conv => whnf)
    | (refine g_block ?_)
    | (refine g_quiet ?_)
    | (refine g_drawn ?_)
    | (refine d_p ?_; conv => whnf)
    | (refine d_pg ?_; conv => whnf)
    | (refine d_e ?_; conv => whnf)
    | (refine d_eg ?_; conv => whnf)
    | (refine d_nil ?_; conv => whnf)
    | (refine q_op ?_; conv => whnf)
    | (refine q_nil ?_; conv => whnf)
    | (refine q_opg ?_; conv => whnf)
    | (refine r_t ?_; conv => whnf)
    | (refine r_c ?_; conv => whnf)
    | (refine r_nil ?_; conv => whnf)
    | (refine fun _ => ?_; conv => whnf)
    | fail)
  refine Br.mk (fun hb => ?_) (fun hb => ?_)
  · simp at hb
  conv => whnf
  repeat' (first
    | (refine z_ld1 ?_; first | (refine z_ld rfl rfl rfl rfl (by first | (simp only [List.length_set]; assumption) | assumption | omega) (by first | exact elt_set (by first | assumption | (simp only [List.length_set]; assumption)) | assumption) ?_; conv => whnf) | (refine z_ld0 rfl ?_; conv => whnf))
    | (refine z_ld1g ?_; first | (refine z_ldg rfl rfl rfl rfl rfl rfl rfl (by (repeat intro _); exact ⟨(by first | (simp only [List.length_set]; assumption) | assumption | omega), (by first | exact elt_set (by first | assumption | (simp only [List.length_set]; assumption)) | assumption)⟩) rfl rfl rfl rfl ?_; conv => whnf) | (refine z_ld0g ?_; (conv => whnf); refine And.intro ?_ ?_; (focus exact rfl); conv => whnf))
    | (refine z_st1 ?_; first | (refine z_st rfl rfl rfl (by first | (simp only [List.length_set]; assumption) | assumption | omega) (by first | exact elt_set (by first | assumption | (simp only [List.length_set]; assumption)) | assumption) rfl rfl ?_; conv => whnf) | (refine z_st0 ?_; conv => whnf))
    | (refine z_ix1 ?_; first | (refine z_ix rfl rfl rfl rfl rfl ⟨by first | omega | (simp only [decide_eq_true_eq, Bool.not_eq_true', Bool.or_eq_false_iff, decide_eq_false_iff_not, Bool.and_eq_true, Bool.not_eq_false'] at *; omega), by first | omega | (simp only [decide_eq_true_eq, Bool.not_eq_true', Bool.or_eq_false_iff, decide_eq_false_iff_not, Bool.and_eq_true, Bool.not_eq_false'] at *; omega)⟩ ?_; conv => whnf) | (refine z_ix0 rfl rfl ?_; conv => whnf))
    | (refine z_ix1g ?_; refine z_ixg rfl rfl rfl rfl rfl rfl rfl (by (repeat intro _); refine ⟨?_, ?_⟩ <;> first | omega | (simp only [decide_eq_true_eq, Bool.not_eq_true', Bool.or_eq_false_iff, decide_eq_false_iff_not, Bool.and_eq_true, Bool.not_eq_false'] at *; omega)) ?_)
    | (refine z_op ?_ ?_; (focus exact rfl); conv => whnf)
    | (refine z_opg0 ?_; (conv => whnf); refine And.intro ?_ ?_; (focus exact rfl); conv => whnf)
    | (refine z_pick ?_ ?_; (focus exact rfl); conv => whnf)
    | (refine z_pickg ?_; (conv => whnf); refine And.intro ?_ ?_; (focus exact rfl); conv => whnf)
    | (refine zs_ops ?_ ?_; (focus exact rfl))
    | (refine zs_quiet ?_ ?_; (focus exact rfl))
    | (refine zs_decl ?_)
    | (refine z_nil fun vals => ?_; conv => whnf)
    | (refine z_call ?_ ?_; (focus exact rfl))
    | (refine z_eff ?_; conv => whnf)
    | (refine z_callg0 ?_; (conv => whnf); refine And.intro ?_ ?_; (focus exact rfl))
    | (refine g_op ?_; conv => whnf)
    | (refine And.intro ?_ ?_; (focus (first | exact rfl | exact Nat.le_of_ble_eq_true rfl | decide | omega | fail)); conv => whnf)
    | (refine g_seq ?_)
    | (refine XS.go ?_)
    | (refine g_ops ?_)
    | (refine g_loop ?_)
    | (refine g_nil ?_; conv => whnf)
    | (refine g_opg ?_; conv => whnf)
    | (refine Br.t ?_ ?_; (focus (first | assumption | exact rfl)); conv => whnf)
    | (refine Br.f ?_ ?_; (focus (first | assumption | exact rfl)); conv => whnf)
    | (refine g_cond ?_; conv => whnf)
    | (refine g_skip ?_; conv => whnf)
    | (refine g_ret ?_; conv => whnf)
    | (refine g_exit ?_; conv => whnf)
    | (refine g_block ?_)
    | (refine g_quiet ?_)
    | (refine g_drawn ?_)
    | (refine d_p ?_; conv => whnf)
    | (refine d_pg ?_; conv => whnf)
    | (refine d_e ?_; conv => whnf)
    | (refine d_eg ?_; conv => whnf)
    | (refine d_nil ?_; conv => whnf)
    | (refine q_op ?_; conv => whnf)
    | (refine q_nil ?_; conv => whnf)
    | (refine q_opg ?_; conv => whnf)
    | (refine r_t ?_; conv => whnf)
    | (refine r_c ?_; conv => whnf)
    | (refine r_nil ?_; conv => whnf)
    | (refine fun _ => ?_; conv => whnf)
    | fail)
  refine XLc.mkL (α := Nat) (fun i => i ≤ l.length) (fun i => l.length - i) (fun i gs => [.ro 1 (l.map (D.int .i64)), .ro 1 (l.map (D.int .i64)), .any, .any, .bool false, .int .i64 (i : Int)]) (fun i gs => []) 0 (Nat.zero_le _) ?_ ?_
  · refine ⟨?_, True.intro⟩
    repeat' (first | exact True.intro | refine And.intro rfl ?_)
  intro i gs hi
  repeat' (first
    | (refine z_ld1 ?_; first | (refine z_ld rfl rfl rfl rfl (by first | (simp only [List.length_set]; assumption) | assumption | omega) (by first | exact elt_set (by first | assumption | (simp only [List.length_set]; assumption)) | assumption) ?_; conv => whnf) | (refine z_ld0 rfl ?_; conv => whnf))
    | (refine z_ld1g ?_; first | (refine z_ldg rfl rfl rfl rfl rfl rfl rfl (by (repeat intro _); exact ⟨(by first | (simp only [List.length_set]; assumption) | assumption | omega), (by first | exact elt_set (by first | assumption | (simp only [List.length_set]; assumption)) | assumption)⟩) rfl rfl rfl rfl ?_; conv => whnf) | (refine z_ld0g ?_; (conv => whnf); refine And.intro ?_ ?_; (focus exact rfl); conv => whnf))
    | (refine z_st1 ?_; first | (refine z_st rfl rfl rfl (by first | (simp only [List.length_set]; assumption) | assumption | omega) (by first | exact elt_set (by first | assumption | (simp only [List.length_set]; assumption)) | assumption) rfl rfl ?_; conv => whnf) | (refine z_st0 ?_; conv => whnf))
    | (refine z_ix1 ?_; first | (refine z_ix rfl rfl rfl rfl rfl ⟨by first | omega | (simp only [decide_eq_true_eq, Bool.not_eq_true', Bool.or_eq_false_iff, decide_eq_false_iff_not, Bool.and_eq_true, Bool.not_eq_false'] at *; omega), by first | omega | (simp only [decide_eq_true_eq, Bool.not_eq_true', Bool.or_eq_false_iff, decide_eq_false_iff_not, Bool.and_eq_true, Bool.not_eq_false'] at *; omega)⟩ ?_; conv => whnf) | (refine z_ix0 rfl rfl ?_; conv => whnf))
    | (refine z_ix1g ?_; refine z_ixg rfl rfl rfl rfl rfl rfl rfl (by (repeat intro _); refine ⟨?_, ?_⟩ <;> first | omega | (simp only [decide_eq_true_eq, Bool.not_eq_true', Bool.or_eq_false_iff, decide_eq_false_iff_not, Bool.and_eq_true, Bool.not_eq_false'] at *; omega)) ?_)
    | (refine z_op ?_ ?_; (focus exact rfl); conv => whnf)
    | (refine z_opg0 ?_; (conv => whnf); refine And.intro ?_ ?_; (focus exact rfl); conv => whnf)
    | (refine z_pick ?_ ?_; (focus exact rfl); conv => whnf)
    | (refine z_pickg ?_; (conv => whnf); refine And.intro ?_ ?_; (focus exact rfl); conv => whnf)
    | (refine zs_ops ?_ ?_; (focus exact rfl))
    | (refine zs_quiet ?_ ?_; (focus exact rfl))
    | (refine zs_decl ?_)
    | (refine z_nil fun vals => ?_; conv => whnf)
    | (refine z_call ?_ ?_; (focus exact rfl))
    | (refine z_eff ?_; conv => whnf)
    | (refine z_callg0 ?_; (conv => whnf); refine And.intro ?_ ?_; (focus exact rfl))
    | (refine g_op ?_; conv => whnf)
    | (refine And.intro ?_ ?_; (focus (first | exact rfl | exact Nat.le_of_ble_eq_true rfl | decide | omega | fail)); conv => whnf)
    | (refine g_seq ?_)
    | (refine XS.go ?_)
    | (refine g_ops ?_)
    | (refine g_loop ?_)
    | (refine g_nil ?_; conv => whnf)
    | (refine g_opg ?_; conv => whnf)
    | (refine Br.t ?_ ?_; (focus (first | assumption | exact rfl)); conv => whnf)
    | (refine Br.f ?_ ?_; (focus (first | assumption | exact rfl)); conv => whnf)
    | (refine g_cond ?_; conv => whnf)
    | (refine g_skip ?_; conv => whnf)
    | (refine g_ret ?_; conv => whnf)
    | (refine g_exit ?_; conv => whnf)
    | (refine g_block ?_)
    | (refine g_quiet ?_)
    | (refine g_drawn ?_)
    | (refine d_p ?_; conv => whnf)
    | (refine d_pg ?_; conv => whnf)
    | (refine d_e ?_; conv => whnf)
    | (refine d_eg ?_; conv => whnf)
    | (refine d_nil ?_; conv => whnf)
    | (refine q_op ?_; conv => whnf)
    | (refine q_nil ?_; conv => whnf)
    | (refine q_opg ?_; conv => whnf)
    | (refine r_t ?_; conv => whnf)
    | (refine r_c ?_; conv => whnf)
    | (refine r_nil ?_; conv => whnf)
    | (refine fun _ => ?_; conv => whnf)
    | fail)
  refine Br.mk (fun hb => ?_) (fun hb => ?_)
  · have hlt : i < l.length := by simpa using hb
    conv => whnf
    repeat' (first
      | (refine z_ld1 ?_; first | (refine z_ld rfl rfl rfl rfl (by first | (simp only [List.length_set]; assumption) | assumption | omega) (by first | exact elt_set (by first | assumption | (simp only [List.length_set]; assumption)) | assumption) ?_; conv => whnf) | (refine z_ld0 rfl ?_; conv => whnf))
      | (refine z_ld1g ?_; first | (refine z_ldg rfl rfl rfl rfl rfl rfl rfl (by (repeat intro _); exact ⟨(by first | (simp only [List.length_set]; assumption) | assumption | omega), (by first | exact elt_set (by first | assumption | (simp only [List.length_set]; assumption)) | assumption)⟩) rfl rfl rfl rfl ?_; conv => whnf) | (refine z_ld0g ?_; (conv => whnf); refine And.intro ?_ ?_; (focus exact rfl); conv => whnf))
      | (refine z_st1 ?_; first | (refine z_st rfl rfl rfl (by first | (simp only [List.length_set]; assumption) | assumption | omega) (by first | exact elt_set (by first | assumption | (simp only [List.length_set]; assumption)) | assumption) rfl rfl ?_; conv => whnf) | (refine z_st0 ?_; conv => whnf))
      | (refine z_ix1 ?_; first | (refine z_ix rfl rfl rfl rfl rfl ⟨by first | omega | (simp only [decide_eq_true_eq, Bool.not_eq_true', Bool.or_eq_false_iff, decide_eq_false_iff_not, Bool.and_eq_true, Bool.not_eq_false'] at *; omega), by first | omega | (simp only [decide_eq_true_eq, Bool.not_eq_true', Bool.or_eq_false_iff, decide_eq_false_iff_not, Bool.and_eq_true, Bool.not_eq_false'] at *; omega)⟩ ?_; conv => whnf) | (refine z_ix0 rfl rfl ?_; conv => whnf))
      | (refine z_ix1g ?_; refine z_ixg rfl rfl rfl rfl rfl rfl rfl (by (repeat intro _); refine ⟨?_, ?_⟩ <;> first | omega | (simp only [decide_eq_true_eq, Bool.not_eq_true', Bool.or_eq_false_iff, decide_eq_false_iff_not, Bool.and_eq_true, Bool.not_eq_false'] at *; omega)) ?_)
      | (refine z_op ?_ ?_; (focus exact rfl); conv => whnf)
      | (refine z_opg0 ?_; (conv => whnf); refine And.intro ?_ ?_; (focus exact rfl); conv => whnf)
      | (refine z_pick ?_ ?_; (focus exact rfl); conv => whnf)
      | (refine z_pickg ?_; (conv => whnf); refine And.intro ?_ ?_; (focus exact rfl); conv => whnf)
      | (refine zs_ops ?_ ?_; (focus exact rfl))
      | (refine zs_quiet ?_ ?_; (focus exact rfl))
      | (refine zs_decl ?_)
      | (refine z_nil fun vals => ?_; conv => whnf)
      | (refine z_call ?_ ?_; (focus exact rfl))
      | (refine z_eff ?_; conv => whnf)
      | (refine z_callg0 ?_; (conv => whnf); refine And.intro ?_ ?_; (focus exact rfl))
      | (refine g_op ?_; conv => whnf)
      | (refine And.intro ?_ ?_; (focus (first | exact rfl | exact Nat.le_of_ble_eq_true rfl | decide | omega | fail)); conv => whnf)
      | (refine g_seq ?_)
      | (refine XS.go ?_)
      | (refine g_ops ?_)
      | (refine g_loop ?_)
      | (refine g_nil ?_; conv => whnf)
      | (refine g_opg ?_; conv => whnf)
      | (refine Br.t ?_ ?_; (focus (first | assumption | exact rfl)); conv => whnf)
      | (refine Br.f ?_ ?_; (focus (first | assumption | exact rfl)); conv => whnf)
      | (refine g_cond ?_; conv => whnf)
      | (refine g_skip ?_; conv => whnf)
      | (refine g_ret ?_; conv => whnf)
      | (refine g_exit ?_; conv => whnf)
      | (refine g_block ?_)
      | (refine g_quiet ?_)
      | (refine g_drawn ?_)
      | (refine d_p ?_; conv => whnf)
      | (refine d_pg ?_; conv => whnf)
      | (refine d_e ?_; conv => whnf)
      | (refine d_eg ?_; conv => whnf)
      | (refine d_nil ?_; conv => whnf)
      | (refine q_op ?_; conv => whnf)
      | (refine q_nil ?_; conv => whnf)
      | (refine q_opg ?_; conv => whnf)
      | (refine r_t ?_; conv => whnf)
      | (refine r_c ?_; conv => whnf)
      | (refine r_nil ?_; conv => whnf)
      | (refine fun _ => ?_; conv => whnf)
      | (refine Br.f (by simp) ?_; conv => whnf)
      | fail)
    have hw : IntKind.wrap .i64 ((i : Int) + 1) = ((i + 1 : Nat) : Int) := by rw [wrap_ok (by omega) (by omega)]; rfl
    refine ⟨i + 1, by omega, by omega, ?_, True.intro⟩
    refine And.intro rfl ?_
    refine And.intro rfl ?_
    refine And.intro rfl ?_
    exact And.intro (congrArg (D.int .i64) hw) True.intro
  · conv => whnf
    repeat' (first
      | (refine z_ld1 ?_; first | (refine z_ld rfl rfl rfl rfl (by first | (simp only [List.length_set]; assumption) | assumption | omega) (by first | exact elt_set (by first | assumption | (simp only [List.length_set]; assumption)) | assumption) ?_; conv => whnf) | (refine z_ld0 rfl ?_; conv => whnf))
      | (refine z_ld1g ?_; first | (refine z_ldg rfl rfl rfl rfl rfl rfl rfl (by (repeat intro _); exact ⟨(by first | (simp only [List.length_set]; assumption) | assumption | omega), (by first | exact elt_set (by first | assumption | (simp only [List.length_set]; assumption)) | assumption)⟩) rfl rfl rfl rfl ?_; conv => whnf) | (refine z_ld0g ?_; (conv => whnf); refine And.intro ?_ ?_; (focus exact rfl); conv => whnf))
      | (refine z_st1 ?_; first | (refine z_st rfl rfl rfl (by first | (simp only [List.length_set]; assumption) | assumption | omega) (by first | exact elt_set (by first | assumption | (simp only [List.length_set]; assumption)) | assumption) rfl rfl ?_; conv => whnf) | (refine z_st0 ?_; conv => whnf))
      | (refine z_ix1 ?_; first | (refine z_ix rfl rfl rfl rfl rfl ⟨by first | omega | (simp only [decide_eq_true_eq, Bool.not_eq_true', Bool.or_eq_false_iff, decide_eq_false_iff_not, Bool.and_eq_true, Bool.not_eq_false'] at *; omega), by first | omega | (simp only [decide_eq_true_eq, Bool.not_eq_true', Bool.or_eq_false_iff, decide_eq_false_iff_not, Bool.and_eq_true, Bool.not_eq_false'] at *; omega)⟩ ?_; conv => whnf) | (refine z_ix0 rfl rfl ?_; conv => whnf))
      | (refine z_ix1g ?_; refine z_ixg rfl rfl rfl rfl rfl rfl rfl (by (repeat intro _); refine ⟨?_, ?_⟩ <;> first | omega | (simp only [decide_eq_true_eq, Bool.not_eq_true', Bool.or_eq_false_iff, decide_eq_false_iff_not, Bool.and_eq_true, Bool.not_eq_false'] at *; omega)) ?_)
      | (refine z_op ?_ ?_; (focus exact rfl); conv => whnf)
      | (refine z_opg0 ?_; (conv => whnf); refine And.intro ?_ ?_; (focus exact rfl); conv => whnf)
      | (refine z_pick ?_ ?_; (focus exact rfl); conv => whnf)
      | (refine z_pickg ?_; (conv => whnf); refine And.intro ?_ ?_; (focus exact rfl); conv => whnf)
      | (refine zs_ops ?_ ?_; (focus exact rfl))
      | (refine zs_quiet ?_ ?_; (focus exact rfl))
      | (refine zs_decl ?_)
      | (refine z_nil fun vals => ?_; conv => whnf)
      | (refine z_call ?_ ?_; (focus exact rfl))
      | (refine z_eff ?_; conv => whnf)
      | (refine z_callg0 ?_; (conv => whnf); refine And.intro ?_ ?_; (focus exact rfl))
      | (refine g_op ?_; conv => whnf)
      | (refine And.intro ?_ ?_; (focus (first | exact rfl | exact Nat.le_of_ble_eq_true rfl | decide | omega | fail)); conv => whnf)
      | (refine g_seq ?_)
      | (refine XS.go ?_)
      | (refine g_ops ?_)
      | (refine g_loop ?_)
      | (refine g_nil ?_; conv => whnf)
      | (refine g_opg ?_; conv => whnf)
      | (refine Br.t ?_ ?_; (focus (first | assumption | exact rfl)); conv => whnf)
      | (refine Br.f ?_ ?_; (focus (first | assumption | exact rfl)); conv => whnf)
      | (refine g_cond ?_; conv => whnf)
      | (refine g_skip ?_; conv => whnf)
      | (refine g_ret ?_; conv => whnf)
      | (refine g_exit ?_; conv => whnf)
      | (refine g_block ?_)
      | (refine g_quiet ?_)
      | (refine g_drawn ?_)
      | (refine d_p ?_; conv => whnf)
      | (refine d_pg ?_; conv => whnf)
      | (refine d_e ?_; conv => whnf)
      | (refine d_eg ?_; conv => whnf)
      | (refine d_nil ?_; conv => whnf)
      | (refine q_op ?_; conv => whnf)
      | (refine q_nil ?_; conv => whnf)
      | (refine q_opg ?_; conv => whnf)
      | (refine r_t ?_; conv => whnf)
      | (refine r_c ?_; conv => whnf)
      | (refine r_nil ?_; conv => whnf)
      | (refine fun _ => ?_; conv => whnf)
      | fail)
    rfl
theorem szT_xc {f : Nat} (hc : compileF P [] f = some cfSzT) (l : List ByteArray) (k : Int) (hw : l.length ≤ 9223372036854775807 ∧ ∀ y ∈ l, y.size ≤ 9223372036854775807) (h0 : 0 ≤ k) (h1 : k ≤ 1048576) :
    XC P f [.ro 1 (l.map D.str), .int .i64 k] [] (fun d ls => ls = [] ∧ ∃ n, d = .int .i64 n ∧ (0 ≤ n → n ≤ k ∧ l.length ≤ 1048576 ∧ ∀ x ∈ l, True)) := by
  have hlen : ((l.map D.str).length : Int) = (l.length : Int) := by simp
  refine XC.intro' hm [] rfl hc (Nat.le_of_ble_eq_true rfl) ?_
  conv => whnf
  repeat' (first
    | (refine z_ld1 ?_; first | (refine z_ld rfl rfl rfl rfl (by first | (simp only [List.length_set]; assumption) | assumption | omega) (by first | exact elt_set (by first | assumption | (simp only [List.length_set]; assumption)) | assumption) ?_; conv => whnf) | (refine z_ld0 rfl ?_; conv => whnf))
    | (refine z_ld1g ?_; first | (refine z_ldg rfl rfl rfl rfl rfl rfl rfl (by (repeat intro _); exact ⟨(by first | (simp only [List.length_set]; assumption) | assumption | omega), (by first | exact elt_set (by first | assumption | (simp only [List.length_set]; assumption)) | assumption)⟩) rfl rfl rfl rfl ?_; conv => whnf) | (refine z_ld0g ?_; (conv => whnf); refine And.intro ?_ ?_; (focus exact rfl); conv => whnf))
    | (refine z_st1 ?_; first | (refine z_st rfl rfl rfl (by first | (simp only [List.length_set]; assumption) | assumption | omega) (by first | exact elt_set (by first | assumption | (simp only [List.length_set]; assumption)) | assumption) rfl rfl ?_; conv => whnf) | (refine z_st0 ?_; conv => whnf))
    | (refine z_ix1 ?_; first | (refine z_ix rfl rfl rfl rfl rfl ⟨by first | omega | (simp only [decide_eq_true_eq, Bool.not_eq_true', Bool.or_eq_false_iff, decide_eq_false_iff_not, Bool.and_eq_true, Bool.not_eq_false'] at *; omega), by first | omega | (simp only [decide_eq_true_eq, Bool.not_eq_true', Bool.or_eq_false_iff, decide_eq_false_iff_not, Bool.and_eq_true, Bool.not_eq_false'] at *; omega)⟩ ?_; conv => whnf) | (refine z_ix0 rfl rfl ?_; conv => whnf))
    | (refine z_ix1g ?_; refine z_ixg rfl rfl rfl rfl rfl rfl rfl (by (repeat intro _); refine ⟨?_, ?_⟩ <;> first | omega | (simp only [decide_eq_true_eq, Bool.not_eq_true', Bool.or_eq_false_iff, decide_eq_false_iff_not, Bool.and_eq_true, Bool.not_eq_false'] at *; omega)) ?_)
    | (refine z_op ?_ ?_; (focus exact rfl); conv => whnf)
    | (refine z_opg0 ?_; (conv => whnf); refine And.intro ?_ ?_; (focus exact rfl); conv => whnf)
    | (refine z_pick ?_ ?_; (focus exact rfl); conv => whnf)
    | (refine z_pickg ?_; (conv => whnf); refine And.intro ?_ ?_; (focus exact rfl); conv => whnf)
    | (refine zs_ops ?_ ?_; (focus exact rfl))
    | (refine zs_quiet ?_ ?_; (focus exact rfl))
    | (refine zs_decl ?_)
    | (refine z_nil fun vals => ?_; conv => whnf)
    | (refine z_call ?_ ?_; (focus exact rfl))
    | (refine z_eff ?_; conv => whnf)
    | (refine z_callg0 ?_; (conv => whnf); refine And.intro ?_ ?_; (focus exact rfl))
    | (refine g_op ?_; conv => whnf)
    | (refine And.intro ?_ ?_; (focus (first | exact rfl | exact Nat.le_of_ble_eq_true rfl | decide | omega | fail)); conv => whnf)
    | (refine g_seq ?_)
    | (refine XS.go ?_)
    | (refine g_ops ?_)
    | (refine g_loop ?_)
    | (refine g_nil ?_; conv => whnf)
    | (refine g_opg ?_; conv => whnf)
    | (refine Br.t ?_ ?_; (focus (first | assumption | exact rfl)); conv => whnf)
    | (refine Br.f ?_ ?_; (focus (first | assumption | exact rfl)); conv => whnf)
    | (refine g_cond ?_; conv => whnf)
    | (refine g_skip ?_; conv => whnf)
    | (refine g_ret ?_; conv => whnf)
    | (refine g_exit ?_; conv => whnf)
    | (refine g_block ?_)
    | (refine g_quiet ?_)
    | (refine g_drawn ?_)
    | (refine d_p ?_; conv => whnf)
    | (refine d_pg ?_; conv => whnf)
    | (refine d_e ?_; conv => whnf)
    | (refine d_eg ?_; conv => whnf)
    | (refine d_nil ?_; conv => whnf)
    | (refine q_op ?_; conv => whnf)
    | (refine q_nil ?_; conv => whnf)
    | (refine q_opg ?_; conv => whnf)
    | (refine r_t ?_; conv => whnf)
    | (refine r_c ?_; conv => whnf)
    | (refine r_nil ?_; conv => whnf)
    | (refine fun _ => ?_; conv => whnf)
    | fail)
  have hwl := hw.1
  have e0 : IntKind.wrap .i64 (k - (l.length : Int)) = k - (l.length : Int) := wrap_ok (by omega) (by omega)
  rw [hlen, e0]
  refine Br.mk (fun hb => ?_) (fun hb => ?_)
  · conv => whnf
    repeat' (first
      | (refine z_ld1 ?_; first | (refine z_ld rfl rfl rfl rfl (by first | (simp only [List.length_set]; assumption) | assumption | omega) (by first | exact elt_set (by first | assumption | (simp only [List.length_set]; assumption)) | assumption) ?_; conv => whnf) | (refine z_ld0 rfl ?_; conv => whnf))
      | (refine z_ld1g ?_; first | (refine z_ldg rfl rfl rfl rfl rfl rfl rfl (by (repeat intro _); exact ⟨(by first | (simp only [List.length_set]; assumption) | assumption | omega), (by first | exact elt_set (by first | assumption | (simp only [List.length_set]; assumption)) | assumption)⟩) rfl rfl rfl rfl ?_; conv => whnf) | (refine z_ld0g ?_; (conv => whnf); refine And.intro ?_ ?_; (focus exact rfl); conv => whnf))
      | (refine z_st1 ?_; first | (refine z_st rfl rfl rfl (by first | (simp only [List.length_set]; assumption) | assumption | omega) (by first | exact elt_set (by first | assumption | (simp only [List.length_set]; assumption)) | assumption) rfl rfl ?_; conv => whnf) | (refine z_st0 ?_; conv => whnf))
      | (refine z_ix1 ?_; first | (refine z_ix rfl rfl rfl rfl rfl ⟨by first | omega | (simp only [decide_eq_true_eq, Bool.not_eq_true', Bool.or_eq_false_iff, decide_eq_false_iff_not, Bool.and_eq_true, Bool.not_eq_false'] at *; omega), by first | omega | (simp only [decide_eq_true_eq, Bool.not_eq_true', Bool.or_eq_false_iff, decide_eq_false_iff_not, Bool.and_eq_true, Bool.not_eq_false'] at *; omega)⟩ ?_; conv => whnf) | (refine z_ix0 rfl rfl ?_; conv => whnf))
      | (refine z_ix1g ?_; refine z_ixg rfl rfl rfl rfl rfl rfl rfl (by (repeat intro _); refine ⟨?_, ?_⟩ <;> first | omega | (simp only [decide_eq_true_eq, Bool.not_eq_true', Bool.or_eq_false_iff, decide_eq_false_iff_not, Bool.and_eq_true, Bool.not_eq_false'] at *; omega)) ?_)
      | (refine z_op ?_ ?_; (focus exact rfl); conv => whnf)
      | (refine z_opg0 ?_; (conv => whnf); refine And.intro ?_ ?_; (focus exact rfl); conv => whnf)
      | (refine z_pick ?_ ?_; (focus exact rfl); conv => whnf)
      | (refine z_pickg ?_; (conv => whnf); refine And.intro ?_ ?_; (focus exact rfl); conv => whnf)
      | (refine zs_ops ?_ ?_; (focus exact rfl))
      | (refine zs_quiet ?_ ?_; (focus exact rfl))
      | (refine zs_decl ?_)
      | (refine z_nil fun vals => ?_; conv => whnf)
      | (refine z_call ?_ ?_; (focus exact rfl))
      | (refine z_eff ?_; conv => whnf)
      | (refine z_callg0 ?_; (conv => whnf); refine And.intro ?_ ?_; (focus exact rfl))
      | (refine g_op ?_; conv => whnf)
      | (refine And.intro ?_ ?_; (focus (first | exact rfl | exact Nat.le_of_ble_eq_true rfl | decide | omega | fail)); conv => whnf)
      | (refine g_seq ?_)
      | (refine XS.go ?_)
      | (refine g_ops ?_)
      | (refine g_loop ?_)
      | (refine g_nil ?_; conv => whnf)
      | (refine g_opg ?_; conv => whnf)
      | (refine Br.t ?_ ?_; (focus (first | assumption | exact rfl)); conv => whnf)
      | (refine Br.f ?_ ?_; (focus (first | assumption | exact rfl)); conv => whnf)
      | (refine g_cond ?_; conv => whnf)
      | (refine g_skip ?_; conv => whnf)
      | (refine g_ret ?_; conv => whnf)
      | (refine g_exit ?_; conv => whnf)
      | (refine g_block ?_)
      | (refine g_quiet ?_)
      | (refine g_drawn ?_)
      | (refine d_p ?_; conv => whnf)
      | (refine d_pg ?_; conv => whnf)
      | (refine d_e ?_; conv => whnf)
      | (refine d_eg ?_; conv => whnf)
      | (refine d_nil ?_; conv => whnf)
      | (refine q_op ?_; conv => whnf)
      | (refine q_nil ?_; conv => whnf)
      | (refine q_opg ?_; conv => whnf)
      | (refine r_t ?_; conv => whnf)
      | (refine r_c ?_; conv => whnf)
      | (refine r_nil ?_; conv => whnf)
      | (refine fun _ => ?_; conv => whnf)
      | fail)
    exact ⟨_, rfl, fun h => absurd h (by decide)⟩
  have hk0 : 0 ≤ k - (l.length : Int) := Int.not_lt.1 (of_decide_eq_false hb)
  conv => whnf
  repeat' (first
    | (refine z_ld1 ?_; first | (refine z_ld rfl rfl rfl rfl (by first | (simp only [List.length_set]; assumption) | assumption | omega) (by first | exact elt_set (by first | assumption | (simp only [List.length_set]; assumption)) | assumption) ?_; conv => whnf) | (refine z_ld0 rfl ?_; conv => whnf))
    | (refine z_ld1g ?_; first | (refine z_ldg rfl rfl rfl rfl rfl rfl rfl (by (repeat intro _); exact ⟨(by first | (simp only [List.length_set]; assumption) | assumption | omega), (by first | exact elt_set (by first | assumption | (simp only [List.length_set]; assumption)) | assumption)⟩) rfl rfl rfl rfl ?_; conv => whnf) | (refine z_ld0g ?_; (conv => whnf); refine And.intro ?_ ?_; (focus exact rfl); conv => whnf))
    | (refine z_st1 ?_; first | (refine z_st rfl rfl rfl (by first | (simp only [List.length_set]; assumption) | assumption | omega) (by first | exact elt_set (by first | assumption | (simp only [List.length_set]; assumption)) | assumption) rfl rfl ?_; conv => whnf) | (refine z_st0 ?_; conv => whnf))
    | (refine z_ix1 ?_; first | (refine z_ix rfl rfl rfl rfl rfl ⟨by first | omega | (simp only [decide_eq_true_eq, Bool.not_eq_true', Bool.or_eq_false_iff, decide_eq_false_iff_not, Bool.and_eq_true, Bool.not_eq_false'] at *; omega), by first | omega | (simp only [decide_eq_true_eq, Bool.not_eq_true', Bool.or_eq_false_iff, decide_eq_false_iff_not, Bool.and_eq_true, Bool.not_eq_false'] at *; omega)⟩ ?_; conv => whnf) | (refine z_ix0 rfl rfl ?_; conv => whnf))
    | (refine z_ix1g ?_; refine z_ixg rfl rfl rfl rfl rfl rfl rfl (by (repeat intro _); refine ⟨?_, ?_⟩ <;> first | omega | (simp only [decide_eq_true_eq, Bool.not_eq_true', Bool.or_eq_false_iff, decide_eq_false_iff_not, Bool.and_eq_true, Bool.not_eq_false'] at *; omega)) ?_)
    | (refine z_op ?_ ?_; (focus exact rfl); conv => whnf)
    | (refine z_opg0 ?_; (conv => whnf); refine And.intro ?_ ?_; (focus exact rfl); conv => whnf)
    | (refine z_pick ?_ ?_; (focus exact rfl); conv => whnf)
    | (refine z_pickg ?_; (conv => whnf); refine And.intro ?_ ?_; (focus exact rfl); conv => whnf)
    | (refine zs_ops ?_ ?_; (focus exact rfl))
    | (refine zs_quiet ?_ ?_; (focus exact rfl))
    | (refine zs_decl ?_)
    | (refine z_nil fun vals => ?_; conv => whnf)
    | (refine z_call ?_ ?_; (focus exact rfl))
    | (refine z_eff ?_; conv => whnf)
    | (refine z_callg0 ?_; (conv => whnf); refine And.intro ?_ ?_; (focus exact rfl))
    | (refine g_op ?_; conv => whnf)
    | (refine And.intro ?_ ?_; (focus (first | exact rfl | exact Nat.le_of_ble_eq_true rfl | decide | omega | fail)); conv => whnf)
    | (refine g_seq ?_)
    | (refine XS.go ?_)
    | (refine g_ops ?_)
    | (refine g_loop ?_)
    | (refine g_nil ?_; conv => whnf)
    | (refine g_opg ?_; conv => whnf)
    | (refine Br.t ?_ ?_; (focus (first | assumption | exact rfl)); conv => whnf)
    | (refine Br.f ?_ ?_; (focus (first | assumption | exact rfl)); conv => whnf)
    | (refine g_cond ?_; conv => whnf)
    | (refine g_skip ?_; conv => whnf)
    | (refine g_ret ?_; conv => whnf)
    | (refine g_exit ?_; conv => whnf)
    | (refine g_block ?_)
    | (refine g_quiet ?_)
    | (refine g_drawn ?_)
    | (refine d_p ?_; conv => whnf)
    | (refine d_pg ?_; conv => whnf)
    | (refine d_e ?_; conv => whnf)
    | (refine d_eg ?_; conv => whnf)
    | (refine d_nil ?_; conv => whnf)
    | (refine q_op ?_; conv => whnf)
    | (refine q_nil ?_; conv => whnf)
    | (refine q_opg ?_; conv => whnf)
    | (refine r_t ?_; conv => whnf)
    | (refine r_c ?_; conv => whnf)
    | (refine r_nil ?_; conv => whnf)
    | (refine fun _ => ?_; conv => whnf)
    | fail)
  refine XLc.mkL (α := Nat × Int) (fun p => p.1 ≤ l.length ∧ 0 ≤ p.2 ∧ p.2 ≤ k) (fun p => l.length - p.1) (fun p gs => [.ro 1 (l.map D.str), .int .i64 p.2, .any, .any, .int .i64 0, .int .i64 (p.1 : Int)]) (fun i gs => []) (0, k - (l.length : Int)) ⟨Nat.zero_le _, hk0, by simp only; omega⟩ ?_ ?_
  · refine ⟨?_, True.intro⟩
    repeat' (first | exact True.intro | refine And.intro rfl ?_)
  intro p gs hi
  obtain ⟨i, q⟩ := p
  obtain ⟨hi, hq0, hqk⟩ := hi
  simp only at hi hq0 hqk
  repeat' (first
    | (refine z_ld1 ?_; first | (refine z_ld rfl rfl rfl rfl (by first | (simp only [List.length_set]; assumption) | assumption | omega) (by first | exact elt_set (by first | assumption | (simp only [List.length_set]; assumption)) | assumption) ?_; conv => whnf) | (refine z_ld0 rfl ?_; conv => whnf))
    | (refine z_ld1g ?_; first | (refine z_ldg rfl rfl rfl rfl rfl rfl rfl (by (repeat intro _); exact ⟨(by first | (simp only [List.length_set]; assumption) | assumption | omega), (by first | exact elt_set (by first | assumption | (simp only [List.length_set]; assumption)) | assumption)⟩) rfl rfl rfl rfl ?_; conv => whnf) | (refine z_ld0g ?_; (conv => whnf); refine And.intro ?_ ?_; (focus exact rfl); conv => whnf))
    | (refine z_st1 ?_; first | (refine z_st rfl rfl rfl (by first | (simp only [List.length_set]; assumption) | assumption | omega) (by first | exact elt_set (by first | assumption | (simp only [List.length_set]; assumption)) | assumption) rfl rfl ?_; conv => whnf) | (refine z_st0 ?_; conv => whnf))
    | (refine z_ix1 ?_; first | (refine z_ix rfl rfl rfl rfl rfl ⟨by first | omega | (simp only [decide_eq_true_eq, Bool.not_eq_true', Bool.or_eq_false_iff, decide_eq_false_iff_not, Bool.and_eq_true, Bool.not_eq_false'] at *; omega), by first | omega | (simp only [decide_eq_true_eq, Bool.not_eq_true', Bool.or_eq_false_iff, decide_eq_false_iff_not, Bool.and_eq_true, Bool.not_eq_false'] at *; omega)⟩ ?_; conv => whnf) | (refine z_ix0 rfl rfl ?_; conv => whnf))
    | (refine z_ix1g ?_; refine z_ixg rfl rfl rfl rfl rfl rfl rfl (by (repeat intro _); refine ⟨?_, ?_⟩ <;> first | omega | (simp only [decide_eq_true_eq, Bool.not_eq_true', Bool.or_eq_false_iff, decide_eq_false_iff_not, Bool.and_eq_true, Bool.not_eq_false'] at *; omega)) ?_)
    | (refine z_op ?_ ?_; (focus exact rfl); conv => whnf)
    | (refine z_opg0 ?_; (conv => whnf); refine And.intro ?_ ?_; (focus exact rfl); conv => whnf)
    | (refine z_pick ?_ ?_; (focus exact rfl); conv => whnf)
    | (refine z_pickg ?_; (conv => whnf); refine And.intro ?_ ?_; (focus exact rfl); conv => whnf)
    | (refine zs_ops ?_ ?_; (focus exact rfl))
    | (refine zs_quiet ?_ ?_; (focus exact rfl))
    | (refine zs_decl ?_)
    | (refine z_nil fun vals => ?_; conv => whnf)
    | (refine z_call ?_ ?_; (focus exact rfl))
    | (refine z_eff ?_; conv => whnf)
    | (refine z_callg0 ?_; (conv => whnf); refine And.intro ?_ ?_; (focus exact rfl))
    | (refine g_op ?_; conv => whnf)
    | (refine And.intro ?_ ?_; (focus (first | exact rfl | exact Nat.le_of_ble_eq_true rfl | decide | omega | fail)); conv => whnf)
    | (refine g_seq ?_)
    | (refine XS.go ?_)
    | (refine g_ops ?_)
    | (refine g_loop ?_)
    | (refine g_nil ?_; conv => whnf)
    | (refine g_opg ?_; conv => whnf)
    | (refine Br.t ?_ ?_; (focus (first | assumption | exact rfl)); conv => whnf)
    | (refine Br.f ?_ ?_; (focus (first | assumption | exact rfl)); conv => whnf)
    | (refine g_cond ?_; conv => whnf)
    | (refine g_skip ?_; conv => whnf)
    | (refine g_ret ?_; conv => whnf)
    | (refine g_exit ?_; conv => whnf)
    | (refine g_block ?_)
    | (refine g_quiet ?_)
    | (refine g_drawn ?_)
    | (refine d_p ?_; conv => whnf)
    | (refine d_pg ?_; conv => whnf)
    | (refine d_e ?_; conv => whnf)
    | (refine d_eg ?_; conv => whnf)
    | (refine d_nil ?_; conv => whnf)
    | (refine q_op ?_; conv => whnf)
    | (refine q_nil ?_; conv => whnf)
    | (refine q_opg ?_; conv => whnf)
    | (refine r_t ?_; conv => whnf)
    | (refine r_c ?_; conv => whnf)
    | (refine r_nil ?_; conv => whnf)
    | (refine fun _ => ?_; conv => whnf)
    | fail)
  rw [hlen]
  refine Br.mk (fun hb => ?_) (fun hb => ?_)
  · have hlt : i < l.length := by simpa using hb
    have hsz : (l.getD i default).size ≤ 9223372036854775807 := by
      have e : l.getD i default = l[i] := by simp [hlt]
      rw [e]
      exact hw.2 _ (List.getElem_mem _)
    conv => whnf
    repeat' (first
      | (refine z_ld1 ?_; first | (refine z_ld rfl rfl rfl rfl (by first | (simp only [List.length_set]; assumption) | assumption | omega) (by first | exact elt_set (by first | assumption | (simp only [List.length_set]; assumption)) | assumption) ?_; conv => whnf) | (refine z_ld0 rfl ?_; conv => whnf))
      | (refine z_ld1g ?_; first | (refine z_ldg rfl rfl rfl rfl rfl rfl rfl (by (repeat intro _); exact ⟨(by first | (simp only [List.length_set]; assumption) | assumption | omega), (by first | exact elt_set (by first | assumption | (simp only [List.length_set]; assumption)) | assumption)⟩) rfl rfl rfl rfl ?_; conv => whnf) | (refine z_ld0g ?_; (conv => whnf); refine And.intro ?_ ?_; (focus exact rfl); conv => whnf))
      | (refine z_st1 ?_; first | (refine z_st rfl rfl rfl (by first | (simp only [List.length_set]; assumption) | assumption | omega) (by first | exact elt_set (by first | assumption | (simp only [List.length_set]; assumption)) | assumption) rfl rfl ?_; conv => whnf) | (refine z_st0 ?_; conv => whnf))
      | (refine z_ix1 ?_; first | (refine z_ix rfl rfl rfl rfl rfl ⟨by first | omega | (simp only [decide_eq_true_eq, Bool.not_eq_true', Bool.or_eq_false_iff, decide_eq_false_iff_not, Bool.and_eq_true, Bool.not_eq_false'] at *; omega), by first | omega | (simp only [decide_eq_true_eq, Bool.not_eq_true', Bool.or_eq_false_iff, decide_eq_false_iff_not, Bool.and_eq_true, Bool.not_eq_false'] at *; omega)⟩ ?_; conv => whnf) | (refine z_ix0 rfl rfl ?_; conv => whnf))
      | (refine z_ix1g ?_; refine z_ixg rfl rfl rfl rfl rfl rfl rfl (by (repeat intro _); refine ⟨?_, ?_⟩ <;> first | omega | (simp only [decide_eq_true_eq, Bool.not_eq_true', Bool.or_eq_false_iff, decide_eq_false_iff_not, Bool.and_eq_true, Bool.not_eq_false'] at *; omega)) ?_)
      | (refine z_op ?_ ?_; (focus exact rfl); conv => whnf)
      | (refine z_opg0 ?_; (conv => whnf); refine And.intro ?_ ?_; (focus exact rfl); conv => whnf)
      | (refine z_pick ?_ ?_; (focus exact rfl); conv => whnf)
      | (refine z_pickg ?_; (conv => whnf); refine And.intro ?_ ?_; (focus exact rfl); conv => whnf)
      | (refine zs_ops ?_ ?_; (focus exact rfl))
      | (refine zs_quiet ?_ ?_; (focus exact rfl))
      | (refine zs_decl ?_)
      | (refine z_nil fun vals => ?_; conv => whnf)
      | (refine z_call ?_ ?_; (focus exact rfl))
      | (refine z_eff ?_; conv => whnf)
      | (refine z_callg0 ?_; (conv => whnf); refine And.intro ?_ ?_; (focus exact rfl))
      | (refine g_op ?_; conv => whnf)
      | (refine And.intro ?_ ?_; (focus (first | exact rfl | exact Nat.le_of_ble_eq_true rfl | decide | omega | fail)); conv => whnf)
      | (refine g_seq ?_)
      | (refine XS.go ?_)
      | (refine g_ops ?_)
      | (refine g_loop ?_)
      | (refine g_nil ?_; conv => whnf)
      | (refine g_opg ?_; conv => whnf)
      | (refine Br.t ?_ ?_; (focus (first | assumption | exact rfl)); conv => whnf)
      | (refine Br.f ?_ ?_; (focus (first | assumption | exact rfl)); conv => whnf)
      | (refine g_cond ?_; conv => whnf)
      | (refine g_skip ?_; conv => whnf)
      | (refine g_ret ?_; conv => whnf)
      | (refine g_exit ?_; conv => whnf)
      | (refine g_block ?_)
      | (refine g_quiet ?_)
      | (refine g_drawn ?_)
      | (refine d_p ?_; conv => whnf)
      | (refine d_pg ?_; conv => whnf)
      | (refine d_e ?_; conv => whnf)
      | (refine d_eg ?_; conv => whnf)
      | (refine d_nil ?_; conv => whnf)
      | (refine q_op ?_; conv => whnf)
      | (refine q_nil ?_; conv => whnf)
      | (refine q_opg ?_; conv => whnf)
      | (refine r_t ?_; conv => whnf)
      | (refine r_c ?_; conv => whnf)
      | (refine r_nil ?_; conv => whnf)
      | (refine fun _ => ?_; conv => whnf)
      | fail)
    have e1 : IntKind.wrap .i64 (q - ((l.getD i default).size : Int)) = q - ((l.getD i default).size : Int) := wrap_ok (by omega) (by omega)
    rw [show (l.getD (i : Int).toNat default) = l.getD i default from rfl, e1]
    refine Br.mk (fun hc => ?_) (fun hc => ?_)
    · conv => whnf
      repeat' (first
        | (refine z_ld1 ?_; first | (refine z_ld rfl rfl rfl rfl (by first | (simp only [List.length_set]; assumption) | assumption | omega) (by first | exact elt_set (by first | assumption | (simp only [List.length_set]; assumption)) | assumption) ?_; conv => whnf) | (refine z_ld0 rfl ?_; conv => whnf))
        | (refine z_ld1g ?_; first | (refine z_ldg rfl rfl rfl rfl rfl rfl rfl (by (repeat intro _); exact ⟨(by first | (simp only [List.length_set]; assumption) | assumption | omega), (by first | exact elt_set (by first | assumption | (simp only [List.length_set]; assumption)) | assumption)⟩) rfl rfl rfl rfl ?_; conv => whnf) | (refine z_ld0g ?_; (conv => whnf); refine And.intro ?_ ?_; (focus exact rfl); conv => whnf))
        | (refine z_st1 ?_; first | (refine z_st rfl rfl rfl (by first | (simp only [List.length_set]; assumption) | assumption | omega) (by first | exact elt_set (by first | assumption | (simp only [List.length_set]; assumption)) | assumption) rfl rfl ?_; conv => whnf) | (refine z_st0 ?_; conv => whnf))
        | (refine z_ix1 ?_; first | (refine z_ix rfl rfl rfl rfl rfl ⟨by first | omega | (simp only [decide_eq_true_eq, Bool.not_eq_true', Bool.or_eq_false_iff, decide_eq_false_iff_not, Bool.and_eq_true, Bool.not_eq_false'] at *; omega), by first | omega | (simp only [decide_eq_true_eq, Bool.not_eq_true', Bool.or_eq_false_iff, decide_eq_false_iff_not, Bool.and_eq_true, Bool.not_eq_false'] at *; omega)⟩ ?_; conv => whnf) | (refine z_ix0 rfl rfl ?_; conv => whnf))
        | (refine z_ix1g ?_; refine z_ixg rfl rfl rfl rfl rfl rfl rfl (by (repeat intro _); refine ⟨?_, ?_⟩ <;> first | omega | (simp only [decide_eq_true_eq, Bool.not_eq_true', Bool.or_eq_false_iff, decide_eq_false_iff_not, Bool.and_eq_true, Bool.not_eq_false'] at *; omega)) ?_)
        | (refine z_op ?_ ?_; (focus exact rfl); conv => whnf)
        | (refine z_opg0 ?_; (conv => whnf); refine And.intro ?_ ?_; (focus exact rfl); conv => whnf)
        | (refine z_pick ?_ ?_; (focus exact rfl); conv => whnf)
        | (refine z_pickg ?_; (conv => whnf); refine And.intro ?_ ?_; (focus exact rfl); conv => whnf)
        | (refine zs_ops ?_ ?_; (focus exact rfl))
        | (refine zs_quiet ?_ ?_; (focus exact rfl))
        | (refine zs_decl ?_)
        | (refine z_nil fun vals => ?_; conv => whnf)
        | (refine z_call ?_ ?_; (focus exact rfl))
        | (refine z_eff ?_; conv => whnf)
        | (refine z_callg0 ?_; (conv => whnf); refine And.intro ?_ ?_; (focus exact rfl))
        | (refine g_op ?_; conv => whnf)
        | (refine And.intro ?_ ?_; (focus (first | exact rfl | exact Nat.le_of_ble_eq_true rfl | decide | omega | fail)); conv => whnf)
        | (refine g_seq ?_)
        | (refine XS.go ?_)
        | (refine g_ops ?_)
        | (refine g_loop ?_)
        | (refine g_nil ?_; conv => whnf)
        | (refine g_opg ?_; conv => whnf)
        | (refine Br.t ?_ ?_; (focus (first | assumption | exact rfl)); conv => whnf)
        | (refine Br.f ?_ ?_; (focus (first | assumption | exact rfl)); conv => whnf)
        | (refine g_cond ?_; conv => whnf)
        | (refine g_skip ?_; conv => whnf)
        | (refine g_ret ?_; conv => whnf)
        | (refine g_exit ?_; conv => whnf)
        | (refine g_block ?_)
        | (refine g_quiet ?_)
        | (refine g_drawn ?_)
        | (refine d_p ?_; conv => whnf)
        | (refine d_pg ?_; conv => whnf)
        | (refine d_e ?_; conv => whnf)
        | (refine d_eg ?_; conv => whnf)
        | (refine d_nil ?_; conv => whnf)
        | (refine q_op ?_; conv => whnf)
        | (refine q_nil ?_; conv => whnf)
        | (refine q_opg ?_; conv => whnf)
        | (refine r_t ?_; conv => whnf)
        | (refine r_c ?_; conv => whnf)
        | (refine r_nil ?_; conv => whnf)
        | (refine fun _ => ?_; conv => whnf)
        | fail)
      exact ⟨_, rfl, fun h => absurd h (by decide)⟩
    have hn0 : 0 ≤ q - ((l.getD i default).size : Int) := Int.not_lt.1 (of_decide_eq_false hc)
    conv => whnf
    repeat' (first
      | (refine z_ld1 ?_; first | (refine z_ld rfl rfl rfl rfl (by first | (simp only [List.length_set]; assumption) | assumption | omega) (by first | exact elt_set (by first | assumption | (simp only [List.length_set]; assumption)) | assumption) ?_; conv => whnf) | (refine z_ld0 rfl ?_; conv => whnf))
      | (refine z_ld1g ?_; first | (refine z_ldg rfl rfl rfl rfl rfl rfl rfl (by (repeat intro _); exact ⟨(by first | (simp only [List.length_set]; assumption) | assumption | omega), (by first | exact elt_set (by first | assumption | (simp only [List.length_set]; assumption)) | assumption)⟩) rfl rfl rfl rfl ?_; conv => whnf) | (refine z_ld0g ?_; (conv => whnf); refine And.intro ?_ ?_; (focus exact rfl); conv => whnf))
      | (refine z_st1 ?_; first | (refine z_st rfl rfl rfl (by first | (simp only [List.length_set]; assumption) | assumption | omega) (by first | exact elt_set (by first | assumption | (simp only [List.length_set]; assumption)) | assumption) rfl rfl ?_; conv => whnf) | (refine z_st0 ?_; conv => whnf))
      | (refine z_ix1 ?_; first | (refine z_ix rfl rfl rfl rfl rfl ⟨by first | omega | (simp only [decide_eq_true_eq, Bool.not_eq_true', Bool.or_eq_false_iff, decide_eq_false_iff_not, Bool.and_eq_true, Bool.not_eq_false'] at *; omega), by first | omega | (simp only [decide_eq_true_eq, Bool.not_eq_true', Bool.or_eq_false_iff, decide_eq_false_iff_not, Bool.and_eq_true, Bool.not_eq_false'] at *; omega)⟩ ?_; conv => whnf) | (refine z_ix0 rfl rfl ?_; conv => whnf))
      | (refine z_ix1g ?_; refine z_ixg rfl rfl rfl rfl rfl rfl rfl (by (repeat intro _); refine ⟨?_, ?_⟩ <;> first | omega | (simp only [decide_eq_true_eq, Bool.not_eq_true', Bool.or_eq_false_iff, decide_eq_false_iff_not, Bool.and_eq_true, Bool.not_eq_false'] at *; omega)) ?_)
      | (refine z_op ?_ ?_; (focus exact rfl); conv => whnf)
      | (refine z_opg0 ?_; (conv => whnf); refine And.intro ?_ ?_; (focus exact rfl); conv => whnf)
      | (refine z_pick ?_ ?_; (focus exact rfl); conv => whnf)
      | (refine z_pickg ?_; (conv => whnf); refine And.intro ?_ ?_; (focus exact rfl); conv => whnf)
      | (refine zs_ops ?_ ?_; (focus exact rfl))
      | (refine zs_quiet ?_ ?_; (focus exact rfl))
      | (refine zs_decl ?_)
      | (refine z_nil fun vals => ?_; conv => whnf)
      | (refine z_call ?_ ?_; (focus exact rfl))
      | (refine z_eff ?_; conv => whnf)
      | (refine z_callg0 ?_; (conv => whnf); refine And.intro ?_ ?_; (focus exact rfl))
      | (refine g_op ?_; conv => whnf)
      | (refine And.intro ?_ ?_; (focus (first | exact rfl | exact Nat.le_of_ble_eq_true rfl | decide | omega | fail)); conv => whnf)
      | (refine g_seq ?_)
      | (refine XS.go ?_)
      | (refine g_ops ?_)
      | (refine g_loop ?_)
      | (refine g_nil ?_; conv => whnf)
      | (refine g_opg ?_; conv => whnf)
      | (refine Br.t ?_ ?_; (focus (first | assumption | exact rfl)); conv => whnf)
      | (refine Br.f ?_ ?_; (focus (first | assumption | exact rfl)); conv => whnf)
      | (refine g_cond ?_; conv => whnf)
      | (refine g_skip ?_; conv => whnf)
      | (refine g_ret ?_; conv => whnf)
      | (refine g_exit ?_; conv => whnf)
      | (refine g_block ?_)
      | (refine g_quiet ?_)
      | (refine g_drawn ?_)
      | (refine d_p ?_; conv => whnf)
      | (refine d_pg ?_; conv => whnf)
      | (refine d_e ?_; conv => whnf)
      | (refine d_eg ?_; conv => whnf)
      | (refine d_nil ?_; conv => whnf)
      | (refine q_op ?_; conv => whnf)
      | (refine q_nil ?_; conv => whnf)
      | (refine q_opg ?_; conv => whnf)
      | (refine r_t ?_; conv => whnf)
      | (refine r_c ?_; conv => whnf)
      | (refine r_nil ?_; conv => whnf)
      | (refine fun _ => ?_; conv => whnf)
      | fail)
    have hw : IntKind.wrap .i64 ((i : Int) + 1) = ((i + 1 : Nat) : Int) := by rw [wrap_ok (by omega) (by omega)]; rfl
    refine ⟨(i + 1, q - ((l.getD i default).size : Int)), ⟨by simp only; omega, hn0, by simp only; omega⟩, by simp only; omega, ?_, True.intro⟩
    refine And.intro rfl ?_
    refine And.intro rfl ?_
    refine And.intro rfl ?_
    exact And.intro (congrArg (D.int .i64) hw) True.intro
  · conv => whnf
    repeat' (first
      | (refine z_ld1 ?_; first | (refine z_ld rfl rfl rfl rfl (by first | (simp only [List.length_set]; assumption) | assumption | omega) (by first | exact elt_set (by first | assumption | (simp only [List.length_set]; assumption)) | assumption) ?_; conv => whnf) | (refine z_ld0 rfl ?_; conv => whnf))
      | (refine z_ld1g ?_; first | (refine z_ldg rfl rfl rfl rfl rfl rfl rfl (by (repeat intro _); exact ⟨(by first | (simp only [List.length_set]; assumption) | assumption | omega), (by first | exact elt_set (by first | assumption | (simp only [List.length_set]; assumption)) | assumption)⟩) rfl rfl rfl rfl ?_; conv => whnf) | (refine z_ld0g ?_; (conv => whnf); refine And.intro ?_ ?_; (focus exact rfl); conv => whnf))
      | (refine z_st1 ?_; first | (refine z_st rfl rfl rfl (by first | (simp only [List.length_set]; assumption) | assumption | omega) (by first | exact elt_set (by first | assumption | (simp only [List.length_set]; assumption)) | assumption) rfl rfl ?_; conv => whnf) | (refine z_st0 ?_; conv => whnf))
      | (refine z_ix1 ?_; first | (refine z_ix rfl rfl rfl rfl rfl ⟨by first | omega | (simp only [decide_eq_true_eq, Bool.not_eq_true', Bool.or_eq_false_iff, decide_eq_false_iff_not, Bool.and_eq_true, Bool.not_eq_false'] at *; omega), by first | omega | (simp only [decide_eq_true_eq, Bool.not_eq_true', Bool.or_eq_false_iff, decide_eq_false_iff_not, Bool.and_eq_true, Bool.not_eq_false'] at *; omega)⟩ ?_; conv => whnf) | (refine z_ix0 rfl rfl ?_; conv => whnf))
      | (refine z_ix1g ?_; refine z_ixg rfl rfl rfl rfl rfl rfl rfl (by (repeat intro _); refine ⟨?_, ?_⟩ <;> first | omega | (simp only [decide_eq_true_eq, Bool.not_eq_true', Bool.or_eq_false_iff, decide_eq_false_iff_not, Bool.and_eq_true, Bool.not_eq_false'] at *; omega)) ?_)
      | (refine z_op ?_ ?_; (focus exact rfl); conv => whnf)
      | (refine z_opg0 ?_; (conv => whnf); refine And.intro ?_ ?_; (focus exact rfl); conv => whnf)
      | (refine z_pick ?_ ?_; (focus exact rfl); conv => whnf)
      | (refine z_pickg ?_; (conv => whnf); refine And.intro ?_ ?_; (focus exact rfl); conv => whnf)
      | (refine zs_ops ?_ ?_; (focus exact rfl))
      | (refine zs_quiet ?_ ?_; (focus exact rfl))
      | (refine zs_decl ?_)
      | (refine z_nil fun vals => ?_; conv => whnf)
      | (refine z_call ?_ ?_; (focus exact rfl))
      | (refine z_eff ?_; conv => whnf)
      | (refine z_callg0 ?_; (conv => whnf); refine And.intro ?_ ?_; (focus exact rfl))
      | (refine g_op ?_; conv => whnf)
      | (refine And.intro ?_ ?_; (focus (first | exact rfl | exact Nat.le_of_ble_eq_true rfl | decide | omega | fail)); conv => whnf)
      | (refine g_seq ?_)
      | (refine XS.go ?_)
      | (refine g_ops ?_)
      | (refine g_loop ?_)
      | (refine g_nil ?_; conv => whnf)
      | (refine g_opg ?_; conv => whnf)
      | (refine Br.t ?_ ?_; (focus (first | assumption | exact rfl)); conv => whnf)
      | (refine Br.f ?_ ?_; (focus (first | assumption | exact rfl)); conv => whnf)
      | (refine g_cond ?_; conv => whnf)
      | (refine g_skip ?_; conv => whnf)
      | (refine g_ret ?_; conv => whnf)
      | (refine g_exit ?_; conv => whnf)
      | (refine g_block ?_)
      | (refine g_quiet ?_)
      | (refine g_drawn ?_)
      | (refine d_p ?_; conv => whnf)
      | (refine d_pg ?_; conv => whnf)
      | (refine d_e ?_; conv => whnf)
      | (refine d_eg ?_; conv => whnf)
      | (refine d_nil ?_; conv => whnf)
      | (refine q_op ?_; conv => whnf)
      | (refine q_nil ?_; conv => whnf)
      | (refine q_opg ?_; conv => whnf)
      | (refine r_t ?_; conv => whnf)
      | (refine r_c ?_; conv => whnf)
      | (refine r_nil ?_; conv => whnf)
      | (refine fun _ => ?_; conv => whnf)
      | fail)
    exact ⟨_, rfl, fun _ => ⟨hqk, by omega, fun _ _ => trivial⟩⟩
end
end Go.Ab
