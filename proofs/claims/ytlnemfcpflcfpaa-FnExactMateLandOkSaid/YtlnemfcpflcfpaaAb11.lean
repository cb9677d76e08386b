/- Calls with what is owned, rows inside contents, loops with a goal of their own. -/
import Derived.Test.YtlnemfcpflcfpaaAb10
set_option linter.unusedSimpArgs false
set_option linter.unusedVariables false
namespace Go.Ab
open Go Go.RowKit
/-! ### What speaks of no memory that is only read -/
mutual
def D.cl : D → Bool
  | .ro .. | .cref _ | .fn .. => false
  | .agg fs => D.cls fs
  | .ow _ ds _ => D.cls ds
  | .arr _ ds _ => D.cls ds
  | .tup ds => D.cls ds
  | _ => true
def D.cls : List D → Bool
  | [] => true
  | d :: ds => d.cl && D.cls ds
end
theorem D.cls_map {α : Type} {f : α → D} (h : ∀ x, (f x).cl = true) : ∀ (xs : List α), D.cls (xs.map f) = true
  | [] => rfl
  | x :: xs => by simp only [List.map_cons, D.cls, h x, D.cls_map h xs, Bool.and_true]
mutual
theorem RelC.cl {U V : Nat → Prop} {w : World} : ∀ {d : D} {cs : List Value}, d.cl = true → RelC U w d cs → RelC V w d cs
  | .any, _, _, h | .int .., _, _, h | .bool .., _, _, h | .str .., _, _, h | .nil, _, _, h | .nilp, _, _, h | .lref .., _, _, h | .lsl .., _, _, h | .lmp .., _, _, h => by simpa [RelC] using h
  | .agg fs, cs, c, h => by
    simp only [RelC] at h ⊢
    exact RelF.cl (by simpa [D.cl] using c) h
  | .ro .., _, c, _ | .cref _, _, c, _ | .fn .., _, c, _ => by simp [D.cl] at c
  | .undef, _, _, h | .mp _, _, _, h | .tup _, _, _, h | .arr .., _, _, h | .ow .., _, _, h => by simp [RelC] at h
theorem RelF.cl {U V : Nat → Prop} {w : World} : ∀ {ds : List D} {cs : List Value}, D.cls ds = true → RelF U w ds cs → RelF V w ds cs
  | [], _, _, h => by simpa [RelF] using h
  | d :: ds, _, c, h => by
    simp only [RelF] at h ⊢
    simp only [D.cls, Bool.and_eq_true] at c
    obtain ⟨c1, c2, h1, h2, h3⟩ := h
    exact ⟨c1, c2, h1, RelC.cl c.1 h2, RelF.cl c.2 h3⟩
end
mutual
theorem RelO.cl {U V : Nat → Prop} {w : World} : ∀ {d : D} {cs : List Value} {F : List Nat}, d.cl = true → RelO U w d cs F → RelO V w d cs F
  | .agg fs, cs, F, c, h => by
    simp only [RelO] at h ⊢
    exact RelOF.cl (by simpa [D.cl] using c) h
  | .ow es ds k, cs, F, c, h => by
    simp only [RelO] at h ⊢
    obtain ⟨a, h1, h2⟩ := h
    refine ⟨a, h1, h2.imp id ?_⟩
    rintro ⟨b, cells, e, G, h3, h4, h5, h6, h7, h8, rfl⟩
    exact ⟨b, cells, e, G, h3, h4, h5, h6, h7, RelOR.cl (by simpa [D.cl] using c) h8, rfl⟩
  | .ro .., _, _, c, _ | .cref _, _, _, c, _ | .fn .., _, _, c, _ => by simp [D.cl] at c
  | .undef, _, _, _, h | .mp _, _, _, _, h | .tup _, _, _, _, h | .arr .., _, _, _, h => by simp [RelO, RelC] at h
  | .any, _, _, c, h | .int .., _, _, c, h | .bool .., _, _, c, h | .str .., _, _, c, h | .nil, _, _, c, h | .nilp, _, _, c, h | .lref .., _, _, c, h | .lsl .., _, _, c, h | .lmp .., _, _, c, h => by
    simp only [RelO] at h ⊢
    exact ⟨RelC.cl c h.1, h.2⟩
theorem RelOF.cl {U V : Nat → Prop} {w : World} : ∀ {ds : List D} {cs : List Value} {F : List Nat}, D.cls ds = true → RelOF U w ds cs F → RelOF V w ds cs F
  | [], _, _, _, h => by simpa [RelOF] using h
  | d :: ds, _, _, c, h => by
    simp only [RelOF] at h ⊢
    simp only [D.cls, Bool.and_eq_true] at c
    obtain ⟨c1, c2, F1, F2, h1, h2, h3, h4⟩ := h
    exact ⟨c1, c2, F1, F2, h1, h2, RelO.cl c.1 h3, RelOF.cl c.2 h4⟩
theorem RelOR.cl {U V : Nat → Prop} {w : World} {es : Nat} : ∀ {ds : List D} {cs : List Value} {F : List Nat}, D.cls ds = true → RelOR U w es ds cs F → RelOR V w es ds cs F
  | [], _, _, _, h => by simpa [RelOR] using h
  | d :: ds, _, _, c, h => by
    simp only [RelOR] at h ⊢
    simp only [D.cls, Bool.and_eq_true] at c
    obtain ⟨c1, c2, F1, F2, h1, h2, h0, h3, h4⟩ := h
    exact ⟨c1, c2, F1, F2, h1, h2, h0, RelO.cl c.1 h3, RelOR.cl c.2 h4⟩
end
theorem RelW.cl {U V : Nat → Prop} {w : World} {d : D} {v : Value} (c : d.cl = true) (h : RelW U w d v) : RelW V w d v := by
  cases d
  case agg fs => simp only [RelW] at h ⊢; obtain ⟨cs, h1, h2⟩ := h; exact ⟨cs, h1, RelF.cl (by simpa [D.cl] using c) h2⟩
  all_goals (simp only [RelW] at h ⊢ <;> first | exact h | exact RelC.cl c h)
theorem RelT.cl {U V : Nat → Prop} {w : World} : ∀ {ds : List D} {vs : List Value}, D.cls ds = true → RelT U w ds vs → RelT V w ds vs
  | [], _, _, h => by simpa [RelT] using h
  | d :: ds, _, c, h => by
    simp only [RelT] at h ⊢
    simp only [D.cls, Bool.and_eq_true] at c
    obtain ⟨v, r, h1, h2, h3⟩ := h
    exact ⟨v, r, h1, h2.cl c.1, RelT.cl c.2 h3⟩
theorem RelV.cl {U V : Nat → Prop} {w : World} {d : D} {v : Value} (c : d.cl = true) (h : RelV U w d v) : RelV V w d v := by
  cases d
  case tup ds => simp only [RelV] at h ⊢; obtain ⟨vs, h1, h2⟩ := h; exact ⟨vs, h1, h2.cl (by simpa [D.cl] using c)⟩
  all_goals (simp only [RelV] at h ⊢; exact RelW.cl c h)
theorem LocO.cl {U V : Nat → Prop} {w : World} {b : Nat} {d : D} {F : List Nat} (c : d.cl = true) (h : LocO U w b d F) : LocO V w b d F := by
  by_cases hd : d.mpB = true
  · cases d <;> first | (cases hd; done) | skip
    · exact h
    · rcases h with h | ⟨cells, e, G, h3, h4, h5, h6, h8, rfl⟩
      · exact .inl h
      · exact .inr ⟨cells, e, G, h3, h4, h5, h6, h8.cl (by simpa [D.cl] using c), rfl⟩
  · obtain ⟨k, e, G, h1, h2, rfl⟩ := h.cells (by simpa using hd)
    exact .of h1 (h2.cl c)
def clL : List Loan → Bool
  | [] => true
  | l :: ls => l.2.2.cl && clL ls
theorem HolL.cl {U V : Nat → Prop} {w : World} : ∀ {ls : List Loan} {F : List Nat}, clL ls = true → HolL U w ls F → HolL V w ls F
  | [], _, _, h => h
  | l :: ls, _, c, h => by
    simp only [clL, Bool.and_eq_true] at c
    obtain ⟨F1, F2, h1, h2, h3⟩ := h
    exact ⟨F1, F2, h1, h2.cl c.1, HolL.cl c.2 h3⟩
theorem HolL.mono' {U U' : Nat → Prop} {w w' : World} : ∀ {ls : List Loan} {F : List Nat}, ExtO U U' F w w' → HolL U w ls F → HolL U' w' ls F
  | [], _, _, h => h
  | l :: ls, _, x, h => by
    obtain ⟨F1, F2, rfl, h2, h3⟩ := h
    exact ⟨F1, F2, rfl, h2.mono (x.of fun b hb => by simp [hb]), HolL.mono' (x.of fun b hb => by simp [hb]) h3⟩
theorem HolL.appF {U : Nat → Prop} {w : World} {ls2 : List Loan} {F2 : List Nat} (h2 : HolL U w ls2 F2) : ∀ {ls : List Loan} {F : List Nat}, HolL U w ls F → HolL U w (ls ++ ls2) (F ++ F2)
  | [], F, h => by
    have h : F = [] := h
    subst h
    exact h2
  | l :: ls, F, ⟨F1, G, e, h, hs⟩ => ⟨F1, G ++ F2, by rw [e, List.append_assoc], h, HolL.appF h2 hs⟩
/-- A call that only reads may be called with what is owned. -/
theorem XC.bor {P : Program} {f : FuncId} {ds : List D} {ls : List Loan} {K : D → List Loan → Prop} (h : XC P f (frzVs ls ds) [] K) (hok : okVs ls ds) (hcl : ∀ d l, K d l → d.cl = true ∧ clL l = true) :
    XC P f ds ls fun d l2 => ∃ l, l2 = ls ++ l ∧ K d l := by
  unfold XC at h ⊢
  refine ⟨h.1, fun U w vs F hU hH hn hF hT => ?_⟩
  have hlt := hH.lt
  have q := h.2 (fun x => U x ∨ x ∈ F) w vs [] (fun b hb => hb.elim (hU b) (hlt b)) rfl List.nodup_nil (by simp) (frzV_relT (fun _ h => .inl h) (fun _ h => .inr h) hH hok hT)
  refine q.mono fun e w' ⟨v, d, l, U', F', h1, h2, h3, h4, h5, h6, h7, h8, h9⟩ => ?_
  obtain ⟨c1, c2⟩ := hcl d l h9
  have hk : ∀ b, b < w.heap.size → w'.heap[b]? = w.heap[b]? := fun b hb => h6.block b hb (by simp)
  have hnew : ∀ x ∈ F', w.heap.size ≤ x := fun x hx => (h4 x hx).2.resolve_left (by simp)
  refine ⟨v, d, ls ++ l, U, F ++ F', h1, HolL.appF (h2.cl c2) (hH.mono' ⟨fun _ h => h, fun b hb => hk b (hU b hb), fun b hb => hk b (hlt b hb)⟩), ?_, fun x hx => ?_, h5.cl c1, ⟨h6.os, h6.tape, h6.output, h6.size, fun k hk' _ => hk k hk'⟩, fun _ h => h, fun _ h => .inl h, l, rfl, h9⟩
  · refine List.nodup_append.2 ⟨hn, h3, fun a ha b hb e => ?_⟩
    subst e
    have := hlt a ha
    have := hnew a hb
    omega
  · rcases List.mem_append.1 hx with hx | hx
    · exact ⟨hF x hx, .inl hx⟩
    · refine ⟨fun hUx => ?_, .inr (hnew x hx)⟩
      have := hU x hUx
      have := hnew x hx
      omega
end Go.Ab
namespace Go.Ab
open Go Go.RowKit
/-! ### Rows inside contents: given a name, and put back -/
theorem setNil {d x d' : D} (h : d.set [] x = some d') : d' = x ∧ d.len = x.len := by
  have h : (if d.len = x.len ∧ d.isAgg = x.isAgg then some x else none) = some d' := by cases d <;> exact h
  split at h
  · rename_i hc; simp only [Option.some.injEq] at h; exact ⟨h.symm, hc.1⟩
  · cases h
theorem atNil {d d' : D} {o : Nat} (h : d.at [] = some (d', o)) : d = d' := by
  cases d <;> (simp only [D.at, Option.some.injEq, Prod.mk.injEq] at h; exact h.1)
theorem RelO.unp0 {U : Nat → Prop} {w : World} {es c : Nat} {ds : List D} {cs : List Value} {F : List Nat} (t : Nat) (h : RelO U w (.ow es ds c) cs F) : ∃ b, RelO U w (.lsl t b ds.length c) cs [] ∧ LocO U w b (.arr es ds c) F := by
  simp only [RelO] at h
  obtain ⟨a, rfl, h⟩ := h
  rcases h with ⟨rfl, rfl, rfl⟩ | ⟨b, cells, e, G, h3, h4, h5, h6, h7, h8, rfl⟩
  · exact ⟨0, by simp [RelO, RelC], .inl ⟨rfl, rfl, rfl⟩⟩
  · refine ⟨b, ?_, .inr ⟨cells, e, G, h4, h5, h6, h7, h8, rfl⟩⟩
    simp only [RelO, RelC]
    exact ⟨⟨a, rfl, h7, fun _ => h3⟩, trivial⟩
theorem RelO.pak0 {U : Nat → Prop} {w : World} {t b es c : Nat} {ds : List D} {cs : List Value} {F H : List Nat} (h : RelO U w (.lsl t b ds.length c) cs F) (hl : LocO U w b (.arr es ds c) H) : RelO U w (.ow es ds c) cs H ∧ F = [] := by
  simp only [RelO, RelC] at h
  obtain ⟨⟨a, rfl, h1, h2⟩, rfl⟩ := h
  refine ⟨?_, rfl⟩
  simp only [RelO]
  refine ⟨a, rfl, ?_⟩
  rcases hl with ⟨rfl, rfl, rfl⟩ | ⟨cells, e, G, h3, h4, h5, h6, h7, rfl⟩
  · exact .inl ⟨rfl, rfl, rfl⟩
  · exact .inr ⟨b, cells, e, G, h2 h3, h3, h4, h5, h6, h7, rfl⟩
mutual
theorem RelO.unp {U : Nat → Prop} {w : World} {es c : Nat} {ds : List D} (t : Nat) : ∀ {d : D} {cs : List Value} {F p : List Nat} {o : Nat}, RelO U w d cs F → d.at p = some (.ow es ds c, o) →
    ∃ b H F', (∀ d', d.set p (.lsl t b ds.length c) = some d' → RelO U w d' cs F') ∧ LocO U w b (.arr es ds c) H ∧ (H ++ F').Perm F
  | d, cs, F, [], o, h, e => by
    obtain rfl := atNil e
    obtain ⟨b, h1, h2⟩ := h.unp0 t
    exact ⟨b, F, [], fun d' hs => by rw [(setNil hs).1]; exact h1, h2, by simp⟩
  | .agg fs, cs, F, i :: p, o, h, e => by
    simp only [RelO] at h
    simp only [D.at] at e
    obtain ⟨b, H, F', h1, h2, h3⟩ := RelOF.unps t h e
    refine ⟨b, H, F', fun d' hs => ?_, h2, h3⟩
    simp only [D.set, Option.map_eq_some_iff] at hs
    obtain ⟨fs', h4, rfl⟩ := hs
    simp only [RelO]
    exact h1 _ h4
  | .undef, _, _, _ :: _, _, h, e | .any, _, _, _ :: _, _, h, e | .int .., _, _, _ :: _, _, h, e | .bool .., _, _, _ :: _, _, h, e | .str .., _, _, _ :: _, _, h, e | .nil, _, _, _ :: _, _, h, e | .nilp, _, _, _ :: _, _, h, e | .ro .., _, _, _ :: _, _, h, e | .lref .., _, _, _ :: _, _, h, e | .lsl .., _, _, _ :: _, _, h, e | .mp _, _, _, _ :: _, _, h, e | .lmp .., _, _, _ :: _, _, h, e | .cref .., _, _, _ :: _, _, h, e | .tup _, _, _, _ :: _, _, h, e | .fn .., _, _, _ :: _, _, h, e | .arr .., _, _, _ :: _, _, h, e | .ow .., _, _, _ :: _, _, h, e => by simp [D.at] at e
theorem RelOF.unps {U : Nat → Prop} {w : World} {es c : Nat} {ds : List D} (t : Nat) : ∀ {fs : List D} {cs : List Value} {F : List Nat} {i : Nat} {p : List Nat} {o : Nat}, RelOF U w fs cs F → D.ats fs i p = some (.ow es ds c, o) →
    ∃ b H F', (∀ fs', D.sets fs i p (.lsl t b ds.length c) = some fs' → RelOF U w fs' cs F') ∧ LocO U w b (.arr es ds c) H ∧ (H ++ F').Perm F
  | [], _, _, _, _, _, _, e => by simp [D.ats] at e
  | d :: fs, cs, F, 0, p, o, h, e => by
    simp only [RelOF] at h
    obtain ⟨c1, c2, F1, F2, rfl, rfl, h1, h2⟩ := h
    simp only [D.ats] at e
    obtain ⟨b, H, F', q1, q2, q3⟩ := RelO.unp t h1 e
    refine ⟨b, H, F' ++ F2, fun fs' hs => ?_, q2, ?_⟩
    · simp only [D.sets, Option.map_eq_some_iff] at hs
      obtain ⟨d', h4, rfl⟩ := hs
      simp only [RelOF]
      exact ⟨c1, c2, F', F2, rfl, rfl, q1 _ h4, h2⟩
    · rw [← List.append_assoc]
      exact q3.append_right F2
  | d :: fs, cs, F, i + 1, p, o, h, e => by
    simp only [RelOF] at h
    obtain ⟨c1, c2, F1, F2, rfl, rfl, h1, h2⟩ := h
    simp only [D.ats] at e
    cases hr : D.ats fs i p with
    | none => simp [hr] at e
    | some r =>
      simp only [hr, Option.map_some, Option.some.injEq, Prod.mk.injEq] at e
      obtain ⟨r1, r2⟩ := r
      obtain ⟨e1, e2⟩ := e
      simp only at e1
      subst e1
      obtain ⟨b, H, F', q1, q2, q3⟩ := RelOF.unps t h2 hr
      refine ⟨b, H, F1 ++ F', fun fs' hs => ?_, q2, ?_⟩
      · simp only [D.sets, Option.map_eq_some_iff] at hs
        obtain ⟨d', h4, rfl⟩ := hs
        simp only [RelOF]
        exact ⟨c1, c2, F1, F', rfl, rfl, h1, q1 _ h4⟩
      · have e3 : (H ++ (F1 ++ F')).Perm (F1 ++ (H ++ F')) := by
          rw [← List.append_assoc, ← List.append_assoc]
          exact List.Perm.append_right F' List.perm_append_comm
        exact e3.trans (q3.append_left F1)
end
mutual
theorem RelO.pak {U : Nat → Prop} {w : World} {t b es c : Nat} {ds : List D} {H : List Nat} (hl : LocO U w b (.arr es ds c) H) : ∀ {d d' : D} {cs : List Value} {F p : List Nat} {o : Nat}, RelO U w d cs F → d.at p = some (.lsl t b ds.length c, o) → d.set p (.ow es ds c) = some d' →
    ∃ F', RelO U w d' cs F' ∧ F'.Perm (H ++ F)
  | d, d', cs, F, [], o, h, e, hs => by
    obtain rfl := atNil e
    obtain ⟨h1, rfl⟩ := h.pak0 hl
    exact ⟨H, by rw [(setNil hs).1]; exact h1, by simp⟩
  | .agg fs, d', cs, F, i :: p, o, h, e, hs => by
    simp only [RelO] at h
    simp only [D.at] at e
    simp only [D.set, Option.map_eq_some_iff] at hs
    obtain ⟨fs', h4, rfl⟩ := hs
    obtain ⟨F', h1, h2⟩ := RelOF.paks hl h e h4
    exact ⟨F', by simp only [RelO]; exact h1, h2⟩
  | .undef, _, _, _, _ :: _, _, h, e, _ | .any, _, _, _, _ :: _, _, h, e, _ | .int .., _, _, _, _ :: _, _, h, e, _ | .bool .., _, _, _, _ :: _, _, h, e, _ | .str .., _, _, _, _ :: _, _, h, e, _ | .nil, _, _, _, _ :: _, _, h, e, _ | .nilp, _, _, _, _ :: _, _, h, e, _ | .ro .., _, _, _, _ :: _, _, h, e, _ | .lref .., _, _, _, _ :: _, _, h, e, _ | .lsl .., _, _, _, _ :: _, _, h, e, _ | .mp _, _, _, _, _ :: _, _, h, e, _ | .lmp .., _, _, _, _ :: _, _, h, e, _ | .cref .., _, _, _, _ :: _, _, h, e, _ | .tup _, _, _, _, _ :: _, _, h, e, _ | .fn .., _, _, _, _ :: _, _, h, e, _ | .arr .., _, _, _, _ :: _, _, h, e, _ | .ow .., _, _, _, _ :: _, _, h, e, _ => by simp [D.at] at e
theorem RelOF.paks {U : Nat → Prop} {w : World} {t b es c : Nat} {ds : List D} {H : List Nat} (hl : LocO U w b (.arr es ds c) H) : ∀ {fs fs' : List D} {cs : List Value} {F : List Nat} {i : Nat} {p : List Nat} {o : Nat}, RelOF U w fs cs F → D.ats fs i p = some (.lsl t b ds.length c, o) → D.sets fs i p (.ow es ds c) = some fs' →
    ∃ F', RelOF U w fs' cs F' ∧ F'.Perm (H ++ F)
  | [], _, _, _, _, _, _, _, e, _ => by simp [D.ats] at e
  | d :: fs, fs', cs, F, 0, p, o, h, e, hs => by
    simp only [RelOF] at h
    obtain ⟨c1, c2, F1, F2, rfl, rfl, h1, h2⟩ := h
    simp only [D.ats] at e
    simp only [D.sets, Option.map_eq_some_iff] at hs
    obtain ⟨d', h4, rfl⟩ := hs
    obtain ⟨F', q1, q2⟩ := RelO.pak hl h1 e h4
    refine ⟨F' ++ F2, ?_, ?_⟩
    · simp only [RelOF]
      exact ⟨c1, c2, F', F2, rfl, rfl, q1, h2⟩
    · rw [← List.append_assoc]
      exact q2.append_right F2
  | d :: fs, fs', cs, F, i + 1, p, o, h, e, hs => by
    simp only [RelOF] at h
    obtain ⟨c1, c2, F1, F2, rfl, rfl, h1, h2⟩ := h
    simp only [D.ats] at e
    simp only [D.sets, Option.map_eq_some_iff] at hs
    obtain ⟨d', h4, rfl⟩ := hs
    cases hr : D.ats fs i p with
    | none => simp [hr] at e
    | some r =>
      simp only [hr, Option.map_some, Option.some.injEq, Prod.mk.injEq] at e
      obtain ⟨r1, r2⟩ := r
      obtain ⟨e1, e2⟩ := e
      simp only at e1
      subst e1
      obtain ⟨F', q1, q2⟩ := RelOF.paks hl h2 hr h4
      refine ⟨F1 ++ F', ?_, ?_⟩
      · simp only [RelOF]
        exact ⟨c1, c2, F1, F', rfl, rfl, h1, q1⟩
      · have e3 : (F1 ++ (H ++ F2)).Perm (H ++ (F1 ++ F2)) := by
          rw [← List.append_assoc, ← List.append_assoc]
          exact List.Perm.append_right F2 List.perm_append_comm
        exact (q2.append_left F1).trans e3
end
theorem RelOR.part {U : Nat → Prop} {w : World} {es : Nat} : ∀ {ds : List D} {cs : List Value} {F : List Nat} {i : Nat}, RelOR U w es ds cs F → i < ds.length →
    ∃ c1 ce c2 F1 Fe F2, cs = c1 ++ ce ++ c2 ∧ F = F1 ++ Fe ++ F2 ∧ ce.length = es ∧ RelO U w (ds.getD i .any) ce Fe ∧ ∀ d' Fe', RelO U w d' ce Fe' → RelOR U w es (ds.set i d') (c1 ++ ce ++ c2) (F1 ++ Fe' ++ F2)
  | [], _, _, _, _, h => absurd h (by simp)
  | d :: ds, cs, F, 0, h, _ => by
    simp only [RelOR] at h
    obtain ⟨c1, c2, F1, F2, rfl, rfl, h1, h2, h3⟩ := h
    refine ⟨[], c1, c2, [], F1, F2, rfl, rfl, h1, h2, fun d' Fe' hd => ?_⟩
    simp only [List.set_cons_zero, RelOR]
    exact ⟨c1, c2, Fe', F2, rfl, rfl, h1, hd, h3⟩
  | d :: ds, cs, F, i + 1, h, hi => by
    simp only [RelOR] at h
    obtain ⟨c1, c2, F1, F2, rfl, rfl, h1, h2, h3⟩ := h
    obtain ⟨a1, ae, a2, G1, Ge, G2, rfl, rfl, q3, q4, q5⟩ := RelOR.part h3 (by simpa using hi)
    refine ⟨c1 ++ a1, ae, a2, F1 ++ G1, Ge, G2, by simp, by simp, q3, q4, fun d' Fe' hd => ?_⟩
    simp only [List.set_cons_succ, RelOR]
    exact ⟨c1, a1 ++ ae ++ a2, F1, G1 ++ Fe' ++ G2, by simp, by simp, h1, h2, q5 d' Fe' hd⟩
theorem perm_mid {H A B F1 F2 : List Nat} (h : (H ++ B).Perm A) : (H ++ (F1 ++ B ++ F2)).Perm (F1 ++ A ++ F2) := by
  have e : (H ++ (F1 ++ B ++ F2)).Perm (F1 ++ (H ++ B) ++ F2) := by
    simp only [← List.append_assoc]
    exact List.Perm.append_right F2 (List.Perm.append_right B List.perm_append_comm)
  exact e.trans ((h.append_left F1).append_right F2)
theorem LocO.unpR {U : Nat → Prop} {w : World} {b0 es cp i es' cp' o : Nat} {ds ds' : List D} {q F : List Nat} (t : Nat) (h : LocO U w b0 (.arr es ds cp) F) (hi : i < ds.length) (hat : (ds.getD i .any).at q = some (.ow es' ds' cp', o)) :
    ∃ b H F', (∀ d1, (ds.getD i .any).set q (.lsl t b ds'.length cp') = some d1 → LocO U w b0 (.arr es (ds.set i d1) cp) F') ∧ LocO U w b (.arr es' ds' cp') H ∧ (H ++ F').Perm F := by
  rcases h with ⟨_, rfl, _⟩ | ⟨cells, e, G, h3, h4, h5, h6, h7, rfl⟩
  · simp at hi
  obtain ⟨c1, ce, c2, F1, Fe, F2, q1, rfl, q3, q4, q5⟩ := h7.part hi
  obtain ⟨b, H, F', r1, r2, r3⟩ := q4.unp t hat
  refine ⟨b, H, b0 :: (F1 ++ F' ++ F2), fun d1 hs => .inr ⟨cells, e, _, h3, h4, h5, by simpa using h6, ?_, rfl⟩, r2, ?_⟩
  · rw [List.length_set, q1]
    exact q5 _ _ (r1 _ hs)
  · exact List.perm_middle.trans ((perm_mid r3).cons b0)
theorem LocO.unpB {U : Nat → Prop} {w : World} {b0 es' cp' o : Nat} {c : D} {ds' : List D} {q F : List Nat} (t : Nat) (h : LocO U w b0 c F) (hmp : c.mpB = false) (hat : c.at q = some (.ow es' ds' cp', o)) :
    ∃ b H F', (∀ d1, c.set q (.lsl t b ds'.length cp') = some d1 → LocO U w b0 d1 F') ∧ LocO U w b (.arr es' ds' cp') H ∧ (H ++ F').Perm F := by
  obtain ⟨cells, e, G, h1, h2, rfl⟩ := h.cells hmp
  obtain ⟨b, H, F', r1, r2, r3⟩ := h2.unp t hat
  exact ⟨b, H, b0 :: F', fun d1 hs => .of h1 (r1 _ hs), r2, List.perm_middle.trans (r3.cons b0)⟩
theorem LocO.pakR {U : Nat → Prop} {w : World} {b0 es cp i es' cp' o t b : Nat} {ds ds' : List D} {q F H : List Nat} {d1 : D} (h : LocO U w b0 (.arr es ds cp) F) (hi : i < ds.length) (hat : (ds.getD i .any).at q = some (.lsl t b ds'.length cp', o)) (hl : LocO U w b (.arr es' ds' cp') H) (hs : (ds.getD i .any).set q (.ow es' ds' cp') = some d1) :
    ∃ F', LocO U w b0 (.arr es (ds.set i d1) cp) F' ∧ F'.Perm (H ++ F) := by
  rcases h with ⟨_, rfl, _⟩ | ⟨cells, e, G, h3, h4, h5, h6, h7, rfl⟩
  · simp at hi
  obtain ⟨c1, ce, c2, F1, Fe, F2, q1, rfl, q3, q4, q5⟩ := h7.part hi
  obtain ⟨F', r1, r2⟩ := q4.pak hl hat hs
  refine ⟨b0 :: (F1 ++ F' ++ F2), .inr ⟨cells, e, _, h3, h4, h5, by simpa using h6, ?_, rfl⟩, ?_⟩
  · rw [List.length_set, q1]
    exact q5 _ _ r1
  · exact (((perm_mid r2.symm).cons b0).symm).trans List.perm_middle.symm
theorem LocO.pakB {U : Nat → Prop} {w : World} {b0 es' cp' o t b : Nat} {c : D} {ds' : List D} {q F H : List Nat} {d1 : D} (h : LocO U w b0 c F) (hmp : c.mpB = false) (hat : c.at q = some (.lsl t b ds'.length cp', o)) (hl : LocO U w b (.arr es' ds' cp') H) (hs : c.set q (.ow es' ds' cp') = some d1) :
    ∃ F', LocO U w b0 d1 F' ∧ F'.Perm (H ++ F) := by
  obtain ⟨cells, e, G, h1, h2, rfl⟩ := h.cells hmp
  obtain ⟨F', r1, r2⟩ := h2.pak hl hat hs
  exact ⟨b0 :: F', .of h1 r1, (r2.cons b0).trans List.perm_middle.symm⟩
section
variable {P : Program} {F : Fix} {n : Nat} {g : G} {st : St} {a : Act} {w : World}
theorem Holds.unp (h : Holds F n g st a w) {k t b : Nat} {c c1 d2 : D} {Fs F' H : List Nat} (hO : Own F g w k (st.gen k) c Fs) (hkt : k ≠ t) (h1 : LocO g.U w (st.gen k) c1 F') (h2 : LocO g.U w b d2 H) (hp : (H ++ F').Perm Fs) :
    Holds F n { g with own := fun x => if x ∈ H then some t else g.own x } { st with gen := upd st.gen t b, lc := upd (upd st.lc k (some c1)) t (some d2) } a w := by
  have hnd := hp.nodup_iff.2 hO.nd
  have hsH : ∀ x ∈ H, x ∈ Fs := fun x hx => hp.subset (by simp [hx])
  have hsF : ∀ x ∈ F', x ∈ Fs := fun x hx => hp.subset (by simp [hx])
  obtain ⟨nH, nF, nd⟩ := List.nodup_append.1 hnd
  refine ⟨h.size, h.defers, h.slots, fun j d hj => ?_, h.uin, h.ubd, h.uout, h.keep⟩
  have hj' : upd (upd st.lc k (some c1)) t (some d2) j = some d := hj
  rw [upd_apply] at hj'
  show ∃ Fs, Own F _ w j (upd st.gen t b j) d Fs
  rw [upd_apply]
  split at hj'
  · rename_i e
    subst e
    simp only [Option.some.injEq] at hj'
    subst hj'
    rw [if_pos rfl]
    exact ⟨H, h2, nH, fun x hx => by simp [hx], fun x hx => hO.nu x (hsH x hx), fun x hx => hO.lo x (hsH x hx)⟩
  · rename_i hne
    rw [if_neg hne]
    rw [upd_apply] at hj'
    split at hj'
    · rename_i e
      subst e
      simp only [Option.some.injEq] at hj'
      subst hj'
      refine ⟨F', h1, nF, fun x hx => ?_, fun x hx => hO.nu x (hsF x hx), fun x hx => hO.lo x (hsF x hx)⟩
      have : x ∉ H := fun hx' => nd x hx' x hx rfl
      simp only [this, if_false]
      exact hO.own x (hsF x hx)
    · rename_i hne2
      obtain ⟨Gs, hG⟩ := h.locs j d hj'
      refine ⟨Gs, hG.loc, hG.nd, fun x hx => ?_, hG.nu, hG.lo⟩
      have : x ∉ H := fun hx' => by
        have q1 := hG.own x hx
        rw [hO.own x (hsH x hx')] at q1
        simp at q1
        exact hne2 q1.symm
      simp only [this, if_false]
      exact hG.own x hx
theorem Holds.pak (h : Holds F n g st a w) {k t : Nat} {c c1 d2 : D} {Fs F' H : List Nat} (hO : Own F g w k (st.gen k) c Fs) (hT : Own F g w t (st.gen t) d2 H) (hkt : k ≠ t) (h1 : LocO g.U w (st.gen k) c1 F') (hp : F'.Perm (H ++ Fs)) :
    Holds F n { g with own := fun x => if x ∈ H then some k else g.own x } { st with lc := upd (upd st.lc k (some c1)) t none } a w := by
  have hdis : ∀ x ∈ H, x ∉ Fs := fun x hx hx' => by
    have q1 := hT.own x hx
    rw [hO.own x hx'] at q1
    simp at q1
    exact hkt q1
  refine ⟨h.size, h.defers, h.slots, fun j d hj => ?_, h.uin, h.ubd, h.uout, h.keep⟩
  have hj' : upd (upd st.lc k (some c1)) t none j = some d := hj
  rw [upd_apply] at hj'
  show ∃ Fs, Own F _ w j (st.gen j) d Fs
  split at hj'
  · cases hj'
  · rename_i hne
    rw [upd_apply] at hj'
    split at hj'
    · rename_i e
      subst e
      simp only [Option.some.injEq] at hj'
      subst hj'
      have hm : ∀ x ∈ F', x ∈ H ∨ x ∈ Fs := fun x hx => List.mem_append.1 (hp.subset hx)
      refine ⟨F', h1, hp.nodup_iff.2 (List.nodup_append.2 ⟨hT.nd, hO.nd, fun x hx y hy e => hdis x hx (e ▸ hy)⟩), fun x hx => ?_, fun x hx => (hm x hx).elim (hT.nu x) (hO.nu x), fun x hx => (hm x hx).elim (hT.lo x) (hO.lo x)⟩
      rcases hm x hx with q | q
      · simp [q]
      · by_cases e : x ∈ H
        · simp [e]
        · simp only [e, if_false]; exact hO.own x q
    · rename_i hne2
      obtain ⟨Gs, hG⟩ := h.locs j d hj'
      refine ⟨Gs, hG.loc, hG.nd, fun x hx => ?_, hG.nu, hG.lo⟩
      have : x ∉ H := fun hx' => by
        have q1 := hG.own x hx
        rw [hT.own x hx'] at q1
        simp at q1
        exact hne q1.symm
      simp only [this, if_false]
      exact hG.own x hx
/-- A row inside an element of a row is given the name t. -/
theorem XS.unpR {cc : CC} {Q : Post} (k t i : Nat) (q : List Nat) {es cp es' cp' o : Nat} {ds ds' : List D} (hkt : Nat.beq k t = false) (hl : st.lc k = some (.arr es ds cp)) (hi : i < ds.length) (hat : (ds.getD i .any).at q = some (.ow es' ds' cp', o)) {d1 : Nat → D} (hset : ∀ b, (ds.getD i .any).set q (.lsl t b ds'.length cp') = some (d1 b))
    (h : ∀ b, XS P n cc { st with gen := upd st.gen t b, lc := upd (upd st.lc k (some (.arr es (ds.set i (d1 b)) cp))) t (some (.arr es' ds' cp')) } Q) : XS P n cc st Q :=
  ⟨fun hm nq c hc F g a w hH => by
    obtain ⟨Fs, hO⟩ := hH.locs k _ hl
    obtain ⟨b, H, F', h1, h2, h3⟩ := hO.loc.unpR t hi hat
    exact (h b).sem hm nq c hc F _ a w (hH.unp hO (Nat.ne_of_beq_eq_false hkt) (h1 _ (hset b)) h2 h3)⟩
/-- A row inside a box is given the name t. -/
theorem XS.unpB {cc : CC} {Q : Post} (k t : Nat) (q : List Nat) {es' cp' o : Nat} {ds' : List D} {c : D} (hkt : Nat.beq k t = false) (hl : st.lc k = some c) (hmp : c.mpB = false) (hat : c.at q = some (.ow es' ds' cp', o)) {d1 : Nat → D} (hset : ∀ b, c.set q (.lsl t b ds'.length cp') = some (d1 b))
    (h : ∀ b, XS P n cc { st with gen := upd st.gen t b, lc := upd (upd st.lc k (some (d1 b))) t (some (.arr es' ds' cp')) } Q) : XS P n cc st Q :=
  ⟨fun hm nq cd hc F g a w hH => by
    obtain ⟨Fs, hO⟩ := hH.locs k _ hl
    obtain ⟨b, H, F', h1, h2, h3⟩ := hO.loc.unpB t hmp hat
    exact (h b).sem hm nq cd hc F _ a w (hH.unp hO (Nat.ne_of_beq_eq_false hkt) (h1 _ (hset b)) h2 h3)⟩
/-- The row named t goes back into an element of a row. -/
theorem XS.pakR {cc : CC} {Q : Post} (k t i : Nat) (q : List Nat) {es cp es' cp' o m : Nat} {ds ds' : List D} {d1 : D} (hkt : Nat.beq k t = false) (hl : st.lc k = some (.arr es ds cp)) (hlt : st.lc t = some (.arr es' ds' cp')) (hi : i < ds.length) (hat : (ds.getD i .any).at q = some (.lsl t (st.gen t) m cp', o)) (hn : m = ds'.length) (hset : (ds.getD i .any).set q (.ow es' ds' cp') = some d1)
    (h : XS P n cc { st with lc := upd (upd st.lc k (some (.arr es (ds.set i d1) cp))) t none } Q) : XS P n cc st Q :=
  h.ghost fun F g a w hH => by
    subst hn
    obtain ⟨Fs, hO⟩ := hH.locs k _ hl
    obtain ⟨H, hT⟩ := hH.locs t _ hlt
    obtain ⟨F', h1, h2⟩ := hO.loc.pakR hi hat hT.loc hset
    exact ⟨_, hH.pak hO hT (Nat.ne_of_beq_eq_false hkt) h1 h2⟩
/-- The row named t goes back into a box. -/
theorem XS.pakB {cc : CC} {Q : Post} (k t : Nat) (q : List Nat) {es' cp' o m : Nat} {ds' : List D} {c d1 : D} (hkt : Nat.beq k t = false) (hl : st.lc k = some c) (hlt : st.lc t = some (.arr es' ds' cp')) (hmp : c.mpB = false) (hat : c.at q = some (.lsl t (st.gen t) m cp', o)) (hn : m = ds'.length) (hset : c.set q (.ow es' ds' cp') = some d1)
    (h : XS P n cc { st with lc := upd (upd st.lc k (some d1)) t none } Q) : XS P n cc st Q :=
  h.ghost fun F g a w hH => by
    subst hn
    obtain ⟨Fs, hO⟩ := hH.locs k _ hl
    obtain ⟨H, hT⟩ := hH.locs t _ hlt
    obtain ⟨F', h1, h2⟩ := hO.loc.pakB hmp hat hT.loc hset
    exact ⟨_, hH.pak hO hT (Nat.ne_of_beq_eq_false hkt) h1 h2⟩
end
end Go.Ab
namespace Go.Ab
open Go Go.RowKit
/-! ### A loop with a small goal of its own -/
def cutQ {α β : Type} (id : Nat) (E : α → (Nat → Nat) → Prop) (fs : α → (Nat → Nat) → List D) (ls : α → (Nat → Nat) → List (Nat × D)) (T : β → Prop) (fr : β → List D) : Post := fun e st =>
  match e with
  | .exit k => k = id ∧ ∃ y, E y st.gen ∧ FitA st (fs y st.gen) (ls y st.gen)
  | .ret => ∃ z, T z ∧ FitA st (fr z) []
  | .normal => False
section
variable {P : Program} {n : Nat} {st : St} {Q : Post}
theorem XLc.cut {α β : Type} {body : CC} (id : Nat) (E : α → (Nat → Nat) → Prop) (fs : α → (Nat → Nat) → List D) (ls : α → (Nat → Nat) → List (Nat × D)) (T : β → Prop) (fr : β → List D)
    (h1 : XLc P n body st (cutQ id E fs ls T fr)) (h3 : ∀ z gs, T z → Q .ret (St.mkA (fr z) gs [])) (h2 : ∀ y gs, E y gs → Q (.exit id) (St.mkA (fs y gs) gs (ls y gs))) : XLc P n body st Q :=
  ⟨fun hm nq c hc F g a w hH => (h1.sem hm nq c hc F g a w hH) |> fun h => wp_mono h fun e a2 w2 hq => by
    cases e with
    | normal => obtain ⟨g2, st2, hH2, q⟩ := hq; exact q.elim
    | exit k =>
      obtain ⟨g2, st2, hH2, q⟩ := hq
      obtain ⟨rfl, y, hE, hF⟩ := q
      exact ⟨g2, _, hH2.weaken hF.le, h2 y _ hE⟩
    | ret =>
      obtain ⟨g2, st2, hH2, q⟩ := hq
      obtain ⟨z, hT, hF⟩ := q
      exact ⟨g2, _, hH2.weaken hF.le, h3 z _ hT⟩
    | goto l => exact hq
    | panic c => exact hq
    | outgrown => exact hq⟩
end
end Go.Ab
