/- Steps towards the law: the machine, contracts of functions and facts of lists. -/
import Derived.Test.YtalddljlemppnaaAb10
set_option linter.unusedSimpArgs false
set_option linter.unusedVariables false
namespace Go.Ab
open Go Go.RowKit
/-! ### What speaks of no memory that is only read -/
mutual
def D.cl : D → Bool
 | .ro .. | .cref _ | .fn .. => false
 | .agg fs => D.cls fs
 | .ow _ ds _ => D.cls ds
 | .arr _ ds _ => D.cls ds
 | .tup ds => D.cls ds
 | _ => true
def D.cls : List D → Bool
 | [] => true
 | d :: ds => d.cl && D.cls ds
end
theorem D.cls_map {α : Type} {f : α → D} (h : ∀ x, (f x).cl = true) : ∀ (xs : List α), D.cls (xs.map f) = true
 | [] => rfl
 | x :: xs => by simp only [List.map_cons, D.cls, h x, D.cls_map h xs, Bool.and_true]
mutual
theorem RelC.cl {U V : Nat → Prop} {w : World} : ∀ {d : D} {cs : List Value}, d.cl = true → RelC U w d cs → RelC V w d cs
 | .any, _, _, h | .int .., _, _, h | .bool .., _, _, h | .str .., _, _, h | .nil, _, _, h | .nilp, _, _, h | .lref .., _, _, h | .lsl .., _, _, h | .lvw .., _, _, h | .lmp .., _, _, h => by simpa [RelC] using h
 | .agg fs, cs, c, h => by
  simp only [RelC] at h ⊢
  exact RelF.cl (by simpa [D.cl] using c) h
 | .ro .., _, c, _ | .cref _, _, c, _ | .fn .., _, c, _ => by simp [D.cl] at c
 | .undef, _, _, h | .mp _, _, _, h | .tup _, _, _, h | .arr .., _, _, h | .ow .., _, _, h => by simp [RelC] at h
theorem RelF.cl {U V : Nat → Prop} {w : World} : ∀ {ds : List D} {cs : List Value}, D.cls ds = true → RelF U w ds cs → RelF V w ds cs
 | [], _, _, h => by simpa [RelF] using h
 | d :: ds, _, c, h => by
  simp only [RelF] at h ⊢
  simp only [D.cls, Bool.and_eq_true] at c
  obtain ⟨c1, c2, h1, h2, h3⟩ := h
  exact ⟨c1, c2, h1, RelC.cl c.1 h2, RelF.cl c.2 h3⟩
end
mutual
theorem RelO.cl {U V : Nat → Prop} {w : World} : ∀ {d : D} {cs : List Value} {F : List Nat}, d.cl = true → RelO U w d cs F → RelO V w d cs F
 | .agg fs, cs, F, c, h => by
  simp only [RelO] at h ⊢
  exact RelOF.cl (by simpa [D.cl] using c) h
 | .ow es ds k, cs, F, c, h => by
  simp only [RelO] at h ⊢
  obtain ⟨a, h1, h2⟩ := h
  refine ⟨a, h1, h2.imp id ?_⟩
  rintro ⟨b, cells, e, G, h3, h4, h5, h6, h7, h8, rfl⟩
  exact ⟨b, cells, e, G, h3, h4, h5, h6, h7, RelOR.cl (by simpa [D.cl] using c) h8, rfl⟩
 | .ro .., _, _, c, _ | .cref _, _, _, c, _ | .fn .., _, _, c, _ => by simp [D.cl] at c
 | .undef, _, _, _, h | .mp _, _, _, _, h | .tup _, _, _, _, h | .arr .., _, _, _, h => by simp [RelO, RelC] at h
 | .any, _, _, c, h | .int .., _, _, c, h | .bool .., _, _, c, h | .str .., _, _, c, h | .nil, _, _, c, h | .nilp, _, _, c, h | .lref .., _, _, c, h | .lsl .., _, _, c, h | .lvw .., _, _, c, h | .lmp .., _, _, c, h => by
  simp only [RelO] at h ⊢
  exact ⟨RelC.cl c h.1, h.2⟩
theorem RelOF.cl {U V : Nat → Prop} {w : World} : ∀ {ds : List D} {cs : List Value} {F : List Nat}, D.cls ds = true → RelOF U w ds cs F → RelOF V w ds cs F
 | [], _, _, _, h => by simpa [RelOF] using h
 | d :: ds, _, _, c, h => by
  simp only [RelOF] at h ⊢
  simp only [D.cls, Bool.and_eq_true] at c
  obtain ⟨c1, c2, F1, F2, h1, h2, h3, h4⟩ := h
  exact ⟨c1, c2, F1, F2, h1, h2, RelO.cl c.1 h3, RelOF.cl c.2 h4⟩
theorem RelOR.cl {U V : Nat → Prop} {w : World} {es : Nat} : ∀ {ds : List D} {cs : List Value} {F : List Nat}, D.cls ds = true → RelOR U w es ds cs F → RelOR V w es ds cs F
 | [], _, _, _, h => by simpa [RelOR] using h
 | d :: ds, _, _, c, h => by
  simp only [RelOR] at h ⊢
  simp only [D.cls, Bool.and_eq_true] at c
  obtain ⟨c1, c2, F1, F2, h1, h2, h0, h3, h4⟩ := h
  exact ⟨c1, c2, F1, F2, h1, h2, h0, RelO.cl c.1 h3, RelOR.cl c.2 h4⟩
end
theorem RelW.cl {U V : Nat → Prop} {w : World} {d : D} {v : Value} (c : d.cl = true) (h : RelW U w d v) : RelW V w d v := by
 cases d
 case agg fs => simp only [RelW] at h ⊢; obtain ⟨cs, h1, h2⟩ := h; exact ⟨cs, h1, RelF.cl (by simpa [D.cl] using c) h2⟩
 all_goals (simp only [RelW] at h ⊢ <;> first | exact h | exact RelC.cl c h)
theorem RelT.cl {U V : Nat → Prop} {w : World} : ∀ {ds : List D} {vs : List Value}, D.cls ds = true → RelT U w ds vs → RelT V w ds vs
 | [], _, _, h => by simpa [RelT] using h
 | d :: ds, _, c, h => by
  simp only [RelT] at h ⊢
  simp only [D.cls, Bool.and_eq_true] at c
  obtain ⟨v, r, h1, h2, h3⟩ := h
  exact ⟨v, r, h1, h2.cl c.1, RelT.cl c.2 h3⟩
theorem RelV.cl {U V : Nat → Prop} {w : World} {d : D} {v : Value} (c : d.cl = true) (h : RelV U w d v) : RelV V w d v := by
 cases d
 case tup ds => simp only [RelV] at h ⊢; obtain ⟨vs, h1, h2⟩ := h; exact ⟨vs, h1, h2.cl (by simpa [D.cl] using c)⟩
 all_goals (simp only [RelV] at h ⊢; exact RelW.cl c h)
theorem LocO.cl {U V : Nat → Prop} {w : World} {b : Nat} {d : D} {F : List Nat} (c : d.cl = true) (h : LocO U w b d F) : LocO V w b d F := by
 by_cases hd : d.mpB = true
 ·cases d <;> first | (cases hd; done) | skip
  ·exact h
  ·rcases h with h | ⟨cells, e, G, h3, h4, h5, h6, h8, rfl⟩
   ·exact .inl h
   ·exact .inr ⟨cells, e, G, h3, h4, h5, h6, h8.cl (by simpa [D.cl] using c), rfl⟩
 ·obtain ⟨k, e, G, h1, h2, rfl⟩ := h.cells (by simpa using hd)
  exact .of h1 (h2.cl c)
def clL : List Loan → Bool
 | [] => true
 | l :: ls => l.2.2.cl && clL ls
theorem HolL.cl {U V : Nat → Prop} {w : World} : ∀ {ls : List Loan} {F : List Nat}, clL ls = true → HolL U w ls F → HolL V w ls F
 | [], _, _, h => h
 | l :: ls, _, c, h => by
  simp only [clL, Bool.and_eq_true] at c
  obtain ⟨F1, F2, h1, h2, h3⟩ := h
  exact ⟨F1, F2, h1, h2.cl c.1, HolL.cl c.2 h3⟩
theorem HolL.mono' {U U' : Nat → Prop} {w w' : World} : ∀ {ls : List Loan} {F : List Nat}, ExtO U U' F w w' → HolL U w ls F → HolL U' w' ls F
 | [], _, _, h => h
 | l :: ls, _, x, h => by
  obtain ⟨F1, F2, rfl, h2, h3⟩ := h
  exact ⟨F1, F2, rfl, h2.mono (x.of fun b hb => by simp [hb]), HolL.mono' (x.of fun b hb => by simp [hb]) h3⟩
theorem HolL.appF {U : Nat → Prop} {w : World} {ls2 : List Loan} {F2 : List Nat} (h2 : HolL U w ls2 F2) : ∀ {ls : List Loan} {F : List Nat}, HolL U w ls F → HolL U w (ls ++ ls2) (F ++ F2)
 | [], F, h => by
  have h : F = [] := h
  subst h
  exact h2
 | l :: ls, F, ⟨F1, G, e, h, hs⟩ => ⟨F1, G ++ F2, by rw [e, List.append_assoc], h, HolL.appF h2 hs⟩
/-- A call that only reads may be called with what is owned. -/
theorem XC.bor {P : Program} {f : FuncId} {ds : List D} {ls : List Loan} {K : D → List Loan → Prop} (h : XC P f (frzVs ls ds) [] K) (hok : okVs ls ds) (hcl : ∀ d l, K d l → d.cl = true ∧ clL l = true) :
  XC P f ds ls fun d l2 => ∃ l, l2 = ls ++ l ∧ K d l := by
 unfold XC at h ⊢
 refine ⟨h.1, fun U w vs F hU hH hn hF hT => ?_⟩
 have hlt := hH.lt
 have q := h.2 (fun x => U x ∨ x ∈ F) w vs [] (fun b hb => hb.elim (hU b) (hlt b)) rfl List.nodup_nil (by simp) (frzV_relT (fun _ h => .inl h) (fun _ h => .inr h) hH hok hT)
 refine q.mono fun e w' ⟨v, d, l, U', F', h1, h2, h3, h4, h5, h6, h7, h8, h9⟩ => ?_
 obtain ⟨c1, c2⟩ := hcl d l h9
 have hk : ∀ b, b < w.heap.size → w'.heap[b]? = w.heap[b]? := fun b hb => h6.block b hb (by simp)
 have hnew : ∀ x ∈ F', w.heap.size ≤ x := fun x hx => (h4 x hx).2.resolve_left (by simp)
 refine ⟨v, d, ls ++ l, U, F ++ F', h1, HolL.appF (h2.cl c2) (hH.mono' ⟨fun _ h => h, fun b hb => hk b (hU b hb), fun b hb => hk b (hlt b hb)⟩), ?_, fun x hx => ?_, h5.cl c1, ⟨h6.os, h6.tape, h6.output, h6.size, fun k hk' _ => hk k hk'⟩, fun _ h => h, fun _ h => .inl h, l, rfl, h9⟩
 ·refine List.nodup_append.2 ⟨hn, h3, fun a ha b hb e => ?_⟩
  subst e
  have := hlt a ha
  have := hnew a hb
  omega
 ·rcases List.mem_append.1 hx with hx | hx
  ·exact ⟨hF x hx, .inl hx⟩
  ·refine ⟨fun hUx => ?_, .inr (hnew x hx)⟩
   have := hU x hUx
   have := hnew x hx
   omega
end Go.Ab
namespace Go.Ab
open Go Go.RowKit
/-! ### Rows inside contents: given a name, and put back -/
end Go.Ab
namespace Go.Ab
open Go Go.RowKit
/-! ### A loop with a small goal of its own -/
def cutQ {α β : Type} (id : Nat) (E : α → (Nat → Nat) → Prop) (fs : α → (Nat → Nat) → List D) (ls : α → (Nat → Nat) → List (Nat × D)) (T : β → Prop) (fr : β → List D) : Post := fun e st =>
 match e with
 | .exit k => k = id ∧ ∃ y, E y st.gen ∧ FitA st (fs y st.gen) (ls y st.gen)
 | .ret => ∃ z, T z ∧ FitA st (fr z) []
 | .normal => False
section
variable {P : Program} {n : Nat} {st : St} {Q : Post}
theorem XLc.cut {α β : Type} {body : CC} (id : Nat) (E : α → (Nat → Nat) → Prop) (fs : α → (Nat → Nat) → List D) (ls : α → (Nat → Nat) → List (Nat × D)) (T : β → Prop) (fr : β → List D)
  (h1 : XLc P n body st (cutQ id E fs ls T fr)) (h3 : ∀ z gs, T z → Q .ret (St.mkA (fr z) gs [])) (h2 : ∀ y gs, E y gs → Q (.exit id) (St.mkA (fs y gs) gs (ls y gs))) : XLc P n body st Q :=
 ⟨fun hm nq c hc F g a w hH => (h1.sem hm nq c hc F g a w hH) |> fun h => wp_mono h fun e a2 w2 hq => by
  cases e with
  | normal => obtain ⟨g2, st2, hH2, q⟩ := hq; exact q.elim
  | exit k =>
   obtain ⟨g2, st2, hH2, q⟩ := hq
   obtain ⟨rfl, y, hE, hF⟩ := q
   exact ⟨g2, _, hH2.weaken hF.le, h2 y _ hE⟩
  | ret =>
   obtain ⟨g2, st2, hH2, q⟩ := hq
   obtain ⟨z, hT, hF⟩ := q
   exact ⟨g2, _, hH2.weaken hF.le, h3 z _ hT⟩
  | goto l => exact hq
  | panic c => exact hq
  | outgrown => exact hq⟩
end
end Go.Ab
namespace Go.Ab
open Go Go.RowKit
attribute [local irreducible] IntKind.wrap xw xos xqs xr xd
set_option maxRecDepth 100000
/-! ### Slices of texts and of numbers -/
section
variable {P : Program} (hm : P.follows .mixedOrders = true)
include hm
end
end Go.Ab
namespace Go.Ab
open Go Go.RowKit
theorem XS.capLe2 {P : Program} {n : Nat} {st : St} {cc : CC} {Q : Post} (s : Nat) {es cp : Nat} {ds : List Go.Ab.D} (hl : st.lc s = some (.arr es ds cp)) (h : ds.length ≤ cp → XS P n cc st Q) : XS P n cc st Q :=
 ⟨fun hm nq c hc F g a w hH => by
  obtain ⟨Fs, hO⟩ := hH.locs s _ hl
  have hle : ds.length ≤ cp := by
   rcases hO.loc with ⟨_, rfl, _⟩ | ⟨_, _, _, _, _, _, q, _⟩
   ·exact Nat.zero_le _
   ·exact q
  exact (h hle).sem hm nq c hc F g a w hH⟩
theorem ovlF_mk {P : Program} {f : FuncId} {fn : Func} {t r e : TypeId} {i : TypeInfo} (h1 : P.funcs[f]? = some fn) (h2 : (fn.name == "runtime.NumGoroutine") = false) (h3 : fn.body.isNone = true) (h4 : Extern.findNext fn = none) (h5 : Extern.find fn = some (Extern.SlicesOverlaps.overlaps #[t, t] #[r])) (h6 : P.underlying t = some (.slice e)) (h7 : P.info? e = some i) : OvlF P f :=
 ⟨fn, t, r, e, i.size, h1, h2, h3, h4, h5, h6, fun w => by simp [sizeOf, typeInfo, h7]⟩
def sliceOf (P : Program) (t : TypeId) : TypeId := match P.underlying t with
 | some (.slice e) => e
 | _ => t
theorem ins_g1 {A : List Go.Ab.D} {i n : Nat} {d z : Go.Ab.D} (hA : A.length = n) (hi : i < n) : (A.take i ++ List.replicate (n + 1 - i) z).take (i : Int).toNat ++ ([d].take 1).take 1 ++ (A.take i ++ List.replicate (n + 1 - i) z).drop ((i : Int).toNat + 1) = A.take i ++ d :: List.replicate (n - i) z := by
 have e : (i : Int).toNat = i := by omega
 have l : (A.take i).length = i := by rw [List.length_take]; omega
 rw [e, List.take_left' l, ← List.drop_drop, List.drop_left' l, List.drop_replicate]
 have e2 : n + 1 - i - 1 = n - i := by omega
 rw [e2]
 simp
theorem ins_g2 {A : List Go.Ab.D} {i n : Nat} {d z : Go.Ab.D} (hA : A.length = n) (hi : i < n) {p k : Nat} (hp : p = i + 1) {t : Nat} (ht : t = n - i) {q : Nat} (hq : q = i) (hk : k = n - i) : (A.take i ++ d :: List.replicate (n - i) z).take p ++ ((A.drop q).take t).take k ++ (A.take i ++ d :: List.replicate (n - i) z).drop (p + k) = A.take i ++ d :: A.drop i := by
 subst hp ht hq hk
 have l : (A.take q).length = q := by rw [List.length_take]; omega
 have e1 : (A.take q ++ d :: List.replicate (n - q) z).take (q + 1) = A.take q ++ [d] := by
  rw [List.take_append, l]
  simp [List.take_take, Nat.min_eq_right (Nat.le_succ q)]
 have e2 : (A.take q ++ d :: List.replicate (n - q) z).drop (q + 1 + (n - q)) = [] := List.drop_eq_nil_of_le (by simp; omega)
 have e3 : (A.drop q).take (n - q) = A.drop q := List.take_of_length_le (by simp; omega)
 rw [e1, e2, e3, e3]
 simp
theorem ins_r1 {A : List Go.Ab.D} {i n : Nat} (hA : A.length = n) (hi : i < n) {p q t k : Nat} (hp : p = i + 1) (hq : q = i) (ht : n - i ≤ t) (hk : k = n - i) : A.take p ++ ((A.drop q).take t).take k ++ A.drop (p + k) = A.take (i + 1) ++ A.drop i := by
 subst hp hq hk
 have e2 : A.drop (q + 1 + (n - q)) = [] := List.drop_eq_nil_of_le (by omega)
 have e3 : (A.drop q).take t = A.drop q := List.take_of_length_le (by simp; omega)
 have e4 : (A.drop q).take (n - q) = A.drop q := List.take_of_length_le (by simp; omega)
 rw [e2, e3, e4, List.append_nil]
theorem ins_r2 {A : List Go.Ab.D} {i n : Nat} {d : Go.Ab.D} (hA : A.length = n) (hi : i < n) {q k : Nat} (hq : q = i) (hk : k = 1) : (A.take (i + 1) ++ A.drop i).take q ++ ([d].take 1).take k ++ (A.take (i + 1) ++ A.drop i).drop (q + k) = A.take i ++ d :: A.drop i := by
 subst hq hk
 have l : (A.take (q + 1)).length = q + 1 := by rw [List.length_take]; omega
 have e1 : (A.take (q + 1) ++ A.drop q).take q = A.take q := by
  rw [List.take_append_of_le_length (by omega), List.take_take, Nat.min_eq_left (Nat.le_succ q)]
 rw [e1, List.drop_left' l]
 simp
def insAt {α : Type} (xs : List α) (i : Nat) (x : α) : List α := xs.take i ++ x :: xs.drop i
theorem HolL.renm {U : Nat → Prop} {w : World} : ∀ {ls ls2 : List Loan} {F : List Nat}, ls2.map (·.2) = ls.map (·.2) → HolL U w ls F → HolL U w ls2 F
 | [], [], F, _, h => h
 | l :: ls, l2 :: ls2, F, e, h => by
  simp only [List.map_cons, List.cons.injEq] at e
  obtain ⟨F1, F2, h1, h2, h3⟩ := h
  exact ⟨F1, F2, h1, by rw [e.1]; exact h2, HolL.renm e.2 h3⟩
 | [], _ :: _, _, e, _ => by simp at e
 | _ :: _, [], _, e, _ => by simp at e
/-- A contract under other names. -/
theorem XC.renm {P : Program} {f : FuncId} {ds ds2 : List D} {ls ls2 : List Loan} {K K2 : D → List Loan → Prop} (h : XC P f ds ls K)
  (hd : ∀ U w vs, RelT U w ds2 vs → RelT U w ds vs) (hl : ls.map (·.2) = ls2.map (·.2))
  (hk : ∀ d l, K d l → ∃ d2 l2, K2 d2 l2 ∧ (∀ U w F, HolL U w l F → HolL U w l2 F) ∧ ∀ U w v, RelV U w d v → RelV U w d2 v) : XC P f ds2 ls2 K2 := by
 unfold XC at h ⊢
 refine ⟨h.1, fun U w vs F hU hH hn hF hT => (h.2 U w vs F hU (hH.renm hl) hn hF (hd _ _ _ hT)).mono fun e w' ⟨v, d, l, U', F', h1, h2, h3, h4, h5, h6, h7, h8, h9⟩ => ?_⟩
 obtain ⟨d2, l2, k1, k2, k3⟩ := hk d l h9
 exact ⟨v, d2, l2, U', F', h1, k2 _ _ _ h2, h3, h4, k3 _ _ _ h5, h6, h7, h8, k1⟩
end Go.Ab
