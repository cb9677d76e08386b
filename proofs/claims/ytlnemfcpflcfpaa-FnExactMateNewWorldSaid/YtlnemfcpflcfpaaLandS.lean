/- Steps towards the law: contracts of functions and facts of lists. -/
import Derived.Test.YtlnemfcpflcfpaaLandK
import Derived.Test.YtlnemfcpflcfpaaRows
set_option linter.unusedSimpArgs false
set_option linter.unusedVariables false
namespace Go.Ab
open Go Go.RowKit Go.Proofs
attribute [local irreducible] XC Rdr IntKind.wrap xw xos xqs xr xd
set_option maxRecDepth 100000

/-- spec.MateNewWorld -/
def cf37 : CF := ⟨27, [.c 2 5 true],
  (.seq (.ops [⟨some 2, .al (.agg [.agg [.int .i64 0, .nil, .nil], .nil, .nil]), none⟩])
  (.seq (.ops [⟨some 5, .bld (.agg [.agg [.int .i64 0, .nil, .nil], .nil, .nil]) [], none⟩,
    ⟨some 3, .al (.agg [.agg [.int .i64 0, .nil, .nil], .nil, .nil]), none⟩,
    ⟨none, .st 5 (.t 3) (.t 5), none⟩])
  (.seq (.seq (.ops [⟨some 4, .mv (.k (.int .i64 0)), none⟩])
  (.block 0 (.loop (.seq (.seq (.ops [⟨some 6, .mv (.t 4), none⟩,
    ⟨some 7, .mv (.t 0), none⟩,
    ⟨some 8, .lenl (.t 7), none⟩,
    ⟨some 9, .bin .lss (.t 6) (.t 8), none⟩])
  (.cond (.t 9)
  .skip
  (.exit 0)))
  (.seq (.block 1 (.drawn [(⟨some 12, .fa 3 1 1 (.t 3), none⟩, false, []),
    (⟨some 13, .ld 1 false (.t 12), none⟩, false, []),
    (⟨some 14, .mv (.t 0), none⟩, false, []),
    (⟨some 15, .mv (.t 4), none⟩, false, []),
    (⟨some 16, .ix 1 (.t 14) (.t 15), none⟩, false, []),
    (⟨some 17, .ld 1 false (.t 16), none⟩, false, []),
    (⟨some 18, .bld (.agg [.str ⟨#[]⟩, .bool false, .int .i64 0, .bool false, .int .i64 0, .nil, .nil, .nil, .nil]) [(0, 0, 1, (.t 17)), (1, 1, 1, (.k (.bool true)))], none⟩, false, []),
    (⟨some 19, .bsl (.agg [.str ⟨#[]⟩, .bool false, .int .i64 0, .bool false, .int .i64 0, .nil, .nil, .nil, .nil]) 1 [(0, (.t 18))], none⟩, false, []),
    (⟨some 20, .app 9 144 (.t 13) (.t 19), none⟩, true, []),
    (⟨some 21, .fa 3 1 1 (.t 3), none⟩, false, []),
    (⟨none, .st 1 (.t 21) (.t 20), none⟩, true, [])]))
  (.ops [⟨some 10, .mv (.t 4), none⟩,
    ⟨some 11, .bin .add (.t 10) (.k (.int .i64 1)), none⟩,
    ⟨some 4, .mv (.t 11), none⟩]))))))
  (.seq (.seq (.ops [⟨some 22, .ld 5 true (.t 3), none⟩,
    ⟨some 23, .call 46 [(.t 22)], none⟩,
    ⟨some 24, .not (.t 23), none⟩])
  (.cond (.t 24)
  (.seq (.ops [⟨some 25, .bld (.agg [.agg [.int .i64 0, .nil, .nil], .nil, .nil]) [], none⟩,
    ⟨none, .st 5 (.t 2) (.t 25), none⟩])
  .ret)
  .skip))
  (.seq (.ops [⟨some 26, .ld 5 true (.t 3), none⟩,
    ⟨none, .st 5 (.t 2) (.t 26), none⟩])
  .ret)))))⟩
theorem c37 : compileF Try.prog [] 37 = some cf37 := by kernel_rfl
/-- impl.MateNewWorld -/
def cf39 : CF := ⟨48, [.c 2 5 true],
  (.seq (.ops [⟨some 2, .al (.agg [.agg [.int .i64 0, .nil, .nil], .nil, .nil]), none⟩])
  (.seq (.seq (.ops [⟨some 6, .mv (.t 0), none⟩,
    ⟨some 7, .lenl (.t 6), none⟩,
    ⟨some 8, .bin .lss (.t 7) (.k (.int .i64 1)), none⟩,
    ⟨some 9, .mv (.t 8), none⟩,
    ⟨some 10, .mv (.t 0), some (9, false)⟩,
    ⟨some 11, .lenl (.t 10), some (9, false)⟩,
    ⟨some 12, .bin .gtr (.t 11) (.k (.int .i64 4)), some (9, false)⟩,
    ⟨some 13, .pick (.t 9) (.k (.bool true)) (.t 12), none⟩])
  (.cond (.t 13)
  (.seq (.ops [⟨some 14, .bld (.agg [.agg [.int .i64 0, .nil, .nil], .nil, .nil]) [], none⟩,
    ⟨none, .st 5 (.t 2) (.t 14), none⟩])
  .ret)
  .skip))
  (.seq (.ops [⟨some 3, .al (.agg [.agg [.int .i64 0, .nil, .nil], .nil, .nil]), none⟩])
  (.seq (.seq (.ops [⟨some 15, .mv (.t 0), none⟩,
    ⟨some 16, .lenl (.t 15), none⟩,
    ⟨some 17, .mv (.k (.int .i64 0)), none⟩])
  (.block 0 (.loop (.seq (.ops [⟨some 18, .bin .lss (.t 17) (.t 16), none⟩])
  (.seq (.cond (.t 18)
  .skip
  (.exit 0))
  (.seq (.block 1 (.seq (.ops [⟨some 19, .mv (.t 17), none⟩,
    ⟨some 20, .ix 1 (.t 15) (.t 17), none⟩,
    ⟨some 21, .ld 1 false (.t 20), none⟩,
    ⟨some 4, .mv (.t 19), none⟩,
    ⟨some 5, .mv (.t 21), none⟩])
  (.seq (.seq (.ops [⟨some 22, .mv (.t 5), none⟩,
    ⟨some 23, .call 67 [(.t 22)], none⟩,
    ⟨some 24, .not (.t 23), none⟩,
    ⟨some 25, .mv (.t 24), none⟩,
    ⟨some 26, .mv (.t 4), some (25, false)⟩,
    ⟨some 27, .bin .gtr (.t 26) (.k (.int .i64 0)), some (25, false)⟩,
    ⟨some 28, .mv (.t 27), some (25, false)⟩,
    ⟨some 29, .mv (.t 5), some (28, true)⟩,
    ⟨some 30, .mv (.t 0), some (28, true)⟩,
    ⟨some 31, .mv (.t 4), some (28, true)⟩,
    ⟨some 32, .bin .sub (.t 31) (.k (.int .i64 1)), some (28, true)⟩,
    ⟨some 33, .ix 1 (.t 30) (.t 32), some (28, true)⟩,
    ⟨some 34, .ld 1 false (.t 33), some (28, true)⟩,
    ⟨some 35, .bin .leq (.t 29) (.t 34), some (28, true)⟩,
    ⟨some 36, .pick (.t 28) (.t 35) (.k (.bool false)), some (25, false)⟩,
    ⟨some 37, .pick (.t 25) (.k (.bool true)) (.t 36), none⟩])
  (.cond (.t 37)
  (.seq (.ops [⟨some 38, .bld (.agg [.agg [.int .i64 0, .nil, .nil], .nil, .nil]) [], none⟩,
    ⟨none, .st 5 (.t 2) (.t 38), none⟩])
  .ret)
  .skip))
  (.ops [⟨some 39, .fa 3 1 1 (.t 3), none⟩,
    ⟨some 40, .ld 1 false (.t 39), none⟩,
    ⟨some 41, .mv (.t 5), none⟩,
    ⟨some 42, .bld (.agg [.str ⟨#[]⟩, .bool false, .int .i64 0, .bool false, .int .i64 0, .nil, .nil, .nil, .nil]) [(0, 0, 1, (.t 41)), (1, 1, 1, (.k (.bool true)))], none⟩,
    ⟨some 43, .bsl (.agg [.str ⟨#[]⟩, .bool false, .int .i64 0, .bool false, .int .i64 0, .nil, .nil, .nil, .nil]) 1 [(0, (.t 42))], none⟩,
    ⟨some 44, .app 9 144 (.t 40) (.t 43), none⟩,
    ⟨some 45, .fa 3 1 1 (.t 3), none⟩,
    ⟨none, .st 1 (.t 45) (.t 44), none⟩]))))
  (.ops [⟨some 46, .bin .add (.t 17) (.k (.int .i64 1)), none⟩,
    ⟨some 17, .mv (.t 46), none⟩])))))))
  (.seq (.ops [⟨some 47, .ld 5 true (.t 3), none⟩,
    ⟨none, .st 5 (.t 2) (.t 47), none⟩])
  .ret)))))⟩
theorem c39 : compileF Try.prog [] 39 = some cf39 := by kernel_rfl
theorem Bor.rowM {α : Type} {st : St} {s b n c es : Nat} {F : α → D} {xs : List α} {cp : Nat} (hl : st.lc s = some (.arr es (xs.map F) cp)) (hb : st.gen s = b) (hn : n = xs.length) (hf : ∀ x, (F x).froz = F x) : Bor st (.lsl s b n c) (.ro es (xs.map F)) := by
  have hn' : n = (xs.map F).length := by rw [List.length_map]; exact hn
  have h := Bor.row (c := c) hl hb hn'
  rw [D.frozs_map hf] at h
  exact h
theorem HolL.ren {U : Nat → Prop} {w : World} : ∀ {ls ls2 : List Loan} {F : List Nat}, ls2.map (·.2) = ls.map (·.2) → HolL U w ls F → HolL U w ls2 F
  | [], [], F, _, h => h
  | l :: ls, l2 :: ls2, F, e, h => by
    simp only [List.map_cons, List.cons.injEq] at e
    obtain ⟨F1, F2, h1, h2, h3⟩ := h
    exact ⟨F1, F2, h1, by rw [e.1]; exact h2, HolL.ren e.2 h3⟩
  | [], _ :: _, _, e, _ => by simp at e
  | _ :: _, [], _, e, _ => by simp at e
theorem HolL.snil {U : Nat → Prop} {w : World} (s b es : Nat) : ∀ {ls : List Loan} {F : List Nat}, HolL U w ls F → HolL U w ((s, b, .arr es [] 0) :: ls) F
  | _, F, h => ⟨[], F, rfl, .inl ⟨rfl, rfl, rfl⟩, h⟩
/-- A contract under other names. -/
theorem XC.ren {P : Program} {f : FuncId} {ds ds2 : List D} {ls ls2 : List Loan} {K K2 : D → List Loan → Prop} (h : XC P f ds ls K)
    (hd : ∀ U w vs, RelT U w ds2 vs → RelT U w ds vs) (hl : ls.map (·.2) = ls2.map (·.2))
    (hk : ∀ d l, K d l → ∃ d2 l2, K2 d2 l2 ∧ (∀ U w F, HolL U w l F → HolL U w l2 F) ∧ ∀ U w v, RelV U w d v → RelV U w d2 v) : XC P f ds2 ls2 K2 := by
  unfold XC at h ⊢
  refine ⟨h.1, fun U w vs F hU hH hn hF hT => (h.2 U w vs F hU (hH.ren hl) hn hF (hd _ _ _ hT)).mono fun e w' ⟨v, d, l, U', F', h1, h2, h3, h4, h5, h6, h7, h8, h9⟩ => ?_⟩
  obtain ⟨d2, l2, k1, k2, k3⟩ := hk d l h9
  exact ⟨v, d2, l2, U', F', h1, k2 _ _ _ h2, h3, h4, k3 _ _ _ h5, h6, h7, h8, k1⟩
theorem nil_ro {U : Nat → Prop} {w : World} {es : Nat} {cs : List Value} (h : RelC U w .nil cs) : RelC U w (.ro es []) cs := by
  simp only [RelC] at h ⊢
  obtain ⟨a, rfl⟩ := h
  exact ⟨a, 0, rfl, Nat.le_refl _, .inl trivial⟩
theorem nil_lsl {U : Nat → Prop} {w : World} {s b : Nat} {cs : List Value} (h : RelC U w .nil cs) : RelC U w (.lsl s b 0 0) cs := by
  simp only [RelC] at h ⊢
  obtain ⟨a, rfl⟩ := h
  exact ⟨a, rfl, Nat.le_refl _, fun h => absurd rfl h⟩
theorem RelF.imp {U : Nat → Prop} {w : World} {d d' : D} {ds ds' : List D} (h1 : ∀ cs, RelC U w d cs → RelC U w d' cs) (h2 : ∀ cs, RelF U w ds cs → RelF U w ds' cs) (cs : List Value) (h : RelF U w (d :: ds) cs) : RelF U w (d' :: ds') cs := by
  simp only [RelF] at h ⊢
  obtain ⟨c1, c2, e, q1, q2⟩ := h
  exact ⟨c1, c2, e, h1 _ q1, h2 _ q2⟩
theorem RelV.aggImp {U : Nat → Prop} {w : World} {fs fs' : List D} (h : ∀ cs, RelF U w fs cs → RelF U w fs' cs) (v : Value) (hv : RelV U w (.agg fs) v) : RelV U w (.agg fs') v := by
  obtain ⟨cs, e, q⟩ := hv
  exact ⟨cs, e, h _ q⟩
/-- An answer under a wider reading. -/
theorem Rdr.imp {P : Program} {f : FuncId} {ds : List D} {d d2 : D} (h : Rdr P f ds d) (hd : ∀ U w v, RelV U w d v → RelV U w d2 v) : Rdr P f ds d2 := by
  unfold Rdr at h ⊢
  exact ⟨h.1, fun U w vs hU hT => (h.2 U w vs hU hT).mono fun e w' ⟨v, h1, h2, h3⟩ => ⟨v, h1, hd _ _ _ h2, h3⟩⟩
theorem HolL.app {U : Nat → Prop} {w : World} {ls2 : List Loan} (h2 : HolL U w ls2 []) : ∀ {ls : List Loan} {F : List Nat}, HolL U w ls F → HolL U w (ls ++ ls2) F
  | [], F, h => by
    have h : F = [] := h
    subst h
    exact h2
  | l :: ls, F, ⟨F1, F2, e, h, hs⟩ => ⟨F1, F2, e, h, HolL.app h2 hs⟩
/-- A slice in a box that is nil is an owned row without room. -/
theorem XS.ownB {P : Program} {n : Nat} {st : St} {cc : CC} {Q : Post} (k t es : Nat) (p : List Nat) {c : D} {o : Nat} (hkt : Nat.beq k t = false) (hl : st.lc k = some c) (hmp : c.mpB = false) (hat : c.at p = some (.nil, o)) {c1 : Nat → D} (hset : ∀ b, c.set p (.lsl t b 0 0) = some (c1 b)) (h : ∀ b, XS P n cc { st with gen := upd st.gen t b, lc := upd (upd st.lc k (some (c1 b))) t (some (.arr es [] 0)) } Q) : XS P n cc st Q :=
  (h 0).ghost fun F g a w hH => by
    refine ⟨g, hH.size, hH.defers, hH.slots, fun k' d hk => ?_, hH.uin, hH.ubd, hH.uout, hH.keep⟩
    have hk' : upd (upd st.lc k (some (c1 0))) t (some (.arr es [] 0)) k' = some d := hk
    rw [upd_apply] at hk'
    split at hk'
    · simp only [Option.some.injEq] at hk'
      subst hk'
      exact ⟨[], .inl ⟨rfl, rfl, rfl⟩, List.nodup_nil, by simp, by simp, by simp⟩
    · rename_i hne
      rw [upd_apply] at hk'
      have hg : upd st.gen t 0 k' = st.gen k' := by rw [upd_apply, if_neg hne]
      split at hk'
      · rename_i e
        subst e
        simp only [Option.some.injEq] at hk'
        subst hk'
        obtain ⟨Fs, hO⟩ := hH.locs k' _ hl
        obtain ⟨cells, e1, H, hcell, hR, hFs⟩ := hO.loc.cells hmp
        obtain ⟨H1, q1, _, _⟩ := hR.at hat
        have hrc : RelC g.U w .nil ((cells.toList.drop o).take D.nil.len) := (q1).1
        obtain ⟨H2, q3, q4⟩ := hR.reset hat (nil_lsl (s := t) (b := 0) hrc) (hset 0)
        have hsub : (st.gen k' :: H2).Sublist Fs := by rw [hFs]; exact q4.cons_cons _
        refine ⟨_, ?_, hO.nd.sublist hsub, fun x hx => hO.own x (hsub.subset hx), fun x hx => hO.nu x (hsub.subset hx), fun x hx => hO.lo x (hsub.subset hx)⟩
        show LocO g.U w (upd st.gen t 0 k') (c1 0) _
        rw [hg]
        exact .of hcell q3
      · obtain ⟨Fs, hO⟩ := hH.locs k' d hk'
        refine ⟨Fs, ?_, hO.nd, hO.own, hO.nu, hO.lo⟩
        show LocO g.U w (upd st.gen t 0 k') d Fs
        rw [hg]
        exact hO.loc
theorem Bor.nil {st : St} {es : Nat} : Bor st .nil (.ro es []) := fun F g w v hH hr => by
  have hr : RelC g.U w .nil [v] := hr
  have h2 : RelC (UO F g st w) w .nil [v] := by simpa only [RelC] using hr
  exact nil_ro (es := es) h2
theorem RelOR.wk {U : Nat → Prop} {w : World} {es : Nat} {α : Type} {f g : α → D} (hfg : ∀ x cs F, RelO U w (f x) cs F → RelO U w (g x) cs F) : ∀ {xs : List α} {cs : List Value} {F : List Nat}, RelOR U w es (xs.map f) cs F → RelOR U w es (xs.map g) cs F
  | [], cs, F, h => h
  | x :: xs, cs, F, h => by
    simp only [List.map_cons, RelOR] at h ⊢
    obtain ⟨c1, c2, F1, F2, e1, e2, e3, h1, h2⟩ := h
    exact ⟨c1, c2, F1, F2, e1, e2, e3, hfg x _ _ h1, RelOR.wk hfg h2⟩
/-- A row's elements under a wider reading. -/
theorem XS.wkRow {P : Program} {n : Nat} {st : St} {cc : CC} {Q : Post} {α : Type} (k : Nat) {es cp : Nat} (f g : α → D) (xs : List α) (hl : st.lc k = some (.arr es (xs.map f) cp)) (hfg : ∀ U w x cs F, RelO U w (f x) cs F → RelO U w (g x) cs F) (h : XS P n cc { st with lc := upd st.lc k (some (.arr es (xs.map g) cp)) } Q) : XS P n cc st Q :=
  h.ghost fun F gg a w hH => by
    refine ⟨gg, hH.size, hH.defers, hH.slots, fun k' d hk => ?_, hH.uin, hH.ubd, hH.uout, hH.keep⟩
    have hk' : upd st.lc k (some (.arr es (xs.map g) cp)) k' = some d := hk
    rw [upd_apply] at hk'
    split at hk'
    · rename_i e
      subst e
      simp only [Option.some.injEq] at hk'
      subst hk'
      obtain ⟨Fs, hO⟩ := hH.locs k' _ hl
      refine ⟨Fs, ?_, hO.nd, hO.own, hO.nu, hO.lo⟩
      have q := hO.loc
      rcases q with ⟨a1, a2, a3⟩ | ⟨cells, e, G, a1, a2, a3, a4, a5, a6⟩
      · exact .inl ⟨a1, by rw [List.map_eq_nil_iff] at a2 ⊢; exact a2, a3⟩
      · exact .inr ⟨cells, e, G, a1, a2, a3, by rw [List.length_map] at a4 ⊢; exact a4, by rw [List.length_map] at a5 ⊢; exact RelOR.wk (fun x cs F => hfg _ _ x cs F) a5, a6⟩
    · exact hH.locs k' d hk'
def newM (n : ByteArray) : Mate := { fName := n, fUp := true, fClock := 0, fKnown := false, fSeen := 0, fWants := [], fRuns := [], fAsks := [], fGives := [] }
def mateN (n : ByteArray) : Go.Ab.D := .agg [.str n, .bool true, .int .i64 0, .bool false, .int .i64 0, .nil, .nil, .nil, .nil]
theorem mateN_imp (U : Nat → Prop) (w : World) (n : ByteArray) (cs : List Value) (F : List Nat) (h : RelO U w (mateN n) cs F) : RelO U w (newM n).D cs F := by
  have hn : ∀ es cs F, RelO U w .nil cs F → RelO U w (.ro es []) cs F := fun es cs F h => by
    simp only [RelO] at h ⊢
    exact ⟨nil_ro h.1, h.2⟩
  have hc : ∀ (d d2 : D) (ds ds2 : List D), (∀ cs F, RelO U w d cs F → RelO U w d2 cs F) → (∀ cs F, RelOF U w ds cs F → RelOF U w ds2 cs F) → ∀ cs F, RelOF U w (d :: ds) cs F → RelOF U w (d2 :: ds2) cs F := fun d d2 ds ds2 h1 h2 cs F h => by
    simp only [RelOF] at h ⊢
    obtain ⟨c1, c2, F1, F2, e1, e2, q1, q2⟩ := h
    exact ⟨c1, c2, F1, F2, e1, e2, h1 _ _ q1, h2 _ _ q2⟩
  have h0 : RelOF U w [.str n, .bool true, .int .i64 0, .bool false, .int .i64 0, .nil, .nil, .nil, .nil] cs F := h
  show RelOF U w [.str n, .bool true, .int .i64 0, .bool false, .int .i64 0, .ro 7 [], .ro 11 [], .ro 4 [], .ro 4 []] cs F
  exact hc _ _ _ _ (fun _ _ h => h) (hc _ _ _ _ (fun _ _ h => h) (hc _ _ _ _ (fun _ _ h => h) (hc _ _ _ _ (fun _ _ h => h) (hc _ _ _ _ (fun _ _ h => h) (hc _ _ _ _ (hn 7) (hc _ _ _ _ (hn 11) (hc _ _ _ _ (hn 4) (hc _ _ _ _ (hn 4) (fun _ _ h => h))))))))) cs F h0
def nwW (l : List ByteArray) : MateWorld := { fLand := { fTime := 0, fGrants := [], fPlaces := [] }, fMates := l.map newM, fFlight := [] }
def nwL (l : List ByteArray) : List ByteArray := if worldOk (nwW l) = true then l else []
def nwO (s b n c : Nat) : Go.Ab.D := .agg [.agg [.int .i64 0, .nil, .nil], .lsl s b n c, .nil]
theorem Bor.nw {st : St} {l : List ByteArray} {s b c k n : Nat} (h : st.lc s = some (.arr 9 ((l.map newM).map Mate.D) k)) (g : st.gen s = b) (hn : n = l.length) : Bor st (nwO s b n c) (nwW l).D :=
  Bor.agg (.cons (Bor.agg (.cons (Bor.refl _ _) (.cons Bor.nil (.cons Bor.nil .nil))) rfl rfl rfl) (.cons (Bor.rowM h g (by rw [hn]; show _ = (l.map newM).length; rw [List.length_map]) (fun _ => rfl)) (.cons Bor.nil .nil))) rfl rfl rfl
theorem nw_hz (l : List ByteArray) (i : Nat) : ((nwW l).fLand.fPlaces.getD i default).fWants.length ≤ 1048576 := by
  show (([] : List MatePlace).getD i default).fWants.length ≤ _
  rw [List.getD_nil]
  exact Nat.zero_le _
set_option maxHeartbeats 8000000 in
theorem spec_NW (l : List ByteArray) (hl : l.length ≤ 1048576) : XC Try.prog 37 [.ro 1 (l.map D.str)] [] (fun d ls => ∃ b c, d = nwO 20 b (nwL l).length c ∧ ls = [(20, b, .arr 9 (((nwL l).map newM).map Mate.D) c)]) := by
  have hq := spec_WorldOk (nwW l) (nw_hz l)
  refine XC.intro' hm [20] rfl c37 (Nat.le_of_ble_eq_true rfl) ?_
  conv => whnf
  repeat' (first | (refine g_op ?_; conv => whnf) | (refine And.intro ?_ ?_; (focus (first | exact rfl | exact Nat.le_of_ble_eq_true rfl | decide | omega | fail)); conv => whnf) | (refine g_seq ?_) | (refine g_ops ?_) | (refine g_nil ?_; conv => whnf) | (refine fun _ => ?_; conv => whnf) | fail)
  refine XS.go ?_
  repeat' (first | (refine g_op ?_; conv => whnf) | (refine And.intro ?_ ?_; (focus (first | exact rfl | exact Nat.le_of_ble_eq_true rfl | decide | omega | fail)); conv => whnf) | (refine g_seq ?_) | (refine g_ops ?_) | (refine g_nil ?_; conv => whnf) | (refine fun _ => ?_; conv => whnf) | fail)
  refine XS.go ?_
  repeat' (first | (refine g_op ?_; conv => whnf) | (refine And.intro ?_ ?_; (focus (first | exact rfl | exact Nat.le_of_ble_eq_true rfl | decide | omega | fail)); conv => whnf) | (refine g_seq ?_) | (refine g_ops ?_) | (refine g_nil ?_; conv => whnf) | fail)
  refine XS.ownB 3 20 9 [1] rfl rfl rfl rfl (fun b => rfl) fun b => ?_
  refine XS.go ?_
  repeat' (first | (refine g_loop ?_) | (refine g_block ?_) | fail)
  refine XLc.mkA (α := Nat × Nat) (fun i => i.1 ≤ l.length ∧ i.1 ≤ i.2) (fun i => l.length - i.1) (fun i gs => [.ro 1 (l.map D.str), .any, .lref 2 (gs 2) [] 0, .lref 3 (gs 3) [] 0, .int .i64 (i.1 : Int)]) (fun i gs => [(2, .agg [.agg [.int .i64 0, .nil, .nil], .nil, .nil]), (3, nwO 20 (gs 20) i.1 i.2), (20, .arr 9 ((l.take i.1).map mateN) i.2)]) (0, 0) ⟨Nat.zero_le _, Nat.le_refl _⟩ ?_ ?_
  · refine ⟨?_, ?_⟩
    · repeat' (first | exact True.intro | refine And.intro rfl ?_)
    · exact ⟨rfl, rfl, rfl, True.intro⟩
  intro i gs hI
  obtain ⟨i, cp⟩ := i
  obtain ⟨hi0, hi1⟩ := hI
  simp only at hi0 hi1
  simp only [nwO]
  repeat' (first | (refine g_op ?_; conv => whnf) | (refine And.intro ?_ ?_; (focus (first | exact rfl | exact Nat.le_of_ble_eq_true rfl | decide | omega | fail)); conv => whnf) | (refine g_seq ?_) | (refine XS.go ?_) | (refine g_ops ?_) | (refine g_nil ?_; conv => whnf) | (refine g_cond ?_; conv => whnf) | fail)
  refine Br.mk (fun hb => ?_) (fun hb => ?_)
  · have hlt : i < l.length := by simpa using hb
    clear hb
    have hmp : ∀ d, d = mateN (l.getD i default) → (l.take i).map mateN ++ [d] = (l.take (i + 1)).map mateN := fun d h => by rw [h, List.take_succ_eq_append_getElem hlt, List.map_append, List.getD_eq_getElem?_getD, List.getElem?_eq_getElem hlt]; rfl
    have hln : ((l.take i).map mateN).length = i := by simp; omega
    generalize hA : (l.take i).map mateN = A at hmp hln ⊢
    have he : (l.map D.str).getD (i : Int).toNat .any = .str (l.getD i default) := by
      rw [Int.toNat_natCast]
      exact elt_map hlt
    conv => whnf
    repeat' (first | (refine And.intro ?_ ?_; (focus (first | exact rfl | exact Nat.le_of_ble_eq_true rfl | decide | omega | fail)); conv => whnf) | (refine g_seq ?_) | (refine XS.go ?_) | (refine g_skip ?_; conv => whnf) | (refine g_block ?_) | (refine g_drawn ?_) | (refine d_p ?_; conv => whnf) | fail)
    rw [he]
    refine ⟨by rw [List.length_map]; omega, ?_⟩
    conv => whnf
    repeat' (first | (refine And.intro ?_ ?_; (focus (first | exact rfl | exact Nat.le_of_ble_eq_true rfl | decide | omega | fail)); conv => whnf) | (refine d_p ?_; conv => whnf) | (refine d_e ?_; conv => whnf) | fail)
    refine ⟨?_, Nat.le_of_ble_eq_true rfl, (by decide), fun n' b' c' hn hc => ?_⟩
    · show A.length + 1 ≤ 1073741824
      omega
    have hn : n' = i + 1 := by rw [hn, hln]; rfl
    subst hn
    refine ⟨True.intro, ?_⟩
    conv => whnf
    repeat' (first | (refine And.intro ?_ ?_; (focus (first | exact rfl | exact Nat.le_of_ble_eq_true rfl | decide | omega | fail)); conv => whnf) | (refine d_p ?_; conv => whnf) | (refine d_e ?_; conv => whnf) | fail)
    refine ⟨True.intro, ?_⟩
    conv => whnf
    repeat' (first | (refine g_op ?_; conv => whnf) | (refine And.intro ?_ ?_; (focus (first | exact rfl | exact Nat.le_of_ble_eq_true rfl | decide | omega | fail)); conv => whnf) | (refine XS.go ?_) | (refine g_ops ?_) | (refine g_nil ?_; conv => whnf) | (refine d_nil ?_; conv => whnf) | fail)
    refine ⟨(i + 1, c'), ⟨by simp only; omega, by simp only; omega⟩, by simp only; omega, ?_, ?_⟩
    · have hw : IntKind.wrap .i64 ((i : Int) + 1) = ((i + 1 : Nat) : Int) := by rw [wrap_ok (by omega) (by omega)]; rfl
      repeat' (first | exact True.intro | refine And.intro (congrArg (D.int .i64) hw) ?_ | refine And.intro rfl ?_)
    · refine ⟨rfl, rfl, ?_, True.intro⟩
      conv => lhs; whnf
      exact congrArg (fun l => some (D.arr 9 l c')) (hmp _ rfl)
  have hi : i = l.length := by
    have : ¬ i < l.length := by simpa using hb
    omega
  subst hi
  rw [List.take_length]
  conv => whnf
  repeat' (first | (refine g_exit ?_; conv => whnf) | fail)
  refine XS.wkRow 20 mateN (fun n => (newM n).D) l rfl mateN_imp ?_
  have hmm : l.map (fun n => (newM n).D) = (l.map newM).map Mate.D := by rw [List.map_map]; rfl
  rw [hmm]
  refine XS.go ?_
  repeat' (first | (refine g_op ?_; conv => whnf) | (refine And.intro ?_ ?_; (focus (first | exact rfl | exact Nat.le_of_ble_eq_true rfl | decide | omega | fail)); conv => whnf) | (refine g_seq ?_) | (refine g_ops ?_) | fail)
  refine XCL.of_rdrB hq (.cons (Bor.nw rfl rfl rfl) .nil) rfl ?_
  conv => whnf
  repeat' (first | (refine g_op ?_; conv => whnf) | (refine And.intro ?_ ?_; (focus (first | exact rfl | exact Nat.le_of_ble_eq_true rfl | decide | omega | fail)); conv => whnf) | (refine XS.go ?_) | (refine g_nil ?_; conv => whnf) | (refine g_cond ?_; conv => whnf) | fail)
  refine Br.mk (fun hb => ?_) (fun hb => ?_)
  · have e : nwL l = [] := if_neg (by have : worldOk (nwW l) = false := by simpa using hb
                                      rw [this]; exact Bool.false_ne_true)
    rw [e]
    conv => whnf
    repeat' (first | (refine g_op ?_; conv => whnf) | (refine And.intro ?_ ?_; (focus (first | exact rfl | exact Nat.le_of_ble_eq_true rfl | decide | omega | fail)); conv => whnf) | (refine g_seq ?_) | (refine g_ops ?_) | (refine g_nil ?_; conv => whnf) | fail)
    refine XS.ownB 2 20 9 [1] rfl rfl rfl rfl (fun b => rfl) fun b => ?_
    refine XS.go ?_
    repeat' (first | (refine And.intro ?_ ?_; (focus (first | exact rfl | exact Nat.le_of_ble_eq_true rfl | decide | omega | fail)); conv => whnf) | (refine g_ret ?_; conv => whnf) | (refine r_c ?_; conv => whnf) | (refine r_nil ?_; conv => whnf) | fail)
    exact ⟨b, 0, rfl, rfl⟩
  · have e : nwL l = l := if_pos (by simpa using hb)
    rw [e]
    conv => whnf
    repeat' (first | (refine g_op ?_; conv => whnf) | (refine And.intro ?_ ?_; (focus (first | exact rfl | exact Nat.le_of_ble_eq_true rfl | decide | omega | fail)); conv => whnf) | (refine g_seq ?_) | (refine XS.go ?_) | (refine g_ops ?_) | (refine g_nil ?_; conv => whnf) | (refine g_skip ?_; conv => whnf) | (refine g_ret ?_; conv => whnf) | (refine r_c ?_; conv => whnf) | (refine r_nil ?_; conv => whnf) | fail)
    exact ⟨gs 20, cp, rfl, rfl⟩
end Go.Ab
