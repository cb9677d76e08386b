/- Steps towards the law: contracts of functions and facts of lists. -/
import Derived.Test.YtagleaabhljkfaaMateQ
import Derived.Test.YtagleaabhljkfaaRows
set_option linter.unusedSimpArgs false
set_option linter.unusedVariables false
namespace Go.Ab
open Go Go.RowKit Go.Proofs
attribute [local irreducible] XC Rdr IntKind.wrap xw xos xqs xr xd
set_option maxRecDepth 100000

/-- spec.l10Open -/
def cf68 : CF := ⟨11, [.t 2],
  (.seq (.ops [⟨some 2, .mv (.k (.nilp)), none⟩])
  (.seq (.seq (.ops [⟨some 3, .mv (.t 0), none⟩,
    ⟨some 4, .lenl (.t 3), none⟩,
    ⟨some 5, .bin .gtr (.t 4) (.k (.int .i64 2000)), none⟩])
  (.cond (.t 5)
  (.ops [⟨some 6, .mv (.t 0), none⟩,
    ⟨some 7, .slc 1 false (.t 6) none (some (.k (.int .i64 2000))), none⟩,
    ⟨some 0, .mv (.t 7), none⟩])
  .skip))
  (.seq (.ops [⟨some 8, .mv (.t 0), none⟩,
    ⟨some 9, .bld (.agg [.nil, .int .i64 0]) [(0, 0, 1, (.t 8))], none⟩,
    ⟨some 10, .bx (.t 9), none⟩,
    ⟨some 2, .mv (.t 10), none⟩])
  .ret)))⟩
theorem c68 : compileF Try.prog [] 68 = some cf68 := by kernel_rfl
/-- (*spec.l10Rd).pick -/
def cf69 : CF := ⟨99, [.t 4],
  (.seq (.ops [⟨some 4, .mv (.k (.int .i64 0)), none⟩])
  (.seq (.ops [⟨some 7, .mv (.t 0), none⟩,
    ⟨some 8, .mv (.t 0), none⟩,
    ⟨some 9, .nilc (.t 8), none⟩,
    ⟨some 10, .fa 1 1 1 (.t 9), none⟩,
    ⟨some 11, .ld 1 false (.t 10), none⟩,
    ⟨some 12, .bin .add (.t 11) (.k (.int .i64 1)), none⟩,
    ⟨some 13, .nilc (.t 7), none⟩,
    ⟨some 14, .fa 1 1 1 (.t 13), none⟩,
    ⟨none, .st 1 (.t 14) (.t 12), none⟩])
  (.seq (.seq (.ops [⟨some 15, .mv (.t 1), none⟩,
    ⟨some 16, .bin .lss (.t 15) (.k (.int .i64 1)), none⟩,
    ⟨some 17, .mv (.t 16), none⟩,
    ⟨some 18, .mv (.t 0), some (17, false)⟩,
    ⟨some 19, .nilc (.t 18), some (17, false)⟩,
    ⟨some 20, .fa 0 1 0 (.t 19), some (17, false)⟩,
    ⟨some 21, .ld 1 false (.t 20), some (17, false)⟩,
    ⟨some 22, .lenl (.t 21), some (17, false)⟩,
    ⟨some 23, .bin .eql (.t 22) (.k (.int .i64 0)), some (17, false)⟩,
    ⟨some 24, .pick (.t 17) (.k (.bool true)) (.t 23), none⟩])
  (.cond (.t 24)
  (.seq (.ops [⟨some 4, .mv (.k (.int .i64 0)), none⟩])
  .ret)
  .skip))
  (.seq (.ops [⟨some 25, .mv (.t 0), none⟩,
    ⟨some 26, .nilc (.t 25), none⟩,
    ⟨some 27, .fa 1 1 1 (.t 26), none⟩,
    ⟨some 28, .ld 1 false (.t 27), none⟩,
    ⟨some 29, .bin .sub (.t 28) (.k (.int .i64 1)), none⟩,
    ⟨some 5, .mv (.t 29), none⟩])
  (.seq (.seq (.ops [⟨some 30, .mv (.t 5), none⟩,
    ⟨some 31, .mv (.t 0), none⟩,
    ⟨some 32, .nilc (.t 31), none⟩,
    ⟨some 33, .fa 0 1 0 (.t 32), none⟩,
    ⟨some 34, .ld 1 false (.t 33), none⟩,
    ⟨some 35, .lenl (.t 34), none⟩,
    ⟨some 36, .bin .lss (.t 30) (.t 35), none⟩])
  (.cond (.t 36)
  (.seq (.ops [⟨some 37, .mv (.t 0), none⟩,
    ⟨some 38, .nilc (.t 37), none⟩,
    ⟨some 39, .fa 0 1 0 (.t 38), none⟩,
    ⟨some 40, .ld 1 false (.t 39), none⟩,
    ⟨some 41, .mv (.t 5), none⟩,
    ⟨some 42, .ix 1 (.t 40) (.t 41), none⟩,
    ⟨some 43, .ld 1 false (.t 42), none⟩,
    ⟨some 44, .cvi .i64 (.t 43), none⟩,
    ⟨some 45, .mv (.t 1), none⟩,
    ⟨some 46, .bin .rem (.t 44) (.t 45), none⟩,
    ⟨some 4, .mv (.t 46), none⟩])
  .ret)
  .skip))
  (.seq (.quiet [⟨some 47, .mv (.t 0), none⟩,
    ⟨some 48, .nilc (.t 47), none⟩,
    ⟨some 49, .fa 0 1 0 (.t 48), none⟩,
    ⟨some 50, .ld 1 false (.t 49), none⟩,
    ⟨some 51, .mv (.t 5), none⟩,
    ⟨some 52, .mv (.t 0), none⟩,
    ⟨some 53, .nilc (.t 52), none⟩,
    ⟨some 54, .fa 0 1 0 (.t 53), none⟩,
    ⟨some 55, .ld 1 false (.t 54), none⟩,
    ⟨some 56, .lenl (.t 55), none⟩,
    ⟨some 57, .bin .rem (.t 51) (.t 56), none⟩,
    ⟨some 58, .ix 1 (.t 50) (.t 57), none⟩,
    ⟨some 59, .ld 1 false (.t 58), none⟩,
    ⟨some 60, .cvi .i64 (.t 59), none⟩,
    ⟨some 61, .bin .mul (.t 60) (.k (.int .i64 131)), none⟩,
    ⟨some 62, .mv (.t 0), none⟩,
    ⟨some 63, .nilc (.t 62), none⟩,
    ⟨some 64, .fa 0 1 0 (.t 63), none⟩,
    ⟨some 65, .ld 1 false (.t 64), none⟩,
    ⟨some 66, .mv (.t 5), none⟩,
    ⟨some 67, .bin .mul (.t 66) (.k (.int .i64 7)), none⟩,
    ⟨some 68, .bin .add (.t 67) (.k (.int .i64 3)), none⟩,
    ⟨some 69, .mv (.t 0), none⟩,
    ⟨some 70, .nilc (.t 69), none⟩,
    ⟨some 71, .fa 0 1 0 (.t 70), none⟩,
    ⟨some 72, .ld 1 false (.t 71), none⟩,
    ⟨some 73, .lenl (.t 72), none⟩,
    ⟨some 74, .bin .rem (.t 68) (.t 73), none⟩,
    ⟨some 75, .ix 1 (.t 65) (.t 74), none⟩,
    ⟨some 76, .ld 1 false (.t 75), none⟩,
    ⟨some 77, .cvi .i64 (.t 76), none⟩,
    ⟨some 78, .bin .mul (.t 77) (.k (.int .i64 1117)), none⟩,
    ⟨some 79, .bin .add (.t 61) (.t 78), none⟩,
    ⟨some 80, .mv (.t 5), none⟩,
    ⟨some 81, .bin .mul (.t 80) (.k (.int .i64 29)), none⟩,
    ⟨some 82, .bin .add (.t 79) (.t 81), none⟩,
    ⟨some 83, .mv (.t 5), none⟩,
    ⟨some 84, .mv (.t 0), none⟩,
    ⟨some 85, .nilc (.t 84), none⟩,
    ⟨some 86, .fa 0 1 0 (.t 85), none⟩,
    ⟨some 87, .ld 1 false (.t 86), none⟩,
    ⟨some 88, .lenl (.t 87), none⟩,
    ⟨some 89, .bin .quo (.t 83) (.t 88), none⟩,
    ⟨some 90, .bin .mul (.t 89) (.k (.int .i64 53)), none⟩,
    ⟨some 91, .bin .add (.t 82) (.t 90), none⟩,
    ⟨some 6, .mv (.t 91), none⟩])
  (.seq (.ops [⟨some 92, .mv (.t 6), none⟩,
    ⟨some 93, .mv (.t 6), none⟩,
    ⟨some 94, .bin .quo (.t 93) (.k (.int .i64 64)), none⟩,
    ⟨some 95, .bin .xor (.t 92) (.t 94), none⟩,
    ⟨some 6, .mv (.t 95), none⟩])
  (.seq (.ops [⟨some 96, .mv (.t 6), none⟩,
    ⟨some 97, .mv (.t 1), none⟩,
    ⟨some 98, .bin .rem (.t 96) (.t 97), none⟩,
    ⟨some 4, .mv (.t 98), none⟩])
  .ret))))))))⟩
theorem c69 : compileF Try.prog [] 69 = some cf69 := by kernel_rfl
def U8D (n : Int) : Go.Ab.D := .int .u8 n
def Rd (c : List Int) (p : Nat) : Go.Ab.D := .agg [.ro 1 (c.map U8D), .int .i64 (p : Int)]
structure CodeOk (c : List Int) : Prop where
  len : c.length ≤ 2000
  byte : ∀ x ∈ c, 0 ≤ x ∧ x < 256
theorem CodeOk.get {c : List Int} (h : CodeOk c) (i : Nat) : 0 ≤ c.getD i default ∧ c.getD i default < 256 := by
  by_cases hi : i < c.length
  · exact h.byte _ (by simp [hi])
  · simp [List.getElem?_eq_none (Nat.le_of_not_lt hi)]
theorem HolL.ren2 {U : Nat → Prop} {w : World} : ∀ {ls ls2 : List Loan} {F : List Nat}, ls2.map (·.2) = ls.map (·.2) → HolL U w ls F → HolL U w ls2 F
  | [], [], F, _, h => h
  | l :: ls, l2 :: ls2, F, e, h => by
    simp only [List.map_cons, List.cons.injEq] at e
    obtain ⟨F1, F2, h1, h2, h3⟩ := h
    exact ⟨F1, F2, h1, by rw [e.1]; exact h2, HolL.ren2 e.2 h3⟩
  | [], _ :: _, _, e, _ => by simp at e
  | _ :: _, [], _, e, _ => by simp at e
theorem XC.ren2 {P : Program} {f : FuncId} {ds ds2 : List Go.Ab.D} {ls ls2 : List Loan} {K K2 : Go.Ab.D → List Loan → Prop} (h : XC P f ds ls K)
    (hd : ∀ U w vs, RelT U w ds2 vs → RelT U w ds vs) (hl : ls.map (·.2) = ls2.map (·.2))
    (hk : ∀ d l, K d l → ∃ d2 l2, K2 d2 l2 ∧ (∀ U w F, HolL U w l F → HolL U w l2 F) ∧ ∀ U w v, RelV U w d v → RelV U w d2 v) : XC P f ds2 ls2 K2 := by
  unfold XC at h ⊢
  refine ⟨h.1, fun U w vs F hU hH hn hF hT => (h.2 U w vs F hU (hH.ren2 hl) hn hF (hd _ _ _ hT)).mono fun e w' ⟨v, d, l, U', F', h1, h2, h3, h4, h5, h6, h7, h8, h9⟩ => ?_⟩
  obtain ⟨d2, l2, k1, k2, k3⟩ := hk d l h9
  exact ⟨v, d2, l2, U', F', h1, k2 _ _ _ h2, h3, h4, k3 _ _ _ h5, h6, h7, h8, k1⟩
/-- A maker: it reads the code by the cursor behind its first argument. -/
def MK (f : FuncId) (args : List Go.Ab.D) (R : Go.Ab.D → Prop) (k : Nat) : Prop := ∀ s b c p, CodeOk c → p + k ≤ 1000000000 → XC Try.prog f (.lref s b [] 0 :: args) [(s, b, Rd c p)] fun d ls => R d ∧ ∃ p', p ≤ p' ∧ p' ≤ p + k ∧ ls = [(s, b, Rd c p')]
theorem MK.of0 {f : FuncId} {args : List Go.Ab.D} {R : Go.Ab.D → Prop} {k : Nat} (h : ∀ b c p, CodeOk c → p + k ≤ 1000000000 → XC Try.prog f (.lref 0 b [] 0 :: args) [(0, b, Rd c p)] fun d ls => R d ∧ ∃ p', p ≤ p' ∧ p' ≤ p + k ∧ ls = [(0, b, Rd c p')]) : MK f args R k := fun s b c p hc hp => by
  refine (h b c p hc hp).ren2 (fun U w vs hT => ?_) rfl (fun d l ⟨h1, p', h2, h3, h4⟩ => ?_)
  · simp only [RelT, RelW, RelC] at hT ⊢
    exact hT
  · subst h4
    exact ⟨d, _, ⟨h1, p', h2, h3, rfl⟩, fun U w F hh => HolL.ren2 rfl hh, fun _ _ _ hv => hv⟩
theorem XCL.mkr {f : FuncId} {args : List Go.Ab.D} {R : Go.Ab.D → Prop} {k : Nat} (h : MK f args R k) {s b : Nat} {c : List Int} {p : Nat} {st : St} {K : Go.Ab.D → St → Prop} (hc : CodeOk c) (hp : p + k ≤ 1000000000) (hl : LoanOk st [(s, b, Rd c p)])
    (hK : ∀ d p', R d → p ≤ p' → p' ≤ p + k → K d (st.back [(s, b, Rd c p)] [(s, b, Rd c p')])) : XCL Try.prog f (.lref s b [] 0 :: args) st K :=
  .of_XC (ls := [(s, b, Rd c p)]) hl ((h s b c p hc hp).mono fun d ls ⟨h1, p', h2, h3, h4⟩ => by subst h4; exact hK d p' h1 h2 h3)
theorem xorI_ok {a b : Int} (ha : 0 ≤ a) (ha2 : a < 4611686018427387904) (hb : 0 ≤ b) (hb2 : b < 4611686018427387904) : 0 ≤ xorI .i64 a b ∧ xorI .i64 a b < 4611686018427387904 := by
  obtain ⟨m, rfl⟩ := Int.eq_ofNat_of_zero_le ha
  obtain ⟨k, rfl⟩ := Int.eq_ofNat_of_zero_le hb
  have hm : m < 2 ^ 62 := by omega
  have hk : k < 2 ^ 62 := by omega
  have h2 : m ^^^ k < 2 ^ 62 := Nat.xor_lt_two_pow hm hk
  have e : xorI .i64 (m : Int) (k : Int) = ((m ^^^ k : Nat) : Int) := by
    show (((BitVec.ofInt 64 (m : Int) ^^^ BitVec.ofInt 64 (k : Int)).toNat : Nat) : Int) = _
    rw [BitVec.toNat_xor, BitVec.ofInt_natCast, BitVec.ofInt_natCast, BitVec.toNat_ofNat, BitVec.toNat_ofNat, Nat.mod_eq_of_lt (by omega), Nat.mod_eq_of_lt (by omega)]
  rw [e]
  constructor
  · omega
  · omega
theorem pickX {x y k l : Int} (hx : 0 ≤ x ∧ x < 256) (hy : 0 ≤ y ∧ y < 256) (hk : 0 ≤ k ∧ k < 1000000000) (hl : 0 < l) :
    0 ≤ IntKind.wrap .i64 (xorI .i64 (IntKind.wrap .i64 (IntKind.wrap .i64 (IntKind.wrap .i64 (IntKind.wrap .i64 (x * 131) + IntKind.wrap .i64 (y * 1117)) + IntKind.wrap .i64 (k * 29)) + IntKind.wrap .i64 (IntKind.wrap .i64 (k.tdiv l) * 53))) (IntKind.wrap .i64 ((IntKind.wrap .i64 (IntKind.wrap .i64 (IntKind.wrap .i64 (IntKind.wrap .i64 (x * 131) + IntKind.wrap .i64 (y * 1117)) + IntKind.wrap .i64 (k * 29)) + IntKind.wrap .i64 (IntKind.wrap .i64 (k.tdiv l) * 53))).tdiv 64))) := by
  have hd : 0 ≤ k.tdiv l ∧ k.tdiv l ≤ k := by
    rw [Int.tdiv_eq_ediv_of_nonneg hk.1]
    exact ⟨Int.ediv_nonneg hk.1 (by omega), Int.ediv_le_self _ hk.1⟩
  generalize k.tdiv l = q at hd ⊢
  rw [wrap_ok (n := x * 131) (by omega) (by omega), wrap_ok (n := y * 1117) (by omega) (by omega), wrap_ok (n := k * 29) (by omega) (by omega), wrap_ok (n := q) (by omega) (by omega), wrap_ok (n := q * 53) (by omega) (by omega), wrap_ok (n := x * 131 + y * 1117) (by omega) (by omega), wrap_ok (n := x * 131 + y * 1117 + k * 29) (by omega) (by omega), wrap_ok (n := x * 131 + y * 1117 + k * 29 + q * 53) (by omega) (by omega)]
  have hs : 0 ≤ x * 131 + y * 1117 + k * 29 + q * 53 ∧ x * 131 + y * 1117 + k * 29 + q * 53 < 1000000000000 := by omega
  generalize x * 131 + y * 1117 + k * 29 + q * 53 = s at hs ⊢
  have ht : 0 ≤ s.tdiv 64 ∧ s.tdiv 64 ≤ s := by
    rw [Int.tdiv_eq_ediv_of_nonneg hs.1]
    exact ⟨Int.ediv_nonneg hs.1 (by omega), Int.ediv_le_self _ hs.1⟩
  generalize s.tdiv 64 = t at ht ⊢
  rw [wrap_ok (n := t) (by omega) (by omega)]
  have := xorI_ok (a := s) (b := t) hs.1 (by omega) ht.1 (by omega)
  rw [wrap_ok (by omega) (by omega)]
  exact this.1
set_option maxHeartbeats 8000000 in
theorem spec_Open (c : List Int) (hl : c.length ≤ 1048576) (hb : ∀ x ∈ c, 0 ≤ x ∧ x < 256) : XC Try.prog 68 [.ro 1 (c.map U8D)] [] fun d ls => ∃ b c', CodeOk c' ∧ d = .lref 10 b [] 0 ∧ ls = [(10, b, Rd c' 0)] := by
  refine XC.intro' hm [10] rfl c68 (Nat.le_of_ble_eq_true rfl) ?_
  conv => whnf
  repeat' (first | (refine g_op ?_; conv => whnf) | (refine And.intro ?_ ?_; (focus (first | exact rfl | exact Nat.le_of_ble_eq_true rfl | decide | omega | fail)); conv => whnf) | (refine g_seq ?_) | (refine XS.go ?_) | (refine g_ops ?_) | (refine g_nil ?_; conv => whnf) | (refine g_cond ?_; conv => whnf) | fail)
  refine Br.mk (fun hb2 => ?_) (fun hb2 => ?_)
  · have hlt := of_decide_eq_true hb2
    conv => whnf
    repeat' (first | (refine g_op ?_; conv => whnf) | (refine And.intro ?_ ?_; (focus (first | exact rfl | exact Nat.le_of_ble_eq_true rfl | decide | omega | fail)); conv => whnf) | (refine g_seq ?_) | (refine XS.go ?_) | (refine g_ops ?_) | (refine g_nil ?_; conv => whnf) | (refine g_ret ?_; conv => whnf) | (refine r_t ?_; conv => whnf) | (refine r_nil ?_; conv => whnf) | (refine fun _ => ?_; conv => whnf) | fail)
    have e : List.take ((2000 : Int) - 0).toNat (List.drop (Int.toNat 0) (c.map U8D)) = (c.take 2000).map U8D := by rw [List.map_take]; rfl
    exact ⟨_, c.take 2000, ⟨by simp; omega, fun x hx => hb x (List.mem_of_mem_take hx)⟩, rfl, congrArg (fun l => [(10, _, Go.Ab.D.agg [.ro 1 l, .int .i64 0])]) e⟩
  · conv => whnf
    repeat' (first | (refine g_op ?_; conv => whnf) | (refine And.intro ?_ ?_; (focus (first | exact rfl | exact Nat.le_of_ble_eq_true rfl | decide | omega | fail)); conv => whnf) | (refine g_seq ?_) | (refine XS.go ?_) | (refine g_ops ?_) | (refine g_nil ?_; conv => whnf) | (refine g_skip ?_; conv => whnf) | (refine g_ret ?_; conv => whnf) | (refine r_t ?_; conv => whnf) | (refine r_nil ?_; conv => whnf) | (refine fun _ => ?_; conv => whnf) | fail)
    exact ⟨_, c, ⟨by simp at hb2; omega, hb⟩, rfl, rfl⟩
set_option maxHeartbeats 8000000 in
theorem pick0 (n : Int) (b : Nat) (c : List Int) (p : Nat) (hc : CodeOk c) (hp : p + 1 ≤ 1000000000) : XC Try.prog 69 [.lref 0 b [] 0, .int .i64 n] [(0, b, Rd c p)] fun d ls => (∃ v : Int, d = .int .i64 v ∧ (n < 1 ∧ v = 0 ∨ 0 ≤ v ∧ (0 < n → v < n))) ∧ ∃ p', p ≤ p' ∧ p' ≤ p + 1 ∧ ls = [(0, b, Rd c p')] := by
  refine XC.intro' hm [0] rfl c69 (Nat.le_of_ble_eq_true rfl) ?_
  have hw : IntKind.wrap .i64 ((p : Int) + 1) = ((p + 1 : Nat) : Int) := by rw [wrap_ok (by omega) (by omega)]; rfl
  have hk : IntKind.wrap .i64 (IntKind.wrap .i64 ((p : Int) + 1) - 1) = (p : Int) := by rw [hw, wrap_ok (by omega) (by omega)]; omega
  have hls : [((0 : Nat), b, Go.Ab.D.agg [.ro 1 (c.map U8D), .int .i64 (IntKind.wrap .i64 ((p : Int) + 1))])] = [(0, b, Rd c (p + 1))] := congrArg (fun x => [(0, b, Go.Ab.D.agg [.ro 1 (c.map U8D), .int .i64 x])]) hw
  conv => whnf
  repeat' (first | (refine z_ld1 ?_; first | (refine z_ld rfl rfl rfl rfl (by first | (simp only [List.length_set]; assumption) | assumption | omega) (by first | exact elt_set (by first | assumption | (simp only [List.length_set]; assumption)) | assumption) ?_; conv => whnf) | (refine z_ld0 rfl ?_; conv => whnf)) | (refine z_ld1g ?_; first | (refine z_ldg rfl rfl rfl rfl rfl rfl rfl (by (repeat intro _); exact ⟨(by first | (simp only [List.length_set]; assumption) | assumption | omega), (by first | exact elt_set (by first | assumption | (simp only [List.length_set]; assumption)) | assumption)⟩) rfl rfl rfl rfl ?_; conv => whnf) | (refine z_ld0g ?_; (conv => whnf); refine And.intro ?_ ?_; (focus exact rfl); conv => whnf)) | (refine z_st1 ?_; first | (refine z_st rfl rfl rfl (by first | (simp only [List.length_set]; assumption) | assumption | omega) (by first | exact elt_set (by first | assumption | (simp only [List.length_set]; assumption)) | assumption) rfl rfl ?_; conv => whnf) | (refine z_st0 ?_; conv => whnf)) | (refine z_op ?_ ?_; (focus exact rfl); conv => whnf) | (refine z_opg0 ?_; (conv => whnf); refine And.intro ?_ ?_; (focus exact rfl); conv => whnf) | (refine z_pick ?_ ?_; (focus exact rfl); conv => whnf) | (refine zs_ops ?_ ?_; (focus exact rfl)) | (refine z_nil fun vals => ?_; conv => whnf) | (refine g_op ?_; conv => whnf) | (refine And.intro ?_ ?_; (focus (first | exact rfl | exact Nat.le_of_ble_eq_true rfl | decide | omega | fail)); conv => whnf) | (refine g_seq ?_) | (refine XS.go ?_) | (refine g_ops ?_) | (refine g_nil ?_; conv => whnf) | (refine g_cond ?_; conv => whnf) | fail)
  refine Br.mk (fun hb => ?_) (fun hb => ?_)
  · conv => whnf
    repeat' (first | (refine g_op ?_; conv => whnf) | (refine And.intro ?_ ?_; (focus (first | exact rfl | exact Nat.le_of_ble_eq_true rfl | decide | omega | fail)); conv => whnf) | (refine g_seq ?_) | (refine XS.go ?_) | (refine g_ops ?_) | (refine g_nil ?_; conv => whnf) | (refine g_ret ?_; conv => whnf) | (refine r_t ?_; conv => whnf) | (refine r_nil ?_; conv => whnf) | fail)
    refine ⟨⟨0, rfl, ?_⟩, p + 1, by omega, by omega, hls⟩
    by_cases h : n < 1
    · exact .inl ⟨h, rfl⟩
    · exact .inr ⟨Int.le_refl _, id⟩
  have hn : 1 ≤ n ∧ 0 < c.length := by
    simp at hb
    have := List.length_pos_iff.2 hb.2
    omega
  obtain ⟨hn, hpos⟩ := hn
  clear hb
  conv => whnf
  repeat' (first | (refine z_ld1 ?_; first | (refine z_ld rfl rfl rfl rfl (by first | (simp only [List.length_set]; assumption) | assumption | omega) (by first | exact elt_set (by first | assumption | (simp only [List.length_set]; assumption)) | assumption) ?_; conv => whnf) | (refine z_ld0 rfl ?_; conv => whnf)) | (refine z_op ?_ ?_; (focus exact rfl); conv => whnf) | (refine zs_ops ?_ ?_; (focus exact rfl)) | (refine z_nil fun vals => ?_; conv => whnf) | (refine And.intro ?_ ?_; (focus (first | exact rfl | exact Nat.le_of_ble_eq_true rfl | decide | omega | fail)); conv => whnf) | (refine g_seq ?_) | (refine XS.go ?_) | (refine g_cond ?_; conv => whnf) | (refine g_skip ?_; conv => whnf) | fail)
  refine Br.mk (fun hb => ?_) (fun hb => ?_)
  · have hlt : p < c.length := by rw [hk] at hb; simpa using hb
    clear hb
    have hB := hc.get (IntKind.wrap .i64 (IntKind.wrap .i64 ((p : Int) + 1) - 1)).toNat
    conv => whnf
    repeat' (first | (refine z_ld1 ?_; first | (refine z_ld rfl rfl rfl rfl (by first | (simp only [List.length_set]; assumption) | assumption | omega) (by first | exact elt_set (by first | assumption | (simp only [List.length_set]; assumption)) | assumption) ?_; conv => whnf) | (refine z_ld0 rfl ?_; conv => whnf)) | (refine z_ix1 ?_; first | (refine z_ix rfl rfl rfl rfl rfl ⟨by first | omega | (simp only [decide_eq_true_eq, Bool.not_eq_true', Bool.or_eq_false_iff, decide_eq_false_iff_not, Bool.and_eq_true, Bool.not_eq_false'] at *; omega), by first | omega | (simp only [decide_eq_true_eq, Bool.not_eq_true', Bool.or_eq_false_iff, decide_eq_false_iff_not, Bool.and_eq_true, Bool.not_eq_false'] at *; omega)⟩ ?_; conv => whnf) | (refine z_ix0 rfl rfl ?_; conv => whnf)) | (refine z_op ?_ ?_; (focus exact rfl); conv => whnf) | (refine zs_ops ?_ ?_; (focus exact rfl)) | (refine z_nil fun vals => ?_; conv => whnf) | (refine And.intro ?_ ?_; (focus (first | exact rfl | exact Nat.le_of_ble_eq_true rfl | decide | omega | fail)); conv => whnf) | (refine g_seq ?_) | (refine XS.go ?_) | (refine g_ret ?_; conv => whnf) | (refine r_t ?_; conv => whnf) | (refine r_nil ?_; conv => whnf) | fail)
    have hX : IntKind.wrap .i64 (c.getD (IntKind.wrap .i64 (IntKind.wrap .i64 ((p : Int) + 1) - 1)).toNat default) = c.getD (IntKind.wrap .i64 (IntKind.wrap .i64 ((p : Int) + 1) - 1)).toNat default := wrap_ok (by omega) (by omega)
    refine ⟨⟨_, rfl, ?_⟩, p + 1, by omega, by omega, hls⟩
    rw [hX]
    exact .inr ⟨Int.tmod_nonneg _ hB.1, fun h => Int.tmod_lt_of_pos _ h⟩
  clear hb
  have hL : ((c.map U8D).length : Int) = c.length := by simp
  have h0 : ((c.map U8D).length : Int) ≠ 0 := by omega
  have hi1 : 0 ≤ (p : Int).tmod ((c.map U8D).length : Int) ∧ (p : Int).tmod ((c.map U8D).length : Int) < c.length := ⟨Int.tmod_nonneg _ (by omega), by have := Int.tmod_lt_of_pos (p : Int) (b := ((c.map U8D).length : Int)) (by omega); omega⟩
  have hi2 : 0 ≤ (IntKind.wrap .i64 (IntKind.wrap .i64 ((p : Int) * 7) + 3)).tmod ((c.map U8D).length : Int) ∧ (IntKind.wrap .i64 (IntKind.wrap .i64 ((p : Int) * 7) + 3)).tmod ((c.map U8D).length : Int) < c.length := ⟨Int.tmod_nonneg _ (by rw [wrap_ok (n := (p : Int) * 7) (by omega) (by omega), wrap_ok (by omega) (by omega)]; omega), by have := Int.tmod_lt_of_pos (IntKind.wrap .i64 (IntKind.wrap .i64 ((p : Int) * 7) + 3)) (b := ((c.map U8D).length : Int)) (by omega); omega⟩
  rw [← hk] at hi1 hi2
  conv => whnf
  repeat' (first | ((refine And.intro h0 ?_; conv => whnf)) | (refine z_ld1 ?_; first | (refine z_ld rfl rfl rfl rfl (by first | (simp only [List.length_set]; assumption) | assumption | omega) (by first | exact elt_set (by first | assumption | (simp only [List.length_set]; assumption)) | assumption) ?_; conv => whnf) | (refine z_ld0 rfl ?_; conv => whnf)) | (refine z_ix1 ?_; first | (refine z_ix rfl rfl rfl rfl rfl ⟨by first | omega | (simp only [decide_eq_true_eq, Bool.not_eq_true', Bool.or_eq_false_iff, decide_eq_false_iff_not, Bool.and_eq_true, Bool.not_eq_false'] at *; omega), by first | omega | (simp only [decide_eq_true_eq, Bool.not_eq_true', Bool.or_eq_false_iff, decide_eq_false_iff_not, Bool.and_eq_true, Bool.not_eq_false'] at *; omega)⟩ ?_; conv => whnf) | (refine z_ix0 rfl rfl ?_; conv => whnf)) | (refine z_op ?_ ?_; (focus exact rfl); conv => whnf) | (refine zs_quiet ?_ ?_; (focus exact rfl)) | (refine z_nil fun vals => ?_; conv => whnf) | (refine g_op ?_; conv => whnf) | (refine And.intro ?_ ?_; (focus (first | exact rfl | exact Nat.le_of_ble_eq_true rfl | decide | omega | fail)); conv => whnf) | (refine g_seq ?_) | (refine XS.go ?_) | (refine g_ops ?_) | (refine g_nil ?_; conv => whnf) | (refine g_skip ?_; conv => whnf) | (refine g_ret ?_; conv => whnf) | (refine r_t ?_; conv => whnf) | (refine r_nil ?_; conv => whnf) | fail)
  have hbx : ∀ i, 0 ≤ IntKind.wrap .i64 (c.getD i default) ∧ IntKind.wrap .i64 (c.getD i default) < 256 := fun i => by
    have := hc.get i
    rw [wrap_ok (by omega) (by omega)]
    exact this
  refine ⟨⟨_, rfl, ?_⟩, p + 1, by omega, by omega, hls⟩
  exact .inr ⟨Int.tmod_nonneg _ (pickX (hbx _) (hbx _) (by rw [hk]; omega) (by omega)), fun h => Int.tmod_lt_of_pos _ h⟩
theorem pick (n : Int) : MK 69 [.int .i64 n] (fun d => ∃ v : Int, d = .int .i64 v ∧ (n < 1 ∧ v = 0 ∨ 0 ≤ v ∧ (0 < n → v < n))) 1 := MK.of0 (pick0 n)
theorem XCL.pkv {n : Int} (hn : 0 < n) {s b : Nat} {c : List Int} {p : Nat} {st : St} {K : Go.Ab.D → St → Prop} (hc : CodeOk c) (hp : p + 1 ≤ 1000000000) (hl : LoanOk st [(s, b, Rd c p)])
    (hK : ∀ (v : Int) (p' : Nat), 0 ≤ v → v < n → p ≤ p' → p' ≤ p + 1 → K (.int .i64 v) (st.back [(s, b, Rd c p)] [(s, b, Rd c p')])) : XCL Try.prog 69 [.lref s b [] 0, .int .i64 n] st K :=
  .mkr (pick n) hc hp hl fun d p' hR h1 h2 => by
    obtain ⟨v, rfl, hv⟩ := hR
    refine hK v p' ?_ ?_ h1 h2 <;> omega
theorem XCL.pk2 {s b : Nat} {c : List Int} {p : Nat} {st : St} {K : Go.Ab.D → St → Prop} (hc : CodeOk c) (hp : p + 1 ≤ 1000000000) (hl : LoanOk st [(s, b, Rd c p)])
    (h0 : ∀ p' : Nat, p ≤ p' → p' ≤ p + 1 → K (.int .i64 0) (st.back [(s, b, Rd c p)] [(s, b, Rd c p')])) (h1 : ∀ p' : Nat, p ≤ p' → p' ≤ p + 1 → K (.int .i64 1) (st.back [(s, b, Rd c p)] [(s, b, Rd c p')])) : XCL Try.prog 69 [.lref s b [] 0, .int .i64 2] st K :=
  .pkv (by decide) hc hp hl fun v p' q0 q1 h1' h2' => by
    have hs : v = 0 ∨ v = 1 := by omega
    rcases hs with rfl | rfl
    · exact h0 p' h1' h2'
    · exact h1 p' h1' h2'
theorem XCL.pk3 {s b : Nat} {c : List Int} {p : Nat} {st : St} {K : Go.Ab.D → St → Prop} (hc : CodeOk c) (hp : p + 1 ≤ 1000000000) (hl : LoanOk st [(s, b, Rd c p)])
    (h0 : ∀ p' : Nat, p ≤ p' → p' ≤ p + 1 → K (.int .i64 0) (st.back [(s, b, Rd c p)] [(s, b, Rd c p')])) (h1 : ∀ p' : Nat, p ≤ p' → p' ≤ p + 1 → K (.int .i64 1) (st.back [(s, b, Rd c p)] [(s, b, Rd c p')])) (h2 : ∀ p' : Nat, p ≤ p' → p' ≤ p + 1 → K (.int .i64 2) (st.back [(s, b, Rd c p)] [(s, b, Rd c p')])) : XCL Try.prog 69 [.lref s b [] 0, .int .i64 3] st K :=
  .pkv (by decide) hc hp hl fun v p' q0 q1 h1' h2' => by
    have hs : v = 0 ∨ v = 1 ∨ v = 2 := by omega
    rcases hs with rfl | rfl | rfl
    · exact h0 p' h1' h2'
    · exact h1 p' h1' h2'
    · exact h2 p' h1' h2'
theorem XCL.pk4 {s b : Nat} {c : List Int} {p : Nat} {st : St} {K : Go.Ab.D → St → Prop} (hc : CodeOk c) (hp : p + 1 ≤ 1000000000) (hl : LoanOk st [(s, b, Rd c p)])
    (h0 : ∀ p' : Nat, p ≤ p' → p' ≤ p + 1 → K (.int .i64 0) (st.back [(s, b, Rd c p)] [(s, b, Rd c p')])) (h1 : ∀ p' : Nat, p ≤ p' → p' ≤ p + 1 → K (.int .i64 1) (st.back [(s, b, Rd c p)] [(s, b, Rd c p')])) (h2 : ∀ p' : Nat, p ≤ p' → p' ≤ p + 1 → K (.int .i64 2) (st.back [(s, b, Rd c p)] [(s, b, Rd c p')])) (h3 : ∀ p' : Nat, p ≤ p' → p' ≤ p + 1 → K (.int .i64 3) (st.back [(s, b, Rd c p)] [(s, b, Rd c p')])) : XCL Try.prog 69 [.lref s b [] 0, .int .i64 4] st K :=
  .pkv (by decide) hc hp hl fun v p' q0 q1 h1' h2' => by
    have hs : v = 0 ∨ v = 1 ∨ v = 2 ∨ v = 3 := by omega
    rcases hs with rfl | rfl | rfl | rfl
    · exact h0 p' h1' h2'
    · exact h1 p' h1' h2'
    · exact h2 p' h1' h2'
    · exact h3 p' h1' h2'
theorem XCL.pk5 {s b : Nat} {c : List Int} {p : Nat} {st : St} {K : Go.Ab.D → St → Prop} (hc : CodeOk c) (hp : p + 1 ≤ 1000000000) (hl : LoanOk st [(s, b, Rd c p)])
    (h0 : ∀ p' : Nat, p ≤ p' → p' ≤ p + 1 → K (.int .i64 0) (st.back [(s, b, Rd c p)] [(s, b, Rd c p')])) (h1 : ∀ p' : Nat, p ≤ p' → p' ≤ p + 1 → K (.int .i64 1) (st.back [(s, b, Rd c p)] [(s, b, Rd c p')])) (h2 : ∀ p' : Nat, p ≤ p' → p' ≤ p + 1 → K (.int .i64 2) (st.back [(s, b, Rd c p)] [(s, b, Rd c p')])) (h3 : ∀ p' : Nat, p ≤ p' → p' ≤ p + 1 → K (.int .i64 3) (st.back [(s, b, Rd c p)] [(s, b, Rd c p')])) (h4 : ∀ p' : Nat, p ≤ p' → p' ≤ p + 1 → K (.int .i64 4) (st.back [(s, b, Rd c p)] [(s, b, Rd c p')])) : XCL Try.prog 69 [.lref s b [] 0, .int .i64 5] st K :=
  .pkv (by decide) hc hp hl fun v p' q0 q1 h1' h2' => by
    have hs : v = 0 ∨ v = 1 ∨ v = 2 ∨ v = 3 ∨ v = 4 := by omega
    rcases hs with rfl | rfl | rfl | rfl | rfl
    · exact h0 p' h1' h2'
    · exact h1 p' h1' h2'
    · exact h2 p' h1' h2'
    · exact h3 p' h1' h2'
    · exact h4 p' h1' h2'
theorem XCL.pk6 {s b : Nat} {c : List Int} {p : Nat} {st : St} {K : Go.Ab.D → St → Prop} (hc : CodeOk c) (hp : p + 1 ≤ 1000000000) (hl : LoanOk st [(s, b, Rd c p)])
    (h0 : ∀ p' : Nat, p ≤ p' → p' ≤ p + 1 → K (.int .i64 0) (st.back [(s, b, Rd c p)] [(s, b, Rd c p')])) (h1 : ∀ p' : Nat, p ≤ p' → p' ≤ p + 1 → K (.int .i64 1) (st.back [(s, b, Rd c p)] [(s, b, Rd c p')])) (h2 : ∀ p' : Nat, p ≤ p' → p' ≤ p + 1 → K (.int .i64 2) (st.back [(s, b, Rd c p)] [(s, b, Rd c p')])) (h3 : ∀ p' : Nat, p ≤ p' → p' ≤ p + 1 → K (.int .i64 3) (st.back [(s, b, Rd c p)] [(s, b, Rd c p')])) (h4 : ∀ p' : Nat, p ≤ p' → p' ≤ p + 1 → K (.int .i64 4) (st.back [(s, b, Rd c p)] [(s, b, Rd c p')])) (h5 : ∀ p' : Nat, p ≤ p' → p' ≤ p + 1 → K (.int .i64 5) (st.back [(s, b, Rd c p)] [(s, b, Rd c p')])) : XCL Try.prog 69 [.lref s b [] 0, .int .i64 6] st K :=
  .pkv (by decide) hc hp hl fun v p' q0 q1 h1' h2' => by
    have hs : v = 0 ∨ v = 1 ∨ v = 2 ∨ v = 3 ∨ v = 4 ∨ v = 5 := by omega
    rcases hs with rfl | rfl | rfl | rfl | rfl | rfl
    · exact h0 p' h1' h2'
    · exact h1 p' h1' h2'
    · exact h2 p' h1' h2'
    · exact h3 p' h1' h2'
    · exact h4 p' h1' h2'
    · exact h5 p' h1' h2'
def strB : List Go.Ab.D → Bool
  | [] => true
  | .str _ :: l => strB l
  | _ :: _ => false
def intB : List Go.Ab.D → Bool
  | [] => true
  | .int .i64 _ :: l => intB l
  | _ :: _ => false
theorem strB_get : ∀ {ds : List Go.Ab.D} {i : Nat}, strB ds = true → i < ds.length → ∃ s, ds.getD i .any = .str s
  | .str s :: l, 0, _, _ => ⟨s, rfl⟩
  | .str s :: l, i + 1, h, hi => by
    obtain ⟨s, e⟩ := strB_get (ds := l) (i := i) h (by simpa using hi)
    exact ⟨s, by simpa using e⟩
theorem intB_get : ∀ {ds : List Go.Ab.D} {i : Nat}, intB ds = true → i < ds.length → ∃ s, ds.getD i .any = .int .i64 s
  | .int .i64 s :: l, 0, _, _ => ⟨s, rfl⟩
  | .int .i64 s :: l, i + 1, h, hi => by
    obtain ⟨s, e⟩ := intB_get (ds := l) (i := i) h (by simpa using hi)
    exact ⟨s, by simpa using e⟩
section
variable {P : Program} {n : Nat} {dst : Option Nat} {es : Nat} {x i : Opd} {rs : List Opd} {os : List (COp × Bool × List Opd)} {st : St} {K : St → Prop} {ds : List Go.Ab.D} {k : IntKind} {v : Int}
theorem d_ixs (hx : x.ev st = .ro es ds) (hi : i.ev st = .int k v) (hs : strB ds = true) (hes : Nat.ble 1 es = true) (h0 : 0 ≤ v) (h1 : v < ds.length) (h : ∀ s, putS n dst (.cref (.str s)) st fun st2 => xd P n os st2 K) : xd P n ((⟨dst, .ix es x i, none⟩, false, rs) :: os) st K := by
  obtain ⟨s, e⟩ := strB_get (i := v.toNat) hs (by omega)
  refine d_p ?_
  show xidx es (x.ev st) (i.ev st) _
  rw [hx, hi]
  refine ⟨rfl, by have := Nat.le_of_ble_eq_true hes; omega, h0, h1, ?_⟩
  rw [e]
  exact h s
theorem d_ixi (hx : x.ev st = .ro es ds) (hi : i.ev st = .int k v) (hs : intB ds = true) (hes : Nat.ble 1 es = true) (h0 : 0 ≤ v) (h1 : v < ds.length) (h : ∀ s, putS n dst (.cref (.int .i64 s)) st fun st2 => xd P n os st2 K) : xd P n ((⟨dst, .ix es x i, none⟩, false, rs) :: os) st K := by
  obtain ⟨s, e⟩ := intB_get (i := v.toNat) hs (by omega)
  refine d_p ?_
  show xidx es (x.ev st) (i.ev st) _
  rw [hx, hi]
  refine ⟨rfl, by have := Nat.le_of_ble_eq_true hes; omega, h0, h1, ?_⟩
  rw [e]
  exact h s
end
end Go.Ab
