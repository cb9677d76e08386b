/- Steps towards the law: the machine, contracts of functions and facts of lists. -/
import Derived.Test.YtagleaabhljkfaaMateQ1
import Derived.Test.YtagleaabhljkfaaRows
import Derived.Test.YtagleaabhljkfaaAb11
set_option linter.unusedSimpArgs false
set_option linter.unusedVariables false
namespace Go.Ab
open Go Go.RowKit Go.Proofs
attribute [local irreducible] XC Rdr IntKind.wrap xw xos xqs xr xd
set_option maxRecDepth 100000
def joinN {α : Type} (E : α → (Nat → Nat) → Prop) (fs : α → (Nat → Nat) → List D) (ls : α → (Nat → Nat) → List (Nat × D)) : Post := fun e st =>
 match e with
 | .normal => ∃ y, E y st.gen ∧ FitA st (fs y st.gen) (ls y st.gen)
 | _ => False
/-- A part of the code with a small goal of its own. -/
theorem XS.join {P : Program} {n : Nat} {st : St} {Q : Post} {α : Type} {cc : CC} (E : α → (Nat → Nat) → Prop) (fs : α → (Nat → Nat) → List D) (ls : α → (Nat → Nat) → List (Nat × D))
  (h1 : XS P n cc st (joinN E fs ls)) (h2 : ∀ y gs, E y gs → Q .normal (St.mkA (fs y gs) gs (ls y gs))) : XS P n cc st Q :=
 ⟨fun hm nq c hc F g a w hH => (h1.sem hm nq c hc F g a w hH) |> fun h => wp_mono h fun e a2 w2 hq => by
  cases e with
  | normal =>
   obtain ⟨g2, st2, hH2, y, hE, hF⟩ := hq
   exact ⟨g2, _, hH2.weaken hF.le, h2 y _ hE⟩
  | exit k => obtain ⟨_, _, _, q⟩ := hq; exact q.elim
  | ret => obtain ⟨_, _, _, q⟩ := hq; exact q.elim
  | goto l => exact hq
  | panic c => exact hq
  | outgrown => exact hq⟩
end Go.Ab
set_option linter.unusedSimpArgs false
set_option linter.unusedVariables false
namespace Go.Ab
open Go Go.RowKit Go.Proofs
attribute [local irreducible] XC Rdr IntKind.wrap xw xos xqs xr xd
set_option maxRecDepth 100000
theorem KO.fr {R : Mate} {f : FuncId} {ds : List Go.Ab.D} {s1 s2 s3 s4 : Nat} (h : XC Try.prog f ds [] (KO R s1 s2 s3 s4)) : Rdr Try.prog f ds R.D := Rdr.of_XCF ((h.names 41 42 43 44).mono fun _ _ h => h.frz)
end Go.Ab
set_option linter.unusedSimpArgs false
set_option linter.unusedVariables false
namespace Go.Ab
open Go Go.RowKit Go.Proofs
attribute [local irreducible] XC Rdr IntKind.wrap xw xos xqs xr xd
set_option maxRecDepth 100000
theorem KO.cl {R : Mate} {s1 s2 s3 s4 : Nat} {d : Go.Ab.D} {l : List Loan} (h : KO R s1 s2 s3 s4 d l) : d.cl = true ∧ clL l = true := by
 obtain ⟨b1, b2, b3, b4, c1, c2, c3, c4, rfl, rfl⟩ := h
 refine ⟨rfl, ?_⟩
 show ((D.arr 7 (R.fWants.map MateWant.D) c1).cl && ((D.arr 11 (R.fRuns.map MateRun.D) c2).cl && ((D.arr 4 (R.fAsks.map MateAsk.D) c3).cl && ((D.arr 4 (R.fGives.map MateAsk.D) c4).cl && true)))) = true
 have q1 : (D.arr 7 (R.fWants.map MateWant.D) c1).cl = true := D.cls_map (fun _ => rfl) _
 have q2 : (D.arr 11 (R.fRuns.map MateRun.D) c2).cl = true := D.cls_map (fun _ => rfl) _
 have q3 : (D.arr 4 (R.fAsks.map MateAsk.D) c3).cl = true := D.cls_map (fun _ => rfl) _
 have q4 : (D.arr 4 (R.fGives.map MateAsk.D) c4).cl = true := D.cls_map (fun _ => rfl) _
 rw [q1, q2, q3, q4]
 rfl
end Go.Ab
set_option linter.unusedSimpArgs false
set_option linter.unusedVariables false
namespace Go.Ab
open Go Go.RowKit Go.Proofs
attribute [local irreducible] XC Rdr IntKind.wrap xw xos xqs xr xd
set_option maxRecDepth 100000
/-! ### Equal parcels -/
/-! ### What a tick answers -/
/-! ### The program's tick -/
end Go.Ab
set_option linter.unusedSimpArgs false
set_option linter.unusedVariables false
namespace Go.Ab
open Go Go.RowKit Go.Proofs
attribute [local irreducible] XC Rdr IntKind.wrap xw xos xqs xr xd
set_option maxRecDepth 100000
set_option maxHeartbeats 16000000
def cf68 : CF := ⟨11,[.t 2],(.seq (.ops [Ok 2 (.nilp)]) (.seq (.seq (.ops [Om 3 0,Og 4 3,Oo 5 (.bin .gtr (.t 4) (.k (.int .i64 2000)))]) (.cond (.t 5) (.ops [Om 6 0,Oo 7 (.slc 1 false (.t 6) none (some (.k (.int .i64 2000)))),Om 0 7]) .skip)) (.seq (.ops [Om 8 0,Oo 9 (.bld (.agg [.nil,.int .i64 0]) [(0,0,1,(.t 8))]),Oo 10 (.bx (.t 9)),Om 2 10]) .ret)))⟩
theorem c68 : compileF Try.prog [] 68 = some cf68 := by kernel_rfl
def cf69 : CF := ⟨99,[.t 4],(.seq (.ops [Ok 4 (.int .i64 0)]) (.seq (.ops [Om 7 0,Om 8 0,On 9 8,Of 10 1 9,Ol 11 10,Oi 12 11,On 13 7,Of 14 1 13,Os 1 14 12]) (.seq (.seq (.ops [Om 15 1,Oo 16 (.bin .lss (.t 15) (.k (.int .i64 1))),Om 17 16,⟨some 18,.mv (.t 0),some (17,false)⟩,⟨some 19,.nilc (.t 18),some (17,false)⟩,⟨some 20,.fa 0 1 0 (.t 19),some (17,false)⟩,⟨some 21,.ld 1 false (.t 20),some (17,false)⟩,⟨some 22,.lenl (.t 21),some (17,false)⟩,⟨some 23,.bin .eql (.t 22) (.k (.int .i64 0)),some (17,false)⟩,Oo 24 (.pick (.t 17) (.k (.bool true)) (.t 23))]) (.cond (.t 24) (.seq (.ops [Ok 4 (.int .i64 0)]) .ret) .skip)) (.seq (.ops [Om 25 0,On 26 25,Of 27 1 26,Ol 28 27,Oo 29 (.bin .sub (.t 28) (.k (.int .i64 1))),Om 5 29]) (.seq (.seq (.ops [Om 30 5,Om 31 0,On 32 31,Of 33 0 32,Ol 34 33,Og 35 34,Ob 36 .lss 30 35]) (.cond (.t 36) (.seq (.ops [Om 37 0,On 38 37,Of 39 0 38,Ol 40 39,Om 41 5,Ox 42 1 40 41,Ol 43 42,Oo 44 (.cvi .i64 (.t 43)),Om 45 1,Ob 46 .rem 44 45,Om 4 46]) .ret) .skip)) (.seq (.quiet [Om 47 0,On 48 47,Of 49 0 48,Ol 50 49,Om 51 5,Om 52 0,On 53 52,Of 54 0 53,Ol 55 54,Og 56 55,Ob 57 .rem 51 56,Ox 58 1 50 57,Ol 59 58,Oo 60 (.cvi .i64 (.t 59)),Oo 61 (.bin .mul (.t 60) (.k (.int .i64 131))),Om 62 0,On 63 62,Of 64 0 63,Ol 65 64,Om 66 5,Oo 67 (.bin .mul (.t 66) (.k (.int .i64 7))),Oo 68 (.bin .add (.t 67) (.k (.int .i64 3))),Om 69 0,On 70 69,Of 71 0 70,Ol 72 71,Og 73 72,Ob 74 .rem 68 73,Ox 75 1 65 74,Ol 76 75,Oo 77 (.cvi .i64 (.t 76)),Oo 78 (.bin .mul (.t 77) (.k (.int .i64 1117))),Ob 79 .add 61 78,Om 80 5,Oo 81 (.bin .mul (.t 80) (.k (.int .i64 29))),Ob 82 .add 79 81,Om 83 5,Om 84 0,On 85 84,Of 86 0 85,Ol 87 86,Og 88 87,Ob 89 .quo 83 88,Oo 90 (.bin .mul (.t 89) (.k (.int .i64 53))),Ob 91 .add 82 90,Om 6 91]) (.seq (.ops [Om 92 6,Om 93 6,Oo 94 (.bin .quo (.t 93) (.k (.int .i64 64))),Ob 95 .xor 92 94,Om 6 95]) (.seq (.ops [Om 96 6,Om 97 1,Ob 98 .rem 96 97,Om 4 98]) .ret))))))))⟩
theorem c69 : compileF Try.prog [] 69 = some cf69 := by kernel_rfl
def U8D (n : Int) : Go.Ab.D := .int .u8 n
def Rd (c : List Int) (p : Nat) : Go.Ab.D := .agg [.ro 1 (c.map U8D), .int .i64 (p : Int)]
structure CodeOk (c : List Int) : Prop where
 len : c.length ≤ 2000
 byte : ∀ x ∈ c, 0 ≤ x ∧ x < 256
theorem CodeOk.get {c : List Int} (h : CodeOk c) (i : Nat) : 0 ≤ c.getD i default ∧ c.getD i default < 256 := by
 by_cases hi : i < c.length
 ·exact h.byte _ (by simp [hi])
 ·simp [List.getElem?_eq_none (Nat.le_of_not_lt hi)]
theorem HolL.ren2 {U : Nat → Prop} {w : World} : ∀ {ls ls2 : List Loan} {F : List Nat}, ls2.map (·.2) = ls.map (·.2) → HolL U w ls F → HolL U w ls2 F
 | [], [], F, _, h => h
 | l :: ls, l2 :: ls2, F, e, h => by
  simp only [List.map_cons, List.cons.injEq] at e
  obtain ⟨F1, F2, h1, h2, h3⟩ := h
  exact ⟨F1, F2, h1, by rw [e.1]; exact h2, HolL.ren2 e.2 h3⟩
 | [], _ :: _, _, e, _ => by simp at e
 | _ :: _, [], _, e, _ => by simp at e
theorem XC.ren2 {P : Program} {f : FuncId} {ds ds2 : List Go.Ab.D} {ls ls2 : List Loan} {K K2 : Go.Ab.D → List Loan → Prop} (h : XC P f ds ls K)
  (hd : ∀ U w vs, RelT U w ds2 vs → RelT U w ds vs) (hl : ls.map (·.2) = ls2.map (·.2))
  (hk : ∀ d l, K d l → ∃ d2 l2, K2 d2 l2 ∧ (∀ U w F, HolL U w l F → HolL U w l2 F) ∧ ∀ U w v, RelV U w d v → RelV U w d2 v) : XC P f ds2 ls2 K2 := by
 unfold XC at h ⊢
 refine ⟨h.1, fun U w vs F hU hH hn hF hT => (h.2 U w vs F hU (hH.ren2 hl) hn hF (hd _ _ _ hT)).mono fun e w' ⟨v, d, l, U', F', h1, h2, h3, h4, h5, h6, h7, h8, h9⟩ => ?_⟩
 obtain ⟨d2, l2, k1, k2, k3⟩ := hk d l h9
 exact ⟨v, d2, l2, U', F', h1, k2 _ _ _ h2, h3, h4, k3 _ _ _ h5, h6, h7, h8, k1⟩
/-- A maker: it reads the code by the cursor behind its first argument. -/
def MK (f : FuncId) (args : List Go.Ab.D) (R : Go.Ab.D → Prop) (k : Nat) : Prop := ∀ s b c p, CodeOk c → p + k ≤ 1000000000 → XC Try.prog f (.lref s b [] 0 :: args) [(s, b, Rd c p)] fun d ls => R d ∧ ∃ p', p ≤ p' ∧ p' ≤ p + k ∧ ls = [(s, b, Rd c p')]
theorem MK.of0 {f : FuncId} {args : List Go.Ab.D} {R : Go.Ab.D → Prop} {k : Nat} (h : ∀ b c p, CodeOk c → p + k ≤ 1000000000 → XC Try.prog f (.lref 0 b [] 0 :: args) [(0, b, Rd c p)] fun d ls => R d ∧ ∃ p', p ≤ p' ∧ p' ≤ p + k ∧ ls = [(0, b, Rd c p')]) : MK f args R k := fun s b c p hc hp => by
 refine (h b c p hc hp).ren2 (fun U w vs hT => ?_) rfl (fun d l ⟨h1, p', h2, h3, h4⟩ => ?_)
 ·simp only [RelT, RelW, RelC] at hT ⊢
  exact hT
 ·subst h4
  exact ⟨d, _, ⟨h1, p', h2, h3, rfl⟩, fun U w F hh => HolL.ren2 rfl hh, fun _ _ _ hv => hv⟩
theorem XCL.mkr {f : FuncId} {args : List Go.Ab.D} {R : Go.Ab.D → Prop} {k : Nat} (h : MK f args R k) {s b : Nat} {c : List Int} {p : Nat} {st : St} {K : Go.Ab.D → St → Prop} (hc : CodeOk c) (hp : p + k ≤ 1000000000) (hl : LoanOk st [(s, b, Rd c p)])
  (hK : ∀ d p', R d → p ≤ p' → p' ≤ p + k → K d (st.back [(s, b, Rd c p)] [(s, b, Rd c p')])) : XCL Try.prog f (.lref s b [] 0 :: args) st K :=
 .of_XC (ls := [(s, b, Rd c p)]) hl ((h s b c p hc hp).mono fun d ls ⟨h1, p', h2, h3, h4⟩ => by subst h4; exact hK d p' h1 h2 h3)
theorem xorI_ok {a b : Int} (ha : 0 ≤ a) (ha2 : a < 4611686018427387904) (hb : 0 ≤ b) (hb2 : b < 4611686018427387904) : 0 ≤ xorI .i64 a b ∧ xorI .i64 a b < 4611686018427387904 := by
 obtain ⟨m, rfl⟩ := Int.eq_ofNat_of_zero_le ha
 obtain ⟨k, rfl⟩ := Int.eq_ofNat_of_zero_le hb
 have hm : m < 2 ^ 62 := by omega
 have hk : k < 2 ^ 62 := by omega
 have h2 : m ^^^ k < 2 ^ 62 := Nat.xor_lt_two_pow hm hk
 have e : xorI .i64 (m : Int) (k : Int) = ((m ^^^ k : Nat) : Int) := by
  show (((BitVec.ofInt 64 (m : Int) ^^^ BitVec.ofInt 64 (k : Int)).toNat : Nat) : Int) = _
  rw [BitVec.toNat_xor, BitVec.ofInt_natCast, BitVec.ofInt_natCast, BitVec.toNat_ofNat, BitVec.toNat_ofNat, Nat.mod_eq_of_lt (by omega), Nat.mod_eq_of_lt (by omega)]
 rw [e]
 constructor
 ·omega
 ·omega
theorem pickX {x y k l : Int} (hx : 0 ≤ x ∧ x < 256) (hy : 0 ≤ y ∧ y < 256) (hk : 0 ≤ k ∧ k < 1000000000) (hl : 0 < l) :
  0 ≤ IntKind.wrap .i64 (xorI .i64 (IntKind.wrap .i64 (IntKind.wrap .i64 (IntKind.wrap .i64 (IntKind.wrap .i64 (x * 131) + IntKind.wrap .i64 (y * 1117)) + IntKind.wrap .i64 (k * 29)) + IntKind.wrap .i64 (IntKind.wrap .i64 (k.tdiv l) * 53))) (IntKind.wrap .i64 ((IntKind.wrap .i64 (IntKind.wrap .i64 (IntKind.wrap .i64 (IntKind.wrap .i64 (x * 131) + IntKind.wrap .i64 (y * 1117)) + IntKind.wrap .i64 (k * 29)) + IntKind.wrap .i64 (IntKind.wrap .i64 (k.tdiv l) * 53))).tdiv 64))) := by
 have hd : 0 ≤ k.tdiv l ∧ k.tdiv l ≤ k := by
  rw [Int.tdiv_eq_ediv_of_nonneg hk.1]
  exact ⟨Int.ediv_nonneg hk.1 (by omega), Int.ediv_le_self _ hk.1⟩
 generalize k.tdiv l = q at hd ⊢
 rw [wrap_ok (n := x * 131) (by omega) (by omega), wrap_ok (n := y * 1117) (by omega) (by omega), wrap_ok (n := k * 29) (by omega) (by omega), wrap_ok (n := q) (by omega) (by omega), wrap_ok (n := q * 53) (by omega) (by omega), wrap_ok (n := x * 131 + y * 1117) (by omega) (by omega), wrap_ok (n := x * 131 + y * 1117 + k * 29) (by omega) (by omega), wrap_ok (n := x * 131 + y * 1117 + k * 29 + q * 53) (by omega) (by omega)]
 have hs : 0 ≤ x * 131 + y * 1117 + k * 29 + q * 53 ∧ x * 131 + y * 1117 + k * 29 + q * 53 < 1000000000000 := by omega
 generalize x * 131 + y * 1117 + k * 29 + q * 53 = s at hs ⊢
 have ht : 0 ≤ s.tdiv 64 ∧ s.tdiv 64 ≤ s := by
  rw [Int.tdiv_eq_ediv_of_nonneg hs.1]
  exact ⟨Int.ediv_nonneg hs.1 (by omega), Int.ediv_le_self _ hs.1⟩
 generalize s.tdiv 64 = t at ht ⊢
 rw [wrap_ok (n := t) (by omega) (by omega)]
 have := xorI_ok (a := s) (b := t) hs.1 (by omega) ht.1 (by omega)
 rw [wrap_ok (by omega) (by omega)]
 exact this.1
theorem spec_Open (c : List Int) (hl : c.length ≤ 1048576) (hb : ∀ x ∈ c, 0 ≤ x ∧ x < 256) : XC Try.prog 68 [.ro 1 (c.map U8D)] [] fun d ls => ∃ b c', CodeOk c' ∧ d = .lref 10 b [] 0 ∧ ls = [(10, b, Rd c' 0)] := by
 refine XC.intro' hm [10] rfl c68 (Nat.le_of_ble_eq_true rfl) ?_
 conv => whnf
 repeat' (first | (refine g_op ?_; conv => whnf) | (refine And.intro ?_ ?_; (focus exact au0); conv => whnf) | (refine g_seq ?_) | (refine XS.go ?_) | (refine g_ops ?_) | ((first | refine g_nil ?_ | refine g_cond ?_); conv => whnf) | fail)
 refine Br.mk (fun hb2 => ?_) (fun hb2 => ?_)
 ·have hlt := of_decide_eq_true hb2
  conv => whnf
  repeat' (first | (refine g_op ?_; conv => whnf) | (refine And.intro ?_ ?_; (focus exact au0); conv => whnf) | (refine g_seq ?_) | (refine XS.go ?_) | (refine g_ops ?_) | ((first | refine g_nil ?_ | refine g_ret ?_ | refine r_t ?_ | refine r_nil ?_ | refine fun _ => ?_); conv => whnf) | fail)
  have e : List.take ((2000 : Int) - 0).toNat (List.drop (Int.toNat 0) (c.map U8D)) = (c.take 2000).map U8D := by rw [List.map_take]; rfl
  exact ⟨_, c.take 2000, ⟨by simp; omega, fun x hx => hb x (List.mem_of_mem_take hx)⟩, rfl, congrArg (fun l => [(10, _, Go.Ab.D.agg [.ro 1 l, .int .i64 0])]) e⟩
 ·conv => whnf
  repeat' (first | (refine g_op ?_; conv => whnf) | (refine And.intro ?_ ?_; (focus exact au0); conv => whnf) | (refine g_seq ?_) | (refine XS.go ?_) | (refine g_ops ?_) | ((first | refine g_nil ?_ | refine g_skip ?_ | refine g_ret ?_ | refine r_t ?_ | refine r_nil ?_ | refine fun _ => ?_); conv => whnf) | fail)
  exact ⟨_, c, ⟨by simp at hb2; omega, hb⟩, rfl, rfl⟩
theorem pick0 (n : Int) (b : Nat) (c : List Int) (p : Nat) (hc : CodeOk c) (hp : p + 1 ≤ 1000000000) : XC Try.prog 69 [.lref 0 b [] 0, .int .i64 n] [(0, b, Rd c p)] fun d ls => (∃ v : Int, d = .int .i64 v ∧ (n < 1 ∧ v = 0 ∨ 0 ≤ v ∧ (0 < n → v < n))) ∧ ∃ p', p ≤ p' ∧ p' ≤ p + 1 ∧ ls = [(0, b, Rd c p')] := by
 refine XC.intro' hm [0] rfl c69 (Nat.le_of_ble_eq_true rfl) ?_
 have hw : IntKind.wrap .i64 ((p : Int) + 1) = ((p + 1 : Nat) : Int) := by rw [wrap_ok (by omega) (by omega)]; rfl
 have hk : IntKind.wrap .i64 (IntKind.wrap .i64 ((p : Int) + 1) - 1) = (p : Int) := by rw [hw, wrap_ok (by omega) (by omega)]; omega
 have hls : [((0 : Nat), b, Go.Ab.D.agg [.ro 1 (c.map U8D), .int .i64 (IntKind.wrap .i64 ((p : Int) + 1))])] = [(0, b, Rd c (p + 1))] := congrArg (fun x => [(0, b, Go.Ab.D.agg [.ro 1 (c.map U8D), .int .i64 x])]) hw
 conv => whnf
 repeat' (first | (refine z_ld1 ?_; first | (refine z_ld rfl rfl rfl rfl au1 au2 ?_; conv => whnf) | (refine z_ld0 rfl ?_; conv => whnf)) | (refine z_ld1g ?_; first | (refine z_ldg rfl rfl rfl rfl rfl rfl rfl (by (repeat intro _); exact ⟨au1, au2⟩) rfl rfl rfl rfl ?_; conv => whnf) | (refine z_ld0g ?_; (conv => whnf); refine And.intro ?_ ?_; (focus exact rfl); conv => whnf)) | (refine z_st1 ?_; first | (refine z_st rfl rfl rfl au1 au2 rfl rfl ?_; conv => whnf) | (refine z_st0 ?_; conv => whnf)) | (refine z_op ?_ ?_; (focus exact rfl); conv => whnf) | (refine z_opg0 ?_; (conv => whnf); refine And.intro ?_ ?_; (focus exact rfl); conv => whnf) | (refine z_pick ?_ ?_; (focus exact rfl); conv => whnf) | (refine zs_ops ?_ ?_; (focus exact rfl)) | ((first | refine z_nil fun vals => ?_ | refine g_op ?_); conv => whnf) | (refine And.intro ?_ ?_; (focus exact au0); conv => whnf) | (refine g_seq ?_) | (refine XS.go ?_) | (refine g_ops ?_) | ((first | refine g_nil ?_ | refine g_cond ?_); conv => whnf) | fail)
 refine Br.mk (fun hb => ?_) (fun hb => ?_)
 ·conv => whnf
  repeat' (first | (refine g_op ?_; conv => whnf) | (refine And.intro ?_ ?_; (focus exact au0); conv => whnf) | (refine g_seq ?_) | (refine XS.go ?_) | (refine g_ops ?_) | ((first | refine g_nil ?_ | refine g_ret ?_ | refine r_t ?_ | refine r_nil ?_); conv => whnf) | fail)
  refine ⟨⟨0, rfl, ?_⟩, p + 1, by omega, by omega, hls⟩
  by_cases h : n < 1
  ·exact .inl ⟨h, rfl⟩
  ·exact .inr ⟨Int.le_refl _, id⟩
 have hn : 1 ≤ n ∧ 0 < c.length := by
  simp at hb
  have := List.length_pos_iff.2 hb.2
  omega
 obtain ⟨hn, hpos⟩ := hn
 clear hb
 conv => whnf
 repeat' (first | (refine z_ld1 ?_; first | (refine z_ld rfl rfl rfl rfl au1 au2 ?_; conv => whnf) | (refine z_ld0 rfl ?_; conv => whnf)) | (refine z_op ?_ ?_; (focus exact rfl); conv => whnf) | (refine zs_ops ?_ ?_; (focus exact rfl)) | (refine z_nil fun vals => ?_; conv => whnf) | (refine And.intro ?_ ?_; (focus exact au0); conv => whnf) | (refine g_seq ?_) | (refine XS.go ?_) | ((first | refine g_cond ?_ | refine g_skip ?_); conv => whnf) | fail)
 refine Br.mk (fun hb => ?_) (fun hb => ?_)
 ·have hlt : p < c.length := by rw [hk] at hb; simpa using hb
  clear hb
  have hB := hc.get (IntKind.wrap .i64 (IntKind.wrap .i64 ((p : Int) + 1) - 1)).toNat
  conv => whnf
  repeat' (first | (refine z_ld1 ?_; first | (refine z_ld rfl rfl rfl rfl au1 au2 ?_; conv => whnf) | (refine z_ld0 rfl ?_; conv => whnf)) | (refine z_ix1 ?_; first | (refine z_ix rfl rfl rfl rfl rfl ⟨by first | omega | (simp only [decide_eq_true_eq, Bool.not_eq_true', Bool.or_eq_false_iff, decide_eq_false_iff_not, Bool.and_eq_true, Bool.not_eq_false'] at *; omega), by first | omega | (simp only [decide_eq_true_eq, Bool.not_eq_true', Bool.or_eq_false_iff, decide_eq_false_iff_not, Bool.and_eq_true, Bool.not_eq_false'] at *; omega)⟩ ?_; conv => whnf) | (refine z_ix0 rfl rfl ?_; conv => whnf)) | (refine z_op ?_ ?_; (focus exact rfl); conv => whnf) | (refine zs_ops ?_ ?_; (focus exact rfl)) | (refine z_nil fun vals => ?_; conv => whnf) | (refine And.intro ?_ ?_; (focus exact au0); conv => whnf) | (refine g_seq ?_) | (refine XS.go ?_) | ((first | refine g_ret ?_ | refine r_t ?_ | refine r_nil ?_); conv => whnf) | fail)
  have hX : IntKind.wrap .i64 (c.getD (IntKind.wrap .i64 (IntKind.wrap .i64 ((p : Int) + 1) - 1)).toNat default) = c.getD (IntKind.wrap .i64 (IntKind.wrap .i64 ((p : Int) + 1) - 1)).toNat default := wrap_ok (by omega) (by omega)
  refine ⟨⟨_, rfl, ?_⟩, p + 1, by omega, by omega, hls⟩
  rw [hX]
  exact .inr ⟨Int.tmod_nonneg _ hB.1, fun h => Int.tmod_lt_of_pos _ h⟩
 clear hb
 have hL : ((c.map U8D).length : Int) = c.length := by simp
 have h0 : ((c.map U8D).length : Int) ≠ 0 := by omega
 have hi1 : 0 ≤ (p : Int).tmod ((c.map U8D).length : Int) ∧ (p : Int).tmod ((c.map U8D).length : Int) < c.length := ⟨Int.tmod_nonneg _ (by omega), by have := Int.tmod_lt_of_pos (p : Int) (b := ((c.map U8D).length : Int)) (by omega); omega⟩
 have hi2 : 0 ≤ (IntKind.wrap .i64 (IntKind.wrap .i64 ((p : Int) * 7) + 3)).tmod ((c.map U8D).length : Int) ∧ (IntKind.wrap .i64 (IntKind.wrap .i64 ((p : Int) * 7) + 3)).tmod ((c.map U8D).length : Int) < c.length := ⟨Int.tmod_nonneg _ (by rw [wrap_ok (n := (p : Int) * 7) (by omega) (by omega), wrap_ok (by omega) (by omega)]; omega), by have := Int.tmod_lt_of_pos (IntKind.wrap .i64 (IntKind.wrap .i64 ((p : Int) * 7) + 3)) (b := ((c.map U8D).length : Int)) (by omega); omega⟩
 rw [← hk] at hi1 hi2
 conv => whnf
 repeat' (first | ((refine And.intro h0 ?_; conv => whnf)) | (refine z_ld1 ?_; first | (refine z_ld rfl rfl rfl rfl au1 au2 ?_; conv => whnf) | (refine z_ld0 rfl ?_; conv => whnf)) | (refine z_ix1 ?_; first | (refine z_ix rfl rfl rfl rfl rfl ⟨by first | omega | (simp only [decide_eq_true_eq, Bool.not_eq_true', Bool.or_eq_false_iff, decide_eq_false_iff_not, Bool.and_eq_true, Bool.not_eq_false'] at *; omega), by first | omega | (simp only [decide_eq_true_eq, Bool.not_eq_true', Bool.or_eq_false_iff, decide_eq_false_iff_not, Bool.and_eq_true, Bool.not_eq_false'] at *; omega)⟩ ?_; conv => whnf) | (refine z_ix0 rfl rfl ?_; conv => whnf)) | (refine z_op ?_ ?_; (focus exact rfl); conv => whnf) | (refine zs_quiet ?_ ?_; (focus exact rfl)) | ((first | refine z_nil fun vals => ?_ | refine g_op ?_); conv => whnf) | (refine And.intro ?_ ?_; (focus exact au0); conv => whnf) | (refine g_seq ?_) | (refine XS.go ?_) | (refine g_ops ?_) | ((first | refine g_nil ?_ | refine g_skip ?_ | refine g_ret ?_ | refine r_t ?_ | refine r_nil ?_); conv => whnf) | fail)
 have hbx : ∀ i, 0 ≤ IntKind.wrap .i64 (c.getD i default) ∧ IntKind.wrap .i64 (c.getD i default) < 256 := fun i => by
  have := hc.get i
  rw [wrap_ok (by omega) (by omega)]
  exact this
 refine ⟨⟨_, rfl, ?_⟩, p + 1, by omega, by omega, hls⟩
 exact .inr ⟨Int.tmod_nonneg _ (pickX (hbx _) (hbx _) (by rw [hk]; omega) (by omega)), fun h => Int.tmod_lt_of_pos _ h⟩
theorem pick (n : Int) : MK 69 [.int .i64 n] (fun d => ∃ v : Int, d = .int .i64 v ∧ (n < 1 ∧ v = 0 ∨ 0 ≤ v ∧ (0 < n → v < n))) 1 := MK.of0 (pick0 n)
theorem XCL.pkv {n : Int} (hn : 0 < n) {s b : Nat} {c : List Int} {p : Nat} {st : St} {K : Go.Ab.D → St → Prop} (hc : CodeOk c) (hp : p + 1 ≤ 1000000000) (hl : LoanOk st [(s, b, Rd c p)])
  (hK : ∀ (v : Int) (p' : Nat), 0 ≤ v → v < n → p ≤ p' → p' ≤ p + 1 → K (.int .i64 v) (st.back [(s, b, Rd c p)] [(s, b, Rd c p')])) : XCL Try.prog 69 [.lref s b [] 0, .int .i64 n] st K :=
 .mkr (pick n) hc hp hl fun d p' hR h1 h2 => by
  obtain ⟨v, rfl, hv⟩ := hR
  refine hK v p' ?_ ?_ h1 h2 <;> omega
theorem XCL.pk2 {s b : Nat} {c : List Int} {p : Nat} {st : St} {K : Go.Ab.D → St → Prop} (hc : CodeOk c) (hp : p + 1 ≤ 1000000000) (hl : LoanOk st [(s, b, Rd c p)])
  (h0 : ∀ p' : Nat, p ≤ p' → p' ≤ p + 1 → K (.int .i64 0) (st.back [(s, b, Rd c p)] [(s, b, Rd c p')])) (h1 : ∀ p' : Nat, p ≤ p' → p' ≤ p + 1 → K (.int .i64 1) (st.back [(s, b, Rd c p)] [(s, b, Rd c p')])) : XCL Try.prog 69 [.lref s b [] 0, .int .i64 2] st K :=
 .pkv (by decide) hc hp hl fun v p' q0 q1 h1' h2' => by
  have hs : v = 0 ∨ v = 1 := by omega
  rcases hs with rfl | rfl
  ·exact h0 p' h1' h2'
  ·exact h1 p' h1' h2'
theorem XCL.pk3 {s b : Nat} {c : List Int} {p : Nat} {st : St} {K : Go.Ab.D → St → Prop} (hc : CodeOk c) (hp : p + 1 ≤ 1000000000) (hl : LoanOk st [(s, b, Rd c p)])
  (h0 : ∀ p' : Nat, p ≤ p' → p' ≤ p + 1 → K (.int .i64 0) (st.back [(s, b, Rd c p)] [(s, b, Rd c p')])) (h1 : ∀ p' : Nat, p ≤ p' → p' ≤ p + 1 → K (.int .i64 1) (st.back [(s, b, Rd c p)] [(s, b, Rd c p')])) (h2 : ∀ p' : Nat, p ≤ p' → p' ≤ p + 1 → K (.int .i64 2) (st.back [(s, b, Rd c p)] [(s, b, Rd c p')])) : XCL Try.prog 69 [.lref s b [] 0, .int .i64 3] st K :=
 .pkv (by decide) hc hp hl fun v p' q0 q1 h1' h2' => by
  have hs : v = 0 ∨ v = 1 ∨ v = 2 := by omega
  rcases hs with rfl | rfl | rfl
  ·exact h0 p' h1' h2'
  ·exact h1 p' h1' h2'
  ·exact h2 p' h1' h2'
theorem XCL.pk4 {s b : Nat} {c : List Int} {p : Nat} {st : St} {K : Go.Ab.D → St → Prop} (hc : CodeOk c) (hp : p + 1 ≤ 1000000000) (hl : LoanOk st [(s, b, Rd c p)])
  (h0 : ∀ p' : Nat, p ≤ p' → p' ≤ p + 1 → K (.int .i64 0) (st.back [(s, b, Rd c p)] [(s, b, Rd c p')])) (h1 : ∀ p' : Nat, p ≤ p' → p' ≤ p + 1 → K (.int .i64 1) (st.back [(s, b, Rd c p)] [(s, b, Rd c p')])) (h2 : ∀ p' : Nat, p ≤ p' → p' ≤ p + 1 → K (.int .i64 2) (st.back [(s, b, Rd c p)] [(s, b, Rd c p')])) (h3 : ∀ p' : Nat, p ≤ p' → p' ≤ p + 1 → K (.int .i64 3) (st.back [(s, b, Rd c p)] [(s, b, Rd c p')])) : XCL Try.prog 69 [.lref s b [] 0, .int .i64 4] st K :=
 .pkv (by decide) hc hp hl fun v p' q0 q1 h1' h2' => by
  have hs : v = 0 ∨ v = 1 ∨ v = 2 ∨ v = 3 := by omega
  rcases hs with rfl | rfl | rfl | rfl
  ·exact h0 p' h1' h2'
  ·exact h1 p' h1' h2'
  ·exact h2 p' h1' h2'
  ·exact h3 p' h1' h2'
theorem XCL.pk5 {s b : Nat} {c : List Int} {p : Nat} {st : St} {K : Go.Ab.D → St → Prop} (hc : CodeOk c) (hp : p + 1 ≤ 1000000000) (hl : LoanOk st [(s, b, Rd c p)])
  (h0 : ∀ p' : Nat, p ≤ p' → p' ≤ p + 1 → K (.int .i64 0) (st.back [(s, b, Rd c p)] [(s, b, Rd c p')])) (h1 : ∀ p' : Nat, p ≤ p' → p' ≤ p + 1 → K (.int .i64 1) (st.back [(s, b, Rd c p)] [(s, b, Rd c p')])) (h2 : ∀ p' : Nat, p ≤ p' → p' ≤ p + 1 → K (.int .i64 2) (st.back [(s, b, Rd c p)] [(s, b, Rd c p')])) (h3 : ∀ p' : Nat, p ≤ p' → p' ≤ p + 1 → K (.int .i64 3) (st.back [(s, b, Rd c p)] [(s, b, Rd c p')])) (h4 : ∀ p' : Nat, p ≤ p' → p' ≤ p + 1 → K (.int .i64 4) (st.back [(s, b, Rd c p)] [(s, b, Rd c p')])) : XCL Try.prog 69 [.lref s b [] 0, .int .i64 5] st K :=
 .pkv (by decide) hc hp hl fun v p' q0 q1 h1' h2' => by
  have hs : v = 0 ∨ v = 1 ∨ v = 2 ∨ v = 3 ∨ v = 4 := by omega
  rcases hs with rfl | rfl | rfl | rfl | rfl
  ·exact h0 p' h1' h2'
  ·exact h1 p' h1' h2'
  ·exact h2 p' h1' h2'
  ·exact h3 p' h1' h2'
  ·exact h4 p' h1' h2'
def strB : List Go.Ab.D → Bool
 | [] => true
 | .str _ :: l => strB l
 | _ :: _ => false
def intB : List Go.Ab.D → Bool
 | [] => true
 | .int .i64 _ :: l => intB l
 | _ :: _ => false
theorem strB_get : ∀ {ds : List Go.Ab.D} {i : Nat}, strB ds = true → i < ds.length → ∃ s, ds.getD i .any = .str s
 | .str s :: l, 0, _, _ => ⟨s, rfl⟩
 | .str s :: l, i + 1, h, hi => by
  obtain ⟨s, e⟩ := strB_get (ds := l) (i := i) h (by simpa using hi)
  exact ⟨s, by simpa using e⟩
theorem intB_get : ∀ {ds : List Go.Ab.D} {i : Nat}, intB ds = true → i < ds.length → ∃ s, ds.getD i .any = .int .i64 s
 | .int .i64 s :: l, 0, _, _ => ⟨s, rfl⟩
 | .int .i64 s :: l, i + 1, h, hi => by
  obtain ⟨s, e⟩ := intB_get (ds := l) (i := i) h (by simpa using hi)
  exact ⟨s, by simpa using e⟩
section
variable {P : Program} {n : Nat} {dst : Option Nat} {es : Nat} {x i : Opd} {rs : List Opd} {os : List (COp × Bool × List Opd)} {st : St} {K : St → Prop} {ds : List Go.Ab.D} {k : IntKind} {v : Int}
theorem d_ixs (hx : x.ev st = .ro es ds) (hi : i.ev st = .int k v) (hs : strB ds = true) (hes : Nat.ble 1 es = true) (h0 : 0 ≤ v) (h1 : v < ds.length) (h : ∀ s, putS n dst (.cref (.str s)) st fun st2 => xd P n os st2 K) : xd P n ((⟨dst, .ix es x i, none⟩, false, rs) :: os) st K := by
 obtain ⟨s, e⟩ := strB_get (i := v.toNat) hs (by omega)
 refine d_p ?_
 show xidx es (x.ev st) (i.ev st) _
 rw [hx, hi]
 refine ⟨rfl, by have := Nat.le_of_ble_eq_true hes; omega, h0, h1, ?_⟩
 rw [e]
 exact h s
theorem d_ixi (hx : x.ev st = .ro es ds) (hi : i.ev st = .int k v) (hs : intB ds = true) (hes : Nat.ble 1 es = true) (h0 : 0 ≤ v) (h1 : v < ds.length) (h : ∀ s, putS n dst (.cref (.int .i64 s)) st fun st2 => xd P n os st2 K) : xd P n ((⟨dst, .ix es x i, none⟩, false, rs) :: os) st K := by
 obtain ⟨s, e⟩ := intB_get (i := v.toNat) hs (by omega)
 refine d_p ?_
 show xidx es (x.ev st) (i.ev st) _
 rw [hx, hi]
 refine ⟨rfl, by have := Nat.le_of_ble_eq_true hes; omega, h0, h1, ?_⟩
 rw [e]
 exact h s
end
end Go.Ab
set_option linter.unusedSimpArgs false
set_option linter.unusedVariables false
namespace Go.Ab
open Go Go.RowKit Go.Proofs
attribute [local irreducible] XC Rdr IntKind.wrap xw xos xqs xr xd
set_option maxRecDepth 100000
set_option maxHeartbeats 16000000
def cf71 : CF := ⟨26,[.c 4 7 true],(.seq (.ops [Oo 4 (.al (.agg [.str ⟨#[]⟩,.int .i64 0,.str ⟨#[]⟩,.int .i64 0,.int .i64 0,.int .i64 0,.int .i64 0]))]) (.seq (.drawn [Qm 5 1,Qm 6 0,Qo 9 (.bsl (.str ⟨#[]⟩) 4 [(0,(.k (.str ⟨#[]⟩))),(1,(.k (.str ⟨#[118,111,108]⟩))),(2,(.k (.str ⟨#[105,112]⟩))),(3,(.k (.str ⟨#[118,111,108,50]⟩)))]),Qm 10 0,Qm 14 0,Qm 16 0,Qo 18 (.bsl (.int .i64 0) 6 [(0,(.k (.int .i64 0))),(1,(.k (.int .i64 0))),(2,(.k (.int .i64 0))),(3,(.k (.int .i64 1))),(4,(.k (.int .i64 3))),(5,(.k (.int .i64 8)))]),Qm 19 0,Qm 23 0,(Oc 7 69 [.t 6,(.k (.int .i64 3))],true,[]),Qo 8 (.bin .add (.k (.int .i64 1)) (.t 7)),(Oc 11 69 [.t 10,(.k (.int .i64 4))],true,[]),Qx 12 1 9 11,Ql 13 12,(Oc 15 69 [.t 14,(.k (.int .i64 4))],true,[(.t 12)]),(Oc 17 69 [.t 16,(.k (.int .i64 3))],true,[(.t 12)]),(Oc 20 69 [.t 19,(.k (.int .i64 6))],true,[(.t 12)]),Qx 21 1 18 20,Ql 22 21,(Oc 24 69 [.t 23,(.k (.int .i64 4))],true,[(.t 21),(.t 12)]),Qo 25 (.bld (.agg [.str ⟨#[]⟩,.int .i64 0,.str ⟨#[]⟩,.int .i64 0,.int .i64 0,.int .i64 0,.int .i64 0]) [(0,0,1,(.t 5)),(1,1,1,(.t 8)),(2,2,1,(.t 13)),(3,3,1,(.t 15)),(4,4,1,(.t 17)),(5,5,1,(.t 22)),(6,6,1,(.t 24))]),Qs 7 4 25]) .ret))⟩
theorem c71 : compileF Try.prog [] 71 = some cf71 := by kernel_rfl
def cf121 : CF := ⟨20,[.t 4],(.seq (.ops [Ok 4 (.str ⟨#[]⟩)]) (.seq (.ops [Ok 5 (.str ⟨#[]⟩)]) (.seq (.block 0 (.loop (.seq (.seq (.ops [Om 6 1,Oo 7 (.bin .gtr (.t 6) (.k (.int .i64 0)))]) (.cond (.t 7) .skip (.exit 0))) (.block 1 (.seq (.seq (.ops [Om 8 1,Oo 9 (.bin .rem (.t 8) (.k (.int .i64 2))),Oo 10 (.bin .eql (.t 9) (.k (.int .i64 1)))]) (.cond (.t 10) (.ops [Om 11 5,Om 12 0,Ob 13 .add 11 12,Om 5 13]) .skip)) (.seq (.ops [Om 14 0,Om 15 0,Ob 16 .add 14 15,Om 0 16]) (.ops [Om 17 1,Oo 18 (.bin .quo (.t 17) (.k (.int .i64 2))),Om 1 18]))))))) (.seq (.ops [Om 19 5,Om 4 19]) .ret))))⟩
theorem c121 : compileF Try.prog [] 121 = some cf121 := by kernel_rfl
def cf106 : CF := ⟨66,[.c 4 7 true],(.seq (.ops [Oo 3 (.bx (.t 1)),Oo 4 (.al (.agg [.str ⟨#[]⟩,.int .i64 0,.str ⟨#[]⟩,.int .i64 0,.int .i64 0,.int .i64 0,.int .i64 0]))]) (.seq (.seq (.ops [Om 5 0,Oc 6 69 [.t 5,(.k (.int .i64 7))]]) (.block 0 (.seq (.ops [Oo 14 (.bin .eql (.t 6) (.k (.int .i64 0))),Om 13 14]) (.cond (.t 13) (.ops [Om 15 0,Oc 16 69 [.t 15,(.k (.int .i64 2))],Oo 17 (.bin .add (.k (.int .i64 20)) (.t 16)),Oc 18 121 [(.k (.str ⟨#[110]⟩)),(.t 17)],Oo 19 (.bsl (.str ⟨#[]⟩) 3 [(0,(.k (.str ⟨#[]⟩))),(1,(.k (.str ⟨#[120,32,121]⟩))),(2,(.t 18))]),Om 20 0,Oc 21 69 [.t 20,(.k (.int .i64 3))],Ox 22 1 19 21,Ol 23 22,Of 24 0 3,Os 1 24 23]) (.seq (.ops [Oo 26 (.bin .eql (.t 6) (.k (.int .i64 1))),Om 25 26]) (.cond (.t 25) (.ops [Oo 27 (.bsl (.int .i64 0) 3 [(0,(.k (.int .i64 0))),(1,(.k (.int .i64 1000000))),(2,(.k (.int .i64 1000001)))]),Om 28 0,Oc 29 69 [.t 28,(.k (.int .i64 3))],Ox 30 1 27 29,Ol 31 30,Of 32 1 3,Os 1 32 31]) (.seq (.ops [Oo 34 (.bin .eql (.t 6) (.k (.int .i64 2))),Om 33 34]) (.cond (.t 33) (.ops [Oo 35 (.bsl (.str ⟨#[]⟩) 3 [(0,(.k (.str ⟨#[120,32,121]⟩))),(1,(.k (.str ⟨#[42]⟩))),(2,(.k (.str ⟨#[118,111,108]⟩)))]),Om 36 0,Oc 37 69 [.t 36,(.k (.int .i64 3))],Ox 38 1 35 37,Ol 39 38,Of 40 2 3,Os 1 40 39]) (.seq (.ops [Oo 42 (.bin .eql (.t 6) (.k (.int .i64 3))),Om 41 42]) (.cond (.t 41) (.ops [Oo 43 (.bsl (.int .i64 0) 3 [(0,(.k (.int .i64 (-1)))),(1,(.k (.int .i64 100))),(2,(.k (.int .i64 101)))]),Om 44 0,Oc 45 69 [.t 44,(.k (.int .i64 3))],Ox 46 1 43 45,Ol 47 46,Of 48 3 3,Os 1 48 47]) (.seq (.ops [Oo 50 (.bin .eql (.t 6) (.k (.int .i64 4))),Om 49 50]) (.cond (.t 49) (.ops [Oo 51 (.bsl (.int .i64 0) 3 [(0,(.k (.int .i64 (-1)))),(1,(.k (.int .i64 100))),(2,(.k (.int .i64 101)))]),Om 52 0,Oc 53 69 [.t 52,(.k (.int .i64 3))],Ox 54 1 51 53,Ol 55 54,Of 56 4 3,Os 1 56 55]) (.seq (.ops [Oo 58 (.bin .eql (.t 6) (.k (.int .i64 5))),Om 57 58]) (.cond (.t 57) (.ops [Oo 59 (.bsl (.int .i64 0) 3 [(0,(.k (.int .i64 (-1)))),(1,(.k (.int .i64 100))),(2,(.k (.int .i64 101)))]),Om 60 0,Oc 61 69 [.t 60,(.k (.int .i64 3))],Ox 62 1 59 61,Ol 63 62,Of 64 5 3,Os 1 64 63]) (.ops [Oo 7 (.bsl (.int .i64 0) 3 [(0,(.k (.int .i64 (-1)))),(1,(.k (.int .i64 100))),(2,(.k (.int .i64 101)))]),Om 8 0,Oc 9 69 [.t 8,(.k (.int .i64 3))],Ox 10 1 7 9,Ol 11 10,Of 12 6 3,Os 1 12 11]))))))))))))))) (.seq (.ops [Od 65 7 3,Os 7 4 65]) .ret)))⟩
theorem c106 : compileF Try.prog [] 106 = some cf106 := by kernel_rfl
def cf70 : CF := ⟨38,[.c 6 11 true],(.seq (.ops [Oo 6 (.al (.agg [.agg [.str ⟨#[]⟩,.int .i64 0,.str ⟨#[]⟩,.int .i64 0,.int .i64 0,.int .i64 0,.int .i64 0],.int .i64 0,.int .i64 0,.int .i64 0,.int .i64 0]))]) (.seq (.ops [Om 8 0,Om 9 1,Oc 10 71 [.t 8,.t 9],Om 11 0,Oc 12 69 [.t 11,(.k (.int .i64 6))],Oo 13 (.bin .add (.k (.int .i64 1)) (.t 12)),Om 14 0,Oc 15 69 [.t 14,(.k (.int .i64 5))],Om 16 0,Oc 17 69 [.t 16,(.k (.int .i64 6))],Oo 18 (.bld (.agg [.agg [.str ⟨#[]⟩,.int .i64 0,.str ⟨#[]⟩,.int .i64 0,.int .i64 0,.int .i64 0,.int .i64 0],.int .i64 0,.int .i64 0,.int .i64 0,.int .i64 0]) [(0,0,7,(.t 10)),(1,7,1,(.t 13)),(2,8,1,(.t 15)),(3,9,1,(.t 17))]),Oo 7 (.al (.agg [.agg [.str ⟨#[]⟩,.int .i64 0,.str ⟨#[]⟩,.int .i64 0,.int .i64 0,.int .i64 0,.int .i64 0],.int .i64 0,.int .i64 0,.int .i64 0,.int .i64 0])),Os 11 7 18]) (.seq (.seq (.ops [Oo 19 (.fa 0 7 0 (.t 7)),Of 20 2 19,Ol 21 20,Oo 22 (.bin .neq (.t 21) (.k (.str ⟨#[]⟩)))]) (.cond (.t 22) (.seq (.ops [Om 23 2,Om 24 0,Oc 25 69 [.t 24,(.k (.int .i64 14))],Ob 26 .add 23 25,Oo 27 (.bin .sub (.t 26) (.k (.int .i64 4))),Oo 28 (.fa 10 1 4 (.t 7)),Os 1 28 27]) (.seq (.ops [Oo 29 (.fa 10 1 4 (.t 7)),Ol 30 29,Oo 31 (.bin .lss (.t 30) (.k (.int .i64 0)))]) (.cond (.t 31) (.ops [Oo 32 (.fa 10 1 4 (.t 7)),⟨none,.st 1 (.t 32) (.k (.int .i64 0)),none⟩]) .skip))) .skip)) (.seq (.seq (.ops [Oo 33 (.fa 7 1 1 (.t 7)),Ol 34 33,Oo 35 (.bin .eql (.t 34) (.k (.int .i64 2)))]) (.cond (.t 35) (.ops [Oo 36 (.fa 8 1 2 (.t 7)),⟨none,.st 1 (.t 36) (.k (.int .i64 0)),none⟩]) .skip)) (.seq (.ops [Od 37 11 7,Os 11 6 37]) .ret)))))⟩
theorem c70 : compileF Try.prog [] 70 = some cf70 := by kernel_rfl
def cf72 : CF := ⟨47,[.c 4 11 true],(.seq (.ops [Oo 3 (.bx (.t 1)),Oo 4 (.al (.agg [.agg [.str ⟨#[]⟩,.int .i64 0,.str ⟨#[]⟩,.int .i64 0,.int .i64 0,.int .i64 0,.int .i64 0],.int .i64 0,.int .i64 0,.int .i64 0,.int .i64 0]))]) (.seq (.seq (.ops [Om 5 0,Oc 6 69 [.t 5,(.k (.int .i64 6))]]) (.block 0 (.seq (.ops [Oo 10 (.bin .eql (.t 6) (.k (.int .i64 0))),Om 9 10]) (.cond (.t 9) (.ops [Om 11 0,Oo 12 (.fa 0 7 0 (.t 3)),Od 13 7 12,Oc 14 106 [.t 11,.t 13],Oo 15 (.fa 0 7 0 (.t 3)),Os 7 15 14]) (.seq (.ops [Oo 17 (.bin .eql (.t 6) (.k (.int .i64 1))),Om 16 17]) (.cond (.t 16) (.ops [Om 18 0,Oc 19 69 [.t 18,(.k (.int .i64 9))],Oo 20 (.bin .sub (.t 19) (.k (.int .i64 1))),Oo 21 (.fa 7 1 1 (.t 3)),Os 1 21 20]) (.seq (.ops [Oo 23 (.bin .eql (.t 6) (.k (.int .i64 2))),Om 22 23]) (.cond (.t 22) (.ops [Oo 24 (.bsl (.int .i64 0) 3 [(0,(.k (.int .i64 (-1)))),(1,(.k (.int .i64 100))),(2,(.k (.int .i64 101)))]),Om 25 0,Oc 26 69 [.t 25,(.k (.int .i64 3))],Ox 27 1 24 26,Ol 28 27,Oo 29 (.fa 8 1 2 (.t 3)),Os 1 29 28]) (.seq (.ops [Oo 31 (.bin .eql (.t 6) (.k (.int .i64 3))),Om 30 31]) (.cond (.t 30) (.ops [Oo 32 (.bsl (.int .i64 0) 3 [(0,(.k (.int .i64 (-1)))),(1,(.k (.int .i64 1000))),(2,(.k (.int .i64 1001)))]),Om 33 0,Oc 34 69 [.t 33,(.k (.int .i64 3))],Ox 35 1 32 34,Ol 36 35,Oo 37 (.fa 9 1 3 (.t 3)),Os 1 37 36]) (.seq (.ops [Oo 39 (.bin .eql (.t 6) (.k (.int .i64 4))),Om 38 39]) (.cond (.t 38) (.ops [Oo 40 (.bsl (.int .i64 0) 5 [(0,(.k (.int .i64 (-1)))),(1,(.k (.int .i64 0))),(2,(.k (.int .i64 1))),(3,(.k (.int .i64 1000016))),(4,(.k (.int .i64 1000017)))]),Om 41 0,Oc 42 69 [.t 41,(.k (.int .i64 5))],Ox 43 1 40 42,Ol 44 43,Oo 45 (.fa 10 1 4 (.t 3)),Os 1 45 44]) (.ops [Oo 7 (.fa 0 7 0 (.t 3)),Of 8 2 7,⟨none,.st 1 (.t 8) (.k (.str ⟨#[]⟩)),none⟩]))))))))))))) (.seq (.ops [Od 46 11 3,Os 11 4 46]) .ret)))⟩
theorem c72 : compileF Try.prog [] 72 = some cf72 := by kernel_rfl
abbrev isWant (d : Go.Ab.D) : Prop := ∃ w : MateWant, d = w.D
abbrev isRun (d : Go.Ab.D) : Prop := ∃ r : MateRun, d = r.D
theorem want_ex (a : ByteArray) (b : Int) (c : ByteArray) (d e f g : Int) : isWant (.agg [.str a, .int .i64 b, .str c, .int .i64 d, .int .i64 e, .int .i64 f, .int .i64 g]) := ⟨⟨a, b, c, d, e, f, g⟩, rfl⟩
theorem run_ex (a : ByteArray) (b : Int) (c : ByteArray) (d e f g h i j k : Int) : isRun (.agg [.agg [.str a, .int .i64 b, .str c, .int .i64 d, .int .i64 e, .int .i64 f, .int .i64 g], .int .i64 h, .int .i64 i, .int .i64 j, .int .i64 k]) := ⟨⟨⟨a, b, c, d, e, f, g⟩, h, i, j, k⟩, rfl⟩
theorem catOk {a b : Nat} (h : a + b ≤ 100000000) : ¬ (((a + b : Nat) : Int) > IntKind.i64.max) := by
 show ¬ (((a + b : Nat) : Int) > 9223372036854775807)
 omega
theorem mkWant (copy : ByteArray) : MK 71 [.str copy] isWant 6 := by
 refine MK.of0 fun b c p hc hp => ?_
 refine XC.intro' hm [0] rfl c71 (Nat.le_of_ble_eq_true rfl) ?_
 conv => whnf
 repeat' (first | ((refine And.intro True.intro ?_; conv => whnf)) | ((refine d_ixs rfl rfl rfl rfl (by omega) (by simp; omega) (fun _ => ?_); conv => whnf)) | ((refine d_ixi rfl rfl rfl rfl (by omega) (by simp; omega) (fun _ => ?_); conv => whnf)) | ((refine XCL.pkv (by decide) hc (by omega) ⟨rfl, rfl, rfl, True.intro⟩ (fun _ _ _ _ _ _ => ?_); conv => whnf)) | (refine g_op ?_; conv => whnf) | (refine And.intro ?_ ?_; (focus exact au0); conv => whnf) | (refine g_seq ?_) | (refine XS.go ?_) | (refine g_ops ?_) | ((first | refine g_nil ?_ | refine g_ret ?_); conv => whnf) | (refine g_drawn ?_) | ((first | refine d_p ?_ | refine d_e ?_ | refine d_nil ?_ | refine r_c ?_ | refine r_nil ?_ | refine fun _ => ?_); conv => whnf) | fail)
 all_goals (refine And.intro (want_ex _ _ _ _ _ _ _) ⟨_, ?_, ?_, rfl⟩)
 all_goals omega
theorem manyX (s : ByteArray) (n : Int) (hs : s.size = 1) (h0 : 0 ≤ n) (h1 : n ≤ 1000) : XC Try.prog 121 [.str s, .int .i64 n] [] fun d ls => ls = [] ∧ ∃ t, d = .str t := by
 obtain ⟨m, rfl⟩ := Int.eq_ofNat_of_zero_le h0
 refine XC.intro' hm [] rfl c121 (Nat.le_of_ble_eq_true rfl) ?_
 conv => whnf
 repeat' (first | (refine g_op ?_; conv => whnf) | (refine And.intro ?_ ?_; (focus exact au0); conv => whnf) | (refine g_seq ?_) | (refine XS.go ?_) | (refine g_ops ?_) | (refine g_loop ?_) | (refine g_nil ?_; conv => whnf) | (refine g_block ?_) | fail)
 refine XLc.mkA (α := ByteArray × ByteArray × Nat) (fun x => x.1.size * x.2.2 + x.2.1.size ≤ 100000 ∧ x.1.size ≤ 200000 ∧ x.2.2 ≤ 1000) (fun x => x.2.2) (fun x gs => [.str x.1, .int .i64 (x.2.2 : Int), .any, .any, .any, .str x.2.1]) (fun x gs => []) (s, ⟨#[]⟩, m) ⟨?_, ?_, ?_⟩ ?_ ?_
 ·show s.size * m + 0 ≤ 100000
  rw [hs]
  omega
 ·show s.size ≤ 200000
  omega
 ·show m ≤ 1000
  omega
 ·refine ⟨?_, True.intro⟩
  repeat' (first | exact True.intro | refine And.intro rfl ?_)
 intro x gs ⟨hI1, hI2, hI3⟩
 repeat' (first | (refine g_op ?_; conv => whnf) | (refine And.intro ?_ ?_; (focus exact au0); conv => whnf) | (refine g_seq ?_) | (refine XS.go ?_) | (refine g_ops ?_) | ((first | refine g_nil ?_ | refine g_cond ?_); conv => whnf) | fail)
 refine Br.mk (fun hb => ?_) (fun hb => ?_)
 ·have hn : 0 < x.2.2 := by simp at hb; omega
  clear hb
  have hq : IntKind.wrap .i64 ((x.2.2 : Int).tdiv 2) = ((x.2.2 / 2 : Nat) : Int) := by rw [wrap_ok] <;> (rw [Int.tdiv_eq_ediv_of_nonneg (by omega)]; omega)
  have hm1 : x.1.size * 1 ≤ x.1.size * x.2.2 := Nat.mul_le_mul_left _ hn
  have hm2 : x.1.size * 2 * (x.2.2 / 2) ≤ x.1.size * x.2.2 := by rw [Nat.mul_assoc]; exact Nat.mul_le_mul_left _ (by omega)
  have hm3 : x.2.2 % 2 = 1 → x.1.size * 2 * (x.2.2 / 2) + x.1.size ≤ x.1.size * x.2.2 := fun h => by
   have e : x.2.2 = 2 * (x.2.2 / 2) + 1 := by omega
   have : x.1.size * x.2.2 = x.1.size * (2 * (x.2.2 / 2)) + x.1.size * 1 := by rw [← Nat.mul_add]; exact congrArg _ e
   rw [this, Nat.mul_assoc]
   omega
  have hs2 : (x.1 ++ x.1).size = x.1.size + x.1.size := ByteArray.size_append
  have ho2 : (x.2.1 ++ x.1).size = x.2.1.size + x.1.size := ByteArray.size_append
  have hss : x.1.size + x.1.size ≤ 200000 := by omega
  conv => whnf
  repeat' (first | (refine g_op ?_; conv => whnf) | (refine And.intro ?_ ?_; (focus exact au0); conv => whnf) | (refine g_seq ?_) | (refine XS.go ?_) | (refine g_ops ?_) | ((first | refine g_nil ?_ | refine g_cond ?_ | refine g_skip ?_); conv => whnf) | (refine g_block ?_) | fail)
  refine Br.mk (fun hb => ?_) (fun hb => ?_)
  ·have hodd : x.2.2 % 2 = 1 := by
    have e : ((x.2.2 : Int)).tmod 2 = ((x.2.2 % 2 : Nat) : Int) := by rw [Int.tmod_eq_emod_of_nonneg (by omega)]; omega
    rw [e] at hb
    simp at hb
    omega
   have := hm3 hodd
   conv => whnf
   repeat' (first | ((refine And.intro (catOk (by omega)) ?_; conv => whnf)) | (refine g_op ?_; conv => whnf) | (refine And.intro ?_ ?_; (focus exact au0); conv => whnf) | (refine g_seq ?_) | (refine XS.go ?_) | (refine g_ops ?_) | (refine g_nil ?_; conv => whnf) | fail)
   refine ⟨(x.1 ++ x.1, x.2.1 ++ x.1, x.2.2 / 2), ⟨?_, ?_, ?_⟩, ?_, ?_, True.intro⟩
   ·show (x.1 ++ x.1).size * (x.2.2 / 2) + (x.2.1 ++ x.1).size ≤ 100000
    rw [hs2, ho2, ← Nat.mul_two]
    omega
   ·show (x.1 ++ x.1).size ≤ 200000
    omega
   ·show x.2.2 / 2 ≤ 1000
    omega
   ·show x.2.2 / 2 < x.2.2
    omega
   ·repeat' (first | exact True.intro | refine And.intro (congrArg (D.int .i64) hq) ?_ | refine And.intro rfl ?_)
  ·conv => whnf
   repeat' (first | ((refine And.intro (catOk (by omega)) ?_; conv => whnf)) | (refine g_op ?_; conv => whnf) | (refine And.intro ?_ ?_; (focus exact au0); conv => whnf) | (refine g_seq ?_) | (refine XS.go ?_) | (refine g_ops ?_) | ((first | refine g_nil ?_ | refine g_skip ?_); conv => whnf) | fail)
   refine ⟨(x.1 ++ x.1, x.2.1, x.2.2 / 2), ⟨?_, ?_, ?_⟩, ?_, ?_, True.intro⟩
   ·show (x.1 ++ x.1).size * (x.2.2 / 2) + x.2.1.size ≤ 100000
    rw [hs2, ← Nat.mul_two]
    omega
   ·show (x.1 ++ x.1).size ≤ 200000
    omega
   ·show x.2.2 / 2 ≤ 1000
    omega
   ·show x.2.2 / 2 < x.2.2
    omega
   ·repeat' (first | exact True.intro | refine And.intro (congrArg (D.int .i64) hq) ?_ | refine And.intro rfl ?_)
 ·conv => whnf
  repeat' (first | (refine g_op ?_; conv => whnf) | (refine And.intro ?_ ?_; (focus exact au0); conv => whnf) | (refine g_seq ?_) | (refine XS.go ?_) | (refine g_ops ?_) | ((first | refine g_nil ?_ | refine g_ret ?_ | refine g_exit ?_ | refine r_t ?_ | refine r_nil ?_); conv => whnf) | fail)
  exact ⟨_, rfl⟩
theorem manyW (s : ByteArray) (v : Int) (hs : s.size = 1) (h0 : 0 ≤ v) (h1 : v < 2) : XC Try.prog 121 [.str s, .int .i64 (IntKind.wrap .i64 (20 + v))] [] fun d ls => ls = [] ∧ ∃ t, d = .str t := by
 rw [wrap_ok (by omega) (by omega)]
 exact manyX s _ hs (by omega) (by omega)
theorem mkSpoilWant (w : MateWant) : MK 106 [w.D] isWant 3 := by
 refine MK.of0 fun b c p hc hp => ?_
 refine XC.intro' hm [0] rfl c106 (Nat.le_of_ble_eq_true rfl) ?_
 conv => whnf
 repeat' (first | ((refine XCL.pk3 hc (by omega) ⟨rfl, rfl, rfl, True.intro⟩ (fun _ _ _ => ?_) (fun _ _ _ => ?_) (fun _ _ _ => ?_) <;> conv => whnf)) | ((refine XCL.pkv (by decide) hc (by omega) ⟨rfl, rfl, rfl, True.intro⟩ (fun _ _ _ _ _ _ => ?_); conv => whnf)) | ((refine XCL.ask (manyW _ _ rfl (by omega) (by omega)) (fun d hd => ?_); obtain ⟨t, rfl⟩ := hd; conv => whnf)) | (refine g_op ?_; conv => whnf) | (refine And.intro ?_ ?_; (focus exact au0); conv => whnf) | (refine g_seq ?_) | (refine XS.go ?_) | (refine g_ops ?_) | ((first | refine g_nil ?_ | refine g_cond ?_ | refine g_ret ?_); conv => whnf) | (refine g_block ?_) | ((first | refine r_c ?_ | refine r_nil ?_ | refine fun _ => ?_); conv => whnf) | (refine Br.mk (fun hb => ?_) (fun hb => ?_) <;> conv => whnf) | fail)
 all_goals (refine And.intro (want_ex _ _ _ _ _ _ _) ⟨_, ?_, ?_, rfl⟩)
 all_goals omega
theorem mkDraw (copy : ByteArray) (k : Int) : MK 70 [.str copy, .int .i64 k] isRun 10 := by
 refine MK.of0 fun b c p hc hp => ?_
 refine XC.intro' hm [0] rfl c70 (Nat.le_of_ble_eq_true rfl) ?_
 conv => whnf
 repeat' (first | ((refine XCL.mkr (mkWant _) hc (by omega) ⟨rfl, rfl, rfl, True.intro⟩ (fun d p' hR _ _ => ?_); obtain ⟨w, rfl⟩ := hR; conv => whnf)) | ((refine XCL.pkv (by decide) hc (by omega) ⟨rfl, rfl, rfl, True.intro⟩ (fun _ _ _ _ _ _ => ?_); conv => whnf)) | (refine g_op ?_; conv => whnf) | (refine And.intro ?_ ?_; (focus exact au0); conv => whnf) | (refine g_seq ?_) | (refine XS.go ?_) | (refine g_ops ?_) | ((first | refine g_nil ?_ | refine g_cond ?_ | refine g_skip ?_ | refine g_ret ?_ | refine r_c ?_ | refine r_nil ?_ | refine fun _ => ?_); conv => whnf) | (refine Br.mk (fun hb => ?_) (fun hb => ?_) <;> conv => whnf) | fail)
 all_goals (refine And.intro (run_ex _ _ _ _ _ _ _ _ _ _ _) ⟨_, ?_, ?_, rfl⟩)
 all_goals omega
theorem mkSpoil (x : MateRun) : MK 72 [x.D] isRun 4 := by
 refine MK.of0 fun b c p hc hp => ?_
 refine XC.intro' hm [0] rfl c72 (Nat.le_of_ble_eq_true rfl) ?_
 conv => whnf
 repeat' (first | ((refine XCL.mkr (mkSpoilWant _) hc (by omega) ⟨rfl, rfl, rfl, True.intro⟩ (fun d p' hR _ _ => ?_); obtain ⟨w, rfl⟩ := hR; conv => whnf)) | ((refine XCL.pk3 hc (by omega) ⟨rfl, rfl, rfl, True.intro⟩ (fun _ _ _ => ?_) (fun _ _ _ => ?_) (fun _ _ _ => ?_) <;> conv => whnf)) | ((refine XCL.pk5 hc (by omega) ⟨rfl, rfl, rfl, True.intro⟩ (fun _ _ _ => ?_) (fun _ _ _ => ?_) (fun _ _ _ => ?_) (fun _ _ _ => ?_) (fun _ _ _ => ?_) <;> conv => whnf)) | ((refine XCL.pkv (by decide) hc (by omega) ⟨rfl, rfl, rfl, True.intro⟩ (fun _ _ _ _ _ _ => ?_); conv => whnf)) | (refine g_op ?_; conv => whnf) | (refine And.intro ?_ ?_; (focus exact au0); conv => whnf) | (refine g_seq ?_) | (refine XS.go ?_) | (refine g_ops ?_) | ((first | refine g_nil ?_ | refine g_cond ?_ | refine g_ret ?_); conv => whnf) | (refine g_block ?_) | ((first | refine r_c ?_ | refine r_nil ?_ | refine fun _ => ?_); conv => whnf) | (refine Br.mk (fun hb => ?_) (fun hb => ?_) <;> conv => whnf) | fail)
 all_goals (refine And.intro (run_ex _ _ _ _ _ _ _ _ _ _ _) ⟨_, ?_, ?_, rfl⟩)
 all_goals omega
end Go.Ab
set_option linter.unusedSimpArgs false
set_option linter.unusedVariables false
namespace Go.Ab
open Go Go.RowKit Go.Proofs
attribute [local irreducible] XC Rdr IntKind.wrap xw xos xqs xr xd
set_option maxRecDepth 100000
set_option maxHeartbeats 16000000
def cf100 : CF := ⟨26,[.t 4],(.seq (.ops [Ok 4 (.bool false)]) (.seq (.seq (.ops [Om 6 0,Og 7 6,Om 8 1,Og 9 8,Ob 10 .neq 7 9]) (.cond (.t 10) (.seq (.ops [Ok 4 (.bool false)]) .ret) .skip)) (.seq (.seq (.ops [Ok 5 (.int .i64 0)]) (.block 0 (.loop (.seq (.seq (.ops [Om 11 5,Om 12 0,Og 13 12,Ob 14 .lss 11 13]) (.cond (.t 14) .skip (.exit 0))) (.seq (.block 1 (.seq (.quiet [Om 17 0,Om 18 5,Ox 19 7 17 18,Od 20 7 19,Om 21 1,Om 22 5,Ox 23 7 21 22,Od 24 7 23,Oo 25 (.cmp true (.agg [.str ⟨#[]⟩,.int .i64 0,.str ⟨#[]⟩,.int .i64 0,.int .i64 0,.int .i64 0,.int .i64 0]) (.t 20) (.t 24))]) (.cond (.t 25) (.seq (.ops [Ok 4 (.bool false)]) .ret) .skip))) (.ops [Om 15 5,Oi 16 15,Om 5 16])))))) (.seq (.ops [Ok 4 (.bool true)]) .ret))))⟩
theorem c100 : compileF Try.prog [] 100 = some cf100 := by kernel_rfl
def cf53 : CF := ⟨26,[.t 4],(.seq (.ops [Ok 4 (.bool false)]) (.seq (.seq (.ops [Om 6 0,Og 7 6,Om 8 1,Og 9 8,Ob 10 .neq 7 9]) (.cond (.t 10) (.seq (.ops [Ok 4 (.bool false)]) .ret) .skip)) (.seq (.seq (.ops [Ok 5 (.int .i64 0)]) (.block 0 (.loop (.seq (.seq (.ops [Om 11 5,Om 12 0,Og 13 12,Ob 14 .lss 11 13]) (.cond (.t 14) .skip (.exit 0))) (.seq (.block 1 (.seq (.quiet [Om 17 0,Om 18 5,Ox 19 11 17 18,Od 20 11 19,Om 21 1,Om 22 5,Ox 23 11 21 22,Od 24 11 23,Oo 25 (.cmp true (.agg [.agg [.str ⟨#[]⟩,.int .i64 0,.str ⟨#[]⟩,.int .i64 0,.int .i64 0,.int .i64 0,.int .i64 0],.int .i64 0,.int .i64 0,.int .i64 0,.int .i64 0]) (.t 20) (.t 24))]) (.cond (.t 25) (.seq (.ops [Ok 4 (.bool false)]) .ret) .skip))) (.ops [Om 15 5,Oi 16 15,Om 5 16])))))) (.seq (.ops [Ok 4 (.bool true)]) .ret))))⟩
theorem c53 : compileF Try.prog [] 53 = some cf53 := by kernel_rfl
def cf101 : CF := ⟨26,[.t 4],(.seq (.ops [Ok 4 (.bool false)]) (.seq (.seq (.ops [Om 6 0,Og 7 6,Om 8 1,Og 9 8,Ob 10 .neq 7 9]) (.cond (.t 10) (.seq (.ops [Ok 4 (.bool false)]) .ret) .skip)) (.seq (.seq (.ops [Ok 5 (.int .i64 0)]) (.block 0 (.loop (.seq (.seq (.ops [Om 11 5,Om 12 0,Og 13 12,Ob 14 .lss 11 13]) (.cond (.t 14) .skip (.exit 0))) (.seq (.block 1 (.seq (.quiet [Om 17 0,Om 18 5,Ox 19 4 17 18,Od 20 4 19,Om 21 1,Om 22 5,Ox 23 4 21 22,Od 24 4 23,Oo 25 (.cmp true (.agg [.str ⟨#[]⟩,.str ⟨#[]⟩,.int .i64 0,.int .i64 0]) (.t 20) (.t 24))]) (.cond (.t 25) (.seq (.ops [Ok 4 (.bool false)]) .ret) .skip))) (.ops [Om 15 5,Oi 16 15,Om 5 16])))))) (.seq (.ops [Ok 4 (.bool true)]) .ret))))⟩
theorem c101 : compileF Try.prog [] 101 = some cf101 := by kernel_rfl
def cf50 : CF := ⟨66,[.t 4],(.seq (.ops [Oo 2 (.bx (.t 0)),Oo 3 (.bx (.t 1)),Ok 4 (.bool false)]) (.seq (.ops [Of 5 0 2,Ol 6 5,Of 7 0 3,Ol 8 7,Ob 9 .eql 6 8,Om 10 9,⟨some 11,.fa 1 1 1 (.t 2),some (10,true)⟩,⟨some 12,.ld 1 false (.t 11),some (10,true)⟩,⟨some 13,.fa 1 1 1 (.t 3),some (10,true)⟩,⟨some 14,.ld 1 false (.t 13),some (10,true)⟩,⟨some 15,.binb false (.t 12) (.t 14),some (10,true)⟩,Oo 16 (.pick (.t 10) (.t 15) (.k (.bool false))),Om 17 16,⟨some 18,.fa 2 1 2 (.t 2),some (17,true)⟩,⟨some 19,.ld 1 false (.t 18),some (17,true)⟩,⟨some 20,.fa 2 1 2 (.t 3),some (17,true)⟩,⟨some 21,.ld 1 false (.t 20),some (17,true)⟩,⟨some 22,.bin .eql (.t 19) (.t 21),some (17,true)⟩,Oo 23 (.pick (.t 17) (.t 22) (.k (.bool false))),Om 24 23,⟨some 25,.fa 3 1 3 (.t 2),some (24,true)⟩,⟨some 26,.ld 1 false (.t 25),some (24,true)⟩,⟨some 27,.fa 3 1 3 (.t 3),some (24,true)⟩,⟨some 28,.ld 1 false (.t 27),some (24,true)⟩,⟨some 29,.binb false (.t 26) (.t 28),some (24,true)⟩,Oo 30 (.pick (.t 24) (.t 29) (.k (.bool false))),Om 31 30,⟨some 32,.fa 4 1 4 (.t 2),some (31,true)⟩,⟨some 33,.ld 1 false (.t 32),some (31,true)⟩,⟨some 34,.fa 4 1 4 (.t 3),some (31,true)⟩,⟨some 35,.ld 1 false (.t 34),some (31,true)⟩,⟨some 36,.bin .eql (.t 33) (.t 35),some (31,true)⟩,Oo 37 (.pick (.t 31) (.t 36) (.k (.bool false))),Om 38 37,⟨some 39,.fa 5 1 5 (.t 2),some (38,true)⟩,⟨some 40,.ld 1 false (.t 39),some (38,true)⟩,⟨some 41,.fa 5 1 5 (.t 3),some (38,true)⟩,⟨some 42,.ld 1 false (.t 41),some (38,true)⟩,⟨some 43,.call 100 [.t 40,.t 42],some (38,true)⟩,Oo 44 (.pick (.t 38) (.t 43) (.k (.bool false))),Om 45 44,⟨some 46,.fa 6 1 6 (.t 2),some (45,true)⟩,⟨some 47,.ld 1 false (.t 46),some (45,true)⟩,⟨some 48,.fa 6 1 6 (.t 3),some (45,true)⟩,⟨some 49,.ld 1 false (.t 48),some (45,true)⟩,⟨some 50,.call 53 [.t 47,.t 49],some (45,true)⟩,Oo 51 (.pick (.t 45) (.t 50) (.k (.bool false))),Om 52 51,⟨some 53,.fa 7 1 7 (.t 2),some (52,true)⟩,⟨some 54,.ld 1 false (.t 53),some (52,true)⟩,⟨some 55,.fa 7 1 7 (.t 3),some (52,true)⟩,⟨some 56,.ld 1 false (.t 55),some (52,true)⟩,⟨some 57,.call 101 [.t 54,.t 56],some (52,true)⟩,Oo 58 (.pick (.t 52) (.t 57) (.k (.bool false))),Om 59 58,⟨some 60,.fa 8 1 8 (.t 2),some (59,true)⟩,⟨some 61,.ld 1 false (.t 60),some (59,true)⟩,⟨some 62,.fa 8 1 8 (.t 3),some (59,true)⟩,⟨some 63,.ld 1 false (.t 62),some (59,true)⟩,⟨some 64,.call 101 [.t 61,.t 63],some (59,true)⟩,Oo 65 (.pick (.t 59) (.t 64) (.k (.bool false))),Om 4 65]) .ret))⟩
theorem c50 : compileF Try.prog [] 50 = some cf50 := by kernel_rfl
theorem wm_wmWants (l : List MateWant) (hl : l.length ≤ 1048576) : Rdr Try.prog 100 [.ro 7 (l.map MateWant.D), .ro 7 (l.map MateWant.D)] (.bool true) := by
 have hlm : (l.map MateWant.D).length = l.length := List.length_map ..
 refine Rdr.intro' hm c100 (Nat.le_of_ble_eq_true rfl) ?_
 conv => whnf
 repeat' (first | (refine g_op ?_; conv => whnf) | (refine And.intro ?_ ?_; (focus exact au0); conv => whnf) | (refine g_seq ?_) | (refine XS.go ?_) | (refine g_ops ?_) | ((first | refine g_nil ?_ | refine g_cond ?_); conv => whnf) | fail)
 refine Br.f (by simp) ?_
 conv => whnf
 repeat' (first | (refine g_op ?_; conv => whnf) | (refine And.intro ?_ ?_; (focus exact au0); conv => whnf) | (refine g_seq ?_) | (refine XS.go ?_) | (refine g_ops ?_) | (refine g_loop ?_) | ((first | refine g_nil ?_ | refine g_skip ?_); conv => whnf) | (refine g_block ?_) | fail)
 refine XLc.mkA (α := Nat) (fun i => i ≤ l.length) (fun i => l.length - i) (fun i gs => [.ro 7 (l.map MateWant.D), .ro 7 (l.map MateWant.D), .any, .any, .any, .int .i64 (i : Int)]) (fun i gs => []) 0 (Nat.zero_le _) ⟨?_, True.intro⟩ ?_
 ·repeat' (first | exact True.intro | refine And.intro rfl ?_)
 intro i gs hi0
 repeat' (first | (refine g_op ?_; conv => whnf) | (refine And.intro ?_ ?_; (focus exact au0); conv => whnf) | (refine g_seq ?_) | (refine XS.go ?_) | (refine g_ops ?_) | ((first | refine g_nil ?_ | refine g_cond ?_); conv => whnf) | fail)
 refine Br.mk (fun hb => ?_) (fun hb => ?_)
 ·have hlt : i < l.length := by rw [hlm] at hb; simpa using hb
  clear hb
  have he2 : (l.map MateWant.D).getD (i : Int).toNat .any = (l.getD i default).D := elt_map hlt
  generalize l.getD i default = y at he2
  have hw : IntKind.wrap .i64 ((i : Int) + 1) = ((i + 1 : Nat) : Int) := by rw [wrap_ok (by omega) (by omega)]; rfl
  conv => whnf
  repeat' (first | ((rw [he2]; conv => whnf)) | (refine And.intro ?_ ?_; (focus exact au0); conv => whnf) | (refine g_seq ?_) | (refine XS.go ?_) | ((first | refine g_cond ?_ | refine g_skip ?_); conv => whnf) | (refine g_block ?_) | (refine g_quiet ?_) | ((first | refine q_op ?_ | refine q_nil ?_); conv => whnf) | fail)
  refine Br.f (by simp) ?_
  conv => whnf
  repeat' (first | (refine g_op ?_; conv => whnf) | (refine And.intro ?_ ?_; (focus exact au0); conv => whnf) | (refine XS.go ?_) | (refine g_ops ?_) | ((first | refine g_nil ?_ | refine g_skip ?_); conv => whnf) | fail)
  refine ⟨i + 1, hlt, by omega, ?_, True.intro⟩
  repeat' (first | exact True.intro | refine And.intro rfl ?_ | refine And.intro (congrArg (D.int .i64) hw) ?_)
 clear hb
 conv => whnf
 repeat' (first | (refine g_op ?_; conv => whnf) | (refine And.intro ?_ ?_; (focus exact au0); conv => whnf) | (refine g_seq ?_) | (refine XS.go ?_) | (refine g_ops ?_) | ((first | refine g_nil ?_ | refine g_ret ?_ | refine g_exit ?_ | refine r_t ?_ | refine r_nil ?_); conv => whnf) | fail)
 rfl
theorem wm_wmRuns (l : List MateRun) (hl : l.length ≤ 1048576) : Rdr Try.prog 53 [.ro 11 (l.map MateRun.D), .ro 11 (l.map MateRun.D)] (.bool true) := by
 have hlm : (l.map MateRun.D).length = l.length := List.length_map ..
 refine Rdr.intro' hm c53 (Nat.le_of_ble_eq_true rfl) ?_
 conv => whnf
 repeat' (first | (refine g_op ?_; conv => whnf) | (refine And.intro ?_ ?_; (focus exact au0); conv => whnf) | (refine g_seq ?_) | (refine XS.go ?_) | (refine g_ops ?_) | ((first | refine g_nil ?_ | refine g_cond ?_); conv => whnf) | fail)
 refine Br.f (by simp) ?_
 conv => whnf
 repeat' (first | (refine g_op ?_; conv => whnf) | (refine And.intro ?_ ?_; (focus exact au0); conv => whnf) | (refine g_seq ?_) | (refine XS.go ?_) | (refine g_ops ?_) | (refine g_loop ?_) | ((first | refine g_nil ?_ | refine g_skip ?_); conv => whnf) | (refine g_block ?_) | fail)
 refine XLc.mkA (α := Nat) (fun i => i ≤ l.length) (fun i => l.length - i) (fun i gs => [.ro 11 (l.map MateRun.D), .ro 11 (l.map MateRun.D), .any, .any, .any, .int .i64 (i : Int)]) (fun i gs => []) 0 (Nat.zero_le _) ⟨?_, True.intro⟩ ?_
 ·repeat' (first | exact True.intro | refine And.intro rfl ?_)
 intro i gs hi0
 repeat' (first | (refine g_op ?_; conv => whnf) | (refine And.intro ?_ ?_; (focus exact au0); conv => whnf) | (refine g_seq ?_) | (refine XS.go ?_) | (refine g_ops ?_) | ((first | refine g_nil ?_ | refine g_cond ?_); conv => whnf) | fail)
 refine Br.mk (fun hb => ?_) (fun hb => ?_)
 ·have hlt : i < l.length := by rw [hlm] at hb; simpa using hb
  clear hb
  have he2 : (l.map MateRun.D).getD (i : Int).toNat .any = (l.getD i default).D := elt_map hlt
  generalize l.getD i default = y at he2
  have hw : IntKind.wrap .i64 ((i : Int) + 1) = ((i + 1 : Nat) : Int) := by rw [wrap_ok (by omega) (by omega)]; rfl
  conv => whnf
  repeat' (first | ((rw [he2]; conv => whnf)) | (refine And.intro ?_ ?_; (focus exact au0); conv => whnf) | (refine g_seq ?_) | (refine XS.go ?_) | ((first | refine g_cond ?_ | refine g_skip ?_); conv => whnf) | (refine g_block ?_) | (refine g_quiet ?_) | ((first | refine q_op ?_ | refine q_nil ?_); conv => whnf) | fail)
  refine Br.f (by simp) ?_
  conv => whnf
  repeat' (first | (refine g_op ?_; conv => whnf) | (refine And.intro ?_ ?_; (focus exact au0); conv => whnf) | (refine XS.go ?_) | (refine g_ops ?_) | ((first | refine g_nil ?_ | refine g_skip ?_); conv => whnf) | fail)
  refine ⟨i + 1, hlt, by omega, ?_, True.intro⟩
  repeat' (first | exact True.intro | refine And.intro rfl ?_ | refine And.intro (congrArg (D.int .i64) hw) ?_)
 clear hb
 conv => whnf
 repeat' (first | (refine g_op ?_; conv => whnf) | (refine And.intro ?_ ?_; (focus exact au0); conv => whnf) | (refine g_seq ?_) | (refine XS.go ?_) | (refine g_ops ?_) | ((first | refine g_nil ?_ | refine g_ret ?_ | refine g_exit ?_ | refine r_t ?_ | refine r_nil ?_); conv => whnf) | fail)
 rfl
theorem wm_wmAsks (l : List MateAsk) (hl : l.length ≤ 1048576) : Rdr Try.prog 101 [.ro 4 (l.map MateAsk.D), .ro 4 (l.map MateAsk.D)] (.bool true) := by
 have hlm : (l.map MateAsk.D).length = l.length := List.length_map ..
 refine Rdr.intro' hm c101 (Nat.le_of_ble_eq_true rfl) ?_
 conv => whnf
 repeat' (first | (refine g_op ?_; conv => whnf) | (refine And.intro ?_ ?_; (focus exact au0); conv => whnf) | (refine g_seq ?_) | (refine XS.go ?_) | (refine g_ops ?_) | ((first | refine g_nil ?_ | refine g_cond ?_); conv => whnf) | fail)
 refine Br.f (by simp) ?_
 conv => whnf
 repeat' (first | (refine g_op ?_; conv => whnf) | (refine And.intro ?_ ?_; (focus exact au0); conv => whnf) | (refine g_seq ?_) | (refine XS.go ?_) | (refine g_ops ?_) | (refine g_loop ?_) | ((first | refine g_nil ?_ | refine g_skip ?_); conv => whnf) | (refine g_block ?_) | fail)
 refine XLc.mkA (α := Nat) (fun i => i ≤ l.length) (fun i => l.length - i) (fun i gs => [.ro 4 (l.map MateAsk.D), .ro 4 (l.map MateAsk.D), .any, .any, .any, .int .i64 (i : Int)]) (fun i gs => []) 0 (Nat.zero_le _) ⟨?_, True.intro⟩ ?_
 ·repeat' (first | exact True.intro | refine And.intro rfl ?_)
 intro i gs hi0
 repeat' (first | (refine g_op ?_; conv => whnf) | (refine And.intro ?_ ?_; (focus exact au0); conv => whnf) | (refine g_seq ?_) | (refine XS.go ?_) | (refine g_ops ?_) | ((first | refine g_nil ?_ | refine g_cond ?_); conv => whnf) | fail)
 refine Br.mk (fun hb => ?_) (fun hb => ?_)
 ·have hlt : i < l.length := by rw [hlm] at hb; simpa using hb
  clear hb
  have he2 : (l.map MateAsk.D).getD (i : Int).toNat .any = (l.getD i default).D := elt_map hlt
  generalize l.getD i default = y at he2
  have hw : IntKind.wrap .i64 ((i : Int) + 1) = ((i + 1 : Nat) : Int) := by rw [wrap_ok (by omega) (by omega)]; rfl
  conv => whnf
  repeat' (first | ((rw [he2]; conv => whnf)) | (refine And.intro ?_ ?_; (focus exact au0); conv => whnf) | (refine g_seq ?_) | (refine XS.go ?_) | ((first | refine g_cond ?_ | refine g_skip ?_); conv => whnf) | (refine g_block ?_) | (refine g_quiet ?_) | ((first | refine q_op ?_ | refine q_nil ?_); conv => whnf) | fail)
  refine Br.f (by simp) ?_
  conv => whnf
  repeat' (first | (refine g_op ?_; conv => whnf) | (refine And.intro ?_ ?_; (focus exact au0); conv => whnf) | (refine XS.go ?_) | (refine g_ops ?_) | ((first | refine g_nil ?_ | refine g_skip ?_); conv => whnf) | fail)
  refine ⟨i + 1, hlt, by omega, ?_, True.intro⟩
  repeat' (first | exact True.intro | refine And.intro rfl ?_ | refine And.intro (congrArg (D.int .i64) hw) ?_)
 clear hb
 conv => whnf
 repeat' (first | (refine g_op ?_; conv => whnf) | (refine And.intro ?_ ?_; (focus exact au0); conv => whnf) | (refine g_seq ?_) | (refine XS.go ?_) | (refine g_ops ?_) | ((first | refine g_nil ?_ | refine g_ret ?_ | refine g_exit ?_ | refine r_t ?_ | refine r_nil ?_); conv => whnf) | fail)
 rfl
theorem wm_Mate (m : Mate) (hs : m.small) : Rdr Try.prog 50 [m.D, m.D] (.bool true) := by
 have h1 := wm_wmWants m.fWants hs.fWants.1
 have h2 := wm_wmRuns m.fRuns hs.fRuns.1
 have h3 := wm_wmAsks m.fAsks hs.fAsks.1
 have h4 := wm_wmAsks m.fGives hs.fGives.1
 refine Rdr.intro' hm c50 (Nat.le_of_ble_eq_true rfl) ?_
 conv => whnf
 repeat' (first | (refine z_ld1 ?_; first | (refine z_ld rfl rfl rfl rfl au1 au2 ?_; conv => whnf) | (refine z_ld0 rfl ?_; conv => whnf)) | (refine z_ld1g ?_; first | (refine z_ldg rfl rfl rfl rfl rfl rfl rfl (by (repeat intro _); exact ⟨au1, au2⟩) rfl rfl rfl rfl ?_; conv => whnf) | (refine z_ld0g ?_; (conv => whnf); refine And.intro ?_ ?_; (focus exact rfl); conv => whnf)) | (refine z_op ?_ ?_; (focus exact rfl); conv => whnf) | (refine z_opg0 ?_; (conv => whnf); refine And.intro ?_ ?_; (focus exact rfl); conv => whnf) | (refine z_pick ?_ ?_; (focus exact rfl); conv => whnf) | (refine zs_ops ?_ ?_; (focus exact rfl)) | (refine z_nil fun vals => ?_; conv => whnf) | (refine z_callg0 ?_; (conv => whnf); refine And.intro ?_ ?_; (focus exact rfl)) | (refine RC.of (h1) ?_ ?_; (focus exact rfl); conv => whnf) | (refine RC.of (h2) ?_ ?_; (focus exact rfl); conv => whnf) | (refine RC.of (h3) ?_ ?_; (focus exact rfl); conv => whnf) | (refine RC.of (h4) ?_ ?_; (focus exact rfl); conv => whnf) | (refine g_op ?_; conv => whnf) | (refine And.intro ?_ ?_; (focus exact au0); conv => whnf) | (refine g_seq ?_) | (refine XS.go ?_) | (refine g_ops ?_) | ((first | refine g_nil ?_ | refine g_ret ?_ | refine r_t ?_ | refine r_nil ?_ | refine fun _ => ?_); conv => whnf) | fail)
 (conv => lhs; whnf)
 simp
theorem impl_FallX (x : Mate) (m : Bool) (hs : x.small) : XC Try.prog 48 [x.D, .bool m] [] (KO (fallR x m) 41 42 43 44) := by
 have hq := impl_MateValid x
 cases hv : validM x with
 | false =>
  rw [hv] at hq
  have e : fallR x m = default := by simp [fallR, hv]
  rw [e]
  have h : XC Try.prog 48 [x.D, .bool m] [] (fun d ls => d = mateZ ∧ ls = []) := by
   refine XC.intro' hm [] rfl c48 (Nat.le_of_ble_eq_true rfl) ?_
   conv => whnf
   repeat' (first | (refine g_op ?_; conv => whnf) | (refine And.intro ?_ ?_; (focus exact au0); conv => whnf) | (refine g_seq ?_) | (refine XS.go ?_) | (refine g_ops ?_) | (refine g_nil ?_; conv => whnf) | (refine Br.t ?_ ?_; (focus (first | assumption | exact rfl)); conv => whnf) | ((first | refine g_cond ?_ | refine g_ret ?_ | refine r_c ?_ | refine r_nil ?_ | refine fun _ => ?_ | refine XCL.of_rdr (hq) ?_); conv => whnf) | fail)
   first | done | exact ⟨rfl, rfl⟩ | exact rfl
  refine h.ren (fun _ _ _ h => h) rfl (fun d l ⟨h1, h2⟩ => ?_)
  subst h1 h2
  refine ⟨_, _, ⟨0, 0, 0, 0, 0, 0, 0, 0, rfl, rfl⟩, fun U w F h => ?_, mateZ_own _ _ _ _⟩
  have h : F = [] := h
  subst h
  exact mateZ_hol _ _ _ _ U w
 | true =>
  rw [hv] at hq
  have e : fallR x m = { fName := x.fName, fUp := false, fClock := x.fClock, fKnown := false, fSeen := 0, fWants := [], fRuns := fallL m x.fRuns x.fRuns.length, fAsks := [], fGives := [] } := by simp [fallR, hv]
  rw [e]
  have hl := hs.fRuns.1
  refine XC.names 41 42 43 44 (s1 := 51) (s2 := 47) (s3 := 53) (s4 := 54) ?_
  have h : XC Try.prog 48 [x.D, .bool m] [] (fun d ls => ∃ bb cc, d = fallF x bb (fallL m x.fRuns x.fRuns.length).length cc 47 ∧ ls = [(47, bb, .arr 11 ((fallL m x.fRuns x.fRuns.length).map MateRun.D) cc)]) := by
   refine XC.intro' hm [47] rfl c48 (Nat.le_of_ble_eq_true rfl) ?_
   conv => whnf
   repeat' (first | (refine g_op ?_; conv => whnf) | (refine And.intro ?_ ?_; (focus exact au0); conv => whnf) | (refine g_seq ?_) | (refine XS.go ?_) | (refine g_ops ?_) | (refine g_nil ?_; conv => whnf) | (refine Br.f ?_ ?_; (focus (first | assumption | exact rfl)); conv => whnf) | ((first | refine g_cond ?_ | refine g_skip ?_ | refine fun _ => ?_ | refine XCL.of_rdr (hq) ?_); conv => whnf) | fail)
   refine XCL.of_XC (ls := []) True.intro ((impl_CloneF x hs).mono fun d ls h => ?_)
   obtain ⟨d1, d2, d3, d4, e1, e2, e3, e4, rfl, rfl⟩ := h
   conv => whnf
   repeat' (first | (refine g_op ?_; conv => whnf) | (refine And.intro ?_ ?_; (focus exact au0); conv => whnf) | (refine g_seq ?_) | (refine XS.go ?_) | (refine g_ops ?_) | ((first | refine g_nil ?_ | refine fun _ => ?_); conv => whnf) | fail)
   refine XCL.of_XC (ls := [(5, _, x.O 31 32 33 34 d1 d2 d3 d4 e1 e2 e3 e4), (32, d2, .arr 11 (x.fRuns.map MateRun.D) e2)]) ⟨rfl, rfl, rfl, rfl, rfl, rfl, True.intro⟩ ((fallTF 5 x m _ d1 d2 d3 d4 e1 e2 e3 e4 hl).mono fun d ls h => ?_)
   obtain ⟨rfl, bb, cc, rfl⟩ := h
   conv => whnf
   repeat' (first | (refine g_op ?_; conv => whnf) | (refine And.intro ?_ ?_; (focus exact au0); conv => whnf) | (refine g_seq ?_) | (refine XS.go ?_) | (refine g_ops ?_) | ((first | refine g_nil ?_ | refine g_ret ?_ | refine r_c ?_ | refine r_nil ?_); conv => whnf) | fail)
   exact ⟨bb, cc, rfl, rfl⟩
  refine h.ren (fun _ _ _ h => h) rfl (fun d l ⟨bb, cc, h1, h2⟩ => ?_)
  subst h1 h2
  refine ⟨_, _, ⟨0, bb, 0, 0, 0, cc, 0, 0, rfl, rfl⟩, fun U w F h => ?_, fun U w v h => RelV.aggImp (RelF.imp (fun _ h => h) (RelF.imp (fun _ h => h) (RelF.imp (fun _ h => h) (RelF.imp (fun _ h => h) (RelF.imp (fun _ h => h) (RelF.imp (fun _ h => nil_lsl h) (RelF.imp (fun _ h => h) (RelF.imp (fun _ h => nil_lsl h) (RelF.imp (fun _ h => nil_lsl h) (fun _ h => h)))))))))) v h⟩
  obtain ⟨F1, F2, h1, h2, h3⟩ := h
  exact .snil _ _ _ ⟨F1, F2, h1, h2, .snil _ _ _ (.snil _ _ _ h3)⟩
theorem impl_FallF (x : Mate) (m : Bool) (hs : x.small) : Rdr Try.prog 48 [x.D, .bool m] (fallR x m).D := KO.fr (impl_FallX x m hs)
theorem impl_RiseX (x : Mate) (hs : x.small) : XC Try.prog 49 [x.D] [] (KO (riseR x) 41 42 43 44) := by
 have hq := impl_MateValid x
 cases hv : validM x with
 | false =>
  rw [hv] at hq
  have e : riseR x = default := by simp [riseR, hv]
  rw [e]
  have h : XC Try.prog 49 [x.D] [] (fun d ls => d = mateZ ∧ ls = []) := by
   refine XC.intro' hm [] rfl c49 (Nat.le_of_ble_eq_true rfl) ?_
   conv => whnf
   repeat' (first | (refine g_op ?_; conv => whnf) | (refine And.intro ?_ ?_; (focus exact au0); conv => whnf) | (refine g_seq ?_) | (refine XS.go ?_) | (refine g_ops ?_) | (refine g_nil ?_; conv => whnf) | (refine Br.t ?_ ?_; (focus (first | assumption | exact rfl)); conv => whnf) | ((first | refine g_cond ?_ | refine g_ret ?_ | refine r_c ?_ | refine r_nil ?_ | refine fun _ => ?_ | refine XCL.of_rdr (hq) ?_); conv => whnf) | fail)
   first | done | exact ⟨rfl, rfl⟩ | exact rfl
  refine h.ren (fun _ _ _ h => h) rfl (fun d l ⟨h1, h2⟩ => ?_)
  subst h1 h2
  refine ⟨_, _, ⟨0, 0, 0, 0, 0, 0, 0, 0, rfl, rfl⟩, fun U w F h => ?_, mateZ_own _ _ _ _⟩
  have h : F = [] := h
  subst h
  exact mateZ_hol _ _ _ _ U w
 | true =>
  rw [hv] at hq
  have e : riseR x = riseM x := by simp [riseR, hv]
  rw [e]
  refine XC.names 41 42 43 44 (s1 := 31) (s2 := 32) (s3 := 33) (s4 := 34) ?_
  refine XC.intro' hm [31, 32, 33, 34] rfl c49 (Nat.le_of_ble_eq_true rfl) ?_
  conv => whnf
  repeat' (first | (refine g_op ?_; conv => whnf) | (refine And.intro ?_ ?_; (focus exact au0); conv => whnf) | (refine g_seq ?_) | (refine XS.go ?_) | (refine g_ops ?_) | (refine g_nil ?_; conv => whnf) | (refine Br.f ?_ ?_; (focus (first | assumption | exact rfl)); conv => whnf) | ((first | refine g_cond ?_ | refine g_skip ?_ | refine fun _ => ?_ | refine XCL.of_rdr (hq) ?_); conv => whnf) | fail)
  refine XCL.of_XC (ls := []) True.intro ((impl_CloneF x hs).mono fun d ls h => ?_)
  obtain ⟨d1, d2, d3, d4, e1, e2, e3, e4, rfl, rfl⟩ := h
  conv => whnf
  repeat' (first | (refine g_op ?_; conv => whnf) | (refine And.intro ?_ ?_; (focus exact au0); conv => whnf) | (refine g_seq ?_) | (refine XS.go ?_) | (refine g_ops ?_) | ((first | refine g_nil ?_ | refine fun _ => ?_); conv => whnf) | fail)
  refine XCL.of_XC (ls := [(3, _, x.O 31 32 33 34 d1 d2 d3 d4 e1 e2 e3 e4)]) ⟨rfl, rfl, rfl, True.intro⟩ ((impl_rise x _ 31 32 33 34 d1 d2 d3 d4 e1 e2 e3 e4).mono fun d ls h => ?_)
  obtain ⟨rfl, rfl⟩ := h
  conv => whnf
  repeat' (first | (refine g_op ?_; conv => whnf) | (refine And.intro ?_ ?_; (focus exact au0); conv => whnf) | (refine g_seq ?_) | (refine XS.go ?_) | (refine g_ops ?_) | ((first | refine g_nil ?_ | refine g_ret ?_ | refine r_c ?_ | refine r_nil ?_); conv => whnf) | fail)
  exact ⟨d1, d2, d3, d4, e1, e2, e3, e4, rfl, rfl⟩
theorem impl_RiseF (x : Mate) (hs : x.small) : Rdr Try.prog 49 [x.D] (riseR x).D := KO.fr (impl_RiseX x hs)
end Go.Ab
set_option linter.unusedSimpArgs false
set_option linter.unusedVariables false
namespace Go.Ab
open Go Go.RowKit Go.Proofs
attribute [local irreducible] XC Rdr IntKind.wrap xw xos xqs xr xd
set_option maxRecDepth 100000
/-! ### What a fall leaves is valid -/
theorem allN_mk {f : Nat → Bool} : ∀ (k i : Nat), (∀ j, i ≤ j → j < i + k → f j = true) → allN f k i = true
 | 0, _, _ => rfl
 | k + 1, i, h => by
  rw [allN, h i (Nat.le_refl _) (by omega), allN_mk k (i + 1) (fun j h1 h2 => h j (by omega) (by omega))]
  rfl
def RunsUp (xs : List MateRun) : Prop := xs.Pairwise fun a b => Op.bytesLess a.fWant.fCopy.toList b.fWant.fCopy.toList = true
theorem runsOk_len {xs : List MateRun} {c : Int} (h : runsOk xs c = true) : xs.length ≤ 20 := by
 simp only [runsOk, Bool.and_eq_true, Bool.not_eq_true', decide_eq_false_iff_not] at h
 omega
theorem runsOk_get {xs : List MateRun} {c : Int} (h : runsOk xs c = true) {i : Nat} (hi : i < xs.length) : rS xs c i = true := by
 simp only [runsOk, Bool.and_eq_true] at h
 exact allN_get h.2.1 (Nat.zero_le i) (by omega)
theorem runsOk_all {xs : List MateRun} {c : Int} (h : runsOk xs c = true) : ∀ x ∈ xs, runOk x c = true := fun x hx => by
 obtain ⟨i, hi, rfl⟩ := List.getElem_of_mem hx
 have q := runsOk_get h hi
 simp only [rS, Bool.and_eq_true, getD_of hi] at q
 exact q.1
theorem runsOk_up {xs : List MateRun} {c : Int} (h : runsOk xs c = true) : RunsUp xs := by
 have hl := runsOk_len h
 have ho : ∀ i, 0 < i → i < xs.length → Op.bytesLess (xs.getD (i - 1) default).fWant.fCopy.toList (xs.getD i default).fWant.fCopy.toList = true := fun i h0 hi => by
  have q := runsOk_get h hi
  simp only [rS, Bool.and_eq_true, Bool.not_eq_true', Bool.and_eq_false_iff, Bool.not_eq_false', decide_eq_false_iff_not] at q
  have e : pr i = i - 1 := by unfold pr; rw [wrap_ok (by omega) (by omega)]; omega
  rcases q.2 with q | q
  ·omega
  ·rw [e] at q
   exact q
 refine List.pairwise_iff_getElem.2 fun i j hi hj hij => ?_
 have := ord_less (f := fun i => (xs.getD i default).fWant.fCopy.toList) ho (d := j - i - 1) (i := i) (by omega)
 have e2 : i + (j - i - 1) + 1 = j := by omega
 rw [e2] at this
 simp only [getD_of hi, getD_of hj] at this
 exact this
theorem runsOk_mk {xs : List MateRun} {c : Int} (hl : xs.length ≤ 20) (ha : ∀ x ∈ xs, runOk x c = true) (hu : RunsUp xs) : runsOk xs c = true := by
 unfold runsOk
 rw [decide_eq_false (by omega), allN_mk xs.length 0 fun i _ hi => ?_]
 ·rfl
 have hi' : i < xs.length := by omega
 unfold rS
 rw [getD_of hi', ha _ (List.getElem_mem hi'), Bool.true_and, Bool.not_eq_true', Bool.and_eq_false_iff]
 by_cases h0 : i = 0
 ·exact .inl (decide_eq_false (by omega))
 ·have e : pr i = i - 1 := by unfold pr; rw [wrap_ok (by omega) (by omega)]; omega
  have hp : i - 1 < xs.length := by omega
  rw [e, getD_of hp, Bool.not_eq_false']
  exact .inr (List.pairwise_iff_getElem.1 hu (i - 1) i hp hi' (by omega))
theorem fallE_ok {m : Bool} {r y : MateRun} {c : Int} (h : fallE m r = some y) : y.fWant = r.fWant ∧ (runOk r c = true → runOk y c = true) ∧ (alive y = true ∨ y.fWant.fHold.toList ≠ (ByteArray.mk #[]).toList) := by
 unfold fallE at h
 split at h
 ·rename_i hq
  simp only [Bool.and_eq_true, Bool.or_eq_true, Bool.not_eq_true'] at hq
  cases m with
  | false =>
   simp only [Bool.false_eq_true, if_false, Option.some.injEq] at h
   subst h
   exact ⟨rfl, fun h => h, .inl hq.1⟩
  | true =>
   simp only [if_true, Option.some.injEq] at h
   subst h
   refine ⟨rfl, fun h => ?_, .inr ?_⟩
   ·simp only [runOk, inR, Bool.and_eq_true] at h ⊢
    obtain ⟨⟨⟨⟨⟨⟨⟨h1, h2⟩, h3⟩, h4⟩, h5⟩, h6⟩, h7⟩, h8⟩ := h
    exact ⟨⟨⟨⟨⟨⟨⟨h1, ⟨rfl, rfl⟩⟩, ⟨rfl, rfl⟩⟩, rfl⟩, h5⟩, h6⟩, h7⟩, rfl⟩
   ·rcases hq.2 with q | q
    ·exact absurd q (by decide)
    ·simpa using q
 ·cases h
theorem fallL_all (m : Bool) (xs : List MateRun) : fallL m xs xs.length = xs.filterMap (fallE m) := by
 unfold fallL
 rw [List.take_length]
theorem fall_runs {m : Bool} {xs : List MateRun} {c : Int} (h : runsOk xs c = true) : runsOk (fallL m xs xs.length) c = true := by
 rw [fallL_all]
 refine runsOk_mk (Nat.le_trans (List.length_filterMap_le _ _) (runsOk_len h)) (fun y hy => ?_) ?_
 ·obtain ⟨r, hr, he⟩ := List.mem_filterMap.1 hy
  exact (fallE_ok he).2.1 (runsOk_all h r hr)
 ·refine List.Pairwise.filterMap (fallE m) (fun a a' hR b hb b' hb' => ?_) (runsOk_up h)
  rw [(fallE_ok (c := c) hb).1, (fallE_ok (c := c) hb').1]
  exact hR
theorem fall_mem {m : Bool} {xs : List MateRun} {y : MateRun} (h : y ∈ fallL m xs xs.length) : ∃ r, fallE m r = some y := by
 rw [fallL_all] at h
 obtain ⟨r, _, he⟩ := List.mem_filterMap.1 h
 exact ⟨r, he⟩
theorem fall_valid {x : Mate} (m : Bool) (h : validM x = true) : validM (fallR x m) = true := by
 have e : fallR x m = { fName := x.fName, fUp := false, fClock := x.fClock, fKnown := false, fSeen := 0, fWants := [], fRuns := fallL m x.fRuns x.fRuns.length, fAsks := [], fGives := [] } := by simp [fallR, h]
 rw [e]
 simp only [validM, Bool.and_eq_true, Bool.not_eq_true'] at h
 have h0 := h.1
 simp only [c1, Bool.or_eq_false_iff, Bool.not_eq_false'] at h0
 obtain ⟨⟨⟨⟨⟨⟨⟨k1, k2⟩, k3⟩, k4⟩, k5⟩, k6⟩, k7⟩, k8⟩ := h0
 have r1 := fall_runs (m := m) k6
 unfold validM c1
 dsimp only
 rw [k1, k2, r1]
 have r2 : allN (rF { fName := x.fName, fUp := false, fClock := x.fClock, fKnown := false, fSeen := 0, fWants := [], fRuns := fallL m x.fRuns x.fRuns.length, fAsks := [], fGives := [] }) (fallL m x.fRuns x.fRuns.length).length 0 = true := by
  refine allN_mk _ 0 fun i _ hi => ?_
  have hi' : i < (fallL m x.fRuns x.fRuns.length).length := by omega
  simp only [rF, getD_of hi']
  obtain ⟨r, he⟩ := fall_mem (List.getElem_mem hi')
  have q := (fallE_ok (c := 0) he).2.2
  generalize (fallL m x.fRuns x.fRuns.length)[i] = y at q
  rcases q with q | q
  ·rw [q]
   rfl
  ·have q2 : (y.fWant.fHold.toList == (ByteArray.mk #[]).toList) = false := by simpa using q
   rw [q2, Bool.and_false]
   rfl
 rw [r2]
 rfl
theorem rise_valid {x : Mate} (h : validM x = true) : validM (riseM x) = true := by
 simp only [validM, Bool.and_eq_true, Bool.not_eq_true'] at h ⊢
 refine ⟨h.1, h.2.1, ?_⟩
 have h3 := h.2.2
 simp only [Bool.or_eq_true] at h3 ⊢
 rcases h3 with q | q
 ·refine .inl ?_
  show (x.fUp || _) = true
  rw [q]
  rfl
 ·exact .inr q
theorem default_bad : validM default = false := by decide
/-- What lives in a mate that fell: what lived, or nothing. -/
def livesL (xs : List MateRun) : List MateRun := xs.filter alive
theorem lives_fall (xs : List MateRun) : livesL (fallL false xs xs.length) = livesL xs := by
 rw [fallL_all]
 unfold livesL
 induction xs with
 | nil => rfl
 | cons a l ih =>
  by_cases ha : alive a = true
  ·have e : fallE false a = some a := by simp [fallE, ha]
   rw [List.filterMap_cons_some e, List.filter_cons, if_pos ha, List.filter_cons, if_pos ha, ih]
  ·have e : fallE false a = none := by simp [fallE, ha]
   rw [List.filterMap_cons_none e, List.filter_cons, if_neg ha, ih]
theorem lives_machine (xs : List MateRun) : livesL (fallL true xs xs.length) = [] := by
 rw [fallL_all]
 unfold livesL
 refine List.filter_eq_nil_iff.2 fun y hy => ?_
 obtain ⟨r, _, he⟩ := List.mem_filterMap.1 hy
 unfold fallE at he
 split at he
 ·simp only [if_true, Option.some.injEq] at he
  subst he
  simp [alive]
 ·cases he
end Go.Ab
set_option linter.unusedSimpArgs false
set_option linter.unusedVariables false
namespace Go.Ab
open Go Go.RowKit Go.Proofs
attribute [local irreducible] XC Rdr IntKind.wrap xw xos xqs xr xd
set_option maxRecDepth 100000
set_option maxHeartbeats 16000000
def cf130 : CF := ⟨20,[.t 2],(.seq (.ops [Ok 2 (.str ⟨#[]⟩)]) (.seq (.seq (.ops [Om 3 0,Oo 4 (.bin .lss (.t 3) (.k (.int .i64 10)))]) (.cond (.t 4) (.seq (.ops [Om 5 0,Oo 6 (.bin .add (.k (.int .i64 48)) (.t 5)),Oo 7 (.cvi .u8 (.t 6)),Oo 8 (.bsl (.int .u8 0) 1 [(0,(.t 7))]),Oo 9 (.bst (.t 8)),Om 2 9]) .ret) .skip)) (.seq (.quiet [Om 10 0,Oo 11 (.bin .quo (.t 10) (.k (.int .i64 10))),Oc 12 130 [.t 11],Om 13 0,Oo 14 (.bin .rem (.t 13) (.k (.int .i64 10))),Oo 15 (.bin .add (.k (.int .i64 48)) (.t 14)),Oo 16 (.cvi .u8 (.t 15)),Oo 17 (.bsl (.int .u8 0) 1 [(0,(.t 16))]),Oo 18 (.bst (.t 17)),Ob 19 .add 12 18,Om 2 19]) .ret)))⟩
theorem c130 : compileF Try.prog [] 130 = some cf130 := by kernel_rfl
def cf128 : CF := ⟨38,[.t 6],(.seq (.ops [Ok 6 (.nil)]) (.seq (.ops [Oo 10 (.bsl (.agg [.agg [.str ⟨#[]⟩,.int .i64 0,.str ⟨#[]⟩,.int .i64 0,.int .i64 0,.int .i64 0,.int .i64 0],.int .i64 0,.int .i64 0,.int .i64 0,.int .i64 0]) 0 []),Om 7 10]) (.seq (.seq (.ops [Ok 8 (.int .i64 0)]) (.block 0 (.loop (.seq (.seq (.ops [Om 11 8,Oo 12 (.bin .lss (.t 11) (.k (.int .i64 4)))]) (.cond (.t 12) .skip (.exit 0))) (.seq (.block 1 (.seq (.ops [Om 15 0,Oc 16 69 [.t 15,(.k (.int .i64 2))],Oo 17 (.bin .eql (.t 16) (.k (.int .i64 0)))]) (.cond (.t 17) (.seq (.ops [Om 18 0,Om 19 8,Oc 20 130 [.t 19],Oo 21 (.bin .add (.k (.str ⟨#[99]⟩)) (.t 20)),Om 22 1,Oc 23 70 [.t 18,.t 21,.t 22],Oo 9 (.al (.agg [.agg [.str ⟨#[]⟩,.int .i64 0,.str ⟨#[]⟩,.int .i64 0,.int .i64 0,.int .i64 0,.int .i64 0],.int .i64 0,.int .i64 0,.int .i64 0,.int .i64 0])),Os 11 9 23]) (.seq (.seq (.ops [Om 24 2,Om 25 24,⟨some 26,.ld 11 true (.t 9),some (25,true)⟩,⟨some 27,.mv (.t 1),some (25,true)⟩,⟨some 28,.call 65 [.t 26,.t 27],some (25,true)⟩,⟨some 29,.not (.t 28),some (25,true)⟩,Oo 30 (.pick (.t 25) (.t 29) (.k (.bool false)))]) (.cond (.t 30) (.seq (.ops [Oo 31 (.fa 7 1 1 (.t 9)),⟨none,.st 1 (.t 31) (.k (.int .i64 2)),none⟩]) (.ops [Oo 32 (.fa 8 1 2 (.t 9)),⟨none,.st 1 (.t 32) (.k (.int .i64 0)),none⟩])) .skip)) (.ops [Om 33 7,Od 34 11 9,Oo 35 (.bsl (.agg [.agg [.str ⟨#[]⟩,.int .i64 0,.str ⟨#[]⟩,.int .i64 0,.int .i64 0,.int .i64 0,.int .i64 0],.int .i64 0,.int .i64 0,.int .i64 0,.int .i64 0]) 1 [(0,(.t 34))]),Oo 36 (.app 11 104 (.t 33) (.t 35)),Om 7 36]))) .skip))) (.ops [Om 13 8,Oi 14 13,Om 8 14])))))) (.seq (.ops [Om 37 7,Om 6 37]) .ret))))⟩
theorem c128 : compileF Try.prog [] 128 = some cf128 := by kernel_rfl
def cf129 : CF := ⟨31,[.t 2],(.seq (.ops [Ok 2 (.nil)]) (.seq (.ops [Oo 6 (.bsl (.agg [.str ⟨#[]⟩,.int .i64 0,.str ⟨#[]⟩,.int .i64 0,.int .i64 0,.int .i64 0,.int .i64 0]) 0 []),Om 3 6]) (.seq (.seq (.ops [Ok 4 (.int .i64 0)]) (.block 0 (.loop (.seq (.seq (.ops [Om 7 4,Oo 8 (.bin .lss (.t 7) (.k (.int .i64 4)))]) (.cond (.t 8) .skip (.exit 0))) (.seq (.block 1 (.seq (.ops [Om 11 0,Oc 12 69 [.t 11,(.k (.int .i64 2))],Oo 13 (.bin .eql (.t 12) (.k (.int .i64 0)))]) (.cond (.t 13) (.seq (.ops [Om 14 0,Om 15 4,Oc 16 130 [.t 15],Oo 17 (.bin .add (.k (.str ⟨#[99]⟩)) (.t 16)),Oc 18 71 [.t 14,.t 17],Oo 5 (.al (.agg [.str ⟨#[]⟩,.int .i64 0,.str ⟨#[]⟩,.int .i64 0,.int .i64 0,.int .i64 0,.int .i64 0])),Os 7 5 18]) (.seq (.drawn [Qo 19 (.bsl (.agg [.str ⟨#[]⟩,.int .i64 0,.str ⟨#[]⟩,.int .i64 0,.int .i64 0,.int .i64 0,.int .i64 0]) 0 []),Qm 20 3,Qd 22 7 5,Qo 23 (.bsl (.agg [.str ⟨#[]⟩,.int .i64 0,.str ⟨#[]⟩,.int .i64 0,.int .i64 0,.int .i64 0,.int .i64 0]) 1 [(0,(.t 22))]),(Oo 21 (.app 7 72 (.t 19) (.t 20)),true,[(.t 5)]),(Oo 24 (.app 7 72 (.t 21) (.t 23)),true,[]),(Oc 25 19 [.t 24],true,[])]) (.cond (.t 25) (.ops [Om 26 3,Od 27 7 5,Oo 28 (.bsl (.agg [.str ⟨#[]⟩,.int .i64 0,.str ⟨#[]⟩,.int .i64 0,.int .i64 0,.int .i64 0,.int .i64 0]) 1 [(0,(.t 27))]),Oo 29 (.app 7 72 (.t 26) (.t 28)),Om 3 29]) .skip))) .skip))) (.ops [Om 9 4,Oi 10 9,Om 4 10])))))) (.seq (.ops [Om 30 3,Om 2 30]) .ret))))⟩
theorem c129 : compileF Try.prog [] 129 = some cf129 := by kernel_rfl
theorem decX (n : Int) (h0 : 0 ≤ n) (h1 : n < 10) : XC Try.prog 130 [.int .i64 n] [] fun d ls => ls = [] ∧ ∃ t : ByteArray, t.size = 1 ∧ d = .str t := by
 have hd : decide (n < 10) = true := decide_eq_true h1
 refine XC.intro' hm [] rfl c130 (Nat.le_of_ble_eq_true rfl) ?_
 conv => whnf
 repeat' (first | (refine g_op ?_; conv => whnf) | (refine And.intro ?_ ?_; (focus exact au0); conv => whnf) | (refine g_seq ?_) | (refine XS.go ?_) | (refine g_ops ?_) | (refine g_nil ?_; conv => whnf) | (refine Br.t ?_ ?_; (focus (first | assumption | exact rfl)); conv => whnf) | ((first | refine g_cond ?_ | refine g_ret ?_ | refine r_t ?_ | refine r_nil ?_ | refine fun _ => ?_); conv => whnf) | fail)
 exact ⟨_, rfl, rfl⟩
def MR (f : FuncId) (args : List Go.Ab.D) (kk : Nat) : Prop := ∀ b c p, CodeOk c → p + kk ≤ 1000000000 → XC Try.prog f (.lref 0 b [] 0 :: args) [(0, b, Rd c p)] fun d ls => ∃ (xs : List MateRun) (b' c' p' : Nat), xs.length ≤ 4 ∧ p ≤ p' ∧ p' ≤ p + kk ∧ d = .lsl 36 b' xs.length c' ∧ ls = [(0, b, Rd c p'), (36, b', .arr 11 (xs.map MateRun.D) c')]
theorem snoc_run (xs : List MateRun) {d : Go.Ab.D} (h : isRun d) : ∃ ys : List MateRun, ys.length = xs.length + 1 ∧ xs.map MateRun.D ++ [d] = ys.map MateRun.D := by
 obtain ⟨y, rfl⟩ := h
 exact ⟨xs ++ [y], by simp, by simp⟩
theorem mkRuns0 (k : Int) (ok : Bool) : MR 128 [.int .i64 k, .bool ok] 44 := by
 intro b c p hc hp
 refine XC.intro' hm [0, 36] rfl c128 (Nat.le_of_ble_eq_true rfl) ?_
 conv => whnf
 repeat' (first | (refine g_op ?_; conv => whnf) | (refine And.intro ?_ ?_; (focus exact au0); conv => whnf) | (refine g_seq ?_) | (refine g_ops ?_) | (refine g_nil ?_; conv => whnf) | fail)
 refine XS.go ?_
 conv => whnf
 repeat' (first | (refine g_op ?_; conv => whnf) | (refine And.intro ?_ ?_; (focus exact au0); conv => whnf) | (refine g_seq ?_) | (refine g_ops ?_) | (refine g_nil ?_; conv => whnf) | fail)
 refine XS.go ?_
 conv => whnf
 repeat' (first | (refine g_op ?_; conv => whnf) | (refine And.intro ?_ ?_; (focus exact au0); conv => whnf) | (refine g_seq ?_) | (refine g_ops ?_) | (refine g_nil ?_; conv => whnf) | fail)
 refine XS.own 7 36 11 rfl fun b0 => ?_
 refine XS.go ?_
 repeat' (first | (refine g_loop ?_) | (refine g_block ?_) | fail)
 refine XLc.mkG (α := Nat × List MateRun × Nat × Nat) (fun x gs => x.1 ≤ 4 ∧ x.2.1.length ≤ x.1 ∧ p ≤ x.2.2.2 ∧ x.2.2.2 ≤ p + 11 * x.1 ∧ gs 0 = b) (fun x => 4 - x.1) (fun x gs => [.lref 0 (gs 0) [] 0, .int .i64 k, .bool ok, .any, .any, .any, .any, .lsl 36 (gs 36) x.2.1.length x.2.2.1, .int .i64 (x.1 : Int)]) (fun x gs => [(0, Rd c x.2.2.2), (36, .arr 11 (x.2.1.map MateRun.D) x.2.2.1)]) (0, [], 0, p) ⟨Nat.zero_le _, Nat.le_refl _, Nat.le_refl _, Nat.le_refl _, rfl⟩ ⟨?_, ?_⟩ ?_
 ·repeat' (first | exact True.intro | refine And.intro rfl ?_)
 ·exact ⟨rfl, rfl, True.intro⟩
 intro x gs hI
 obtain ⟨i, xs, cp, q⟩ := x
 obtain ⟨hi, hxl, hq1, hq2, hg⟩ := hI
 dsimp only at hi hxl hq1 hq2 ⊢
 subst hg
 repeat' (first | (refine g_op ?_; conv => whnf) | (refine And.intro ?_ ?_; (focus exact au0); conv => whnf) | (refine g_seq ?_) | (refine XS.go ?_) | (refine g_ops ?_) | ((first | refine g_nil ?_ | refine g_cond ?_); conv => whnf) | fail)
 refine Br.mk (fun hb => ?_) (fun hb => ?_)
 ·have hlt : i < 4 := by simp at hb; omega
  clear hb
  have hw1 : IntKind.wrap .i64 ((i : Int) + 1) = ((i + 1 : Nat) : Int) := by rw [wrap_ok (by omega) (by omega)]; rfl
  have hlX : xs.length = (xs.map MateRun.D).length := (List.length_map ..).symm
  have hbd : ∀ d : Go.Ab.D, (xs.map MateRun.D).length + [d].length ≤ 1073741824 := fun d => by rw [← hlX]; simp only [List.length_cons, List.length_nil]; omega
  conv => whnf
  repeat' (first | (refine g_op ?_; conv => whnf) | (refine And.intro ?_ ?_; (focus exact au0); conv => whnf) | (refine g_seq ?_) | (refine XS.go ?_) | (refine g_ops ?_) | (refine g_skip ?_; conv => whnf) | (refine g_block ?_) | fail)
  refine XCL.pk2 hc (by omega) ⟨rfl, rfl, rfl, True.intro⟩ (fun q1 g1 g2 => ?_) (fun q1 g1 g2 => ?_) <;> (conv => whnf)
  ·conv => whnf
   repeat' (first | (refine g_op ?_; conv => whnf) | (refine And.intro ?_ ?_; (focus exact au0); conv => whnf) | (refine g_seq ?_) | (refine XS.go ?_) | (refine g_ops ?_) | (refine g_nil ?_; conv => whnf) | (refine Br.t ?_ ?_; (focus (first | assumption | exact rfl)); conv => whnf) | (refine g_cond ?_; conv => whnf) | fail)
   refine XCL.ask (decX (i : Int) (by omega) (by omega)) (fun d hd => ?_)
   obtain ⟨t, ht, rfl⟩ := hd
   conv => whnf
   have hcat : ¬ ((((⟨#[99]⟩ : ByteArray).size + t.size : Nat) : Int) > IntKind.i64.max) := catOk (by rw [ht]; decide)
   repeat' (first | ((refine And.intro hcat ?_; conv => whnf)) | ((refine XCL.mkr (mkDraw _ _) hc (by omega) ⟨rfl, rfl, rfl, True.intro⟩ (fun d q2 hR g3 g4 => ?_); obtain ⟨x, rfl⟩ := hR; conv => whnf)) | (refine g_op ?_; conv => whnf) | (refine And.intro ?_ ?_; (focus exact au0); conv => whnf) | (refine g_seq ?_) | (refine XS.go ?_) | (refine g_ops ?_) | ((first | refine g_nil ?_ | refine g_opg ?_ | refine fun _ => ?_); conv => whnf) | fail)
   cases ok with
   | false =>
    conv => whnf
    repeat' (first | ((refine And.intro hlX ?_; conv => whnf)) | ((refine And.intro (hbd _) ?_; conv => whnf)) | ((refine fun n1 bx cx hn1 hc1 => ?_; conv => whnf)) | (refine g_op ?_; conv => whnf) | (refine And.intro ?_ ?_; (focus exact au0); conv => whnf) | (refine XS.go ?_) | (refine g_ops ?_) | ((first | refine g_nil ?_ | refine g_opg ?_); conv => whnf) | (refine Br.f ?_ ?_; (focus (first | assumption | exact rfl)); conv => whnf) | ((first | refine g_cond ?_ | refine g_skip ?_ | refine fun _ => ?_); conv => whnf) | fail)
    have hn2 : n1 = (xs ++ [x]).length := by rw [hn1]; simp
    refine ⟨(i + 1, xs ++ [x], cx, q2), ⟨by dsimp only; omega, by dsimp only; rw [List.length_append]; simp only [List.length_cons, List.length_nil]; omega, by dsimp only; omega, by dsimp only; omega, rfl⟩, by simp only; omega, ?_, ?_⟩
    ·dsimp only
     repeat' (first | exact True.intro | refine And.intro (congrArg (fun k => D.lsl 36 _ k cx) hn2) ?_ | refine And.intro rfl ?_ | refine And.intro (congrArg (D.int .i64) hw1) ?_)
    ·exact ⟨rfl, congrArg (fun l => some (D.arr 11 l cx)) (by rw [List.map_append]; rfl), True.intro⟩
   | true =>
    conv => whnf
    repeat' (first | (refine g_op ?_; conv => whnf) | (refine And.intro ?_ ?_; (focus exact au0); conv => whnf) | (refine XS.go ?_) | ((first | refine g_nil ?_ | refine g_opg ?_); conv => whnf) | (refine Br.t ?_ ?_; (focus (first | assumption | exact rfl)); conv => whnf) | ((first | refine g_cond ?_ | refine XCL.of_rdr (spec_RunOk x k) ?_); conv => whnf) | fail)
    refine Br.mk (fun hb => ?_) (fun hb => ?_)
    ·clear hb
     conv => whnf
     repeat' (first | ((refine And.intro hlX ?_; conv => whnf)) | ((refine And.intro (hbd _) ?_; conv => whnf)) | ((refine fun n1 bx cx hn1 hc1 => ?_; conv => whnf)) | (refine g_op ?_; conv => whnf) | (refine And.intro ?_ ?_; (focus exact au0); conv => whnf) | (refine g_seq ?_) | (refine XS.go ?_) | (refine g_ops ?_) | ((first | refine g_nil ?_ | refine fun _ => ?_); conv => whnf) | fail)
     have hn2 : n1 = (xs ++ [({ x with fState := 2, fLeft := 0 } : MateRun)]).length := by rw [hn1]; simp
     refine ⟨(i + 1, xs ++ [({ x with fState := 2, fLeft := 0 } : MateRun)], cx, q2), ⟨by dsimp only; omega, by dsimp only; rw [List.length_append]; simp only [List.length_cons, List.length_nil]; omega, by dsimp only; omega, by dsimp only; omega, rfl⟩, by simp only; omega, ?_, ?_⟩
     ·dsimp only
      repeat' (first | exact True.intro | refine And.intro (congrArg (fun k => D.lsl 36 _ k cx) hn2) ?_ | refine And.intro rfl ?_ | refine And.intro (congrArg (D.int .i64) hw1) ?_)
     ·exact ⟨rfl, congrArg (fun l => some (D.arr 11 l cx)) (by rw [List.map_append]; rfl), True.intro⟩
    ·clear hb
     conv => whnf
     repeat' (first | ((refine And.intro hlX ?_; conv => whnf)) | ((refine And.intro (hbd _) ?_; conv => whnf)) | ((refine fun n1 bx cx hn1 hc1 => ?_; conv => whnf)) | (refine g_op ?_; conv => whnf) | (refine And.intro ?_ ?_; (focus exact au0); conv => whnf) | (refine XS.go ?_) | (refine g_ops ?_) | ((first | refine g_nil ?_ | refine g_skip ?_ | refine fun _ => ?_); conv => whnf) | fail)
     have hn2 : n1 = (xs ++ [x]).length := by rw [hn1]; simp
     refine ⟨(i + 1, xs ++ [x], cx, q2), ⟨by dsimp only; omega, by dsimp only; rw [List.length_append]; simp only [List.length_cons, List.length_nil]; omega, by dsimp only; omega, by dsimp only; omega, rfl⟩, by simp only; omega, ?_, ?_⟩
     ·dsimp only
      repeat' (first | exact True.intro | refine And.intro (congrArg (fun k => D.lsl 36 _ k cx) hn2) ?_ | refine And.intro rfl ?_ | refine And.intro (congrArg (D.int .i64) hw1) ?_)
     ·exact ⟨rfl, congrArg (fun l => some (D.arr 11 l cx)) (by rw [List.map_append]; rfl), True.intro⟩
  ·conv => whnf
   repeat' (first | (refine g_op ?_; conv => whnf) | (refine And.intro ?_ ?_; (focus exact au0); conv => whnf) | (refine XS.go ?_) | (refine g_ops ?_) | (refine g_nil ?_; conv => whnf) | (refine Br.f ?_ ?_; (focus (first | assumption | exact rfl)); conv => whnf) | ((first | refine g_cond ?_ | refine g_skip ?_); conv => whnf) | fail)
   refine ⟨(i + 1, xs, cp, q1), ⟨by dsimp only; omega, by dsimp only; omega, by dsimp only; omega, by dsimp only; omega, rfl⟩, by simp only; omega, ?_, ?_⟩
   ·dsimp only
    repeat' (first | exact True.intro | refine And.intro rfl ?_ | refine And.intro (congrArg (D.int .i64) hw1) ?_)
   ·exact ⟨rfl, rfl, True.intro⟩
 have hin : i = 4 := by simp at hb; omega
 subst hin
 clear hb
 conv => whnf
 repeat' (first | (refine g_op ?_; conv => whnf) | (refine And.intro ?_ ?_; (focus exact au0); conv => whnf) | (refine g_seq ?_) | (refine XS.go ?_) | (refine g_ops ?_) | ((first | refine g_nil ?_ | refine g_ret ?_ | refine g_exit ?_ | refine r_t ?_ | refine r_nil ?_); conv => whnf) | fail)
 exact ⟨xs, gs 36, cp, q, by omega, by omega, by omega, rfl, rfl⟩
end Go.Ab
set_option linter.unusedSimpArgs false
set_option linter.unusedVariables false
namespace Go.Ab
open Go Go.RowKit Go.Proofs
attribute [local irreducible] XC Rdr IntKind.wrap xw xos xqs xr xd
set_option maxRecDepth 100000
set_option maxHeartbeats 16000000
def MW (f : FuncId) (args : List Go.Ab.D) (kk : Nat) : Prop := ∀ b c p, CodeOk c → p + kk ≤ 1000000000 → XC Try.prog f (.lref 0 b [] 0 :: args) [(0, b, Rd c p)] fun d ls => ∃ (xs : List MateWant) (b' c' p' : Nat), xs.length ≤ 4 ∧ p ≤ p' ∧ p' ≤ p + kk ∧ d = .lsl 29 b' xs.length c' ∧ ls = [(0, b, Rd c p'), (29, b', .arr 7 (xs.map MateWant.D) c')]
theorem mkWants0 : MW 129 [] 28 := by
 intro b c p hc hp
 refine XC.intro' hm [0, 29] rfl c129 (Nat.le_of_ble_eq_true rfl) ?_
 conv => whnf
 repeat' (first | (refine g_op ?_; conv => whnf) | (refine And.intro ?_ ?_; (focus exact au0); conv => whnf) | (refine g_seq ?_) | (refine g_ops ?_) | (refine g_nil ?_; conv => whnf) | fail)
 refine XS.go ?_
 conv => whnf
 repeat' (first | (refine g_op ?_; conv => whnf) | (refine And.intro ?_ ?_; (focus exact au0); conv => whnf) | (refine g_seq ?_) | (refine g_ops ?_) | (refine g_nil ?_; conv => whnf) | fail)
 refine XS.go ?_
 conv => whnf
 repeat' (first | (refine g_op ?_; conv => whnf) | (refine And.intro ?_ ?_; (focus exact au0); conv => whnf) | (refine g_seq ?_) | (refine g_ops ?_) | (refine g_nil ?_; conv => whnf) | fail)
 refine XS.own 3 29 7 rfl fun b0 => ?_
 refine XS.go ?_
 repeat' (first | (refine g_loop ?_) | (refine g_block ?_) | fail)
 refine XLc.mkG (α := Nat × List MateWant × Nat × Nat) (fun x gs => x.1 ≤ 4 ∧ x.2.1.length ≤ x.1 ∧ p ≤ x.2.2.2 ∧ x.2.2.2 ≤ p + 7 * x.1 ∧ gs 0 = b) (fun x => 4 - x.1) (fun x gs => [.lref 0 (gs 0) [] 0, .any, .any, .lsl 29 (gs 29) x.2.1.length x.2.2.1, .int .i64 (x.1 : Int)]) (fun x gs => [(0, Rd c x.2.2.2), (29, .arr 7 (x.2.1.map MateWant.D) x.2.2.1)]) (0, [], 0, p) ⟨Nat.zero_le _, Nat.le_refl _, Nat.le_refl _, Nat.le_refl _, rfl⟩ ⟨?_, ?_⟩ ?_
 ·repeat' (first | exact True.intro | refine And.intro rfl ?_)
 ·exact ⟨rfl, rfl, True.intro⟩
 intro x gs hI
 obtain ⟨i, xs, cp, q⟩ := x
 obtain ⟨hi, hxl, hq1, hq2, hg⟩ := hI
 dsimp only at hi hxl hq1 hq2 ⊢
 subst hg
 repeat' (first | (refine g_op ?_; conv => whnf) | (refine And.intro ?_ ?_; (focus exact au0); conv => whnf) | (refine g_seq ?_) | (refine XS.go ?_) | (refine g_ops ?_) | ((first | refine g_nil ?_ | refine g_cond ?_); conv => whnf) | fail)
 refine Br.mk (fun hb => ?_) (fun hb => ?_)
 ·have hlt : i < 4 := by simp at hb; omega
  clear hb
  have hw1 : IntKind.wrap .i64 ((i : Int) + 1) = ((i + 1 : Nat) : Int) := by rw [wrap_ok (by omega) (by omega)]; rfl
  have hlX : xs.length = (xs.map MateWant.D).length := (List.length_map ..).symm
  have hbd : ∀ d : Go.Ab.D, (xs.map MateWant.D).length + [d].length ≤ 1073741824 := fun d => by rw [← hlX]; simp only [List.length_cons, List.length_nil]; omega
  conv => whnf
  repeat' (first | (refine g_op ?_; conv => whnf) | (refine And.intro ?_ ?_; (focus exact au0); conv => whnf) | (refine g_seq ?_) | (refine XS.go ?_) | (refine g_ops ?_) | (refine g_skip ?_; conv => whnf) | (refine g_block ?_) | fail)
  refine XCL.pk2 hc (by omega) ⟨rfl, rfl, rfl, True.intro⟩ (fun q1 g1 g2 => ?_) (fun q1 g1 g2 => ?_) <;> (conv => whnf)
  ·conv => whnf
   repeat' (first | (refine g_op ?_; conv => whnf) | (refine And.intro ?_ ?_; (focus exact au0); conv => whnf) | (refine g_seq ?_) | (refine XS.go ?_) | (refine g_ops ?_) | (refine g_nil ?_; conv => whnf) | (refine Br.t ?_ ?_; (focus (first | assumption | exact rfl)); conv => whnf) | (refine g_cond ?_; conv => whnf) | fail)
   refine XCL.ask (decX (i : Int) (by omega) (by omega)) (fun d hd => ?_)
   obtain ⟨t, ht, rfl⟩ := hd
   conv => whnf
   have hcat : ¬ ((((⟨#[99]⟩ : ByteArray).size + t.size : Nat) : Int) > IntKind.i64.max) := catOk (by rw [ht]; decide)
   repeat' (first | ((refine And.intro hcat ?_; conv => whnf)) | ((refine XCL.mkr (mkWant _) hc (by omega) ⟨rfl, rfl, rfl, True.intro⟩ (fun d q2 hR g3 g4 => ?_); obtain ⟨x, rfl⟩ := hR; conv => whnf)) | (refine g_op ?_; conv => whnf) | (refine And.intro ?_ ?_; (focus exact au0); conv => whnf) | ((first | refine g_nil ?_ | refine fun _ => ?_); conv => whnf) | fail)
   refine XS.go ?_
   conv => whnf
   repeat' (first | (refine And.intro ?_ ?_; (focus exact au0); conv => whnf) | (refine g_seq ?_) | (refine g_drawn ?_) | ((first | refine d_p ?_ | refine d_e ?_); conv => whnf) | fail)
   have hbare : (xs.map MateWant.D).map D.bare = xs.map MateWant.D := by rw [List.map_map]; rfl
   have ha0 : ([] : List Go.Ab.D).length + (xs.map MateWant.D).length ≤ 1073741824 := by rw [← hlX]; show 0 + _ ≤ _; omega
   refine And.intro hbare ?_
   conv => whnf
   repeat' (first | ((refine And.intro ha0 ?_; conv => whnf)) | ((refine fun n1 bx cx hn1 hc1 => ?_; subst hn1; conv => whnf)) | ((refine And.intro (List.length_append ..).symm ?_; conv => whnf)) | ((refine And.intro True.intro ?_; conv => whnf)) | ((refine And.intro ⟨⟨rfl, rfl⟩, True.intro⟩ ?_; conv => whnf)) | ((refine And.intro (hbd _) ?_; conv => whnf)) | (refine And.intro ?_ ?_; (focus exact au0); conv => whnf) | (refine d_e ?_; conv => whnf) | fail)
   have hrow : [] ++ xs.map MateWant.D ++ [x.D] = (xs ++ [x]).map MateWant.D := by rw [List.nil_append, List.map_append]; rfl
   have hnn : ([] ++ xs.map MateWant.D).length + [x.D].length = (xs ++ [x]).length := by simp
   refine XCL.of_rdrB (spec_WantsOk (xs ++ [x])) (.cons (Bor.rowM (xs := xs ++ [x]) (congrArg (fun l => some (D.arr 7 l _)) hrow) rfl hnn (fun _ => rfl)) .nil) rfl ?_
   conv => whnf
   repeat' (first | ((refine And.intro True.intro ?_; conv => whnf)) | (refine And.intro ?_ ?_; (focus exact au0); conv => whnf) | (refine XS.go ?_) | ((first | refine g_cond ?_ | refine d_nil ?_); conv => whnf) | fail)
   refine Br.mk (fun hb => ?_) (fun hb => ?_)
   ·clear hb
    conv => whnf
    repeat' (first | ((refine And.intro hlX ?_; conv => whnf)) | ((refine And.intro (hbd _) ?_; conv => whnf)) | ((refine fun n1 bx cx hn1 hc1 => ?_; conv => whnf)) | (refine g_op ?_; conv => whnf) | (refine And.intro ?_ ?_; (focus exact au0); conv => whnf) | (refine XS.go ?_) | (refine g_ops ?_) | ((first | refine g_nil ?_ | refine fun _ => ?_); conv => whnf) | fail)
    have hn2 : n1 = (xs ++ [x]).length := by rw [hn1]; simp
    refine ⟨(i + 1, xs ++ [x], cx, q2), ⟨by dsimp only; omega, by dsimp only; rw [List.length_append]; simp only [List.length_cons, List.length_nil]; omega, by dsimp only; omega, by dsimp only; omega, rfl⟩, by simp only; omega, ?_, ?_⟩
    ·dsimp only
     repeat' (first | exact True.intro | refine And.intro (congrArg (fun k => D.lsl 29 _ k cx) hn2) ?_ | refine And.intro rfl ?_ | refine And.intro (congrArg (D.int .i64) hw1) ?_)
    ·exact ⟨rfl, congrArg (fun l => some (D.arr 7 l cx)) (by rw [List.map_append]; rfl), True.intro⟩
   ·clear hb
    conv => whnf
    repeat' (first | (refine g_op ?_; conv => whnf) | (refine And.intro ?_ ?_; (focus exact au0); conv => whnf) | (refine XS.go ?_) | (refine g_ops ?_) | ((first | refine g_nil ?_ | refine g_skip ?_); conv => whnf) | fail)
    refine ⟨(i + 1, xs, cp, q2), ⟨by dsimp only; omega, by dsimp only; omega, by dsimp only; omega, by dsimp only; omega, rfl⟩, by simp only; omega, ?_, ?_⟩
    ·dsimp only
     repeat' (first | exact True.intro | refine And.intro rfl ?_ | refine And.intro (congrArg (D.int .i64) hw1) ?_)
    ·exact ⟨rfl, rfl, True.intro⟩
  ·conv => whnf
   repeat' (first | (refine g_op ?_; conv => whnf) | (refine And.intro ?_ ?_; (focus exact au0); conv => whnf) | (refine XS.go ?_) | (refine g_ops ?_) | (refine g_nil ?_; conv => whnf) | (refine Br.f ?_ ?_; (focus (first | assumption | exact rfl)); conv => whnf) | ((first | refine g_cond ?_ | refine g_skip ?_); conv => whnf) | fail)
   refine ⟨(i + 1, xs, cp, q1), ⟨by dsimp only; omega, by dsimp only; omega, by dsimp only; omega, by dsimp only; omega, rfl⟩, by simp only; omega, ?_, ?_⟩
   ·dsimp only
    repeat' (first | exact True.intro | refine And.intro rfl ?_ | refine And.intro (congrArg (D.int .i64) hw1) ?_)
   ·exact ⟨rfl, rfl, True.intro⟩
 have hin : i = 4 := by simp at hb; omega
 subst hin
 clear hb
 conv => whnf
 repeat' (first | (refine g_op ?_; conv => whnf) | (refine And.intro ?_ ?_; (focus exact au0); conv => whnf) | (refine g_seq ?_) | (refine XS.go ?_) | (refine g_ops ?_) | ((first | refine g_nil ?_ | refine g_ret ?_ | refine g_exit ?_ | refine r_t ?_ | refine r_nil ?_); conv => whnf) | fail)
 exact ⟨xs, gs 29, cp, q, by omega, by omega, by omega, rfl, rfl⟩
end Go.Ab
set_option linter.unusedSimpArgs false
set_option linter.unusedVariables false
namespace Go.Ab
open Go Go.RowKit Go.Proofs
attribute [local irreducible] XC Rdr IntKind.wrap xw xos xqs xr xd
set_option maxRecDepth 100000
set_option maxHeartbeats 16000000
theorem spec_FallX (x : Mate) (m : Bool) (hs : x.small) : XC Try.prog 51 [x.D, .bool m] [] (KO (fallR x m) 6 11 16 21) := by
 have hq := spec_MateValid x
 cases hv : validM x with
 | false =>
  have e : fallR x m = default := by simp [fallR, hv]
  rw [e]
  rw [hv] at hq
  have h : XC Try.prog 51 [x.D, .bool m] [] (fun d ls => d = mateZ ∧ ls = []) := by
   refine XC.intro' hm [] rfl c51 (Nat.le_of_ble_eq_true rfl) ?_
   conv => whnf
   repeat' (first | (refine g_op ?_; conv => whnf) | (refine And.intro ?_ ?_; (focus exact au0); conv => whnf) | (refine g_seq ?_) | (refine XS.go ?_) | (refine g_ops ?_) | (refine g_nil ?_; conv => whnf) | (refine Br.t ?_ ?_; (focus (first | assumption | exact rfl)); conv => whnf) | ((first | refine g_cond ?_ | refine g_ret ?_ | refine r_c ?_ | refine r_nil ?_ | refine fun _ => ?_ | refine XCL.of_rdr (hq) ?_); conv => whnf) | fail)
   first | done | exact ⟨rfl, rfl⟩ | exact rfl
  refine h.ren (fun _ _ _ h => h) rfl (fun d l ⟨h1, h2⟩ => ?_)
  subst h1 h2
  refine ⟨_, _, ⟨0, 0, 0, 0, 0, 0, 0, 0, rfl, rfl⟩, fun U w F h => ?_, mateZ_own _ _ _ _⟩
  have h : F = [] := h
  subst h
  exact mateZ_hol _ _ _ _ U w
 | true =>
  have e : fallR x m = { fName := x.fName, fUp := false, fClock := x.fClock, fKnown := false, fSeen := 0, fWants := [], fRuns := fallL m x.fRuns x.fRuns.length, fAsks := [], fGives := [] } := by simp [fallR, hv]
  rw [e]
  rw [hv] at hq
  have hl := hs.fRuns.1
  refine XC.intro' hm [6, 11, 16, 21] rfl c51 (Nat.le_of_ble_eq_true rfl) ?_
  conv => whnf
  repeat' (first | (refine g_op ?_; conv => whnf) | (refine And.intro ?_ ?_; (focus exact au0); conv => whnf) | (refine g_seq ?_) | (refine g_ops ?_) | ((first | refine g_nil ?_ | refine fun _ => ?_); conv => whnf) | fail)
  refine XS.go ?_
  repeat' (first | (refine g_op ?_; conv => whnf) | (refine And.intro ?_ ?_; (focus exact au0); conv => whnf) | (refine g_seq ?_) | (refine g_ops ?_) | ((first | refine g_nil ?_ | refine XCL.of_rdr (hq) ?_); conv => whnf) | fail)
  refine XS.go ?_
  repeat' (first | (refine Br.f ?_ ?_; (focus (first | assumption | exact rfl)); conv => whnf) | ((first | refine g_cond ?_ | refine g_skip ?_); conv => whnf) | fail)
  refine XS.go ?_
  repeat' (first | (refine g_op ?_; conv => whnf) | (refine And.intro ?_ ?_; (focus exact au0); conv => whnf) | (refine g_seq ?_) | (refine g_ops ?_) | ((first | refine g_nil ?_ | refine fun _ => ?_); conv => whnf) | fail)
  refine XS.ownB 5 50 11 [6] rfl rfl rfl rfl (fun b => rfl) fun b => ?_
  refine XS.go ?_
  repeat' (first | (refine g_op ?_; conv => whnf) | (refine And.intro ?_ ?_; (focus exact au0); conv => whnf) | (refine g_seq ?_) | (refine XS.go ?_) | (refine g_ops ?_) | (refine g_loop ?_) | (refine g_nil ?_; conv => whnf) | (refine g_block ?_) | fail)
  refine XLc.mkA (α := Nat × Nat) (fun i => i.1 ≤ x.fRuns.length ∧ (fallL m x.fRuns i.1).length ≤ i.2) (fun i => x.fRuns.length - i.1) (fun i gs => [.any, .bool m, .lref 2 (gs 2) [] 0, .any, .lref 4 (gs 4) [] 0, .lref 5 (gs 5) [] 0, .int .i64 (i.1 : Int)]) (fun i gs => [(2, .agg [.str x.fName, .bool x.fUp, .int .i64 x.fClock, .bool x.fKnown, .int .i64 x.fSeen, .ro 7 (x.fWants.map MateWant.D), .ro 11 (x.fRuns.map MateRun.D), .ro 4 (x.fAsks.map MateAsk.D), .ro 4 (x.fGives.map MateAsk.D)]), (4, .agg [.str ⟨#[]⟩, .bool false, .int .i64 0, .bool false, .int .i64 0, .nil, .nil, .nil, .nil]), (5, .agg [.str x.fName, .bool false, .int .i64 x.fClock, .bool false, .int .i64 0, .nil, .lsl 50 (gs 50) (fallL m x.fRuns i.1).length i.2, .nil, .nil]), (50, .arr 11 ((fallL m x.fRuns i.1).map MateRun.D) i.2)]) (0, 0) ⟨Nat.zero_le _, Nat.le_refl _⟩ ?_ ?_
  ·refine ⟨?_, ?_⟩
   ·repeat' (first | exact True.intro | refine And.intro rfl ?_)
   ·exact ⟨rfl, rfl, rfl, rfl, True.intro⟩
  intro i gs hI
  obtain ⟨i, cp⟩ := i
  obtain ⟨hi0, hi1⟩ := hI
  simp only at hi0 hi1
  dsimp only
  repeat' (first | (refine z_ld1 ?_; first | (refine z_ld rfl rfl rfl rfl au1 au2 ?_; conv => whnf) | (refine z_ld0 rfl ?_; conv => whnf)) | (refine z_op ?_ ?_; (focus exact rfl); conv => whnf) | (refine zs_ops ?_ ?_; (focus exact rfl)) | (refine z_nil fun vals => ?_; conv => whnf) | (refine And.intro ?_ ?_; (focus exact au0); conv => whnf) | (refine g_seq ?_) | (refine XS.go ?_) | (refine g_cond ?_; conv => whnf) | fail)
  refine Br.mk (fun hb => ?_) (fun hb => ?_)
  ·have hlt : i < x.fRuns.length := by simpa using hb
   clear hb
   have hF : (∀ y, fallE m (x.fRuns.getD i default) = some y → fallL m x.fRuns (i + 1) = fallL m x.fRuns i ++ [y]) ∧ (fallE m (x.fRuns.getD i default) = none → fallL m x.fRuns (i + 1) = fallL m x.fRuns i) ∧ (fallL m x.fRuns i).length ≤ x.fRuns.length := ⟨fun y => fallL_some hlt, fallL_none hlt, fallL_len⟩
   generalize fallL m x.fRuns = A at hi1 hF ⊢
   conv => whnf
   repeat' (first | (refine z_ld1 ?_; first | (refine z_ld rfl rfl rfl rfl au1 au2 ?_; conv => whnf) | (refine z_ld0 rfl ?_; conv => whnf)) | (refine z_ld1g ?_; first | (refine z_ldg rfl rfl rfl rfl rfl rfl rfl (by (repeat intro _); exact ⟨au1, au2⟩) rfl rfl rfl rfl ?_; conv => whnf) | (refine z_ld0g ?_; (conv => whnf); refine And.intro ?_ ?_; (focus exact rfl); conv => whnf)) | (refine z_st1 ?_; first | (refine z_st rfl rfl rfl au1 au2 rfl rfl ?_; conv => whnf) | (refine z_st0 ?_; conv => whnf)) | (refine z_ix1 ?_; first | (refine z_ix rfl rfl rfl rfl rfl ⟨by first | omega | (simp only [decide_eq_true_eq, Bool.not_eq_true', Bool.or_eq_false_iff, decide_eq_false_iff_not, Bool.and_eq_true, Bool.not_eq_false'] at *; omega), by first | omega | (simp only [decide_eq_true_eq, Bool.not_eq_true', Bool.or_eq_false_iff, decide_eq_false_iff_not, Bool.and_eq_true, Bool.not_eq_false'] at *; omega)⟩ ?_; conv => whnf) | (refine z_ix0 rfl rfl ?_; conv => whnf)) | (refine z_op ?_ ?_; (focus exact rfl); conv => whnf) | (refine z_opg0 ?_; (conv => whnf); refine And.intro ?_ ?_; (focus exact rfl); conv => whnf) | (refine z_pick ?_ ?_; (focus exact rfl); conv => whnf) | (refine z_pickg ?_; (conv => whnf); refine And.intro ?_ ?_; (focus exact rfl); conv => whnf) | (refine zs_ops ?_ ?_; (focus exact rfl)) | (refine z_nil fun vals => ?_; conv => whnf) | (refine z_call ?_ ?_; (focus exact rfl)) | (refine z_eff ?_; conv => whnf) | (refine RC.of (spec_Alive (x.fRuns.getD i default)) ?_ ?_; (focus exact rfl); conv => whnf) | (refine g_op ?_; conv => whnf) | (refine And.intro ?_ ?_; (focus exact au0); conv => whnf) | (refine g_seq ?_) | (refine XS.go ?_) | (refine g_ops ?_) | ((first | refine g_nil ?_ | refine g_cond ?_ | refine g_skip ?_); conv => whnf) | (refine g_block ?_) | (refine fun _ => ?_; conv => whnf) | (refine Br.mk (fun hb => ?_) (fun hb => ?_) <;> conv => whnf) | fail)
   ·have hm : m = true := by first | assumption | (simp_all; done)
    have he := hF.1 { x.fRuns.getD i default with fState := 2, fLeft := 0 } (by unfold fallE; exact (if_pos hb).trans (by rw [hm]; rfl))
    have hAl := hF.2.2
    have hln : (A i).length + 1 = (A (i + 1)).length := by rw [he]; simp
    have hmp : ∀ d, d = ({ x.fRuns.getD i default with fState := 2, fLeft := 0 } : MateRun).D → (A i).map MateRun.D ++ [d] = (A (i + 1)).map MateRun.D := fun d h => by rw [h, he, List.map_append]; rfl
    refine ⟨by simp, rfl, ?_⟩
    conv => whnf
    refine ⟨rfl, ?_⟩
    conv => whnf
    refine ⟨rfl, rfl, rfl, ?_⟩
    conv => whnf
    refine ⟨?_, Nat.le_of_ble_eq_true rfl, (by decide), fun n' b' c' hn hc => ?_⟩
    ·show _ + 1 ≤ 1073741824
     rw [List.length_map]; omega
    have hn : n' = (A i).length + 1 := by rw [hn, List.length_map]; rfl
    subst hn
    conv => whnf
    repeat' (first | (refine z_st1 ?_; first | (refine z_st rfl rfl rfl au1 au2 rfl rfl ?_; conv => whnf) | (refine z_st0 ?_; conv => whnf)) | (refine z_op ?_ ?_; (focus exact rfl); conv => whnf) | ((first | refine z_nil fun vals => ?_ | refine g_op ?_); conv => whnf) | (refine And.intro ?_ ?_; (focus exact au0); conv => whnf) | (refine XS.go ?_) | (refine g_ops ?_) | (refine g_nil ?_; conv => whnf) | fail)
    refine ⟨(i + 1, c'), ⟨by simp only; omega, by simp only; omega⟩, by simp only; omega, ?_, ?_⟩
    ·have hw : IntKind.wrap .i64 ((i : Int) + 1) = ((i + 1 : Nat) : Int) := by rw [wrap_ok (by omega) (by omega)]; rfl
     repeat' (first | exact True.intro | refine And.intro (congrArg (D.int .i64) hw) ?_ | refine And.intro rfl ?_)
    ·exact ⟨rfl, rfl, congrArg (fun n => some (D.agg [.str x.fName, .bool false, .int .i64 x.fClock, .bool false, .int .i64 0, .nil, .lsl 50 b' n c', .nil, .nil])) hln, congrArg (fun l => some (D.arr 11 l c')) (hmp _ rfl), True.intro⟩
   ·have he := hF.2.1 (by unfold fallE; exact if_neg (fun h => by have h2 := hb.symm.trans h; cases h2))
    refine ⟨(i + 1, cp), ⟨by simp only; omega, by simp only; rw [he]; exact hi1⟩, by simp only; omega, ?_, ?_⟩
    ·have hw : IntKind.wrap .i64 ((i : Int) + 1) = ((i + 1 : Nat) : Int) := by rw [wrap_ok (by omega) (by omega)]; rfl
     repeat' (first | exact True.intro | refine And.intro (congrArg (D.int .i64) hw) ?_ | refine And.intro rfl ?_)
    ·exact ⟨rfl, rfl, congrArg (fun l : List MateRun => some (D.agg [.str x.fName, .bool false, .int .i64 x.fClock, .bool false, .int .i64 0, .nil, .lsl 50 (gs 50) l.length cp, .nil, .nil])) he.symm, congrArg (fun l : List MateRun => some (D.arr 11 (l.map MateRun.D) cp)) he.symm, True.intro⟩
   ·have hm : m = false := by first | assumption | (simp_all; done)
    have he := hF.1 (x.fRuns.getD i default) (by unfold fallE; exact (if_pos hb).trans (by rw [hm]; rfl))
    have hAl := hF.2.2
    have hln : (A i).length + 1 = (A (i + 1)).length := by rw [he]; simp
    have hmp : ∀ d, d = ((x.fRuns.getD i default)).D → (A i).map MateRun.D ++ [d] = (A (i + 1)).map MateRun.D := fun d h => by rw [h, he, List.map_append]; rfl
    refine ⟨by simp, rfl, ?_⟩
    conv => whnf
    refine ⟨rfl, ?_⟩
    conv => whnf
    refine ⟨rfl, rfl, rfl, ?_⟩
    conv => whnf
    refine ⟨?_, Nat.le_of_ble_eq_true rfl, (by decide), fun n' b' c' hn hc => ?_⟩
    ·show _ + 1 ≤ 1073741824
     rw [List.length_map]; omega
    have hn : n' = (A i).length + 1 := by rw [hn, List.length_map]; rfl
    subst hn
    conv => whnf
    repeat' (first | (refine z_st1 ?_; first | (refine z_st rfl rfl rfl au1 au2 rfl rfl ?_; conv => whnf) | (refine z_st0 ?_; conv => whnf)) | (refine z_op ?_ ?_; (focus exact rfl); conv => whnf) | ((first | refine z_nil fun vals => ?_ | refine g_op ?_); conv => whnf) | (refine And.intro ?_ ?_; (focus exact au0); conv => whnf) | (refine XS.go ?_) | (refine g_ops ?_) | (refine g_nil ?_; conv => whnf) | fail)
    refine ⟨(i + 1, c'), ⟨by simp only; omega, by simp only; omega⟩, by simp only; omega, ?_, ?_⟩
    ·have hw : IntKind.wrap .i64 ((i : Int) + 1) = ((i + 1 : Nat) : Int) := by rw [wrap_ok (by omega) (by omega)]; rfl
     repeat' (first | exact True.intro | refine And.intro (congrArg (D.int .i64) hw) ?_ | refine And.intro rfl ?_)
    ·exact ⟨rfl, rfl, congrArg (fun n => some (D.agg [.str x.fName, .bool false, .int .i64 x.fClock, .bool false, .int .i64 0, .nil, .lsl 50 b' n c', .nil, .nil])) hln, congrArg (fun l => some (D.arr 11 l c')) (hmp _ rfl), True.intro⟩
   ·have he := hF.2.1 (by unfold fallE; exact if_neg (fun h => by have h2 := hb.symm.trans h; cases h2))
    refine ⟨(i + 1, cp), ⟨by simp only; omega, by simp only; rw [he]; exact hi1⟩, by simp only; omega, ?_, ?_⟩
    ·have hw : IntKind.wrap .i64 ((i : Int) + 1) = ((i + 1 : Nat) : Int) := by rw [wrap_ok (by omega) (by omega)]; rfl
     repeat' (first | exact True.intro | refine And.intro (congrArg (D.int .i64) hw) ?_ | refine And.intro rfl ?_)
    ·exact ⟨rfl, rfl, congrArg (fun l : List MateRun => some (D.agg [.str x.fName, .bool false, .int .i64 x.fClock, .bool false, .int .i64 0, .nil, .lsl 50 (gs 50) l.length cp, .nil, .nil])) he.symm, congrArg (fun l : List MateRun => some (D.arr 11 (l.map MateRun.D) cp)) he.symm, True.intro⟩
  have hi : i = x.fRuns.length := by
   have : ¬ i < x.fRuns.length := by simpa using hb
   omega
  subst hi
  conv => whnf
  repeat' (first | (refine g_exit ?_; conv => whnf) | fail)
  refine XS.ownB 5 51 7 [5] rfl rfl rfl rfl (fun b => rfl) fun b1 => ?_
  refine XS.ownB 5 52 4 [7] rfl rfl rfl rfl (fun b => rfl) fun b2 => ?_
  refine XS.ownB 5 53 4 [8] rfl rfl rfl rfl (fun b => rfl) fun b3 => ?_
  refine XS.go ?_
  repeat' (first | (refine g_op ?_; conv => whnf) | (refine And.intro ?_ ?_; (focus exact au0); conv => whnf) | (refine g_seq ?_) | (refine g_ops ?_) | fail)
  have hys := fallR_small m hs
  rw [e] at hys
  refine XCL.of_XC (ls := Mate.L ({ fName := x.fName, fUp := false, fClock := x.fClock, fKnown := false, fSeen := 0, fWants := [], fRuns := fallL m x.fRuns x.fRuns.length, fAsks := [], fGives := [] } : Mate) 51 50 52 53 b1 (gs 50) b2 b3 0 cp 0 0) ⟨rfl, rfl, rfl, rfl, rfl, rfl, rfl, rfl, rfl, rfl, rfl, rfl, True.intro⟩ ((spec_CopyG 51 50 52 53 ({ fName := x.fName, fUp := false, fClock := x.fClock, fKnown := false, fSeen := 0, fWants := [], fRuns := fallL m x.fRuns x.fRuns.length, fAsks := [], fGives := [] } : Mate) b1 (gs 50) b2 b3 0 cp 0 0 hys).mono fun d ls h => ?_)
  obtain ⟨d1, d2, d3, d4, e1, e2, e3, e4, rfl, rfl⟩ := h
  conv => whnf
  repeat' (first | (refine g_op ?_; conv => whnf) | (refine And.intro ?_ ?_; (focus exact au0); conv => whnf) | (refine XS.go ?_) | ((first | refine g_nil ?_ | refine g_ret ?_ | refine r_c ?_ | refine r_nil ?_); conv => whnf) | fail)
  exact ⟨d1, d2, d3, d4, e1, e2, e3, e4, rfl, rfl⟩
end Go.Ab
set_option linter.unusedSimpArgs false
set_option linter.unusedVariables false
namespace Go.Ab
open Go Go.RowKit Go.Proofs
attribute [local irreducible] XC Rdr IntKind.wrap xw xos xqs xr xd
set_option maxRecDepth 100000
end Go.Ab
set_option linter.unusedSimpArgs false
set_option linter.unusedVariables false
namespace Go.Ab
open Go Go.RowKit Go.Proofs
attribute [local irreducible] XC Rdr IntKind.wrap xw xos xqs xr xd
set_option maxRecDepth 100000
set_option maxHeartbeats 16000000
def cf117 : CF := ⟨180,[.c 2 9 true],(.seq (.ops [Oo 2 (.al (.agg [.str ⟨#[]⟩,.bool false,.int .i64 0,.bool false,.int .i64 0,.nil,.nil,.nil,.nil]))]) (.seq (.ops [Om 10 0,Oc 11 69 [.t 10,(.k (.int .i64 6))],Oo 12 (.bin .gtr (.t 11) (.k (.int .i64 0))),Om 13 0,Oc 14 69 [.t 13,(.k (.int .i64 60))],Oo 15 (.bld (.agg [.str ⟨#[]⟩,.bool false,.int .i64 0,.bool false,.int .i64 0,.nil,.nil,.nil,.nil]) [(0,0,1,(.k (.str ⟨#[97]⟩))),(1,1,1,(.t 12)),(2,2,1,(.t 14))]),Oo 3 (.al (.agg [.str ⟨#[]⟩,.bool false,.int .i64 0,.bool false,.int .i64 0,.nil,.nil,.nil,.nil])),Os 9 3 15]) (.seq (.ops [Om 16 0,Of 17 2 3,Ol 18 17,Oc 19 128 [.t 16,.t 18,(.k (.bool true))],Of 20 6 3,Os 1 20 19]) (.seq (.seq (.ops [Of 21 1 3,Ol 22 21,Oo 23 (.not (.t 22))]) (.cond (.t 23) (.seq (.drawn [Qd 24 9 3,Qm 25 0,(Oc 26 69 [.t 25,(.k (.int .i64 3))],true,[(.t 3)]),Qo 27 (.bin .eql (.t 26) (.k (.int .i64 0))),(Oc 28 51 [.t 24,.t 27],true,[]),Qs 9 2 28]) .ret) .skip)) (.seq (.seq (.ops [Om 29 0,Oc 30 69 [.t 29,(.k (.int .i64 6))],Oo 31 (.bin .gtr (.t 30) (.k (.int .i64 0)))]) (.cond (.t 31) (.seq (.ops [Of 32 3 3,⟨none,.st 1 (.t 32) (.k (.bool true)),none⟩]) (.seq (.ops [Om 33 0,Oc 34 69 [.t 33,(.k (.int .i64 4))],Of 35 4 3,Os 1 35 34]) (.seq (.ops [Om 36 0,Oc 37 129 [.t 36],Of 38 5 3,Os 1 38 37]) (.seq (.ops [Ok 4 (.int .i64 0)]) (.block 0 (.loop (.seq (.seq (.ops [Om 39 4,Of 40 6 3,Ol 41 40,Og 42 41,Ob 43 .lss 39 42]) (.cond (.t 43) .skip (.exit 0))) (.seq (.block 1 (.seq (.drawn [Qf 47 5 3,Ql 48 47,Qf 49 6 3,Ql 50 49,Qm 51 4,Qx 52 11 50 51,Qo 53 (.fa 0 7 0 (.t 52)),Qf 54 0 53,Ql 55 54,(Oc 56 108 [.t 48,.t 55],true,[]),Qm 46 56,Qo 57 (.ext (.t 46) 0),Qo 58 (.ext (.t 46) 1),(Oo 5 (.al (.agg [.str ⟨#[]⟩,.int .i64 0,.str ⟨#[]⟩,.int .i64 0,.int .i64 0,.int .i64 0,.int .i64 0])),true,[]),Qs 7 5 57,Qm 6 58]) (.seq (.ops [Om 59 6,Om 60 59,⟨some 61,.mv (.t 0),some (60,true)⟩,⟨some 62,.call 69 [.t 61,(.k (.int .i64 4))],some (60,true)⟩,⟨some 63,.bin .gtr (.t 62) (.k (.int .i64 0)),some (60,true)⟩,Oo 64 (.pick (.t 60) (.t 63) (.k (.bool false)))]) (.cond (.t 64) (.seq (.ops [Of 65 6 3,Ol 66 65,Om 67 4,Od 68 7 5,Ox 69 11 66 67,Oo 70 (.fa 0 7 0 (.t 69)),Os 7 70 68]) (.seq (.seq (.ops [Of 71 2 5,Ol 72 71,Oo 73 (.bin .eql (.t 72) (.k (.str ⟨#[]⟩)))]) (.cond (.t 73) (.ops [Of 74 6 3,Ol 75 74,Om 76 4,Ox 77 11 75 76,Oo 78 (.fa 10 1 4 (.t 77)),⟨none,.st 1 (.t 78) (.k (.int .i64 0)),none⟩]) .skip)) (.seq (.quiet [Of 79 6 3,Ol 80 79,Om 81 4,Ox 82 11 80 81,Od 83 11 82,Of 84 2 3,Ol 85 84,Oc 86 65 [.t 83,.t 85],Oo 87 (.not (.t 86))]) (.cond (.t 87) (.seq (.ops [Of 88 6 3,Ol 89 88,Om 90 4,Ox 91 11 89 90,Oo 92 (.fa 7 1 1 (.t 91)),⟨none,.st 1 (.t 92) (.k (.int .i64 2)),none⟩]) (.ops [Of 93 6 3,Ol 94 93,Om 95 4,Ox 96 11 94 95,Oo 97 (.fa 8 1 2 (.t 96)),⟨none,.st 1 (.t 97) (.k (.int .i64 0)),none⟩])) .skip)))) .skip)))) (.ops [Om 44 4,Oi 45 44,Om 4 45]))))))))) .skip)) (.seq (.seq (.ops [Ok 7 (.int .i64 0)]) (.block 2 (.loop (.seq (.seq (.ops [Om 98 7,Oo 99 (.bin .lss (.t 98) (.k (.int .i64 3)))]) (.cond (.t 99) .skip (.exit 2))) (.seq (.block 3 (.seq (.drawn [Qo 102 (.bsl (.str ⟨#[]⟩) 3 [(0,(.k (.str ⟨#[105,112]⟩))),(1,(.k (.str ⟨#[118,111,108]⟩))),(2,(.k (.str ⟨#[118,111,108,50]⟩)))]),Qm 103 7,Qx 104 1 102 103,Ql 105 104,Qm 106 0,Qf 110 2 3,Ql 111 110,Qm 112 0,(Oc 107 69 [.t 106,(.k (.int .i64 4))],true,[(.t 110),(.t 104)]),(Oc 108 130 [.t 107],true,[(.t 110),(.t 104)]),Qo 109 (.bin .add (.k (.str ⟨#[99]⟩)) (.t 108)),(Oc 113 69 [.t 112,(.k (.int .i64 12))],true,[(.t 110),(.t 104)]),Qb 114 .sub 111 113,Qo 115 (.bld (.agg [.str ⟨#[]⟩,.str ⟨#[]⟩,.int .i64 0,.int .i64 0]) [(0,0,1,(.t 105)),(1,1,1,(.t 109)),(3,3,1,(.t 114))]),(Oo 8 (.al (.agg [.str ⟨#[]⟩,.str ⟨#[]⟩,.int .i64 0,.int .i64 0])),true,[(.t 110),(.t 104)]),Qs 4 8 115]) (.seq (.seq (.ops [Ok 9 (.int .i64 0)]) (.block 4 (.loop (.seq (.seq (.ops [Om 116 9,Of 117 6 3,Ol 118 117,Og 119 118,Ob 120 .lss 116 119]) (.cond (.t 120) .skip (.exit 4))) (.seq (.block 5 (.seq (.drawn [Qf 123 6 3,Ql 124 123,Qm 125 9,Qx 126 11 124 125,Qo 127 (.fa 0 7 0 (.t 126)),Qf 128 2 127,Ql 129 128,Qf 130 0 8,Ql 131 130,Qb 132 .eql 129 131,Qm 133 132,(⟨some 134,.mv (.t 0),some (133,true)⟩,false,[]),(⟨some 135,.call 69 [.t 134,(.k (.int .i64 4))],some (133,true)⟩,true,[]),(⟨some 136,.bin .gtr (.t 135) (.k (.int .i64 0)),some (133,true)⟩,false,[]),Qo 137 (.pick (.t 133) (.t 136) (.k (.bool false)))]) (.cond (.t 137) (.ops [Of 138 6 3,Ol 139 138,Om 140 9,Ox 141 11 139 140,Oo 142 (.fa 0 7 0 (.t 141)),Of 143 0 142,Ol 144 143,Of 145 1 8,Os 1 145 144]) .skip))) (.ops [Om 121 9,Oi 122 121,Om 9 122])))))) (.seq (.seq (.ops [Of 146 3 8,Ol 147 146,Oo 148 (.bin .lss (.t 147) (.k (.int .i64 0)))]) (.cond (.t 148) (.ops [Of 149 3 8,⟨none,.st 1 (.t 149) (.k (.int .i64 0)),none⟩]) .skip)) (.seq (.drawn [Qf 150 3 8,Ql 151 150,Qm 152 0,(Oc 153 69 [.t 152,(.k (.int .i64 6))],true,[(.t 150)]),Qb 154 .sub 151 153,Qf 155 2 8,Qs 1 155 154]) (.seq (.seq (.ops [Of 156 2 8,Ol 157 156,Oo 158 (.bin .lss (.t 157) (.k (.int .i64 0)))]) (.cond (.t 158) (.ops [Of 159 2 8,⟨none,.st 1 (.t 159) (.k (.int .i64 0)),none⟩]) .skip)) (.seq (.ops [Om 160 0,Oc 161 69 [.t 160,(.k (.int .i64 4))]]) (.block 6 (.seq (.seq (.ops [Oo 163 (.bin .eql (.t 161) (.k (.int .i64 0))),Om 162 163]) (.cond (.t 162) .skip (.ops [Oo 164 (.bin .eql (.t 161) (.k (.int .i64 1))),Om 162 164]))) (.cond (.t 162) (.ops [Of 165 7 3,Ol 166 165,Od 167 4 8,Oo 168 (.bsl (.agg [.str ⟨#[]⟩,.str ⟨#[]⟩,.int .i64 0,.int .i64 0]) 1 [(0,(.t 167))]),Oo 169 (.app 4 48 (.t 166) (.t 168)),Of 170 7 3,Os 1 170 169]) (.seq (.ops [Oo 172 (.bin .eql (.t 161) (.k (.int .i64 2))),Om 171 172]) (.cond (.t 171) (.ops [Of 173 8 3,Ol 174 173,Od 175 4 8,Oo 176 (.bsl (.agg [.str ⟨#[]⟩,.str ⟨#[]⟩,.int .i64 0,.int .i64 0]) 1 [(0,(.t 175))]),Oo 177 (.app 4 48 (.t 174) (.t 176)),Of 178 8 3,Os 1 178 177]) .skip)))))))))))) (.ops [Om 100 7,Oi 101 100,Om 7 101])))))) (.seq (.ops [Od 179 9 3,Os 9 2 179]) .ret)))))))⟩
theorem c117 : compileF Try.prog [1000023, 1000027] 117 = some cf117 := by kernel_rfl
theorem frz_fall (x : Mate) (m : Bool) (b1 b2 b3 b4 c1 c2 c3 c4 : Nat) : frzVs (x.L 29 36 169 177 b1 b2 b3 b4 c1 c2 c3 c4) [x.O 29 36 169 177 b1 b2 b3 b4 c1 c2 c3 c4, .bool m] = [x.D, .bool m] := by
 have t1 : (D.frozs (x.fWants.map MateWant.D)).take x.fWants.length = x.fWants.map MateWant.D := by rw [D.frozs_map (fun _ => rfl), List.take_of_length_le (by simp)]
 have t2 : (D.frozs (x.fRuns.map MateRun.D)).take x.fRuns.length = x.fRuns.map MateRun.D := by rw [D.frozs_map (fun _ => rfl), List.take_of_length_le (by simp)]
 have t3 : (D.frozs (x.fAsks.map MateAsk.D)).take x.fAsks.length = x.fAsks.map MateAsk.D := by rw [D.frozs_map (fun _ => rfl), List.take_of_length_le (by simp)]
 have t4 : (D.frozs (x.fGives.map MateAsk.D)).take x.fGives.length = x.fGives.map MateAsk.D := by rw [D.frozs_map (fun _ => rfl), List.take_of_length_le (by simp)]
 show [D.agg [.str x.fName, .bool x.fUp, .int .i64 x.fClock, .bool x.fKnown, .int .i64 x.fSeen, .ro 7 ((D.frozs (x.fWants.map MateWant.D)).take x.fWants.length), .ro 11 ((D.frozs (x.fRuns.map MateRun.D)).take x.fRuns.length), .ro 4 ((D.frozs (x.fAsks.map MateAsk.D)).take x.fAsks.length), .ro 4 ((D.frozs (x.fGives.map MateAsk.D)).take x.fGives.length)], D.bool m] = [x.D, D.bool m]
 rw [t1, t2, t3, t4]
 rfl
theorem ok_fall (x : Mate) (m : Bool) (b1 b2 b3 b4 c1 c2 c3 c4 : Nat) : okVs (x.L 29 36 169 177 b1 b2 b3 b4 c1 c2 c3 c4) [x.O 29 36 169 177 b1 b2 b3 b4 c1 c2 c3 c4, .bool m] :=
 ⟨⟨True.intro, True.intro, True.intro, True.intro, True.intro, ⟨rfl, Nat.le_of_eq (by simp)⟩, ⟨rfl, Nat.le_of_eq (by simp)⟩, ⟨rfl, Nat.le_of_eq (by simp)⟩, ⟨rfl, Nat.le_of_eq (by simp)⟩, True.intro⟩, True.intro, True.intro⟩
theorem spec_FallB (x : Mate) (m : Bool) (hs : x.small) (b1 b2 b3 b4 c1 c2 c3 c4 : Nat) : XC Try.prog 51 [x.O 29 36 169 177 b1 b2 b3 b4 c1 c2 c3 c4, .bool m] (x.L 29 36 169 177 b1 b2 b3 b4 c1 c2 c3 c4) (fun d ls => ∃ l, ls = x.L 29 36 169 177 b1 b2 b3 b4 c1 c2 c3 c4 ++ l ∧ KO (fallR x m) 6 11 16 21 d l) := by
 have h := spec_FallX x m hs
 rw [← frz_fall x m b1 b2 b3 b4 c1 c2 c3 c4] at h
 exact XC.bor h (ok_fall x m b1 b2 b3 b4 c1 c2 c3 c4) (fun d l h => h.cl)
/-- What a drawn mate is: some mate with short lists, its rows its own. -/
structure DrawOk (m : Mate) : Prop where
 w : m.fWants.length ≤ 4
 r : m.fRuns.length ≤ 4
 a : m.fAsks.length ≤ 3
 g : m.fGives.length ≤ 3
theorem fall_draw {m : Mate} (k : Bool) (h : DrawOk m) : DrawOk (fallR m k) := by
 unfold fallR
 split
 ·exact ⟨Nat.zero_le _, Nat.le_trans fallL_len h.r, Nat.zero_le _, Nat.zero_le _⟩
 ·exact ⟨Nat.zero_le _, Nat.zero_le _, Nat.zero_le _, Nat.zero_le _⟩
theorem mkDraw0 (b : Nat) (c : List Int) (p : Nat) (hc : CodeOk c) (hp : p + 1000 ≤ 1000000000) : XC Try.prog 117 [.lref 0 b [] 0] [(0, b, Rd c p)] (fun d ls => ∃ (m : Mate) (p' : Nat), p ≤ p' ∧ p' ≤ p + 1000 ∧ DrawOk m ∧ ∃ b1 b2 b3 b4 c1 c2 c3 c4, d = m.O 29 36 169 177 b1 b2 b3 b4 c1 c2 c3 c4 ∧ ls = (0, b, Rd c p') :: m.L 29 36 169 177 b1 b2 b3 b4 c1 c2 c3 c4) := by
 refine XC.intro' hm [0, 29, 36, 169, 177] rfl c117 (Nat.le_of_ble_eq_true rfl) ?_
 conv => whnf
 repeat' (first | (refine g_op ?_; conv => whnf) | (refine And.intro ?_ ?_; (focus exact au0); conv => whnf) | (refine g_seq ?_) | (refine g_ops ?_) | ((first | refine g_nil ?_ | refine fun _ => ?_); conv => whnf) | fail)
 refine XS.go ?_
 conv => whnf
 rename_i b2
 repeat' (first | ((refine XCL.pkv (by decide) hc (by omega) ⟨rfl, rfl, rfl, True.intro⟩ (fun v q v1 v2 q1 q2 => ?_); conv => whnf)) | (refine g_op ?_; conv => whnf) | (refine And.intro ?_ ?_; (focus exact au0); conv => whnf) | (refine g_seq ?_) | (refine g_ops ?_) | ((first | refine g_nil ?_ | refine fun _ => ?_); conv => whnf) | fail)
 generalize decide ((_ : Int) > 0) = up
 rename_i b3
 have hq1 : p ≤ q := by omega
 have hq2 : q ≤ p + 2 := by omega
 clear q1 q2 v1 v2
 refine XS.weakenA (fs := [.lref 0 b [] 0, .any, .lref 2 b2 [] 0, .lref 3 b3 [] 0]) (ls := [(0, Rd c q), (2, .agg [.str ⟨#[]⟩, .bool false, .int .i64 0, .bool false, .int .i64 0, .nil, .nil, .nil, .nil]), (3, .agg [.str ⟨#[97]⟩, .bool up, .int .i64 v, .bool false, .int .i64 0, .nil, .nil, .nil, .nil])]) ⟨?_, ?_⟩ ?_
 ·repeat' (first | exact True.intro | refine And.intro rfl ?_)
 ·exact ⟨rfl, rfl, rfl, True.intro⟩
 have hR := mkRuns0 v true b c q hc (by omega)
 refine XS.go ?_
 conv => whnf
 repeat' (first | (refine g_op ?_; conv => whnf) | (refine And.intro ?_ ?_; (focus exact au0); conv => whnf) | (refine g_seq ?_) | (refine g_ops ?_) | fail)
 refine XCL.of_XC (ls := [(0, b, Rd c q)]) ⟨rfl, rfl, rfl, True.intro⟩ (hR.mono fun d ls h => ?_)
 obtain ⟨xs, br, cr, q3, hx, g1, g2, rfl, rfl⟩ := h
 conv => whnf
 repeat' (first | (refine g_op ?_; conv => whnf) | (refine And.intro ?_ ?_; (focus exact au0); conv => whnf) | (refine g_nil ?_; conv => whnf) | fail)
 refine XS.ownB 3 29 7 [5] rfl rfl rfl rfl (fun b => rfl) fun b29 => ?_
 refine XS.ownB 3 169 4 [7] rfl rfl rfl rfl (fun b => rfl) fun b169 => ?_
 refine XS.ownB 3 177 4 [8] rfl rfl rfl rfl (fun b => rfl) fun b177 => ?_
 have hm0 : ∃ m0 : Mate, m0 = ⟨⟨#[97]⟩, up, v, false, 0, [], xs, [], []⟩ := ⟨_, rfl⟩
 obtain ⟨m0, hm0⟩ := hm0
 have hmO : m0.O 29 36 169 177 b29 br b169 b177 0 cr 0 0 = .agg [.str ⟨#[97]⟩, .bool up, .int .i64 v, .bool false, .int .i64 0, .lsl 29 b29 0 0, .lsl 36 br xs.length cr, .lsl 169 b169 0 0, .lsl 177 b177 0 0] := by rw [hm0]; rfl
 refine XS.weakenA (fs := [.lref 0 b [] 0, .any, .lref 2 b2 [] 0, .lref 3 b3 [] 0]) (ls := [(0, Rd c q3), (2, .agg [.str ⟨#[]⟩, .bool false, .int .i64 0, .bool false, .int .i64 0, .nil, .nil, .nil, .nil]), (3, .agg [.str m0.fName, .bool m0.fUp, .int .i64 m0.fClock, .bool m0.fKnown, .int .i64 m0.fSeen, .lsl 29 b29 m0.fWants.length 0, .lsl 36 br m0.fRuns.length cr, .lsl 169 b169 m0.fAsks.length 0, .lsl 177 b177 m0.fGives.length 0]), (29, .arr 7 (m0.fWants.map MateWant.D) 0), (36, .arr 11 (m0.fRuns.map MateRun.D) cr), (169, .arr 4 (m0.fAsks.map MateAsk.D) 0), (177, .arr 4 (m0.fGives.map MateAsk.D) 0)]) ⟨?_, ?_⟩ ?_
 ·repeat' (first | exact True.intro | refine And.intro rfl ?_)
 ·(subst hm0; exact ⟨rfl, rfl, rfl, rfl, rfl, rfl, rfl, True.intro⟩)
 have hD : DrawOk m0 := by subst hm0; exact ⟨Nat.zero_le _, hx, Nat.zero_le _, Nat.zero_le _⟩
 have hup : m0.fUp = up := by rw [hm0]
 have hA0 : m0.fAsks.length = 0 := by rw [hm0]; rfl
 have hG0 : m0.fGives.length = 0 := by rw [hm0]; rfl
 have hms : m0.small := by
  subst hm0
  exact ⟨⟨Nat.zero_le _, fun y hy => absurd hy List.not_mem_nil⟩, ⟨by show xs.length ≤ _; omega, fun _ _ => ⟨⟨⟩⟩⟩, ⟨Nat.zero_le _, fun _ _ => ⟨⟩⟩, ⟨Nat.zero_le _, fun _ _ => ⟨⟩⟩⟩
 have h3 : q3 ≤ p + 46 := by omega
 have h4 : p ≤ q3 := by omega
 clear hm0 hmO hR g1 g2 hq1 hq2 hx
 refine XS.go ?_
 conv => whnf
 repeat' (first | (refine g_op ?_; conv => whnf) | (refine And.intro ?_ ?_; (focus exact au0); conv => whnf) | (refine g_seq ?_) | (refine XS.go ?_) | (refine g_ops ?_) | ((first | refine g_nil ?_ | refine g_cond ?_); conv => whnf) | fail)
 refine Br.mk (fun hb => ?_) (fun hb => ?_)
 ·clear hb
  have hF := fun k => spec_FallB m0 k hms b29 br b169 b177 0 cr 0 0
  conv => whnf
  repeat' (first | ((refine XCL.pkv (by decide) hc (by omega) ⟨rfl, rfl, rfl, True.intro⟩ (fun v q v1 v2 q1 q2 => ?_); conv => whnf)) | ((refine And.intro ⟨⟨rfl, rfl⟩, True.intro⟩ ?_; conv => whnf)) | (refine And.intro ?_ ?_; (focus exact au0); conv => whnf) | (refine g_seq ?_) | (refine g_drawn ?_) | ((first | refine d_p ?_ | refine d_e ?_); conv => whnf) | fail)
  refine XCL.of_XC (ls := m0.L 29 36 169 177 b29 br b169 b177 0 cr 0 0) ⟨rfl, rfl, rfl, rfl, rfl, rfl, rfl, rfl, rfl, rfl, rfl, rfl, True.intro⟩ ((hF _).mono fun d ls h => ?_)
  obtain ⟨l, rfl, d1, d2, d3, d4, e1, e2, e3, e4, rfl, rfl⟩ := h
  conv => whnf
  repeat' (first | ((refine And.intro True.intro ?_; conv => whnf)) | (refine And.intro ?_ ?_; (focus exact au0); conv => whnf) | ((first | refine d_e ?_ | refine d_nil ?_); conv => whnf) | fail)
  generalize hRe : fallR m0 _ = R
  refine XS.weakenA (fs := [.any, .any, .lref 2 b2 [] 0]) (ls := [(0, Rd c q), (2, .agg [.str R.fName, .bool R.fUp, .int .i64 R.fClock, .bool R.fKnown, .int .i64 R.fSeen, .lsl 6 d1 R.fWants.length e1, .lsl 11 d2 R.fRuns.length e2, .lsl 16 d3 R.fAsks.length e3, .lsl 21 d4 R.fGives.length e4]), (6, .arr 7 (R.fWants.map MateWant.D) e1), (11, .arr 11 (R.fRuns.map MateRun.D) e2), (16, .arr 4 (R.fAsks.map MateAsk.D) e3), (21, .arr 4 (R.fGives.map MateAsk.D) e4)]) ⟨?_, ?_⟩ ?_
  ·repeat' (first | exact True.intro | refine And.intro rfl ?_)
  ·exact ⟨rfl, rfl, rfl, rfl, rfl, rfl, True.intro⟩
  refine XS.move 6 29 [] rfl ?_
  refine XS.hintB 2 29 [5] rfl rfl rfl rfl rfl (fun _ _ _ h => by cases h) rfl ?_
  refine XS.move 11 36 [] rfl ?_
  refine XS.hintB 2 36 [6] rfl rfl rfl rfl rfl (fun _ _ _ h => by cases h) rfl ?_
  refine XS.move 16 169 [] rfl ?_
  refine XS.hintB 2 169 [7] rfl rfl rfl rfl rfl (fun _ _ _ h => by cases h) rfl ?_
  refine XS.move 21 177 [] rfl ?_
  refine XS.hintB 2 177 [8] rfl rfl rfl rfl rfl (fun _ _ _ h => by cases h) rfl ?_
  refine XS.go ?_
  conv => whnf
  repeat' (first | (refine And.intro ?_ ?_; (focus exact au0); conv => whnf) | ((first | refine g_ret ?_ | refine r_c ?_ | refine r_nil ?_); conv => whnf) | fail)
  exact ⟨R, q, by omega, by omega, by rw [← hRe]; exact fall_draw _ hD, d1, d2, d3, d4, e1, e2, e3, e4, rfl, rfl⟩
 clear hb
 conv => whnf
 repeat' (first | (refine g_skip ?_; conv => whnf) | fail)
 refine XS.go ?_
 conv => whnf
 repeat' (first | ((refine XCL.pkv (by decide) hc (by omega) ⟨rfl, rfl, rfl, True.intro⟩ (fun v q v1 v2 q1 q2 => ?_); conv => whnf)) | (refine g_op ?_; conv => whnf) | (refine And.intro ?_ ?_; (focus exact au0); conv => whnf) | (refine g_seq ?_) | (refine g_ops ?_) | (refine g_nil ?_; conv => whnf) | fail)
 generalize hkb : decide ((_ : Int) > 0) = kb
 have h5 : p ≤ q := by omega
 have h6 : q ≤ p + 47 := by omega
 refine XS.join (α := Mate × Nat × Nat × Nat × Nat × Nat) (fun x gs => x.1.fWants.length ≤ 4 ∧ x.1.fRuns.length ≤ 4 ∧ x.1.fAsks.length = 0 ∧ x.1.fGives.length = 0 ∧ p ≤ x.2.2.2.2.2 ∧ x.2.2.2.2.2 ≤ p + 200 ∧ gs 0 = b) (fun x gs => [.lref 0 (gs 0) [] 0, .any, .lref 2 (gs 2) [] 0, .lref 3 (gs 3) [] 0]) (fun x gs => [(0, Rd c x.2.2.2.2.2), (2, .agg [.str ⟨#[]⟩, .bool false, .int .i64 0, .bool false, .int .i64 0, .nil, .nil, .nil, .nil]), (3, .agg [.str x.1.fName, .bool x.1.fUp, .int .i64 x.1.fClock, .bool x.1.fKnown, .int .i64 x.1.fSeen, .lsl 29 (gs 29) x.1.fWants.length x.2.1, .lsl 36 (gs 36) x.1.fRuns.length x.2.2.1, .lsl 169 (gs 169) x.1.fAsks.length x.2.2.2.1, .lsl 177 (gs 177) x.1.fGives.length x.2.2.2.2.1]), (29, .arr 7 (x.1.fWants.map MateWant.D) x.2.1), (36, .arr 11 (x.1.fRuns.map MateRun.D) x.2.2.1), (169, .arr 4 (x.1.fAsks.map MateAsk.D) x.2.2.2.1), (177, .arr 4 (x.1.fGives.map MateAsk.D) x.2.2.2.2.1)]) ?_ ?_
 ·cases kb with
  | false =>
   refine XS.go ?_
   conv => whnf
   repeat' (first | (refine Br.f ?_ ?_; (focus (first | assumption | exact rfl)); conv => whnf) | ((first | refine g_cond ?_ | refine g_skip ?_); conv => whnf) | fail)
   refine ⟨(m0, 0, cr, 0, 0, q), ⟨hD.w, hD.r, hA0, hG0, h5, by dsimp only; omega, rfl⟩, ?_, ?_⟩
   ·repeat' (first | exact True.intro | refine And.intro rfl ?_)
   ·exact ⟨rfl, rfl, rfl, rfl, rfl, rfl, rfl, True.intro⟩
  | true =>
   refine XS.go ?_
   conv => whnf
   repeat' (first | (refine g_op ?_; conv => whnf) | (refine And.intro ?_ ?_; (focus exact au0); conv => whnf) | (refine g_seq ?_) | (refine g_ops ?_) | (refine g_nil ?_; conv => whnf) | (refine Br.t ?_ ?_; (focus (first | assumption | exact rfl)); conv => whnf) | (refine g_cond ?_; conv => whnf) | fail)
   refine XS.go ?_
   conv => whnf
   repeat' (first | ((refine XCL.pkv (by decide) hc (by omega) ⟨rfl, rfl, rfl, True.intro⟩ (fun v q v1 v2 q1 q2 => ?_); conv => whnf)) | (refine g_op ?_; conv => whnf) | (refine And.intro ?_ ?_; (focus exact au0); conv => whnf) | (refine g_seq ?_) | (refine g_ops ?_) | (refine g_nil ?_; conv => whnf) | fail)
   have h7 : p ≤ q := by omega
   have h8 : q ≤ p + 48 := by omega
   refine XS.weakenA (fs := [.lref 0 b [] 0, .any, .lref 2 b2 [] 0, .lref 3 b3 [] 0]) (ls := [(0, Rd c q), (2, .agg [.str ⟨#[]⟩, .bool false, .int .i64 0, .bool false, .int .i64 0, .nil, .nil, .nil, .nil]), (3, .agg [.str m0.fName, .bool m0.fUp, .int .i64 m0.fClock, .bool true, .int .i64 v, .lsl 29 b29 m0.fWants.length 0, .lsl 36 br m0.fRuns.length cr, .lsl 169 b169 m0.fAsks.length 0, .lsl 177 b177 m0.fGives.length 0]), (36, .arr 11 (m0.fRuns.map MateRun.D) cr), (169, .arr 4 (m0.fAsks.map MateAsk.D) 0), (177, .arr 4 (m0.fGives.map MateAsk.D) 0)]) ⟨?_, ?_⟩ ?_
   ·repeat' (first | exact True.intro | refine And.intro rfl ?_)
   ·exact ⟨rfl, rfl, rfl, rfl, rfl, rfl, True.intro⟩
   have hW := mkWants0 b c q hc (by omega)
   refine XS.go ?_
   conv => whnf
   repeat' (first | (refine g_op ?_; conv => whnf) | (refine And.intro ?_ ?_; (focus exact au0); conv => whnf) | (refine g_seq ?_) | (refine g_ops ?_) | fail)
   refine XCL.of_XC (ls := [(0, b, Rd c q)]) ⟨rfl, rfl, rfl, True.intro⟩ (hW.mono fun d ls h => ?_)
   obtain ⟨ws, bw, cw, q4, hws, g3, g4, rfl, rfl⟩ := h
   conv => whnf
   repeat' (first | (refine g_op ?_; conv => whnf) | (refine And.intro ?_ ?_; (focus exact au0); conv => whnf) | (refine g_nil ?_; conv => whnf) | fail)
   have hm1 : ∃ m1 : Mate, m1 = { m0 with fKnown := true, fSeen := v, fWants := ws } := ⟨_, rfl⟩
   obtain ⟨m1, hm1⟩ := hm1
   refine XS.weakenA (fs := [.lref 0 b [] 0, .any, .lref 2 b2 [] 0, .lref 3 b3 [] 0]) (ls := [(0, Rd c q4), (2, .agg [.str ⟨#[]⟩, .bool false, .int .i64 0, .bool false, .int .i64 0, .nil, .nil, .nil, .nil]), (3, .agg [.str m1.fName, .bool m1.fUp, .int .i64 m1.fClock, .bool m1.fKnown, .int .i64 m1.fSeen, .lsl 29 bw m1.fWants.length cw, .lsl 36 br m1.fRuns.length cr, .lsl 169 b169 m1.fAsks.length 0, .lsl 177 b177 m1.fGives.length 0]), (29, .arr 7 (m1.fWants.map MateWant.D) cw), (36, .arr 11 (m1.fRuns.map MateRun.D) cr), (169, .arr 4 (m1.fAsks.map MateAsk.D) 0), (177, .arr 4 (m1.fGives.map MateAsk.D) 0)]) ⟨?_, ?_⟩ ?_
   ·repeat' (first | exact True.intro | refine And.intro rfl ?_)
   ·(subst hm1; exact ⟨rfl, rfl, rfl, rfl, rfl, rfl, rfl, True.intro⟩)
   have k1 : m1.fWants.length ≤ 4 := by rw [hm1]; exact hws
   have k2 : m1.fRuns.length ≤ 4 := by rw [hm1]; exact hD.r
   have k3 : m1.fAsks.length = 0 := by rw [hm1]; exact hA0
   have k4 : m1.fGives.length = 0 := by rw [hm1]; exact hG0
   have h9 : p ≤ q4 := by omega
   have h10 : q4 ≤ p + 76 := by omega
   clear hm1 hW hws
   refine XS.go ?_
   conv => whnf
   repeat' (first | (refine g_op ?_; conv => whnf) | (refine And.intro ?_ ?_; (focus exact au0); conv => whnf) | (refine g_seq ?_) | (refine XS.go ?_) | (refine g_ops ?_) | (refine g_loop ?_) | (refine g_nil ?_; conv => whnf) | (refine g_block ?_) | fail)
   refine XLc.mkG (α := Mate × Nat × Nat × Nat × Nat × Nat × Nat) (fun x gs => x.1.fWants.length ≤ 4 ∧ x.1.fRuns.length ≤ 4 ∧ x.1.fAsks.length = 0 ∧ x.1.fGives.length = 0 ∧ p ≤ x.2.2.2.2.2.1 ∧ x.2.2.2.2.2.1 ≤ p + 76 + x.2.2.2.2.2.2 ∧ x.2.2.2.2.2.2 ≤ 4 ∧ gs 0 = b) (fun x => 4 - x.2.2.2.2.2.2) (fun x gs => [.lref 0 (gs 0) [] 0, .any, .lref 2 (gs 2) [] 0, .lref 3 (gs 3) [] 0, .int .i64 (x.2.2.2.2.2.2 : Int)]) (fun x gs => [(0, Rd c x.2.2.2.2.2.1), (2, .agg [.str ⟨#[]⟩, .bool false, .int .i64 0, .bool false, .int .i64 0, .nil, .nil, .nil, .nil]), (3, .agg [.str x.1.fName, .bool x.1.fUp, .int .i64 x.1.fClock, .bool x.1.fKnown, .int .i64 x.1.fSeen, .lsl 29 (gs 29) x.1.fWants.length x.2.1, .lsl 36 (gs 36) x.1.fRuns.length x.2.2.1, .lsl 169 (gs 169) x.1.fAsks.length x.2.2.2.1, .lsl 177 (gs 177) x.1.fGives.length x.2.2.2.2.1]), (29, .arr 7 (x.1.fWants.map MateWant.D) x.2.1), (36, .arr 11 (x.1.fRuns.map MateRun.D) x.2.2.1), (169, .arr 4 (x.1.fAsks.map MateAsk.D) x.2.2.2.1), (177, .arr 4 (x.1.fGives.map MateAsk.D) x.2.2.2.2.1)]) (m1, cw, cr, 0, 0, q4, 0) ⟨k1, k2, k3, k4, h9, h10, Nat.zero_le _, rfl⟩ ⟨?_, ?_⟩ ?_
   ·repeat' (first | exact True.intro | refine And.intro rfl ?_)
   ·exact ⟨rfl, rfl, rfl, rfl, rfl, rfl, rfl, True.intro⟩
   clear k1 k2 k3 k4 h9 h10
   intro x gs hI
   obtain ⟨m, c1, c2, c3, c4, qq, i⟩ := x
   obtain ⟨k1, k2, k3, k4, h9, h10, hi4, hg⟩ := hI
   dsimp only at k1 k2 k3 k4 h9 h10 hi4 ⊢
   repeat' (first | (refine z_ld1 ?_; first | (refine z_ld rfl rfl rfl rfl au1 au2 ?_; conv => whnf) | (refine z_ld0 rfl ?_; conv => whnf)) | (refine z_op ?_ ?_; (focus exact rfl); conv => whnf) | (refine zs_ops ?_ ?_; (focus exact rfl)) | (refine z_nil fun vals => ?_; conv => whnf) | (refine And.intro ?_ ?_; (focus exact au0); conv => whnf) | (refine g_seq ?_) | (refine XS.go ?_) | (refine g_cond ?_; conv => whnf) | fail)
   refine Br.mk (fun hb => ?_) (fun hb => ?_)
   ·have hlt : i < m.fRuns.length := by simpa using hb
    clear hb
    have hj0 : i < (m.fRuns.map MateRun.D).length := by rw [List.length_map]; exact hlt
    have he0 : (m.fRuns.map MateRun.D).getD i .any = (m.fRuns.getD i default).D := elt_map hlt
    have hw1 : IntKind.wrap .i64 ((i : Int) + 1) = ((i + 1 : Nat) : Int) := by rw [wrap_ok (by omega) (by omega)]; rfl
    have hwr : ((i : Nat) : Int) < ((m.fRuns.length : Nat) : Int) := by omega
    have he2 : (m.fRuns.map MateRun.D).getD (i : Int).toNat .any = (m.fRuns.getD i default).D := he0
    generalize hr : m.fRuns.getD i default = r at he0 he2
    have cW := spec_Want m.fWants r.fWant.fCopy (by omega)
    generalize wantR m.fWants r.fWant.fCopy = y at cW
    conv => whnf
    repeat' (first | (refine g_skip ?_; conv => whnf) | fail)
    refine XS.go ?_
    conv => whnf
    repeat' (first | ((refine d_ld rfl rfl rfl hj0 he0 ?_; conv => whnf)) | ((refine And.intro hwr ?_; conv => whnf)) | ((refine XCL.of_rdrB cW (.cons (Bor.rowM rfl rfl rfl (fun _ => rfl)) (.cons (Bor.refl _ _) .nil)) rfl ?_; conv => whnf)) | ((refine And.intro True.intro ?_; conv => whnf)) | (refine And.intro ?_ ?_; (focus exact au0); conv => whnf) | (refine g_seq ?_) | (refine g_block ?_) | (refine g_drawn ?_) | ((first | refine d_p ?_ | refine d_e ?_ | refine d_nil ?_ | refine fun _ => ?_); conv => whnf) | fail)
    rename_i b5
    refine XS.weakenA (fs := [.lref 0 (gs 0) [] 0, .any, .lref 2 (gs 2) [] 0, .lref 3 (gs 3) [] 0, .int .i64 (i : Int), .lref 5 b5 [] 0, .bool y.2]) (ls := [(0, Rd c qq), (2, .agg [.str ⟨#[]⟩, .bool false, .int .i64 0, .bool false, .int .i64 0, .nil, .nil, .nil, .nil]), (3, .agg [.str m.fName, .bool m.fUp, .int .i64 m.fClock, .bool m.fKnown, .int .i64 m.fSeen, .lsl 29 (gs 29) m.fWants.length c1, .lsl 36 (gs 36) m.fRuns.length c2, .lsl 169 (gs 169) m.fAsks.length c3, .lsl 177 (gs 177) m.fGives.length c4]), (29, .arr 7 (m.fWants.map MateWant.D) c1), (36, .arr 11 (m.fRuns.map MateRun.D) c2), (169, .arr 4 (m.fAsks.map MateAsk.D) c3), (177, .arr 4 (m.fGives.map MateAsk.D) c4), (5, y.1.D)]) ⟨?_, ?_⟩ ?_
    ·repeat' (first | exact True.intro | refine And.intro rfl ?_)
    ·exact ⟨rfl, rfl, rfl, rfl, rfl, rfl, rfl, rfl, True.intro⟩
    clear cW
    obtain ⟨y1, y2⟩ := y
    cases y2 with
    | false =>
     refine XS.go ?_
     conv => whnf
     repeat' (first | (refine g_op ?_; conv => whnf) | (refine And.intro ?_ ?_; (focus exact au0); conv => whnf) | (refine g_seq ?_) | (refine XS.go ?_) | (refine g_ops ?_) | ((first | refine g_nil ?_ | refine g_opg ?_); conv => whnf) | (refine Br.f ?_ ?_; (focus (first | assumption | exact rfl)); conv => whnf) | ((first | refine g_cond ?_ | refine g_skip ?_); conv => whnf) | fail)
     refine ⟨(m, c1, c2, c3, c4, qq, i + 1), ⟨by first | exact k1 | (dsimp only; omega), by first | exact k2 | (dsimp only; rw [List.length_set]; exact k2), k3, k4, by dsimp only; omega, by dsimp only; omega, by dsimp only; omega, hg⟩, by simp only; omega, ?_, ?_⟩
     ·dsimp only
      repeat' (first | exact True.intro | refine And.intro rfl ?_ | refine And.intro (congrArg (D.int .i64) hw1) ?_)
     ·exact ⟨rfl, rfl, rfl, rfl, rfl, rfl, rfl, True.intro⟩
    | true =>
     refine XS.go ?_
     conv => whnf
     repeat' (first | ((refine XCL.pkv (by decide) hc (by omega) ⟨rfl, rfl, rfl, True.intro⟩ (fun v q v1 v2 q1 q2 => ?_); conv => whnf)) | (refine g_op ?_; conv => whnf) | (refine And.intro ?_ ?_; (focus exact au0); conv => whnf) | (refine g_seq ?_) | (refine XS.go ?_) | (refine g_ops ?_) | ((first | refine g_nil ?_ | refine g_opg ?_); conv => whnf) | (refine Br.t ?_ ?_; (focus (first | assumption | exact rfl)); conv => whnf) | (refine g_cond ?_; conv => whnf) | fail)
     refine Br.mk (fun hb => ?_) (fun hb => ?_)
     ·clear hb
      conv => whnf
      repeat' (first | ((rw [he2]; conv => whnf)) | (refine g_op ?_; conv => whnf) | (refine And.intro ?_ ?_; (focus exact au0); conv => whnf) | (refine g_seq ?_) | (refine g_ops ?_) | (refine g_nil ?_; conv => whnf) | fail)
      have hX : ∃ mA : Mate, mA = { m with fRuns := m.fRuns.set i ({ r with fWant := y1 } : MateRun) } := ⟨_, rfl⟩
      obtain ⟨mA, hX⟩ := hX
      refine XS.weakenA (fs := [.lref 0 (gs 0) [] 0, .any, .lref 2 (gs 2) [] 0, .lref 3 (gs 3) [] 0, .int .i64 (i : Int), .lref 5 b5 [] 0, .any]) (ls := [(0, Rd c q), (2, .agg [.str ⟨#[]⟩, .bool false, .int .i64 0, .bool false, .int .i64 0, .nil, .nil, .nil, .nil]), (3, .agg [.str mA.fName, .bool mA.fUp, .int .i64 mA.fClock, .bool mA.fKnown, .int .i64 mA.fSeen, .lsl 29 (gs 29) mA.fWants.length c1, .lsl 36 (gs 36) mA.fRuns.length c2, .lsl 169 (gs 169) mA.fAsks.length c3, .lsl 177 (gs 177) mA.fGives.length c4]), (29, .arr 7 (mA.fWants.map MateWant.D) c1), (36, .arr 11 (mA.fRuns.map MateRun.D) c2), (169, .arr 4 (mA.fAsks.map MateAsk.D) c3), (177, .arr 4 (mA.fGives.map MateAsk.D) c4), (5, y1.D)]) ⟨?_, ?_⟩ ?_
      ·repeat' (first | exact True.intro | refine And.intro rfl ?_)
      ·(rw [hX]; exact ⟨rfl, rfl, congrArg (fun n => some (D.agg [.str m.fName, .bool m.fUp, .int .i64 m.fClock, .bool m.fKnown, .int .i64 m.fSeen, .lsl 29 _ m.fWants.length c1, .lsl 36 _ n c2, .lsl 169 _ m.fAsks.length c3, .lsl 177 _ m.fGives.length c4])) (List.length_set ..).symm, rfl, congrArg (fun l => some (D.arr 11 l c2)) (by rw [List.map_set]; rfl), rfl, rfl, rfl, True.intro⟩)
      have krA : mA.fRuns.length = m.fRuns.length := by rw [hX]; exact List.length_set ..
      have heA : (mA.fRuns.map MateRun.D).getD (i : Int).toNat .any = (({ r with fWant := y1 } : MateRun)).D := (elt_map (F := MateRun.D) (by rw [krA]; omega)).trans (by rw [hX]; show ((m.fRuns.set i (({ r with fWant := y1 } : MateRun))).getD i default).D = _; rw [getD_of (by rw [List.length_set]; omega), List.getElem_set_self])
      have hjA : i < (mA.fRuns.map MateRun.D).length := by rw [List.length_map, krA]; omega
      have hwA : ((i : Nat) : Int) < ((mA.fRuns.length : Nat) : Int) := by rw [krA]; omega
      have j1A : mA.fWants.length ≤ 4 := by rw [hX]; first | exact k1 | assumption
      have j2A : mA.fRuns.length ≤ 4 := by rw [krA]; first | exact k2 | assumption
      have j3A : mA.fAsks.length = 0 := by rw [hX]; first | exact k3 | assumption
      have j4A : mA.fGives.length = 0 := by rw [hX]; first | exact k4 | assumption
      clear hX
      refine XS.go ?_
      conv => whnf
      repeat' (first | (refine g_op ?_; conv => whnf) | (refine And.intro ?_ ?_; (focus exact au0); conv => whnf) | (refine g_seq ?_) | (refine XS.go ?_) | (refine g_ops ?_) | ((first | refine g_nil ?_ | refine g_cond ?_); conv => whnf) | fail)
      refine Br.mk (fun hb => ?_) (fun hb => ?_)
      ·clear hb
       conv => whnf
       repeat' (first | ((refine And.intro hwA ?_; conv => whnf)) | ((rw [heA]; conv => whnf)) | (refine g_op ?_; conv => whnf) | (refine And.intro ?_ ?_; (focus exact au0); conv => whnf) | (refine g_ops ?_) | (refine g_nil ?_; conv => whnf) | fail)
       have hX : ∃ mB : Mate, mB = { mA with fRuns := mA.fRuns.set i ({ ({ r with fWant := y1 } : MateRun) with fUntil := 0 } : MateRun) } := ⟨_, rfl⟩
       obtain ⟨mB, hX⟩ := hX
       refine XS.weakenA (fs := [.lref 0 (gs 0) [] 0, .any, .lref 2 (gs 2) [] 0, .lref 3 (gs 3) [] 0, .int .i64 (i : Int), .any, .any]) (ls := [(0, Rd c q), (2, .agg [.str ⟨#[]⟩, .bool false, .int .i64 0, .bool false, .int .i64 0, .nil, .nil, .nil, .nil]), (3, .agg [.str mB.fName, .bool mB.fUp, .int .i64 mB.fClock, .bool mB.fKnown, .int .i64 mB.fSeen, .lsl 29 (gs 29) mB.fWants.length c1, .lsl 36 (gs 36) mB.fRuns.length c2, .lsl 169 (gs 169) mB.fAsks.length c3, .lsl 177 (gs 177) mB.fGives.length c4]), (29, .arr 7 (mB.fWants.map MateWant.D) c1), (36, .arr 11 (mB.fRuns.map MateRun.D) c2), (169, .arr 4 (mB.fAsks.map MateAsk.D) c3), (177, .arr 4 (mB.fGives.map MateAsk.D) c4)]) ⟨?_, ?_⟩ ?_
       ·repeat' (first | exact True.intro | refine And.intro rfl ?_)
       ·(rw [hX]; exact ⟨rfl, rfl, congrArg (fun n => some (D.agg [.str mA.fName, .bool mA.fUp, .int .i64 mA.fClock, .bool mA.fKnown, .int .i64 mA.fSeen, .lsl 29 _ mA.fWants.length c1, .lsl 36 _ n c2, .lsl 169 _ mA.fAsks.length c3, .lsl 177 _ mA.fGives.length c4])) (List.length_set ..).symm, rfl, congrArg (fun l => some (D.arr 11 l c2)) (by rw [List.map_set]; rfl), rfl, rfl, True.intro⟩)
       have krB : mB.fRuns.length = mA.fRuns.length := by rw [hX]; exact List.length_set ..
       have heB : (mB.fRuns.map MateRun.D).getD (i : Int).toNat .any = (({ ({ r with fWant := y1 } : MateRun) with fUntil := 0 } : MateRun)).D := (elt_map (F := MateRun.D) (by rw [krB]; omega)).trans (by rw [hX]; show ((mA.fRuns.set i (({ ({ r with fWant := y1 } : MateRun) with fUntil := 0 } : MateRun))).getD i default).D = _; rw [getD_of (by rw [List.length_set]; omega), List.getElem_set_self])
       have hjB : i < (mB.fRuns.map MateRun.D).length := by rw [List.length_map, krB]; omega
       have hwB : ((i : Nat) : Int) < ((mB.fRuns.length : Nat) : Int) := by rw [krB]; omega
       have j1B : mB.fWants.length ≤ 4 := by rw [hX]; first | exact k1 | assumption
       have j2B : mB.fRuns.length ≤ 4 := by rw [krB]; first | exact k2 | assumption
       have j3B : mB.fAsks.length = 0 := by rw [hX]; first | exact k3 | assumption
       have j4B : mB.fGives.length = 0 := by rw [hX]; first | exact k4 | assumption
       clear hX
       have cO := spec_RunOk (({ ({ r with fWant := y1 } : MateRun) with fUntil := 0 } : MateRun)) mB.fClock
       refine XS.go ?_
       conv => whnf
       repeat' (first | ((refine And.intro hwB ?_; conv => whnf)) | ((rw [heB]; conv => whnf)) | (refine And.intro ?_ ?_; (focus exact au0); conv => whnf) | (refine g_seq ?_) | (refine XS.go ?_) | (refine g_cond ?_; conv => whnf) | (refine g_quiet ?_) | ((first | refine q_op ?_ | refine q_nil ?_ | refine QC.of_rdr (cO) ?_); conv => whnf) | fail)
       refine Br.mk (fun hb => ?_) (fun hb => ?_)
       ·clear hb cO
        conv => whnf
        repeat' (first | ((refine And.intro hwB ?_; conv => whnf)) | ((rw [heB]; conv => whnf)) | (refine g_op ?_; conv => whnf) | (refine And.intro ?_ ?_; (focus exact au0); conv => whnf) | (refine g_seq ?_) | (refine g_ops ?_) | (refine g_nil ?_; conv => whnf) | fail)
        have hX : ∃ mBa : Mate, mBa = { mB with fRuns := mB.fRuns.set i ({ ({ ({ r with fWant := y1 } : MateRun) with fUntil := 0 } : MateRun) with fState := 2 } : MateRun) } := ⟨_, rfl⟩
        obtain ⟨mBa, hX⟩ := hX
        refine XS.weakenA (fs := [.lref 0 (gs 0) [] 0, .any, .lref 2 (gs 2) [] 0, .lref 3 (gs 3) [] 0, .int .i64 (i : Int), .any, .any]) (ls := [(0, Rd c q), (2, .agg [.str ⟨#[]⟩, .bool false, .int .i64 0, .bool false, .int .i64 0, .nil, .nil, .nil, .nil]), (3, .agg [.str mBa.fName, .bool mBa.fUp, .int .i64 mBa.fClock, .bool mBa.fKnown, .int .i64 mBa.fSeen, .lsl 29 (gs 29) mBa.fWants.length c1, .lsl 36 (gs 36) mBa.fRuns.length c2, .lsl 169 (gs 169) mBa.fAsks.length c3, .lsl 177 (gs 177) mBa.fGives.length c4]), (29, .arr 7 (mBa.fWants.map MateWant.D) c1), (36, .arr 11 (mBa.fRuns.map MateRun.D) c2), (169, .arr 4 (mBa.fAsks.map MateAsk.D) c3), (177, .arr 4 (mBa.fGives.map MateAsk.D) c4)]) ⟨?_, ?_⟩ ?_
        ·repeat' (first | exact True.intro | refine And.intro rfl ?_)
        ·(rw [hX]; exact ⟨rfl, rfl, congrArg (fun n => some (D.agg [.str mB.fName, .bool mB.fUp, .int .i64 mB.fClock, .bool mB.fKnown, .int .i64 mB.fSeen, .lsl 29 _ mB.fWants.length c1, .lsl 36 _ n c2, .lsl 169 _ mB.fAsks.length c3, .lsl 177 _ mB.fGives.length c4])) (List.length_set ..).symm, rfl, congrArg (fun l => some (D.arr 11 l c2)) (by rw [List.map_set]; rfl), rfl, rfl, True.intro⟩)
        have krBa : mBa.fRuns.length = mB.fRuns.length := by rw [hX]; exact List.length_set ..
        have heBa : (mBa.fRuns.map MateRun.D).getD (i : Int).toNat .any = (({ ({ ({ r with fWant := y1 } : MateRun) with fUntil := 0 } : MateRun) with fState := 2 } : MateRun)).D := (elt_map (F := MateRun.D) (by rw [krBa]; omega)).trans (by rw [hX]; show ((mB.fRuns.set i (({ ({ ({ r with fWant := y1 } : MateRun) with fUntil := 0 } : MateRun) with fState := 2 } : MateRun))).getD i default).D = _; rw [getD_of (by rw [List.length_set]; omega), List.getElem_set_self])
        have hjBa : i < (mBa.fRuns.map MateRun.D).length := by rw [List.length_map, krBa]; omega
        have hwBa : ((i : Nat) : Int) < ((mBa.fRuns.length : Nat) : Int) := by rw [krBa]; omega
        have j1Ba : mBa.fWants.length ≤ 4 := by rw [hX]; first | exact k1 | assumption
        have j2Ba : mBa.fRuns.length ≤ 4 := by rw [krBa]; first | exact k2 | assumption
        have j3Ba : mBa.fAsks.length = 0 := by rw [hX]; first | exact k3 | assumption
        have j4Ba : mBa.fGives.length = 0 := by rw [hX]; first | exact k4 | assumption
        clear hX
        refine XS.go ?_
        conv => whnf
        repeat' (first | ((refine And.intro hwBa ?_; conv => whnf)) | ((rw [heBa]; conv => whnf)) | (refine g_op ?_; conv => whnf) | (refine And.intro ?_ ?_; (focus exact au0); conv => whnf) | (refine g_ops ?_) | (refine g_nil ?_; conv => whnf) | fail)
        have hX : ∃ mBb : Mate, mBb = { mBa with fRuns := mBa.fRuns.set i ({ ({ ({ ({ r with fWant := y1 } : MateRun) with fUntil := 0 } : MateRun) with fState := 2 } : MateRun) with fLeft := 0 } : MateRun) } := ⟨_, rfl⟩
        obtain ⟨mBb, hX⟩ := hX
        refine XS.weakenA (fs := [.lref 0 (gs 0) [] 0, .any, .lref 2 (gs 2) [] 0, .lref 3 (gs 3) [] 0, .int .i64 (i : Int), .any, .any]) (ls := [(0, Rd c q), (2, .agg [.str ⟨#[]⟩, .bool false, .int .i64 0, .bool false, .int .i64 0, .nil, .nil, .nil, .nil]), (3, .agg [.str mBb.fName, .bool mBb.fUp, .int .i64 mBb.fClock, .bool mBb.fKnown, .int .i64 mBb.fSeen, .lsl 29 (gs 29) mBb.fWants.length c1, .lsl 36 (gs 36) mBb.fRuns.length c2, .lsl 169 (gs 169) mBb.fAsks.length c3, .lsl 177 (gs 177) mBb.fGives.length c4]), (29, .arr 7 (mBb.fWants.map MateWant.D) c1), (36, .arr 11 (mBb.fRuns.map MateRun.D) c2), (169, .arr 4 (mBb.fAsks.map MateAsk.D) c3), (177, .arr 4 (mBb.fGives.map MateAsk.D) c4)]) ⟨?_, ?_⟩ ?_
        ·repeat' (first | exact True.intro | refine And.intro rfl ?_)
        ·(rw [hX]; exact ⟨rfl, rfl, congrArg (fun n => some (D.agg [.str mBa.fName, .bool mBa.fUp, .int .i64 mBa.fClock, .bool mBa.fKnown, .int .i64 mBa.fSeen, .lsl 29 _ mBa.fWants.length c1, .lsl 36 _ n c2, .lsl 169 _ mBa.fAsks.length c3, .lsl 177 _ mBa.fGives.length c4])) (List.length_set ..).symm, rfl, congrArg (fun l => some (D.arr 11 l c2)) (by rw [List.map_set]; rfl), rfl, rfl, True.intro⟩)
        have krBb : mBb.fRuns.length = mBa.fRuns.length := by rw [hX]; exact List.length_set ..
        have heBb : (mBb.fRuns.map MateRun.D).getD (i : Int).toNat .any = (({ ({ ({ ({ r with fWant := y1 } : MateRun) with fUntil := 0 } : MateRun) with fState := 2 } : MateRun) with fLeft := 0 } : MateRun)).D := (elt_map (F := MateRun.D) (by rw [krBb]; omega)).trans (by rw [hX]; show ((mBa.fRuns.set i (({ ({ ({ ({ r with fWant := y1 } : MateRun) with fUntil := 0 } : MateRun) with fState := 2 } : MateRun) with fLeft := 0 } : MateRun))).getD i default).D = _; rw [getD_of (by rw [List.length_set]; omega), List.getElem_set_self])
        have hjBb : i < (mBb.fRuns.map MateRun.D).length := by rw [List.length_map, krBb]; omega
        have hwBb : ((i : Nat) : Int) < ((mBb.fRuns.length : Nat) : Int) := by rw [krBb]; omega
        have j1Bb : mBb.fWants.length ≤ 4 := by rw [hX]; first | exact k1 | assumption
        have j2Bb : mBb.fRuns.length ≤ 4 := by rw [krBb]; first | exact k2 | assumption
        have j3Bb : mBb.fAsks.length = 0 := by rw [hX]; first | exact k3 | assumption
        have j4Bb : mBb.fGives.length = 0 := by rw [hX]; first | exact k4 | assumption
        clear hX
        refine XS.go ?_
        conv => whnf
        repeat' (first | (refine g_op ?_; conv => whnf) | (refine And.intro ?_ ?_; (focus exact au0); conv => whnf) | (refine g_ops ?_) | (refine g_nil ?_; conv => whnf) | fail)
        refine ⟨(mBb, c1, c2, c3, c4, q, i + 1), ⟨j1Bb, j2Bb, j3Bb, j4Bb, by dsimp only; omega, by dsimp only; omega, by dsimp only; omega, hg⟩, by simp only; omega, ?_, ?_⟩
        ·dsimp only
         repeat' (first | exact True.intro | refine And.intro rfl ?_ | refine And.intro (congrArg (D.int .i64) hw1) ?_)
        ·exact ⟨rfl, rfl, rfl, rfl, rfl, rfl, rfl, True.intro⟩
       ·clear hb cO
        conv => whnf
        repeat' (first | (refine g_op ?_; conv => whnf) | (refine And.intro ?_ ?_; (focus exact au0); conv => whnf) | (refine XS.go ?_) | (refine g_ops ?_) | ((first | refine g_nil ?_ | refine g_skip ?_); conv => whnf) | fail)
        refine ⟨(mB, c1, c2, c3, c4, q, i + 1), ⟨j1B, j2B, j3B, j4B, by dsimp only; omega, by dsimp only; omega, by dsimp only; omega, hg⟩, by simp only; omega, ?_, ?_⟩
        ·dsimp only
         repeat' (first | exact True.intro | refine And.intro rfl ?_ | refine And.intro (congrArg (D.int .i64) hw1) ?_)
        ·exact ⟨rfl, rfl, rfl, rfl, rfl, rfl, rfl, True.intro⟩
      ·clear hb
       conv => whnf
       repeat' (first | (refine g_skip ?_; conv => whnf) | fail)
       have cO := spec_RunOk (({ r with fWant := y1 } : MateRun)) mA.fClock
       refine XS.go ?_
       conv => whnf
       repeat' (first | ((refine And.intro hwA ?_; conv => whnf)) | ((rw [heA]; conv => whnf)) | (refine And.intro ?_ ?_; (focus exact au0); conv => whnf) | (refine g_seq ?_) | (refine XS.go ?_) | (refine g_cond ?_; conv => whnf) | (refine g_quiet ?_) | ((first | refine q_op ?_ | refine q_nil ?_ | refine QC.of_rdr (cO) ?_); conv => whnf) | fail)
       refine Br.mk (fun hb => ?_) (fun hb => ?_)
       ·clear hb cO
        conv => whnf
        repeat' (first | ((refine And.intro hwA ?_; conv => whnf)) | ((rw [heA]; conv => whnf)) | (refine g_op ?_; conv => whnf) | (refine And.intro ?_ ?_; (focus exact au0); conv => whnf) | (refine g_seq ?_) | (refine g_ops ?_) | (refine g_nil ?_; conv => whnf) | fail)
        have hX : ∃ mAa : Mate, mAa = { mA with fRuns := mA.fRuns.set i ({ ({ r with fWant := y1 } : MateRun) with fState := 2 } : MateRun) } := ⟨_, rfl⟩
        obtain ⟨mAa, hX⟩ := hX
        refine XS.weakenA (fs := [.lref 0 (gs 0) [] 0, .any, .lref 2 (gs 2) [] 0, .lref 3 (gs 3) [] 0, .int .i64 (i : Int), .any, .any]) (ls := [(0, Rd c q), (2, .agg [.str ⟨#[]⟩, .bool false, .int .i64 0, .bool false, .int .i64 0, .nil, .nil, .nil, .nil]), (3, .agg [.str mAa.fName, .bool mAa.fUp, .int .i64 mAa.fClock, .bool mAa.fKnown, .int .i64 mAa.fSeen, .lsl 29 (gs 29) mAa.fWants.length c1, .lsl 36 (gs 36) mAa.fRuns.length c2, .lsl 169 (gs 169) mAa.fAsks.length c3, .lsl 177 (gs 177) mAa.fGives.length c4]), (29, .arr 7 (mAa.fWants.map MateWant.D) c1), (36, .arr 11 (mAa.fRuns.map MateRun.D) c2), (169, .arr 4 (mAa.fAsks.map MateAsk.D) c3), (177, .arr 4 (mAa.fGives.map MateAsk.D) c4)]) ⟨?_, ?_⟩ ?_
        ·repeat' (first | exact True.intro | refine And.intro rfl ?_)
        ·(rw [hX]; exact ⟨rfl, rfl, congrArg (fun n => some (D.agg [.str mA.fName, .bool mA.fUp, .int .i64 mA.fClock, .bool mA.fKnown, .int .i64 mA.fSeen, .lsl 29 _ mA.fWants.length c1, .lsl 36 _ n c2, .lsl 169 _ mA.fAsks.length c3, .lsl 177 _ mA.fGives.length c4])) (List.length_set ..).symm, rfl, congrArg (fun l => some (D.arr 11 l c2)) (by rw [List.map_set]; rfl), rfl, rfl, True.intro⟩)
        have krAa : mAa.fRuns.length = mA.fRuns.length := by rw [hX]; exact List.length_set ..
        have heAa : (mAa.fRuns.map MateRun.D).getD (i : Int).toNat .any = (({ ({ r with fWant := y1 } : MateRun) with fState := 2 } : MateRun)).D := (elt_map (F := MateRun.D) (by rw [krAa]; omega)).trans (by rw [hX]; show ((mA.fRuns.set i (({ ({ r with fWant := y1 } : MateRun) with fState := 2 } : MateRun))).getD i default).D = _; rw [getD_of (by rw [List.length_set]; omega), List.getElem_set_self])
        have hjAa : i < (mAa.fRuns.map MateRun.D).length := by rw [List.length_map, krAa]; omega
        have hwAa : ((i : Nat) : Int) < ((mAa.fRuns.length : Nat) : Int) := by rw [krAa]; omega
        have j1Aa : mAa.fWants.length ≤ 4 := by rw [hX]; first | exact k1 | assumption
        have j2Aa : mAa.fRuns.length ≤ 4 := by rw [krAa]; first | exact k2 | assumption
        have j3Aa : mAa.fAsks.length = 0 := by rw [hX]; first | exact k3 | assumption
        have j4Aa : mAa.fGives.length = 0 := by rw [hX]; first | exact k4 | assumption
        clear hX
        refine XS.go ?_
        conv => whnf
        repeat' (first | ((refine And.intro hwAa ?_; conv => whnf)) | ((rw [heAa]; conv => whnf)) | (refine g_op ?_; conv => whnf) | (refine And.intro ?_ ?_; (focus exact au0); conv => whnf) | (refine g_ops ?_) | (refine g_nil ?_; conv => whnf) | fail)
        have hX : ∃ mAb : Mate, mAb = { mAa with fRuns := mAa.fRuns.set i ({ ({ ({ r with fWant := y1 } : MateRun) with fState := 2 } : MateRun) with fLeft := 0 } : MateRun) } := ⟨_, rfl⟩
        obtain ⟨mAb, hX⟩ := hX
        refine XS.weakenA (fs := [.lref 0 (gs 0) [] 0, .any, .lref 2 (gs 2) [] 0, .lref 3 (gs 3) [] 0, .int .i64 (i : Int), .any, .any]) (ls := [(0, Rd c q), (2, .agg [.str ⟨#[]⟩, .bool false, .int .i64 0, .bool false, .int .i64 0, .nil, .nil, .nil, .nil]), (3, .agg [.str mAb.fName, .bool mAb.fUp, .int .i64 mAb.fClock, .bool mAb.fKnown, .int .i64 mAb.fSeen, .lsl 29 (gs 29) mAb.fWants.length c1, .lsl 36 (gs 36) mAb.fRuns.length c2, .lsl 169 (gs 169) mAb.fAsks.length c3, .lsl 177 (gs 177) mAb.fGives.length c4]), (29, .arr 7 (mAb.fWants.map MateWant.D) c1), (36, .arr 11 (mAb.fRuns.map MateRun.D) c2), (169, .arr 4 (mAb.fAsks.map MateAsk.D) c3), (177, .arr 4 (mAb.fGives.map MateAsk.D) c4)]) ⟨?_, ?_⟩ ?_
        ·repeat' (first | exact True.intro | refine And.intro rfl ?_)
        ·(rw [hX]; exact ⟨rfl, rfl, congrArg (fun n => some (D.agg [.str mAa.fName, .bool mAa.fUp, .int .i64 mAa.fClock, .bool mAa.fKnown, .int .i64 mAa.fSeen, .lsl 29 _ mAa.fWants.length c1, .lsl 36 _ n c2, .lsl 169 _ mAa.fAsks.length c3, .lsl 177 _ mAa.fGives.length c4])) (List.length_set ..).symm, rfl, congrArg (fun l => some (D.arr 11 l c2)) (by rw [List.map_set]; rfl), rfl, rfl, True.intro⟩)
        have krAb : mAb.fRuns.length = mAa.fRuns.length := by rw [hX]; exact List.length_set ..
        have heAb : (mAb.fRuns.map MateRun.D).getD (i : Int).toNat .any = (({ ({ ({ r with fWant := y1 } : MateRun) with fState := 2 } : MateRun) with fLeft := 0 } : MateRun)).D := (elt_map (F := MateRun.D) (by rw [krAb]; omega)).trans (by rw [hX]; show ((mAa.fRuns.set i (({ ({ ({ r with fWant := y1 } : MateRun) with fState := 2 } : MateRun) with fLeft := 0 } : MateRun))).getD i default).D = _; rw [getD_of (by rw [List.length_set]; omega), List.getElem_set_self])
        have hjAb : i < (mAb.fRuns.map MateRun.D).length := by rw [List.length_map, krAb]; omega
        have hwAb : ((i : Nat) : Int) < ((mAb.fRuns.length : Nat) : Int) := by rw [krAb]; omega
        have j1Ab : mAb.fWants.length ≤ 4 := by rw [hX]; first | exact k1 | assumption
        have j2Ab : mAb.fRuns.length ≤ 4 := by rw [krAb]; first | exact k2 | assumption
        have j3Ab : mAb.fAsks.length = 0 := by rw [hX]; first | exact k3 | assumption
        have j4Ab : mAb.fGives.length = 0 := by rw [hX]; first | exact k4 | assumption
        clear hX
        refine XS.go ?_
        conv => whnf
        repeat' (first | (refine g_op ?_; conv => whnf) | (refine And.intro ?_ ?_; (focus exact au0); conv => whnf) | (refine g_ops ?_) | (refine g_nil ?_; conv => whnf) | fail)
        refine ⟨(mAb, c1, c2, c3, c4, q, i + 1), ⟨j1Ab, j2Ab, j3Ab, j4Ab, by dsimp only; omega, by dsimp only; omega, by dsimp only; omega, hg⟩, by simp only; omega, ?_, ?_⟩
        ·dsimp only
         repeat' (first | exact True.intro | refine And.intro rfl ?_ | refine And.intro (congrArg (D.int .i64) hw1) ?_)
        ·exact ⟨rfl, rfl, rfl, rfl, rfl, rfl, rfl, True.intro⟩
       ·clear hb cO
        conv => whnf
        repeat' (first | (refine g_op ?_; conv => whnf) | (refine And.intro ?_ ?_; (focus exact au0); conv => whnf) | (refine XS.go ?_) | (refine g_ops ?_) | ((first | refine g_nil ?_ | refine g_skip ?_); conv => whnf) | fail)
        refine ⟨(mA, c1, c2, c3, c4, q, i + 1), ⟨j1A, j2A, j3A, j4A, by dsimp only; omega, by dsimp only; omega, by dsimp only; omega, hg⟩, by simp only; omega, ?_, ?_⟩
        ·dsimp only
         repeat' (first | exact True.intro | refine And.intro rfl ?_ | refine And.intro (congrArg (D.int .i64) hw1) ?_)
        ·exact ⟨rfl, rfl, rfl, rfl, rfl, rfl, rfl, True.intro⟩
     ·clear hb
      conv => whnf
      repeat' (first | (refine g_op ?_; conv => whnf) | (refine And.intro ?_ ?_; (focus exact au0); conv => whnf) | (refine XS.go ?_) | (refine g_ops ?_) | ((first | refine g_nil ?_ | refine g_skip ?_); conv => whnf) | fail)
      refine ⟨(m, c1, c2, c3, c4, q, i + 1), ⟨by first | exact k1 | (dsimp only; omega), by first | exact k2 | (dsimp only; rw [List.length_set]; exact k2), k3, k4, by dsimp only; omega, by dsimp only; omega, by dsimp only; omega, hg⟩, by simp only; omega, ?_, ?_⟩
      ·dsimp only
       repeat' (first | exact True.intro | refine And.intro rfl ?_ | refine And.intro (congrArg (D.int .i64) hw1) ?_)
      ·exact ⟨rfl, rfl, rfl, rfl, rfl, rfl, rfl, True.intro⟩
   clear hb
   conv => whnf
   repeat' (first | (refine g_exit ?_; conv => whnf) | fail)
   refine ⟨(m, c1, c2, c3, c4, qq), ⟨k1, k2, k3, k4, h9, by dsimp only; omega, hg⟩, ?_, ?_⟩
   ·repeat' (first | exact True.intro | refine And.intro rfl ?_)
   ·exact ⟨rfl, rfl, rfl, rfl, rfl, rfl, rfl, True.intro⟩
 intro x gs hE
 obtain ⟨m, c1, c2, c3, c4, q⟩ := x
 obtain ⟨k1, k2, k3, k4, h9, h10, hg⟩ := hE
 dsimp only at k1 k2 k3 k4 h9 h10 ⊢
 conv => whnf
 skip
 refine XS.go ?_
 conv => whnf
 repeat' (first | (refine g_op ?_; conv => whnf) | (refine And.intro ?_ ?_; (focus exact au0); conv => whnf) | (refine g_seq ?_) | (refine XS.go ?_) | (refine g_ops ?_) | (refine g_loop ?_) | (refine g_nil ?_; conv => whnf) | (refine g_block ?_) | fail)
 refine XLc.mkG (α := Mate × Nat × Nat × Nat × Nat × Nat × Nat) (fun x gs => x.1.fWants.length ≤ 4 ∧ x.1.fRuns.length ≤ 4 ∧ x.1.fAsks.length ≤ x.2.2.2.2.2.2 ∧ x.1.fGives.length ≤ x.2.2.2.2.2.2 ∧ p ≤ x.2.2.2.2.2.1 ∧ x.2.2.2.2.2.1 ≤ p + 200 + 20 * x.2.2.2.2.2.2 ∧ x.2.2.2.2.2.2 ≤ 3 ∧ gs 0 = b) (fun x => 3 - x.2.2.2.2.2.2) (fun x gs => [.lref 0 (gs 0) [] 0, .any, .lref 2 (gs 2) [] 0, .lref 3 (gs 3) [] 0, .any, .any, .any, .int .i64 (x.2.2.2.2.2.2 : Int)]) (fun x gs => [(0, Rd c x.2.2.2.2.2.1), (2, .agg [.str ⟨#[]⟩, .bool false, .int .i64 0, .bool false, .int .i64 0, .nil, .nil, .nil, .nil]), (3, .agg [.str x.1.fName, .bool x.1.fUp, .int .i64 x.1.fClock, .bool x.1.fKnown, .int .i64 x.1.fSeen, .lsl 29 (gs 29) x.1.fWants.length x.2.1, .lsl 36 (gs 36) x.1.fRuns.length x.2.2.1, .lsl 169 (gs 169) x.1.fAsks.length x.2.2.2.1, .lsl 177 (gs 177) x.1.fGives.length x.2.2.2.2.1]), (29, .arr 7 (x.1.fWants.map MateWant.D) x.2.1), (36, .arr 11 (x.1.fRuns.map MateRun.D) x.2.2.1), (169, .arr 4 (x.1.fAsks.map MateAsk.D) x.2.2.2.1), (177, .arr 4 (x.1.fGives.map MateAsk.D) x.2.2.2.2.1)]) (m, c1, c2, c3, c4, q, 0) ⟨k1, k2, Nat.le_of_eq k3, Nat.le_of_eq k4, h9, h10, Nat.zero_le _, hg⟩ ⟨?_, ?_⟩ ?_
 ·repeat' (first | exact True.intro | refine And.intro rfl ?_)
 ·exact ⟨rfl, rfl, rfl, rfl, rfl, rfl, rfl, True.intro⟩
 clear k1 k2 k3 k4 h9 h10
 intro x gs hI
 obtain ⟨m, c1, c2, c3, c4, qq, i⟩ := x
 obtain ⟨k1, k2, k3, k4, h9, h10, hi3, hg⟩ := hI
 dsimp only at k1 k2 k3 k4 h9 h10 hi3 ⊢
 repeat' (first | (refine g_op ?_; conv => whnf) | (refine And.intro ?_ ?_; (focus exact au0); conv => whnf) | (refine g_seq ?_) | (refine XS.go ?_) | (refine g_ops ?_) | ((first | refine g_nil ?_ | refine g_cond ?_); conv => whnf) | fail)
 refine Br.mk (fun hb => ?_) (fun hb => ?_)
 ·have hlt : i < 3 := by simp at hb; omega
  clear hb
  have hw1 : IntKind.wrap .i64 ((i : Int) + 1) = ((i + 1 : Nat) : Int) := by rw [wrap_ok (by omega) (by omega)]; rfl
  have hstr : ∃ s : ByteArray, ([Go.Ab.D.str ⟨#[105, 112]⟩, .str ⟨#[118, 111, 108]⟩, .str ⟨#[118, 111, 108, 50]⟩] : List Go.Ab.D).getD i .any = .str s := by
   have h3 : i = 0 ∨ i = 1 ∨ i = 2 := by omega
   rcases h3 with rfl | rfl | rfl <;> exact ⟨_, rfl⟩
  obtain ⟨hold, hh⟩ := hstr
  have hlt3 : ((i : Nat) : Int) < (([Go.Ab.D.str ⟨#[105, 112]⟩, .str ⟨#[118, 111, 108]⟩, .str ⟨#[118, 111, 108, 50]⟩] : List Go.Ab.D).length : Int) := by show ((i : Nat) : Int) < 3; omega
  have hh2 : ([Go.Ab.D.str ⟨#[105, 112]⟩, .str ⟨#[118, 111, 108]⟩, .str ⟨#[118, 111, 108, 50]⟩] : List Go.Ab.D).getD (i : Int).toNat .any = .str hold := hh
  conv => whnf
  repeat' (first | (refine g_skip ?_; conv => whnf) | fail)
  refine XS.go ?_
  conv => whnf
  repeat' (first | ((refine XCL.pkv (by decide) hc (by omega) ⟨rfl, rfl, rfl, True.intro⟩ (fun v q v1 v2 q1 q2 => ?_); conv => whnf)) | ((refine And.intro hlt3 ?_; conv => whnf)) | ((rw [hh2]; conv => whnf)) | ((refine XCL.ask (decX _ (by omega) (by omega)) (fun d hd => ?_); obtain ⟨t, ht, rfl⟩ := hd; conv => whnf)) | ((refine And.intro (catOk (by rw [ht]; decide)) ?_; conv => whnf)) | ((refine And.intro True.intro ?_; conv => whnf)) | ((refine And.intro ⟨⟨rfl, rfl⟩, True.intro⟩ ?_; conv => whnf)) | (refine And.intro ?_ ?_; (focus exact au0); conv => whnf) | (refine g_seq ?_) | (refine g_block ?_) | (refine g_drawn ?_) | ((first | refine d_p ?_ | refine d_e ?_ | refine d_nil ?_ | refine fun _ => ?_); conv => whnf) | fail)
  rename_i b8
  generalize (⟨#[99]⟩ ++ t : ByteArray) = cs
  generalize IntKind.wrap .i64 (m.fClock - v) = at0
  have g5 : p ≤ q := by omega
  have g6 : q ≤ p + 202 + 20 * i := by omega
  refine XS.weakenA (fs := [.lref 0 (gs 0) [] 0, .any, .lref 2 (gs 2) [] 0, .lref 3 (gs 3) [] 0, .any, .any, .any, .int .i64 (i : Int), .lref 8 b8 [] 0]) (ls := [(0, Rd c q), (2, .agg [.str ⟨#[]⟩, .bool false, .int .i64 0, .bool false, .int .i64 0, .nil, .nil, .nil, .nil]), (3, .agg [.str m.fName, .bool m.fUp, .int .i64 m.fClock, .bool m.fKnown, .int .i64 m.fSeen, .lsl 29 (gs 29) m.fWants.length c1, .lsl 36 (gs 36) m.fRuns.length c2, .lsl 169 (gs 169) m.fAsks.length c3, .lsl 177 (gs 177) m.fGives.length c4]), (29, .arr 7 (m.fWants.map MateWant.D) c1), (36, .arr 11 (m.fRuns.map MateRun.D) c2), (169, .arr 4 (m.fAsks.map MateAsk.D) c3), (177, .arr 4 (m.fGives.map MateAsk.D) c4), (8, .agg [.str hold, .str cs, .int .i64 0, .int .i64 at0])]) ⟨?_, ?_⟩ ?_
  ·repeat' (first | exact True.intro | refine And.intro rfl ?_)
  ·exact ⟨rfl, rfl, rfl, rfl, rfl, rfl, rfl, rfl, True.intro⟩
  refine XS.go ?_
  conv => whnf
  repeat' (first | (refine g_op ?_; conv => whnf) | (refine And.intro ?_ ?_; (focus exact au0); conv => whnf) | (refine g_seq ?_) | (refine XS.go ?_) | (refine g_ops ?_) | (refine g_loop ?_) | (refine g_nil ?_; conv => whnf) | (refine g_block ?_) | fail)
  refine XLc.mkG (α := ByteArray × Nat × Nat) (fun x gs => p ≤ x.2.1 ∧ x.2.1 ≤ p + 202 + 20 * i + x.2.2 ∧ x.2.2 ≤ 4 ∧ gs 0 = b) (fun x => 4 - x.2.2) (fun x gs => [.lref 0 (gs 0) [] 0, .any, .lref 2 (gs 2) [] 0, .lref 3 (gs 3) [] 0, .any, .any, .any, .int .i64 (i : Int), .lref 8 (gs 8) [] 0, .int .i64 (x.2.2 : Int)]) (fun x gs => [(0, Rd c x.2.1), (2, .agg [.str ⟨#[]⟩, .bool false, .int .i64 0, .bool false, .int .i64 0, .nil, .nil, .nil, .nil]), (3, .agg [.str m.fName, .bool m.fUp, .int .i64 m.fClock, .bool m.fKnown, .int .i64 m.fSeen, .lsl 29 (gs 29) m.fWants.length c1, .lsl 36 (gs 36) m.fRuns.length c2, .lsl 169 (gs 169) m.fAsks.length c3, .lsl 177 (gs 177) m.fGives.length c4]), (29, .arr 7 (m.fWants.map MateWant.D) c1), (36, .arr 11 (m.fRuns.map MateRun.D) c2), (169, .arr 4 (m.fAsks.map MateAsk.D) c3), (177, .arr 4 (m.fGives.map MateAsk.D) c4), (8, .agg [.str hold, .str x.1, .int .i64 0, .int .i64 at0])]) (cs, q, 0) ⟨g5, g6, Nat.zero_le _, hg⟩ ⟨?_, ?_⟩ ?_
  ·repeat' (first | exact True.intro | refine And.intro rfl ?_)
  ·exact ⟨rfl, rfl, rfl, rfl, rfl, rfl, rfl, rfl, True.intro⟩
  clear g5 g6
  intro x gs hI
  obtain ⟨ca, qk, k⟩ := x
  obtain ⟨g5, g6, hk4, hg⟩ := hI
  dsimp only at g5 g6 hk4 ⊢
  repeat' (first | (refine z_ld1 ?_; first | (refine z_ld rfl rfl rfl rfl au1 au2 ?_; conv => whnf) | (refine z_ld0 rfl ?_; conv => whnf)) | (refine z_op ?_ ?_; (focus exact rfl); conv => whnf) | (refine zs_ops ?_ ?_; (focus exact rfl)) | (refine z_nil fun vals => ?_; conv => whnf) | (refine And.intro ?_ ?_; (focus exact au0); conv => whnf) | (refine g_seq ?_) | (refine XS.go ?_) | (refine g_cond ?_; conv => whnf) | fail)
  refine Br.mk (fun hb => ?_) (fun hb => ?_)
  ·have hlk : k < m.fRuns.length := by simpa using hb
   clear hb
   have hj0 : k < (m.fRuns.map MateRun.D).length := by rw [List.length_map]; exact hlk
   have he0 : (m.fRuns.map MateRun.D).getD k .any = (m.fRuns.getD k default).D := elt_map hlk
   have he2 : (m.fRuns.map MateRun.D).getD (k : Int).toNat .any = (m.fRuns.getD k default).D := he0
   have hwk : ((k : Nat) : Int) < ((m.fRuns.length : Nat) : Int) := by omega
   have hw2 : IntKind.wrap .i64 ((k : Int) + 1) = ((k + 1 : Nat) : Int) := by rw [wrap_ok (by omega) (by omega)]; rfl
   generalize m.fRuns.getD k default = r at he0 he2
   conv => whnf
   repeat' (first | (refine g_skip ?_; conv => whnf) | fail)
   refine XS.go ?_
   conv => whnf
   repeat' (first | ((refine d_ld rfl rfl rfl hj0 he0 ?_; conv => whnf)) | ((refine And.intro hwk ?_; conv => whnf)) | (refine And.intro ?_ ?_; (focus exact au0); conv => whnf) | (refine g_seq ?_) | (refine g_block ?_) | (refine g_drawn ?_) | ((first | refine d_p ?_ | refine d_pg ?_); conv => whnf) | fail)
   refine Br.mk (fun hb => ?_) (fun hb => ?_)
   ·conv => whnf
    repeat' (first | ((refine XCL.pkv (by decide) hc (by omega) ⟨rfl, rfl, rfl, True.intro⟩ (fun v q v1 v2 q1 q2 => ?_); conv => whnf)) | ((refine And.intro True.intro ?_; conv => whnf)) | (refine And.intro ?_ ?_; (focus exact au0); conv => whnf) | (refine XS.go ?_) | (refine Br.t ?_ ?_; (focus (first | assumption | exact rfl)); conv => whnf) | ((first | refine g_cond ?_ | refine d_p ?_ | refine d_pg ?_ | refine d_eg ?_ | refine d_nil ?_); conv => whnf) | fail)
    refine Br.mk (fun hb2 => ?_) (fun hb2 => ?_)
    ·clear hb2
     conv => whnf
     repeat' (first | ((rw [he2]; conv => whnf)) | ((refine And.intro hwk ?_; conv => whnf)) | (refine g_op ?_; conv => whnf) | (refine And.intro ?_ ?_; (focus exact au0); conv => whnf) | (refine XS.go ?_) | (refine g_ops ?_) | (refine g_nil ?_; conv => whnf) | fail)
     refine ⟨(r.fWant.fCopy, q, k + 1), ⟨by dsimp only; omega, by dsimp only; omega, by dsimp only; omega, hg⟩, by simp only; omega, ?_, ?_⟩
     ·dsimp only
      repeat' (first | exact True.intro | refine And.intro rfl ?_ | refine And.intro (congrArg (D.int .i64) hw2) ?_)
     ·exact ⟨rfl, rfl, rfl, rfl, rfl, rfl, rfl, rfl, True.intro⟩
    ·clear hb2
     conv => whnf
     repeat' (first | (refine g_op ?_; conv => whnf) | (refine And.intro ?_ ?_; (focus exact au0); conv => whnf) | (refine XS.go ?_) | (refine g_ops ?_) | ((first | refine g_nil ?_ | refine g_skip ?_); conv => whnf) | fail)
     refine ⟨(ca, q, k + 1), ⟨by dsimp only; omega, by dsimp only; omega, by dsimp only; omega, hg⟩, by simp only; omega, ?_, ?_⟩
     ·dsimp only
      repeat' (first | exact True.intro | refine And.intro rfl ?_ | refine And.intro (congrArg (D.int .i64) hw2) ?_)
     ·exact ⟨rfl, rfl, rfl, rfl, rfl, rfl, rfl, rfl, True.intro⟩
   ·conv => whnf
    repeat' (first | (refine g_op ?_; conv => whnf) | (refine And.intro ?_ ?_; (focus exact au0); conv => whnf) | (refine XS.go ?_) | (refine g_ops ?_) | (refine g_nil ?_; conv => whnf) | (refine Br.f ?_ ?_; (focus (first | assumption | exact rfl)); conv => whnf) | ((first | refine g_cond ?_ | refine g_skip ?_ | refine d_p ?_ | refine d_pg ?_ | refine d_eg ?_ | refine d_nil ?_); conv => whnf) | fail)
    refine ⟨(ca, qk, k + 1), ⟨by dsimp only; omega, by dsimp only; omega, by dsimp only; omega, hg⟩, by simp only; omega, ?_, ?_⟩
    ·dsimp only
     repeat' (first | exact True.intro | refine And.intro rfl ?_ | refine And.intro (congrArg (D.int .i64) hw2) ?_)
    ·exact ⟨rfl, rfl, rfl, rfl, rfl, rfl, rfl, rfl, True.intro⟩
  have hkl : k ≤ 4 := hk4
  clear hb
  conv => whnf
  repeat' (first | (refine g_exit ?_; conv => whnf) | fail)
  refine XS.go ?_
  conv => whnf
  repeat' (first | (refine g_op ?_; conv => whnf) | (refine And.intro ?_ ?_; (focus exact au0); conv => whnf) | (refine g_seq ?_) | (refine g_ops ?_) | (refine g_nil ?_; conv => whnf) | fail)
  refine XS.join (α := Int) (fun _ gs => gs 0 = b) (fun x gs => [.lref 0 (gs 0) [] 0, .any, .lref 2 (gs 2) [] 0, .lref 3 (gs 3) [] 0, .any, .any, .any, .int .i64 (i : Int), .lref 8 (gs 8) [] 0]) (fun x gs => [(0, Rd c qk), (2, .agg [.str ⟨#[]⟩, .bool false, .int .i64 0, .bool false, .int .i64 0, .nil, .nil, .nil, .nil]), (3, .agg [.str m.fName, .bool m.fUp, .int .i64 m.fClock, .bool m.fKnown, .int .i64 m.fSeen, .lsl 29 (gs 29) m.fWants.length c1, .lsl 36 (gs 36) m.fRuns.length c2, .lsl 169 (gs 169) m.fAsks.length c3, .lsl 177 (gs 177) m.fGives.length c4]), (29, .arr 7 (m.fWants.map MateWant.D) c1), (36, .arr 11 (m.fRuns.map MateRun.D) c2), (169, .arr 4 (m.fAsks.map MateAsk.D) c3), (177, .arr 4 (m.fGives.map MateAsk.D) c4), (8, .agg [.str hold, .str ca, .int .i64 0, .int .i64 x])]) ?_ ?_
  ·refine XS.go ?_
   conv => whnf
   repeat' (first | (refine g_cond ?_; conv => whnf) | fail)
   refine Br.mk (fun hb => ?_) (fun hb => ?_)
   ·conv => whnf
    repeat' (first | (refine g_op ?_; conv => whnf) | (refine And.intro ?_ ?_; (focus exact au0); conv => whnf) | (refine g_ops ?_) | (refine g_nil ?_; conv => whnf) | fail)
    refine ⟨0, hg, ?_, ?_⟩
    ·repeat' (first | exact True.intro | refine And.intro rfl ?_)
    ·exact ⟨rfl, rfl, rfl, rfl, rfl, rfl, rfl, rfl, True.intro⟩
   ·conv => whnf
    repeat' (first | (refine g_skip ?_; conv => whnf) | fail)
    refine ⟨at0, hg, ?_, ?_⟩
    ·repeat' (first | exact True.intro | refine And.intro rfl ?_)
    ·exact ⟨rfl, rfl, rfl, rfl, rfl, rfl, rfl, rfl, True.intro⟩
  clear hg
  intro at1 gs hg
  dsimp only
  conv => whnf
  skip
  refine XS.go ?_
  conv => whnf
  repeat' (first | ((refine XCL.pkv (by decide) hc (by omega) ⟨rfl, rfl, rfl, True.intro⟩ (fun v q v1 v2 q1 q2 => ?_); conv => whnf)) | ((refine And.intro True.intro ?_; conv => whnf)) | ((refine And.intro ⟨⟨rfl, rfl⟩, True.intro⟩ ?_; conv => whnf)) | (refine And.intro ?_ ?_; (focus exact au0); conv => whnf) | (refine g_seq ?_) | (refine g_drawn ?_) | ((first | refine d_p ?_ | refine d_e ?_ | refine d_nil ?_); conv => whnf) | fail)
  have g7 : p ≤ q := by omega
  have g8 : q ≤ p + 207 + 20 * i := by omega
  generalize IntKind.wrap .i64 (at1 - v) = f0
  clear g5 g6 hkl hk4
  refine XS.go ?_
  conv => whnf
  repeat' (first | (refine g_op ?_; conv => whnf) | (refine And.intro ?_ ?_; (focus exact au0); conv => whnf) | (refine g_seq ?_) | (refine g_ops ?_) | (refine g_nil ?_; conv => whnf) | fail)
  refine XS.join (α := Int) (fun _ gs => gs 0 = b) (fun x gs => [.lref 0 (gs 0) [] 0, .any, .lref 2 (gs 2) [] 0, .lref 3 (gs 3) [] 0, .any, .any, .any, .int .i64 (i : Int), .lref 8 (gs 8) [] 0]) (fun x gs => [(0, Rd c q), (2, .agg [.str ⟨#[]⟩, .bool false, .int .i64 0, .bool false, .int .i64 0, .nil, .nil, .nil, .nil]), (3, .agg [.str m.fName, .bool m.fUp, .int .i64 m.fClock, .bool m.fKnown, .int .i64 m.fSeen, .lsl 29 (gs 29) m.fWants.length c1, .lsl 36 (gs 36) m.fRuns.length c2, .lsl 169 (gs 169) m.fAsks.length c3, .lsl 177 (gs 177) m.fGives.length c4]), (29, .arr 7 (m.fWants.map MateWant.D) c1), (36, .arr 11 (m.fRuns.map MateRun.D) c2), (169, .arr 4 (m.fAsks.map MateAsk.D) c3), (177, .arr 4 (m.fGives.map MateAsk.D) c4), (8, .agg [.str hold, .str ca, .int .i64 x, .int .i64 at1])]) ?_ ?_
  ·refine XS.go ?_
   conv => whnf
   repeat' (first | (refine g_cond ?_; conv => whnf) | fail)
   refine Br.mk (fun hb => ?_) (fun hb => ?_)
   ·conv => whnf
    repeat' (first | (refine g_op ?_; conv => whnf) | (refine And.intro ?_ ?_; (focus exact au0); conv => whnf) | (refine g_ops ?_) | (refine g_nil ?_; conv => whnf) | fail)
    refine ⟨0, hg, ?_, ?_⟩
    ·repeat' (first | exact True.intro | refine And.intro rfl ?_)
    ·exact ⟨rfl, rfl, rfl, rfl, rfl, rfl, rfl, rfl, True.intro⟩
   ·conv => whnf
    repeat' (first | (refine g_skip ?_; conv => whnf) | fail)
    refine ⟨f0, hg, ?_, ?_⟩
    ·repeat' (first | exact True.intro | refine And.intro rfl ?_)
    ·exact ⟨rfl, rfl, rfl, rfl, rfl, rfl, rfl, rfl, True.intro⟩
  clear hg
  intro f1 gs hg
  dsimp only
  conv => whnf
  skip
  have hlA : m.fAsks.length = (m.fAsks.map MateAsk.D).length := (List.length_map ..).symm
  have hbdA : ∀ d : Go.Ab.D, (m.fAsks.map MateAsk.D).length + [d].length ≤ 1073741824 := fun d => by rw [← hlA]; simp only [List.length_cons, List.length_nil]; omega
  have hlG : m.fGives.length = (m.fGives.map MateAsk.D).length := (List.length_map ..).symm
  have hbdG : ∀ d : Go.Ab.D, (m.fGives.map MateAsk.D).length + [d].length ≤ 1073741824 := fun d => by rw [← hlG]; simp only [List.length_cons, List.length_nil]; omega
  refine XS.go ?_
  conv => whnf
  repeat' (first | (refine g_op ?_; conv => whnf) | (refine And.intro ?_ ?_; (focus exact au0); conv => whnf) | (refine g_seq ?_) | (refine g_ops ?_) | fail)
  refine XCL.pk4 hc (by omega) ⟨rfl, rfl, rfl, True.intro⟩ (fun q2 g9 g10 => ?_) (fun q2 g9 g10 => ?_) (fun q2 g9 g10 => ?_) (fun q2 g9 g10 => ?_) <;> (conv => whnf)
  ·conv => whnf
   repeat' (first | ((refine And.intro hlA ?_; conv => whnf)) | ((refine And.intro (hbdA _) ?_; conv => whnf)) | ((refine fun n1 bx cx hn1 hc1 => ?_; conv => whnf)) | (refine g_op ?_; conv => whnf) | (refine And.intro ?_ ?_; (focus exact au0); conv => whnf) | (refine g_seq ?_) | (refine XS.go ?_) | (refine g_ops ?_) | (refine g_nil ?_; conv => whnf) | (refine Br.t ?_ ?_; (focus (first | assumption | exact rfl)); conv => whnf) | ((first | refine g_cond ?_ | refine g_skip ?_); conv => whnf) | (refine g_block ?_) | (refine fun _ => ?_; conv => whnf) | fail)
   have hn2 : n1 = (m.fAsks ++ [(⟨hold, ca, f1, at1⟩ : MateAsk)]).length := by rw [hn1]; simp
   refine ⟨(({ m with fAsks := m.fAsks ++ [(⟨hold, ca, f1, at1⟩ : MateAsk)] } : Mate), c1, c2, cx, c4, q2, i + 1), ⟨k1, k2, by dsimp only; rw [List.length_append]; simp only [List.length_cons, List.length_nil]; omega, by dsimp only; omega, by dsimp only; omega, by dsimp only; omega, by dsimp only; omega, hg⟩, by simp only; omega, ?_, ?_⟩
   ·dsimp only
    repeat' (first | exact True.intro | refine And.intro rfl ?_ | refine And.intro (congrArg (D.int .i64) hw1) ?_)
   ·dsimp only
    refine ⟨rfl, rfl, congrArg (fun n => some (D.agg [.str m.fName, .bool m.fUp, .int .i64 m.fClock, .bool m.fKnown, .int .i64 m.fSeen, .lsl 29 _ m.fWants.length c1, .lsl 36 _ m.fRuns.length c2, .lsl 169 _ n cx, .lsl 177 _ m.fGives.length c4])) hn2, rfl, rfl, congrArg (fun l => some (D.arr 4 l cx)) (by rw [List.map_append]; rfl), rfl, True.intro⟩
  ·conv => whnf
   repeat' (first | ((refine And.intro hlA ?_; conv => whnf)) | ((refine And.intro (hbdA _) ?_; conv => whnf)) | ((refine fun n1 bx cx hn1 hc1 => ?_; conv => whnf)) | (refine g_op ?_; conv => whnf) | (refine And.intro ?_ ?_; (focus exact au0); conv => whnf) | (refine g_seq ?_) | (refine XS.go ?_) | (refine g_ops ?_) | (refine g_nil ?_; conv => whnf) | (refine Br.t ?_ ?_; (focus (first | assumption | exact rfl)); conv => whnf) | (refine Br.f ?_ ?_; (focus (first | assumption | exact rfl)); conv => whnf) | (refine g_cond ?_; conv => whnf) | (refine g_block ?_) | (refine fun _ => ?_; conv => whnf) | fail)
   have hn2 : n1 = (m.fAsks ++ [(⟨hold, ca, f1, at1⟩ : MateAsk)]).length := by rw [hn1]; simp
   refine ⟨(({ m with fAsks := m.fAsks ++ [(⟨hold, ca, f1, at1⟩ : MateAsk)] } : Mate), c1, c2, cx, c4, q2, i + 1), ⟨k1, k2, by dsimp only; rw [List.length_append]; simp only [List.length_cons, List.length_nil]; omega, by dsimp only; omega, by dsimp only; omega, by dsimp only; omega, by dsimp only; omega, hg⟩, by simp only; omega, ?_, ?_⟩
   ·dsimp only
    repeat' (first | exact True.intro | refine And.intro rfl ?_ | refine And.intro (congrArg (D.int .i64) hw1) ?_)
   ·dsimp only
    refine ⟨rfl, rfl, congrArg (fun n => some (D.agg [.str m.fName, .bool m.fUp, .int .i64 m.fClock, .bool m.fKnown, .int .i64 m.fSeen, .lsl 29 _ m.fWants.length c1, .lsl 36 _ m.fRuns.length c2, .lsl 169 _ n cx, .lsl 177 _ m.fGives.length c4])) hn2, rfl, rfl, congrArg (fun l => some (D.arr 4 l cx)) (by rw [List.map_append]; rfl), rfl, True.intro⟩
  ·conv => whnf
   repeat' (first | ((refine And.intro hlG ?_; conv => whnf)) | ((refine And.intro (hbdG _) ?_; conv => whnf)) | ((refine fun n1 bx cx hn1 hc1 => ?_; conv => whnf)) | (refine g_op ?_; conv => whnf) | (refine And.intro ?_ ?_; (focus exact au0); conv => whnf) | (refine g_seq ?_) | (refine XS.go ?_) | (refine g_ops ?_) | (refine g_nil ?_; conv => whnf) | (refine Br.t ?_ ?_; (focus (first | assumption | exact rfl)); conv => whnf) | (refine Br.f ?_ ?_; (focus (first | assumption | exact rfl)); conv => whnf) | (refine g_cond ?_; conv => whnf) | (refine g_block ?_) | (refine fun _ => ?_; conv => whnf) | fail)
   have hn2 : n1 = (m.fGives ++ [(⟨hold, ca, f1, at1⟩ : MateAsk)]).length := by rw [hn1]; simp
   refine ⟨(({ m with fGives := m.fGives ++ [(⟨hold, ca, f1, at1⟩ : MateAsk)] } : Mate), c1, c2, c3, cx, q2, i + 1), ⟨k1, k2, by dsimp only; omega, by dsimp only; rw [List.length_append]; simp only [List.length_cons, List.length_nil]; omega, by dsimp only; omega, by dsimp only; omega, by dsimp only; omega, hg⟩, by simp only; omega, ?_, ?_⟩
   ·dsimp only
    repeat' (first | exact True.intro | refine And.intro rfl ?_ | refine And.intro (congrArg (D.int .i64) hw1) ?_)
   ·dsimp only
    refine ⟨rfl, rfl, congrArg (fun n => some (D.agg [.str m.fName, .bool m.fUp, .int .i64 m.fClock, .bool m.fKnown, .int .i64 m.fSeen, .lsl 29 _ m.fWants.length c1, .lsl 36 _ m.fRuns.length c2, .lsl 169 _ m.fAsks.length c3, .lsl 177 _ n cx])) hn2, rfl, rfl, rfl, congrArg (fun l => some (D.arr 4 l cx)) (by rw [List.map_append]; rfl), True.intro⟩
  ·conv => whnf
   repeat' (first | (refine g_op ?_; conv => whnf) | (refine And.intro ?_ ?_; (focus exact au0); conv => whnf) | (refine g_seq ?_) | (refine XS.go ?_) | (refine g_ops ?_) | (refine g_nil ?_; conv => whnf) | (refine Br.f ?_ ?_; (focus (first | assumption | exact rfl)); conv => whnf) | ((first | refine g_cond ?_ | refine g_skip ?_); conv => whnf) | (refine g_block ?_) | fail)
   refine ⟨(m, c1, c2, c3, c4, q2, i + 1), ⟨k1, k2, by dsimp only; omega, by dsimp only; omega, by dsimp only; omega, by dsimp only; omega, by dsimp only; omega, hg⟩, by simp only; omega, ?_, ?_⟩
   ·dsimp only
    repeat' (first | exact True.intro | refine And.intro rfl ?_ | refine And.intro (congrArg (D.int .i64) hw1) ?_)
   ·exact ⟨rfl, rfl, rfl, rfl, rfl, rfl, rfl, True.intro⟩
 have hin : i = 3 := by simp at hb; omega
 subst hin
 clear hb
 conv => whnf
 repeat' (first | (refine g_op ?_; conv => whnf) | (refine And.intro ?_ ?_; (focus exact au0); conv => whnf) | (refine g_seq ?_) | (refine XS.go ?_) | (refine g_ops ?_) | ((first | refine g_nil ?_ | refine g_ret ?_ | refine g_exit ?_ | refine r_c ?_ | refine r_nil ?_); conv => whnf) | fail)
 exact ⟨m, qq, h9, by omega, ⟨k1, k2, k3, k4⟩, gs 29, gs 36, gs 169, gs 177, c1, c2, c3, c4, rfl, by subst hg; rfl⟩
end Go.Ab
set_option linter.unusedSimpArgs false
set_option linter.unusedVariables false
namespace Go.Ab
open Go Go.RowKit Go.Proofs
attribute [local irreducible] XC Rdr IntKind.wrap xw xos xqs xr xd
set_option maxRecDepth 100000
set_option maxHeartbeats 16000000
def cf118 : CF := ⟨146,[.c 4 9 true],(.seq (.ops [Oo 3 (.bx (.t 1)),Oo 4 (.al (.agg [.str ⟨#[]⟩,.bool false,.int .i64 0,.bool false,.int .i64 0,.nil,.nil,.nil,.nil]))]) (.seq (.ops [Od 7 9 3,Oc 8 79 [.t 7],Oo 5 (.al (.agg [.str ⟨#[]⟩,.bool false,.int .i64 0,.bool false,.int .i64 0,.nil,.nil,.nil,.nil])),Os 9 5 8]) (.seq (.ops [Om 9 0,Of 10 6 5,Ol 11 10,Og 12 11,Oc 13 69 [.t 9,.t 12],Om 6 13]) (.seq (.seq (.ops [Om 14 0,Oc 15 69 [.t 14,(.k (.int .i64 12))]]) (.block 0 (.seq (.ops [Oo 22 (.bin .eql (.t 15) (.k (.int .i64 0))),Om 21 22]) (.cond (.t 21) (.ops [Oo 23 (.bsl (.str ⟨#[]⟩) 2 [(0,(.k (.str ⟨#[]⟩))),(1,(.k (.str ⟨#[120,32,121]⟩)))]),Om 24 0,Oc 25 69 [.t 24,(.k (.int .i64 2))],Ox 26 1 23 25,Ol 27 26,Of 28 0 5,Os 1 28 27]) (.seq (.ops [Oo 30 (.bin .eql (.t 15) (.k (.int .i64 1))),Om 29 30]) (.cond (.t 29) (.ops [Of 31 1 5,Ol 32 31,Oo 33 (.not (.t 32)),Of 34 1 5,Os 1 34 33]) (.seq (.ops [Oo 36 (.bin .eql (.t 15) (.k (.int .i64 2))),Om 35 36]) (.cond (.t 35) (.drawn [Qf 37 2 5,Ql 38 37,Qo 39 (.bin .add (.t 38) (.k (.int .i64 9))),Qo 40 (.bsl (.int .i64 0) 4 [(0,(.k (.int .i64 (-1)))),(1,(.k (.int .i64 0))),(2,(.t 39)),(3,(.k (.int .i64 1000001)))]),Qm 41 0,(Oc 42 69 [.t 41,(.k (.int .i64 4))],true,[(.t 37)]),Qx 43 1 40 42,Ql 44 43,Qf 45 2 5,Qs 1 45 44]) (.seq (.ops [Oo 47 (.bin .eql (.t 15) (.k (.int .i64 3))),Om 46 47]) (.cond (.t 46) (.ops [Of 48 3 5,Ol 49 48,Oo 50 (.not (.t 49)),Of 51 3 5,Os 1 51 50]) (.seq (.ops [Oo 53 (.bin .eql (.t 15) (.k (.int .i64 4))),Om 52 53]) (.cond (.t 52) (.ops [Oo 54 (.bsl (.int .i64 0) 3 [(0,(.k (.int .i64 (-1)))),(1,(.k (.int .i64 1000000))),(2,(.k (.int .i64 1000001)))]),Om 55 0,Oc 56 69 [.t 55,(.k (.int .i64 3))],Ox 57 1 54 56,Ol 58 57,Of 59 4 5,Os 1 59 58]) (.seq (.ops [Oo 61 (.bin .eql (.t 15) (.k (.int .i64 5))),Om 60 61]) (.cond (.t 60) (.seq (.ops [Of 62 5 5,Ol 63 62,Og 64 63,Oo 65 (.bin .gtr (.t 64) (.k (.int .i64 0)))]) (.cond (.t 65) (.drawn [Qf 66 5 5,Ql 67 66,Qm 68 0,Qf 69 5 5,Ql 70 69,Qo 71 (.ix 7 (.t 70) (.k (.int .i64 0))),Qd 72 7 71,(Oc 73 106 [.t 68,.t 72],true,[(.t 66)]),Qo 74 (.ix 7 (.t 67) (.k (.int .i64 0))),Qs 7 74 73]) .skip)) (.seq (.seq (.ops [Oo 76 (.bin .eql (.t 15) (.k (.int .i64 6))),Om 75 76]) (.cond (.t 75) .skip (.ops [Oo 77 (.bin .eql (.t 15) (.k (.int .i64 7))),Om 75 77]))) (.cond (.t 75) (.seq (.ops [Of 78 6 5,Ol 79 78,Og 80 79,Oo 81 (.bin .gtr (.t 80) (.k (.int .i64 0)))]) (.cond (.t 81) (.drawn [Qf 82 6 5,Ql 83 82,Qm 84 6,Qm 85 0,Qf 86 6 5,Ql 87 86,Qm 88 6,Qx 89 11 87 88,Qd 90 11 89,(Oc 91 72 [.t 85,.t 90],true,[(.t 82)]),Qx 92 11 83 84,Qs 11 92 91]) .skip)) (.seq (.ops [Oo 94 (.bin .eql (.t 15) (.k (.int .i64 8))),Om 93 94]) (.cond (.t 93) (.drawn [Qf 95 7 5,Ql 96 95,Qo 97 (.bsl (.str ⟨#[]⟩) 4 [(0,(.k (.str ⟨#[]⟩))),(1,(.k (.str ⟨#[118,111,108]⟩))),(2,(.k (.str ⟨#[122,122]⟩))),(3,(.k (.str ⟨#[42]⟩)))]),Qm 98 0,Qo 102 (.bsl (.str ⟨#[]⟩) 2 [(0,(.k (.str ⟨#[]⟩))),(1,(.k (.str ⟨#[99]⟩)))]),Qm 103 0,Qm 107 0,Qm 109 0,(Oc 99 69 [.t 98,(.k (.int .i64 4))],true,[(.t 95)]),Qx 100 1 97 99,Ql 101 100,(Oc 104 69 [.t 103,(.k (.int .i64 2))],true,[(.t 100),(.t 95)]),Qx 105 1 102 104,Ql 106 105,(Oc 108 69 [.t 107,(.k (.int .i64 3))],true,[(.t 105),(.t 100),(.t 95)]),(Oc 110 69 [.t 109,(.k (.int .i64 70))],true,[(.t 105),(.t 100),(.t 95)]),Qo 111 (.bld (.agg [.str ⟨#[]⟩,.str ⟨#[]⟩,.int .i64 0,.int .i64 0]) [(0,0,1,(.t 101)),(1,1,1,(.t 106)),(2,2,1,(.t 108)),(3,3,1,(.t 110))]),Qo 112 (.bsl (.agg [.str ⟨#[]⟩,.str ⟨#[]⟩,.int .i64 0,.int .i64 0]) 1 [(0,(.t 111))]),(Oo 113 (.app 4 48 (.t 96) (.t 112)),true,[]),Qf 114 7 5,Qs 1 114 113]) (.seq (.ops [Oo 116 (.bin .eql (.t 15) (.k (.int .i64 9))),Om 115 116]) (.cond (.t 115) (.drawn [Qf 117 8 5,Ql 118 117,Qo 119 (.bsl (.str ⟨#[]⟩) 3 [(0,(.k (.str ⟨#[]⟩))),(1,(.k (.str ⟨#[118,111,108]⟩))),(2,(.k (.str ⟨#[122,122]⟩)))]),Qm 120 0,Qm 124 0,Qm 127 0,(Oc 121 69 [.t 120,(.k (.int .i64 3))],true,[(.t 117)]),Qx 122 1 119 121,Ql 123 122,(Oc 125 69 [.t 124,(.k (.int .i64 3))],true,[(.t 122),(.t 117)]),Qo 126 (.bin .sub (.t 125) (.k (.int .i64 1))),(Oc 128 69 [.t 127,(.k (.int .i64 5))],true,[(.t 122),(.t 117)]),Qo 129 (.bld (.agg [.str ⟨#[]⟩,.str ⟨#[]⟩,.int .i64 0,.int .i64 0]) [(0,0,1,(.t 123)),(1,1,1,(.k (.str ⟨#[99]⟩))),(2,2,1,(.t 126)),(3,3,1,(.t 128))]),Qo 130 (.bsl (.agg [.str ⟨#[]⟩,.str ⟨#[]⟩,.int .i64 0,.int .i64 0]) 1 [(0,(.t 129))]),(Oo 131 (.app 4 48 (.t 118) (.t 130)),true,[]),Qf 132 8 5,Qs 1 132 131]) (.seq (.ops [Oo 134 (.bin .eql (.t 15) (.k (.int .i64 10))),Om 133 134]) (.cond (.t 133) (.drawn [Qf 135 6 5,Ql 136 135,Qo 137 (.bld (.agg [.str ⟨#[]⟩,.int .i64 0,.str ⟨#[]⟩,.int .i64 0,.int .i64 0,.int .i64 0,.int .i64 0]) [(0,0,1,(.k (.str ⟨#[122,122]⟩))),(1,1,1,(.k (.int .i64 1)))]),Qm 138 0,(Oc 139 69 [.t 138,(.k (.int .i64 6))],true,[(.t 135)]),Qo 140 (.bin .add (.k (.int .i64 1)) (.t 139)),Qo 141 (.bld (.agg [.agg [.str ⟨#[]⟩,.int .i64 0,.str ⟨#[]⟩,.int .i64 0,.int .i64 0,.int .i64 0,.int .i64 0],.int .i64 0,.int .i64 0,.int .i64 0,.int .i64 0]) [(0,0,7,(.t 137)),(1,7,1,(.t 140))]),Qo 142 (.bsl (.agg [.agg [.str ⟨#[]⟩,.int .i64 0,.str ⟨#[]⟩,.int .i64 0,.int .i64 0,.int .i64 0,.int .i64 0],.int .i64 0,.int .i64 0,.int .i64 0,.int .i64 0]) 1 [(0,(.t 141))]),(Oo 143 (.app 11 104 (.t 136) (.t 142)),true,[]),Qf 144 6 5,Qs 1 144 143]) (.ops [Oo 16 (.bsl (.agg [.str ⟨#[]⟩,.str ⟨#[]⟩,.int .i64 0,.int .i64 0]) 0 []),Of 17 7 5,Ol 18 17,Oo 19 (.app 4 48 (.t 16) (.t 18)),Of 20 8 5,Os 1 20 19]))))))))))))))))))))))) (.seq (.ops [Od 145 9 5,Os 9 4 145]) .ret)))))⟩
theorem c118 : compileF Try.prog [] 118 = some cf118 := by kernel_rfl
structure SpoilOk (m : Mate) : Prop where
 w : m.fWants.length ≤ 5
 r : m.fRuns.length ≤ 5
 a : m.fAsks.length ≤ 5
 g : m.fGives.length ≤ 5
theorem mkSpoilM0 (x : Mate) (hs : x.small) (hx : DrawOk x) (b : Nat) (c : List Int) (p b1 b2 b3 b4 c1 c2 c3 c4 : Nat) (hc : CodeOk c) (hp : p + 100 ≤ 1000000000) : XC Try.prog 118 [.lref 0 b [] 0, x.O 29 36 169 177 b1 b2 b3 b4 c1 c2 c3 c4] ((0, b, Rd c p) :: x.L 29 36 169 177 b1 b2 b3 b4 c1 c2 c3 c4) (fun d ls => ∃ (m : Mate) (p' : Nat), p ≤ p' ∧ p' ≤ p + 100 ∧ SpoilOk m ∧ ∃ b1 b2 b3 b4 c1 c2 c3 c4, d = m.O 6 11 16 21 b1 b2 b3 b4 c1 c2 c3 c4 ∧ ls = (0, b, Rd c p') :: m.L 6 11 16 21 b1 b2 b3 b4 c1 c2 c3 c4) := by
 refine XC.intro' hm [0, 6, 11, 16, 21] rfl c118 (Nat.le_of_ble_eq_true rfl) ?_
 conv => whnf
 repeat' (first | (refine g_op ?_; conv => whnf) | (refine And.intro ?_ ?_; (focus exact au0); conv => whnf) | (refine g_seq ?_) | (refine g_ops ?_) | ((first | refine g_nil ?_ | refine fun _ => ?_); conv => whnf) | fail)
 refine XS.go ?_
 conv => whnf
 repeat' (first | (refine g_op ?_; conv => whnf) | (refine And.intro ?_ ?_; (focus exact au0); conv => whnf) | (refine g_seq ?_) | (refine g_ops ?_) | fail)
 refine XCL.of_XC (ls := x.L 29 36 169 177 b1 b2 b3 b4 c1 c2 c3 c4) ⟨rfl, rfl, rfl, rfl, rfl, rfl, rfl, rfl, rfl, rfl, rfl, rfl, True.intro⟩ ((spec_CopyG 29 36 169 177 x b1 b2 b3 b4 c1 c2 c3 c4 hs).mono fun d ls h => ?_)
 obtain ⟨d1, d2, d3, d4, e1, e2, e3, e4, rfl, rfl⟩ := h
 conv => whnf
 repeat' (first | (refine g_op ?_; conv => whnf) | (refine And.intro ?_ ?_; (focus exact au0); conv => whnf) | ((first | refine g_nil ?_ | refine fun _ => ?_); conv => whnf) | fail)
 rename_i b4x b5x
 refine XS.weakenA (fs := [.lref 0 b [] 0, .any, .any, .any, .lref 4 b4x [] 0, .lref 5 b5x [] 0]) (ls := [(0, Rd c p), (4, .agg [.str ⟨#[]⟩, .bool false, .int .i64 0, .bool false, .int .i64 0, .nil, .nil, .nil, .nil]), (5, .agg [.str x.fName, .bool x.fUp, .int .i64 x.fClock, .bool x.fKnown, .int .i64 x.fSeen, .lsl 6 d1 x.fWants.length e1, .lsl 11 d2 x.fRuns.length e2, .lsl 16 d3 x.fAsks.length e3, .lsl 21 d4 x.fGives.length e4]), (6, .arr 7 (x.fWants.map MateWant.D) e1), (11, .arr 11 (x.fRuns.map MateRun.D) e2), (16, .arr 4 (x.fAsks.map MateAsk.D) e3), (21, .arr 4 (x.fGives.map MateAsk.D) e4)]) ⟨?_, ?_⟩ ?_
 ·repeat' (first | exact True.intro | refine And.intro rfl ?_)
 ·exact ⟨rfl, rfl, rfl, rfl, rfl, rfl, rfl, True.intro⟩
 have h1 := hx.w
 have h2 := hx.r
 have h3 := hx.a
 have h4 := hx.g
 refine XS.go ?_
 conv => whnf
 repeat' (first | ((refine XCL.mkr (pick _) hc (by omega) ⟨rfl, rfl, rfl, True.intro⟩ (fun d q0 hR q1 q2 => ?_); obtain ⟨kv, rfl, hkv⟩ := hR; conv => whnf)) | (refine g_op ?_; conv => whnf) | (refine And.intro ?_ ?_; (focus exact au0); conv => whnf) | (refine g_seq ?_) | (refine g_ops ?_) | (refine g_nil ?_; conv => whnf) | fail)
 refine XS.go ?_
 conv => whnf
 repeat' (first | ((refine XCL.pkv (by decide) hc (by omega) ⟨rfl, rfl, rfl, True.intro⟩ (fun v q v1 v2 q1 q2 => ?_); conv => whnf)) | (refine g_op ?_; conv => whnf) | (refine And.intro ?_ ?_; (focus exact au0); conv => whnf) | (refine g_seq ?_) | (refine g_ops ?_) | (refine g_nil ?_; conv => whnf) | fail)
 have g1 : p ≤ q := by omega
 have g2 : q ≤ p + 2 := by omega
 refine XS.join (α := Mate × Nat × Nat × Nat × Nat × Nat × Nat × Nat × Nat) (fun x gs => SpoilOk x.1 ∧ p ≤ x.2.2.2.2.2.1 ∧ x.2.2.2.2.2.1 ≤ p + 50 ∧ gs 0 = b ∧ ((x.2.2.2.2.2.2.1 = 11 ∧ x.2.2.2.2.2.2.2.1 = 16 ∧ x.2.2.2.2.2.2.2.2 = 21) ∨ (x.2.2.2.2.2.2.1 = 143 ∧ x.2.2.2.2.2.2.2.1 = 16 ∧ x.2.2.2.2.2.2.2.2 = 21) ∨ (x.2.2.2.2.2.2.1 = 11 ∧ x.2.2.2.2.2.2.2.1 = 113 ∧ x.2.2.2.2.2.2.2.2 = 21) ∨ (x.2.2.2.2.2.2.1 = 11 ∧ x.2.2.2.2.2.2.2.1 = 16 ∧ x.2.2.2.2.2.2.2.2 = 131) ∨ (x.2.2.2.2.2.2.1 = 11 ∧ x.2.2.2.2.2.2.2.1 = 16 ∧ x.2.2.2.2.2.2.2.2 = 19))) (fun x gs => [.lref 0 (gs 0) [] 0, .any, .any, .any, .lref 4 (gs 4) [] 0, .lref 5 (gs 5) [] 0]) (fun x gs => [(0, Rd c x.2.2.2.2.2.1), (4, .agg [.str ⟨#[]⟩, .bool false, .int .i64 0, .bool false, .int .i64 0, .nil, .nil, .nil, .nil]), (5, .agg [.str x.1.fName, .bool x.1.fUp, .int .i64 x.1.fClock, .bool x.1.fKnown, .int .i64 x.1.fSeen, .lsl 6 (gs 6) x.1.fWants.length x.2.1, .lsl x.2.2.2.2.2.2.1 (gs x.2.2.2.2.2.2.1) x.1.fRuns.length x.2.2.1, .lsl x.2.2.2.2.2.2.2.1 (gs x.2.2.2.2.2.2.2.1) x.1.fAsks.length x.2.2.2.1, .lsl x.2.2.2.2.2.2.2.2 (gs x.2.2.2.2.2.2.2.2) x.1.fGives.length x.2.2.2.2.1]), (6, .arr 7 (x.1.fWants.map MateWant.D) x.2.1), (x.2.2.2.2.2.2.1, .arr 11 (x.1.fRuns.map MateRun.D) x.2.2.1), (x.2.2.2.2.2.2.2.1, .arr 4 (x.1.fAsks.map MateAsk.D) x.2.2.2.1), (x.2.2.2.2.2.2.2.2, .arr 4 (x.1.fGives.map MateAsk.D) x.2.2.2.2.1)]) ?_ ?_
 ·have hcs : v = 0 ∨ v = 1 ∨ v = 2 ∨ v = 3 ∨ v = 4 ∨ v = 5 ∨ v = 6 ∨ v = 7 ∨ v = 8 ∨ v = 9 ∨ v = 10 ∨ v = 11 := by omega
  clear v1 v2 q1 q2
  refine XS.go ?_
  rcases hcs with rfl | rfl | rfl | rfl | rfl | rfl | rfl | rfl | rfl | rfl | rfl | rfl
  ·conv => whnf
   repeat' (first | ((refine XCL.pk2 hc (by omega) ⟨rfl, rfl, rfl, True.intro⟩ (fun q2 g9 g10 => ?_) (fun q2 g9 g10 => ?_) <;> (conv => whnf))) | (refine g_op ?_; conv => whnf) | (refine And.intro ?_ ?_; (focus exact au0); conv => whnf) | (refine g_seq ?_) | (refine XS.go ?_) | (refine g_ops ?_) | (refine g_nil ?_; conv => whnf) | (refine Br.t ?_ ?_; (focus (first | assumption | exact rfl)); conv => whnf) | (refine g_cond ?_; conv => whnf) | (refine g_block ?_) | (refine fun _ => ?_; conv => whnf) | fail)
   ·conv => whnf
    skip
    refine ⟨(({ x with fName := ⟨#[]⟩ } : Mate), e1, e2, e3, e4, q2, 11, 16, 21), ⟨⟨by show x.fWants.length ≤ _; omega, by show x.fRuns.length ≤ _; omega, by show x.fAsks.length ≤ _; omega, by show x.fGives.length ≤ _; omega⟩, by dsimp only; omega, by dsimp only; omega, rfl, Or.inl ⟨rfl, rfl, rfl⟩⟩, ?_, ?_⟩
    ·repeat' (first | exact True.intro | refine And.intro rfl ?_)
    ·exact ⟨rfl, rfl, rfl, rfl, rfl, rfl, rfl, True.intro⟩
   ·conv => whnf
    skip
    refine ⟨(({ x with fName := ⟨#[120, 32, 121]⟩ } : Mate), e1, e2, e3, e4, q2, 11, 16, 21), ⟨⟨by show x.fWants.length ≤ _; omega, by show x.fRuns.length ≤ _; omega, by show x.fAsks.length ≤ _; omega, by show x.fGives.length ≤ _; omega⟩, by dsimp only; omega, by dsimp only; omega, rfl, Or.inl ⟨rfl, rfl, rfl⟩⟩, ?_, ?_⟩
    ·repeat' (first | exact True.intro | refine And.intro rfl ?_)
    ·exact ⟨rfl, rfl, rfl, rfl, rfl, rfl, rfl, True.intro⟩
  ·conv => whnf
   repeat' (first | (refine g_op ?_; conv => whnf) | (refine And.intro ?_ ?_; (focus exact au0); conv => whnf) | (refine g_seq ?_) | (refine XS.go ?_) | (refine g_ops ?_) | (refine g_nil ?_; conv => whnf) | (refine Br.t ?_ ?_; (focus (first | assumption | exact rfl)); conv => whnf) | (refine Br.f ?_ ?_; (focus (first | assumption | exact rfl)); conv => whnf) | (refine g_cond ?_; conv => whnf) | (refine g_block ?_) | fail)
   refine ⟨(({ x with fUp := !x.fUp } : Mate), e1, e2, e3, e4, q, 11, 16, 21), ⟨⟨by show x.fWants.length ≤ _; omega, by show x.fRuns.length ≤ _; omega, by show x.fAsks.length ≤ _; omega, by show x.fGives.length ≤ _; omega⟩, by dsimp only; omega, by dsimp only; omega, rfl, Or.inl ⟨rfl, rfl, rfl⟩⟩, ?_, ?_⟩
   ·repeat' (first | exact True.intro | refine And.intro rfl ?_)
   ·exact ⟨rfl, rfl, rfl, rfl, rfl, rfl, rfl, True.intro⟩
  ·conv => whnf
   repeat' (first | ((refine d_ixi rfl rfl rfl rfl (by omega) (by simp; omega) (fun sx => ?_); conv => whnf)) | ((refine XCL.pkv (by decide) hc (by omega) ⟨rfl, rfl, rfl, True.intro⟩ (fun v q2 v1 v2 q1 q3 => ?_); conv => whnf)) | ((refine And.intro True.intro ?_; conv => whnf)) | ((refine And.intro ⟨⟨rfl, rfl⟩, True.intro⟩ ?_; conv => whnf)) | (refine g_op ?_; conv => whnf) | (refine And.intro ?_ ?_; (focus exact au0); conv => whnf) | (refine g_seq ?_) | (refine XS.go ?_) | (refine g_ops ?_) | (refine g_nil ?_; conv => whnf) | (refine Br.t ?_ ?_; (focus (first | assumption | exact rfl)); conv => whnf) | (refine Br.f ?_ ?_; (focus (first | assumption | exact rfl)); conv => whnf) | (refine g_cond ?_; conv => whnf) | (refine g_block ?_) | (refine g_drawn ?_) | ((first | refine d_p ?_ | refine d_e ?_ | refine d_nil ?_); conv => whnf) | fail)
   refine ⟨(({ x with fClock := sx } : Mate), e1, e2, e3, e4, q2, 11, 16, 21), ⟨⟨by show x.fWants.length ≤ _; omega, by show x.fRuns.length ≤ _; omega, by show x.fAsks.length ≤ _; omega, by show x.fGives.length ≤ _; omega⟩, by dsimp only; omega, by dsimp only; omega, rfl, Or.inl ⟨rfl, rfl, rfl⟩⟩, ?_, ?_⟩
   ·repeat' (first | exact True.intro | refine And.intro rfl ?_)
   ·exact ⟨rfl, rfl, rfl, rfl, rfl, rfl, rfl, True.intro⟩
  ·conv => whnf
   repeat' (first | (refine g_op ?_; conv => whnf) | (refine And.intro ?_ ?_; (focus exact au0); conv => whnf) | (refine g_seq ?_) | (refine XS.go ?_) | (refine g_ops ?_) | (refine g_nil ?_; conv => whnf) | (refine Br.t ?_ ?_; (focus (first | assumption | exact rfl)); conv => whnf) | (refine Br.f ?_ ?_; (focus (first | assumption | exact rfl)); conv => whnf) | (refine g_cond ?_; conv => whnf) | (refine g_block ?_) | fail)
   refine ⟨(({ x with fKnown := !x.fKnown } : Mate), e1, e2, e3, e4, q, 11, 16, 21), ⟨⟨by show x.fWants.length ≤ _; omega, by show x.fRuns.length ≤ _; omega, by show x.fAsks.length ≤ _; omega, by show x.fGives.length ≤ _; omega⟩, by dsimp only; omega, by dsimp only; omega, rfl, Or.inl ⟨rfl, rfl, rfl⟩⟩, ?_, ?_⟩
   ·repeat' (first | exact True.intro | refine And.intro rfl ?_)
   ·exact ⟨rfl, rfl, rfl, rfl, rfl, rfl, rfl, True.intro⟩
  ·conv => whnf
   repeat' (first | ((refine XCL.pk3 hc (by omega) ⟨rfl, rfl, rfl, True.intro⟩ (fun q2 g9 g10 => ?_) (fun q2 g9 g10 => ?_) (fun q2 g9 g10 => ?_) <;> (conv => whnf))) | (refine g_op ?_; conv => whnf) | (refine And.intro ?_ ?_; (focus exact au0); conv => whnf) | (refine g_seq ?_) | (refine XS.go ?_) | (refine g_ops ?_) | (refine g_nil ?_; conv => whnf) | (refine Br.t ?_ ?_; (focus (first | assumption | exact rfl)); conv => whnf) | (refine Br.f ?_ ?_; (focus (first | assumption | exact rfl)); conv => whnf) | (refine g_cond ?_; conv => whnf) | (refine g_block ?_) | (refine fun _ => ?_; conv => whnf) | fail)
   ·conv => whnf
    skip
    refine ⟨(({ x with fSeen := -1 } : Mate), e1, e2, e3, e4, q2, 11, 16, 21), ⟨⟨by show x.fWants.length ≤ _; omega, by show x.fRuns.length ≤ _; omega, by show x.fAsks.length ≤ _; omega, by show x.fGives.length ≤ _; omega⟩, by dsimp only; omega, by dsimp only; omega, rfl, Or.inl ⟨rfl, rfl, rfl⟩⟩, ?_, ?_⟩
    ·repeat' (first | exact True.intro | refine And.intro rfl ?_)
    ·exact ⟨rfl, rfl, rfl, rfl, rfl, rfl, rfl, True.intro⟩
   ·conv => whnf
    skip
    refine ⟨(({ x with fSeen := 1000000 } : Mate), e1, e2, e3, e4, q2, 11, 16, 21), ⟨⟨by show x.fWants.length ≤ _; omega, by show x.fRuns.length ≤ _; omega, by show x.fAsks.length ≤ _; omega, by show x.fGives.length ≤ _; omega⟩, by dsimp only; omega, by dsimp only; omega, rfl, Or.inl ⟨rfl, rfl, rfl⟩⟩, ?_, ?_⟩
    ·repeat' (first | exact True.intro | refine And.intro rfl ?_)
    ·exact ⟨rfl, rfl, rfl, rfl, rfl, rfl, rfl, True.intro⟩
   ·conv => whnf
    skip
    refine ⟨(({ x with fSeen := 1000001 } : Mate), e1, e2, e3, e4, q2, 11, 16, 21), ⟨⟨by show x.fWants.length ≤ _; omega, by show x.fRuns.length ≤ _; omega, by show x.fAsks.length ≤ _; omega, by show x.fGives.length ≤ _; omega⟩, by dsimp only; omega, by dsimp only; omega, rfl, Or.inl ⟨rfl, rfl, rfl⟩⟩, ?_, ?_⟩
    ·repeat' (first | exact True.intro | refine And.intro rfl ?_)
    ·exact ⟨rfl, rfl, rfl, rfl, rfl, rfl, rfl, True.intro⟩
  ·conv => whnf
   repeat' (first | (refine g_op ?_; conv => whnf) | (refine And.intro ?_ ?_; (focus exact au0); conv => whnf) | (refine g_seq ?_) | (refine XS.go ?_) | (refine g_ops ?_) | (refine g_nil ?_; conv => whnf) | (refine Br.t ?_ ?_; (focus (first | assumption | exact rfl)); conv => whnf) | (refine Br.f ?_ ?_; (focus (first | assumption | exact rfl)); conv => whnf) | (refine g_cond ?_; conv => whnf) | (refine g_block ?_) | fail)
   refine Br.mk (fun hb => ?_) (fun hb => ?_)
   ·have hlt : 0 < x.fWants.length := by simp at hb; omega
    clear hb
    have hjl : 0 < x.fWants.length := hlt
    have hwr : ((0 : Int)) < ((x.fWants.length : Nat) : Int) := by omega
    have hj0 : 0 < (x.fWants.map MateWant.D).length := by rw [List.length_map]; exact hjl
    have he0 : (x.fWants.map MateWant.D).getD 0 .any = (x.fWants.getD 0 default).D := elt_map hjl
    generalize hr : x.fWants.getD 0 default = r at he0
    conv => whnf
    repeat' (first | ((refine d_ld rfl rfl rfl hj0 he0 ?_; conv => whnf)) | ((refine d_st rfl rfl rfl hj0 he0 rfl rfl ?_; conv => whnf)) | ((refine And.intro hwr ?_; conv => whnf)) | ((refine XCL.mkr (mkSpoilWant r) hc (by omega) ⟨rfl, rfl, rfl, True.intro⟩ (fun d q2 hR g9 g10 => ?_); obtain ⟨w0, rfl⟩ := hR; conv => whnf)) | ((refine And.intro ⟨⟨rfl, rfl⟩, True.intro⟩ ?_; conv => whnf)) | (refine And.intro ?_ ?_; (focus exact au0); conv => whnf) | (refine g_drawn ?_) | ((first | refine d_p ?_ | refine d_e ?_ | refine d_nil ?_); conv => whnf) | fail)
    refine ⟨(({ x with fWants := x.fWants.set 0 w0 } : Mate), e1, e2, e3, e4, q2, 11, 16, 21), ⟨⟨by show (x.fWants.set 0 w0).length ≤ _; rw [List.length_set]; omega, by show x.fRuns.length ≤ _; omega, by show x.fAsks.length ≤ _; omega, by show x.fGives.length ≤ _; omega⟩, by dsimp only; omega, by dsimp only; omega, rfl, Or.inl ⟨rfl, rfl, rfl⟩⟩, ?_, ?_⟩
    ·repeat' (first | exact True.intro | refine And.intro rfl ?_)
    ·exact ⟨rfl, rfl, congrArg (fun n => some (D.agg [.str x.fName, .bool x.fUp, .int .i64 x.fClock, .bool x.fKnown, .int .i64 x.fSeen, .lsl 6 d1 n e1, .lsl 11 d2 x.fRuns.length e2, .lsl 16 d3 x.fAsks.length e3, .lsl 21 d4 x.fGives.length e4])) (List.length_set ..).symm, congrArg (fun l => some (D.arr 7 l e1)) (by rw [List.map_set]; rfl), rfl, rfl, rfl, True.intro⟩
   ·clear hb
    conv => whnf
    repeat' (first | (refine g_skip ?_; conv => whnf) | fail)
    refine ⟨(x, e1, e2, e3, e4, q, 11, 16, 21), ⟨⟨by show x.fWants.length ≤ _; omega, by show x.fRuns.length ≤ _; omega, by show x.fAsks.length ≤ _; omega, by show x.fGives.length ≤ _; omega⟩, by dsimp only; omega, by dsimp only; omega, rfl, Or.inl ⟨rfl, rfl, rfl⟩⟩, ?_, ?_⟩
    ·repeat' (first | exact True.intro | refine And.intro rfl ?_)
    ·exact ⟨rfl, rfl, rfl, rfl, rfl, rfl, rfl, True.intro⟩
  ·conv => whnf
   repeat' (first | (refine g_op ?_; conv => whnf) | (refine And.intro ?_ ?_; (focus exact au0); conv => whnf) | (refine g_seq ?_) | (refine XS.go ?_) | (refine g_ops ?_) | (refine g_nil ?_; conv => whnf) | (refine Br.t ?_ ?_; (focus (first | assumption | exact rfl)); conv => whnf) | (refine Br.f ?_ ?_; (focus (first | assumption | exact rfl)); conv => whnf) | ((first | refine g_cond ?_ | refine g_skip ?_); conv => whnf) | (refine g_block ?_) | fail)
   refine Br.mk (fun hb => ?_) (fun hb => ?_)
   ·have hlt : 0 < x.fRuns.length := by simp at hb; omega
    clear hb
    have hk0 : 0 ≤ kv := by omega
    have hk1 : kv < ((x.fRuns.length : Nat) : Int) := by omega
    obtain ⟨j, rfl⟩ := Int.eq_ofNat_of_zero_le hk0
    have hjl : j < x.fRuns.length := by omega
    have hwr : ((j : Nat) : Int) < ((x.fRuns.length : Nat) : Int) := hk1
    have hj0 : j < (x.fRuns.map MateRun.D).length := by rw [List.length_map]; exact hjl
    have he0 : (x.fRuns.map MateRun.D).getD j .any = (x.fRuns.getD j default).D := elt_map hjl
    generalize hr : x.fRuns.getD j default = r at he0
    conv => whnf
    repeat' (first | ((refine d_ld rfl rfl rfl hj0 he0 ?_; conv => whnf)) | ((refine d_st rfl rfl rfl hj0 he0 rfl rfl ?_; conv => whnf)) | ((refine And.intro hwr ?_; conv => whnf)) | ((refine XCL.mkr (mkSpoil r) hc (by omega) ⟨rfl, rfl, rfl, True.intro⟩ (fun d q2 hR g9 g10 => ?_); obtain ⟨w0, rfl⟩ := hR; conv => whnf)) | ((refine And.intro ⟨⟨rfl, rfl⟩, True.intro⟩ ?_; conv => whnf)) | (refine And.intro ?_ ?_; (focus exact au0); conv => whnf) | (refine g_drawn ?_) | ((first | refine d_p ?_ | refine d_e ?_ | refine d_nil ?_); conv => whnf) | fail)
    refine ⟨(({ x with fRuns := x.fRuns.set j w0 } : Mate), e1, e2, e3, e4, q2, 11, 16, 21), ⟨⟨by show x.fWants.length ≤ _; omega, by show (x.fRuns.set j w0).length ≤ _; rw [List.length_set]; omega, by show x.fAsks.length ≤ _; omega, by show x.fGives.length ≤ _; omega⟩, by dsimp only; omega, by dsimp only; omega, rfl, Or.inl ⟨rfl, rfl, rfl⟩⟩, ?_, ?_⟩
    ·repeat' (first | exact True.intro | refine And.intro rfl ?_)
    ·exact ⟨rfl, rfl, congrArg (fun n => some (D.agg [.str x.fName, .bool x.fUp, .int .i64 x.fClock, .bool x.fKnown, .int .i64 x.fSeen, .lsl 6 d1 x.fWants.length e1, .lsl 11 d2 n e2, .lsl 16 d3 x.fAsks.length e3, .lsl 21 d4 x.fGives.length e4])) (List.length_set ..).symm, rfl, congrArg (fun l => some (D.arr 11 l e2)) (by rw [List.map_set]; rfl), rfl, rfl, True.intro⟩
   ·clear hb
    conv => whnf
    repeat' (first | (refine g_skip ?_; conv => whnf) | fail)
    refine ⟨(x, e1, e2, e3, e4, q, 11, 16, 21), ⟨⟨by show x.fWants.length ≤ _; omega, by show x.fRuns.length ≤ _; omega, by show x.fAsks.length ≤ _; omega, by show x.fGives.length ≤ _; omega⟩, by dsimp only; omega, by dsimp only; omega, rfl, Or.inl ⟨rfl, rfl, rfl⟩⟩, ?_, ?_⟩
    ·repeat' (first | exact True.intro | refine And.intro rfl ?_)
    ·exact ⟨rfl, rfl, rfl, rfl, rfl, rfl, rfl, True.intro⟩
  ·conv => whnf
   repeat' (first | (refine g_op ?_; conv => whnf) | (refine And.intro ?_ ?_; (focus exact au0); conv => whnf) | (refine g_seq ?_) | (refine XS.go ?_) | (refine g_ops ?_) | (refine g_nil ?_; conv => whnf) | (refine Br.t ?_ ?_; (focus (first | assumption | exact rfl)); conv => whnf) | (refine Br.f ?_ ?_; (focus (first | assumption | exact rfl)); conv => whnf) | (refine g_cond ?_; conv => whnf) | (refine g_block ?_) | fail)
   refine Br.mk (fun hb => ?_) (fun hb => ?_)
   ·have hlt : 0 < x.fRuns.length := by simp at hb; omega
    clear hb
    have hk0 : 0 ≤ kv := by omega
    have hk1 : kv < ((x.fRuns.length : Nat) : Int) := by omega
    obtain ⟨j, rfl⟩ := Int.eq_ofNat_of_zero_le hk0
    have hjl : j < x.fRuns.length := by omega
    have hwr : ((j : Nat) : Int) < ((x.fRuns.length : Nat) : Int) := hk1
    have hj0 : j < (x.fRuns.map MateRun.D).length := by rw [List.length_map]; exact hjl
    have he0 : (x.fRuns.map MateRun.D).getD j .any = (x.fRuns.getD j default).D := elt_map hjl
    generalize hr : x.fRuns.getD j default = r at he0
    conv => whnf
    repeat' (first | ((refine d_ld rfl rfl rfl hj0 he0 ?_; conv => whnf)) | ((refine d_st rfl rfl rfl hj0 he0 rfl rfl ?_; conv => whnf)) | ((refine And.intro hwr ?_; conv => whnf)) | ((refine XCL.mkr (mkSpoil r) hc (by omega) ⟨rfl, rfl, rfl, True.intro⟩ (fun d q2 hR g9 g10 => ?_); obtain ⟨w0, rfl⟩ := hR; conv => whnf)) | ((refine And.intro ⟨⟨rfl, rfl⟩, True.intro⟩ ?_; conv => whnf)) | (refine And.intro ?_ ?_; (focus exact au0); conv => whnf) | (refine g_drawn ?_) | ((first | refine d_p ?_ | refine d_e ?_ | refine d_nil ?_); conv => whnf) | fail)
    refine ⟨(({ x with fRuns := x.fRuns.set j w0 } : Mate), e1, e2, e3, e4, q2, 11, 16, 21), ⟨⟨by show x.fWants.length ≤ _; omega, by show (x.fRuns.set j w0).length ≤ _; rw [List.length_set]; omega, by show x.fAsks.length ≤ _; omega, by show x.fGives.length ≤ _; omega⟩, by dsimp only; omega, by dsimp only; omega, rfl, Or.inl ⟨rfl, rfl, rfl⟩⟩, ?_, ?_⟩
    ·repeat' (first | exact True.intro | refine And.intro rfl ?_)
    ·exact ⟨rfl, rfl, congrArg (fun n => some (D.agg [.str x.fName, .bool x.fUp, .int .i64 x.fClock, .bool x.fKnown, .int .i64 x.fSeen, .lsl 6 d1 x.fWants.length e1, .lsl 11 d2 n e2, .lsl 16 d3 x.fAsks.length e3, .lsl 21 d4 x.fGives.length e4])) (List.length_set ..).symm, rfl, congrArg (fun l => some (D.arr 11 l e2)) (by rw [List.map_set]; rfl), rfl, rfl, True.intro⟩
   ·clear hb
    conv => whnf
    repeat' (first | (refine g_skip ?_; conv => whnf) | fail)
    refine ⟨(x, e1, e2, e3, e4, q, 11, 16, 21), ⟨⟨by show x.fWants.length ≤ _; omega, by show x.fRuns.length ≤ _; omega, by show x.fAsks.length ≤ _; omega, by show x.fGives.length ≤ _; omega⟩, by dsimp only; omega, by dsimp only; omega, rfl, Or.inl ⟨rfl, rfl, rfl⟩⟩, ?_, ?_⟩
    ·repeat' (first | exact True.intro | refine And.intro rfl ?_)
    ·exact ⟨rfl, rfl, rfl, rfl, rfl, rfl, rfl, True.intro⟩
  ·have hlX : x.fAsks.length = (x.fAsks.map MateAsk.D).length := (List.length_map ..).symm
   have hbd : ∀ d : Go.Ab.D, (x.fAsks.map MateAsk.D).length + [d].length ≤ 1073741824 := fun d => by rw [← hlX]; simp only [List.length_cons, List.length_nil]; omega
   conv => whnf
   repeat' (first | ((refine d_ixs rfl rfl rfl rfl (by omega) (by simp; omega) (fun sx => ?_); conv => whnf)) | ((refine XCL.pkv (by decide) hc (by omega) ⟨rfl, rfl, rfl, True.intro⟩ (fun v q2 v1 v2 q1 q3 => ?_); conv => whnf)) | ((refine And.intro True.intro ?_; conv => whnf)) | ((refine And.intro ⟨⟨rfl, rfl⟩, True.intro⟩ ?_; conv => whnf)) | ((refine And.intro hlX ?_; conv => whnf)) | ((refine And.intro (hbd _) ?_; conv => whnf)) | ((refine fun n1 bx cx hn1 hc1 => ?_; conv => whnf)) | (refine g_op ?_; conv => whnf) | (refine And.intro ?_ ?_; (focus exact au0); conv => whnf) | (refine g_seq ?_) | (refine XS.go ?_) | (refine g_ops ?_) | (refine g_nil ?_; conv => whnf) | (refine Br.t ?_ ?_; (focus (first | assumption | exact rfl)); conv => whnf) | (refine Br.f ?_ ?_; (focus (first | assumption | exact rfl)); conv => whnf) | (refine g_cond ?_; conv => whnf) | (refine g_block ?_) | (refine g_drawn ?_) | ((first | refine d_p ?_ | refine d_e ?_ | refine d_nil ?_); conv => whnf) | fail)
   rename_i sa _ _ _ _ _ _ vb _ _ _ _ _
   have hn2 : n1 = (x.fAsks ++ [(⟨sa, sx, vb, v⟩ : MateAsk)]).length := by rw [hn1]; simp
   refine ⟨(({ x with fAsks := x.fAsks ++ [(⟨sa, sx, vb, v⟩ : MateAsk)] } : Mate), e1, e2, cx, e4, q2, 11, 113, 21), ⟨⟨by show x.fWants.length ≤ _; omega, by show x.fRuns.length ≤ _; omega, by show (x.fAsks ++ [_]).length ≤ _; rw [List.length_append]; simp only [List.length_cons, List.length_nil]; omega, by show x.fGives.length ≤ _; omega⟩, by dsimp only; omega, by dsimp only; omega, rfl, Or.inr (Or.inr (Or.inl ⟨rfl, rfl, rfl⟩))⟩, ?_, ?_⟩
   ·repeat' (first | exact True.intro | refine And.intro rfl ?_)
   ·exact ⟨rfl, rfl, congrArg (fun n => some (D.agg [.str x.fName, .bool x.fUp, .int .i64 x.fClock, .bool x.fKnown, .int .i64 x.fSeen, .lsl 6 d1 x.fWants.length e1, .lsl 11 d2 x.fRuns.length e2, .lsl 113 bx n cx, .lsl 21 d4 x.fGives.length e4])) hn2, rfl, rfl, congrArg (fun l => some (D.arr 4 l cx)) (by rw [List.map_append]; rfl), rfl, True.intro⟩
  ·have hlX : x.fGives.length = (x.fGives.map MateAsk.D).length := (List.length_map ..).symm
   have hbd : ∀ d : Go.Ab.D, (x.fGives.map MateAsk.D).length + [d].length ≤ 1073741824 := fun d => by rw [← hlX]; simp only [List.length_cons, List.length_nil]; omega
   conv => whnf
   repeat' (first | ((refine d_ixs rfl rfl rfl rfl (by omega) (by simp; omega) (fun sx => ?_); conv => whnf)) | ((refine XCL.pkv (by decide) hc (by omega) ⟨rfl, rfl, rfl, True.intro⟩ (fun v q2 v1 v2 q1 q3 => ?_); conv => whnf)) | ((refine And.intro True.intro ?_; conv => whnf)) | ((refine And.intro ⟨⟨rfl, rfl⟩, True.intro⟩ ?_; conv => whnf)) | ((refine And.intro hlX ?_; conv => whnf)) | ((refine And.intro (hbd _) ?_; conv => whnf)) | ((refine fun n1 bx cx hn1 hc1 => ?_; conv => whnf)) | (refine g_op ?_; conv => whnf) | (refine And.intro ?_ ?_; (focus exact au0); conv => whnf) | (refine g_seq ?_) | (refine XS.go ?_) | (refine g_ops ?_) | (refine g_nil ?_; conv => whnf) | (refine Br.t ?_ ?_; (focus (first | assumption | exact rfl)); conv => whnf) | (refine Br.f ?_ ?_; (focus (first | assumption | exact rfl)); conv => whnf) | (refine g_cond ?_; conv => whnf) | (refine g_block ?_) | (refine g_drawn ?_) | ((first | refine d_p ?_ | refine d_e ?_ | refine d_nil ?_); conv => whnf) | fail)
   rename_i vb _ _ _ _ _
   have hn2 : n1 = (x.fGives ++ [(⟨sx, ⟨#[99]⟩, IntKind.wrap .i64 (vb - 1), v⟩ : MateAsk)]).length := by rw [hn1]; simp
   refine ⟨(({ x with fGives := x.fGives ++ [(⟨sx, ⟨#[99]⟩, IntKind.wrap .i64 (vb - 1), v⟩ : MateAsk)] } : Mate), e1, e2, e3, cx, q2, 11, 16, 131), ⟨⟨by show x.fWants.length ≤ _; omega, by show x.fRuns.length ≤ _; omega, by show x.fAsks.length ≤ _; omega, by show (x.fGives ++ [_]).length ≤ _; rw [List.length_append]; simp only [List.length_cons, List.length_nil]; omega⟩, by dsimp only; omega, by dsimp only; omega, rfl, Or.inr (Or.inr (Or.inr (Or.inl ⟨rfl, rfl, rfl⟩)))⟩, ?_, ?_⟩
   ·repeat' (first | exact True.intro | refine And.intro rfl ?_)
   ·exact ⟨rfl, rfl, congrArg (fun n => some (D.agg [.str x.fName, .bool x.fUp, .int .i64 x.fClock, .bool x.fKnown, .int .i64 x.fSeen, .lsl 6 d1 x.fWants.length e1, .lsl 11 d2 x.fRuns.length e2, .lsl 16 d3 x.fAsks.length e3, .lsl 131 bx n cx])) hn2, rfl, rfl, rfl, congrArg (fun l => some (D.arr 4 l cx)) (by rw [List.map_append]; rfl), True.intro⟩
  ·have hlX : x.fRuns.length = (x.fRuns.map MateRun.D).length := (List.length_map ..).symm
   have hbd : ∀ d : Go.Ab.D, (x.fRuns.map MateRun.D).length + [d].length ≤ 1073741824 := fun d => by rw [← hlX]; simp only [List.length_cons, List.length_nil]; omega
   conv => whnf
   repeat' (first | ((refine XCL.pkv (by decide) hc (by omega) ⟨rfl, rfl, rfl, True.intro⟩ (fun v q2 v1 v2 q1 q3 => ?_); conv => whnf)) | ((refine And.intro True.intro ?_; conv => whnf)) | ((refine And.intro ⟨⟨rfl, rfl⟩, True.intro⟩ ?_; conv => whnf)) | ((refine And.intro hlX ?_; conv => whnf)) | ((refine And.intro (hbd _) ?_; conv => whnf)) | ((refine fun n1 bx cx hn1 hc1 => ?_; conv => whnf)) | (refine g_op ?_; conv => whnf) | (refine And.intro ?_ ?_; (focus exact au0); conv => whnf) | (refine g_seq ?_) | (refine XS.go ?_) | (refine g_ops ?_) | (refine g_nil ?_; conv => whnf) | (refine Br.t ?_ ?_; (focus (first | assumption | exact rfl)); conv => whnf) | (refine Br.f ?_ ?_; (focus (first | assumption | exact rfl)); conv => whnf) | (refine g_cond ?_; conv => whnf) | (refine g_block ?_) | (refine g_drawn ?_) | ((first | refine d_p ?_ | refine d_e ?_ | refine d_nil ?_); conv => whnf) | fail)
   have hn2 : n1 = (x.fRuns ++ [(⟨⟨⟨#[122, 122]⟩, 1, ⟨#[]⟩, 0, 0, 0, 0⟩, IntKind.wrap .i64 (1 + v), 0, 0, 0⟩ : MateRun)]).length := by rw [hn1]; simp
   refine ⟨(({ x with fRuns := x.fRuns ++ [(⟨⟨⟨#[122, 122]⟩, 1, ⟨#[]⟩, 0, 0, 0, 0⟩, IntKind.wrap .i64 (1 + v), 0, 0, 0⟩ : MateRun)] } : Mate), e1, cx, e3, e4, q2, 143, 16, 21), ⟨⟨by show x.fWants.length ≤ _; omega, by show (x.fRuns ++ [_]).length ≤ _; rw [List.length_append]; simp only [List.length_cons, List.length_nil]; omega, by show x.fAsks.length ≤ _; omega, by show x.fGives.length ≤ _; omega⟩, by dsimp only; omega, by dsimp only; omega, rfl, Or.inr (Or.inl ⟨rfl, rfl, rfl⟩)⟩, ?_, ?_⟩
   ·repeat' (first | exact True.intro | refine And.intro rfl ?_)
   ·exact ⟨rfl, rfl, congrArg (fun n => some (D.agg [.str x.fName, .bool x.fUp, .int .i64 x.fClock, .bool x.fKnown, .int .i64 x.fSeen, .lsl 6 d1 x.fWants.length e1, .lsl 143 bx n cx, .lsl 16 d3 x.fAsks.length e3, .lsl 21 d4 x.fGives.length e4])) hn2, rfl, congrArg (fun l => some (D.arr 11 l cx)) (by rw [List.map_append]; rfl), rfl, rfl, True.intro⟩
  ·conv => whnf
   repeat' (first | (refine g_op ?_; conv => whnf) | (refine And.intro ?_ ?_; (focus exact au0); conv => whnf) | (refine g_seq ?_) | (refine XS.go ?_) | (refine g_ops ?_) | (refine g_nil ?_; conv => whnf) | (refine Br.f ?_ ?_; (focus (first | assumption | exact rfl)); conv => whnf) | (refine g_cond ?_; conv => whnf) | (refine g_block ?_) | fail)
   refine And.intro (List.length_map ..).symm (And.intro ((List.map_map ..).trans (List.map_congr_left fun _ _ => rfl)) ?_)
   conv => whnf
   refine ⟨by show 0 + _ ≤ _; rw [List.length_map]; omega, Nat.le_of_ble_eq_true rfl, by decide, fun n1 bx cx hn1 hc1 => ?_⟩
   have hn2 : n1 = x.fAsks.length := by rw [hn1]; show 0 + _ = _; rw [List.length_map]; omega
   clear hn1
   subst hn2
   conv => whnf
   repeat' (first | (refine g_op ?_; conv => whnf) | (refine And.intro ?_ ?_; (focus exact au0); conv => whnf) | (refine g_nil ?_; conv => whnf) | fail)
   refine ⟨(({ x with fGives := x.fAsks } : Mate), e1, e2, e3, cx, q, 11, 16, 19), ⟨⟨by show x.fWants.length ≤ _; omega, by show x.fRuns.length ≤ _; omega, by show x.fAsks.length ≤ _; omega, by show x.fAsks.length ≤ _; omega⟩, by dsimp only; omega, by dsimp only; omega, rfl, Or.inr (Or.inr (Or.inr (Or.inr ⟨rfl, rfl, rfl⟩)))⟩, ?_, ?_⟩
   ·repeat' (first | exact True.intro | refine And.intro rfl ?_)
   ·exact ⟨rfl, rfl, rfl, rfl, rfl, rfl, rfl, True.intro⟩
 intro y gs hE
 obtain ⟨m, c1', c2', c3', c4', q3, nr, na, ng⟩ := y
 obtain ⟨k1, k2, k3, hg, hn⟩ := hE
 dsimp only at k1 k2 k3 hn ⊢
 subst hg
 rcases hn with ⟨rfl, rfl, rfl⟩ | ⟨rfl, rfl, rfl⟩ | ⟨rfl, rfl, rfl⟩ | ⟨rfl, rfl, rfl⟩ | ⟨rfl, rfl, rfl⟩
 ·conv => whnf
  skip
  refine XS.go ?_
  conv => whnf
  repeat' (first | (refine g_op ?_; conv => whnf) | (refine And.intro ?_ ?_; (focus exact au0); conv => whnf) | (refine g_seq ?_) | (refine g_ops ?_) | (refine g_nil ?_; conv => whnf) | fail)
  refine XS.weakenA (fs := [.any, .any, .any, .any, .lref 4 (gs 4) [] 0]) (ls := [(0, Rd c q3), (4, .agg [.str m.fName, .bool m.fUp, .int .i64 m.fClock, .bool m.fKnown, .int .i64 m.fSeen, .lsl 6 (gs 6) m.fWants.length c1', .lsl 11 (gs 11) m.fRuns.length c2', .lsl 16 (gs 16) m.fAsks.length c3', .lsl 21 (gs 21) m.fGives.length c4']), (6, .arr 7 (m.fWants.map MateWant.D) c1'), (11, .arr 11 (m.fRuns.map MateRun.D) c2'), (16, .arr 4 (m.fAsks.map MateAsk.D) c3'), (21, .arr 4 (m.fGives.map MateAsk.D) c4')]) ⟨?_, ?_⟩ ?_
  ·repeat' (first | exact True.intro | refine And.intro rfl ?_)
  ·exact ⟨rfl, rfl, rfl, rfl, rfl, rfl, True.intro⟩
  refine XS.go ?_
  conv => whnf
  repeat' (first | (refine And.intro ?_ ?_; (focus exact au0); conv => whnf) | ((first | refine g_ret ?_ | refine r_c ?_ | refine r_nil ?_); conv => whnf) | fail)
  exact ⟨m, q3, k2, by omega, k1, _, _, _, _, c1', c2', c3', c4', rfl, rfl⟩
 ·conv => whnf
  skip
  refine XS.go ?_
  conv => whnf
  repeat' (first | (refine g_op ?_; conv => whnf) | (refine And.intro ?_ ?_; (focus exact au0); conv => whnf) | (refine g_seq ?_) | (refine g_ops ?_) | (refine g_nil ?_; conv => whnf) | fail)
  refine XS.weakenA (fs := [.any, .any, .any, .any, .lref 4 (gs 4) [] 0]) (ls := [(0, Rd c q3), (4, .agg [.str m.fName, .bool m.fUp, .int .i64 m.fClock, .bool m.fKnown, .int .i64 m.fSeen, .lsl 6 (gs 6) m.fWants.length c1', .lsl 143 (gs 143) m.fRuns.length c2', .lsl 16 (gs 16) m.fAsks.length c3', .lsl 21 (gs 21) m.fGives.length c4']), (6, .arr 7 (m.fWants.map MateWant.D) c1'), (143, .arr 11 (m.fRuns.map MateRun.D) c2'), (16, .arr 4 (m.fAsks.map MateAsk.D) c3'), (21, .arr 4 (m.fGives.map MateAsk.D) c4')]) ⟨?_, ?_⟩ ?_
  ·repeat' (first | exact True.intro | refine And.intro rfl ?_)
  ·exact ⟨rfl, rfl, rfl, rfl, rfl, rfl, True.intro⟩
  refine XS.move 143 11 [] rfl ?_
  refine XS.hintB 4 11 [6] rfl rfl rfl rfl rfl (fun _ _ _ h => by cases h) rfl ?_
  refine XS.go ?_
  conv => whnf
  repeat' (first | (refine And.intro ?_ ?_; (focus exact au0); conv => whnf) | ((first | refine g_ret ?_ | refine r_c ?_ | refine r_nil ?_); conv => whnf) | fail)
  exact ⟨m, q3, k2, by omega, k1, _, _, _, _, c1', c2', c3', c4', rfl, rfl⟩
 ·conv => whnf
  skip
  refine XS.go ?_
  conv => whnf
  repeat' (first | (refine g_op ?_; conv => whnf) | (refine And.intro ?_ ?_; (focus exact au0); conv => whnf) | (refine g_seq ?_) | (refine g_ops ?_) | (refine g_nil ?_; conv => whnf) | fail)
  refine XS.weakenA (fs := [.any, .any, .any, .any, .lref 4 (gs 4) [] 0]) (ls := [(0, Rd c q3), (4, .agg [.str m.fName, .bool m.fUp, .int .i64 m.fClock, .bool m.fKnown, .int .i64 m.fSeen, .lsl 6 (gs 6) m.fWants.length c1', .lsl 11 (gs 11) m.fRuns.length c2', .lsl 113 (gs 113) m.fAsks.length c3', .lsl 21 (gs 21) m.fGives.length c4']), (6, .arr 7 (m.fWants.map MateWant.D) c1'), (11, .arr 11 (m.fRuns.map MateRun.D) c2'), (113, .arr 4 (m.fAsks.map MateAsk.D) c3'), (21, .arr 4 (m.fGives.map MateAsk.D) c4')]) ⟨?_, ?_⟩ ?_
  ·repeat' (first | exact True.intro | refine And.intro rfl ?_)
  ·exact ⟨rfl, rfl, rfl, rfl, rfl, rfl, True.intro⟩
  refine XS.move 113 16 [] rfl ?_
  refine XS.hintB 4 16 [7] rfl rfl rfl rfl rfl (fun _ _ _ h => by cases h) rfl ?_
  refine XS.go ?_
  conv => whnf
  repeat' (first | (refine And.intro ?_ ?_; (focus exact au0); conv => whnf) | ((first | refine g_ret ?_ | refine r_c ?_ | refine r_nil ?_); conv => whnf) | fail)
  exact ⟨m, q3, k2, by omega, k1, _, _, _, _, c1', c2', c3', c4', rfl, rfl⟩
 ·conv => whnf
  skip
  refine XS.go ?_
  conv => whnf
  repeat' (first | (refine g_op ?_; conv => whnf) | (refine And.intro ?_ ?_; (focus exact au0); conv => whnf) | (refine g_seq ?_) | (refine g_ops ?_) | (refine g_nil ?_; conv => whnf) | fail)
  refine XS.weakenA (fs := [.any, .any, .any, .any, .lref 4 (gs 4) [] 0]) (ls := [(0, Rd c q3), (4, .agg [.str m.fName, .bool m.fUp, .int .i64 m.fClock, .bool m.fKnown, .int .i64 m.fSeen, .lsl 6 (gs 6) m.fWants.length c1', .lsl 11 (gs 11) m.fRuns.length c2', .lsl 16 (gs 16) m.fAsks.length c3', .lsl 131 (gs 131) m.fGives.length c4']), (6, .arr 7 (m.fWants.map MateWant.D) c1'), (11, .arr 11 (m.fRuns.map MateRun.D) c2'), (16, .arr 4 (m.fAsks.map MateAsk.D) c3'), (131, .arr 4 (m.fGives.map MateAsk.D) c4')]) ⟨?_, ?_⟩ ?_
  ·repeat' (first | exact True.intro | refine And.intro rfl ?_)
  ·exact ⟨rfl, rfl, rfl, rfl, rfl, rfl, True.intro⟩
  refine XS.move 131 21 [] rfl ?_
  refine XS.hintB 4 21 [8] rfl rfl rfl rfl rfl (fun _ _ _ h => by cases h) rfl ?_
  refine XS.go ?_
  conv => whnf
  repeat' (first | (refine And.intro ?_ ?_; (focus exact au0); conv => whnf) | ((first | refine g_ret ?_ | refine r_c ?_ | refine r_nil ?_); conv => whnf) | fail)
  exact ⟨m, q3, k2, by omega, k1, _, _, _, _, c1', c2', c3', c4', rfl, rfl⟩
 ·conv => whnf
  skip
  refine XS.go ?_
  conv => whnf
  repeat' (first | (refine g_op ?_; conv => whnf) | (refine And.intro ?_ ?_; (focus exact au0); conv => whnf) | (refine g_seq ?_) | (refine g_ops ?_) | (refine g_nil ?_; conv => whnf) | fail)
  refine XS.weakenA (fs := [.any, .any, .any, .any, .lref 4 (gs 4) [] 0]) (ls := [(0, Rd c q3), (4, .agg [.str m.fName, .bool m.fUp, .int .i64 m.fClock, .bool m.fKnown, .int .i64 m.fSeen, .lsl 6 (gs 6) m.fWants.length c1', .lsl 11 (gs 11) m.fRuns.length c2', .lsl 16 (gs 16) m.fAsks.length c3', .lsl 19 (gs 19) m.fGives.length c4']), (6, .arr 7 (m.fWants.map MateWant.D) c1'), (11, .arr 11 (m.fRuns.map MateRun.D) c2'), (16, .arr 4 (m.fAsks.map MateAsk.D) c3'), (19, .arr 4 (m.fGives.map MateAsk.D) c4')]) ⟨?_, ?_⟩ ?_
  ·repeat' (first | exact True.intro | refine And.intro rfl ?_)
  ·exact ⟨rfl, rfl, rfl, rfl, rfl, rfl, True.intro⟩
  refine XS.move 19 21 [] rfl ?_
  refine XS.hintB 4 21 [8] rfl rfl rfl rfl rfl (fun _ _ _ h => by cases h) rfl ?_
  refine XS.go ?_
  conv => whnf
  repeat' (first | (refine And.intro ?_ ?_; (focus exact au0); conv => whnf) | ((first | refine g_ret ?_ | refine r_c ?_ | refine r_nil ?_); conv => whnf) | fail)
  exact ⟨m, q3, k2, by omega, k1, _, _, _, _, c1', c2', c3', c4', rfl, rfl⟩
end Go.Ab
