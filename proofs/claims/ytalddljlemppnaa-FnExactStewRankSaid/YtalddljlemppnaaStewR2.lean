/- Steps towards the law: contracts of functions and facts of lists. -/
import Derived.Test.YtalddljlemppnaaStewR1
import Derived.Test.YtalddljlemppnaaRows
set_option linter.unusedSimpArgs false
set_option linter.unusedVariables false
namespace Go.Ab
open Go Go.RowKit Go.Proofs
attribute [local irreducible] XC Rdr IntKind.wrap xw xos xqs xr xd
set_option maxRecDepth 100000

/-! Sums. -/
def sumN (g : Nat → Int) : Nat → Int
  | 0 => 0
  | n + 1 => sumN g n + g n
theorem sumN_congr {f g : Nat → Int} : ∀ {n : Nat}, (∀ i, i < n → f i = g i) → sumN f n = sumN g n
  | 0, _ => rfl
  | n + 1, h => by rw [sumN, sumN, sumN_congr (fun i hi => h i (by omega)), h n (by omega)]
theorem sumN_add {f g : Nat → Int} : ∀ {n : Nat}, sumN (fun i => f i + g i) n = sumN f n + sumN g n
  | 0 => rfl
  | n + 1 => by simp only [sumN]; rw [sumN_add]; omega
theorem sumN_zero {f : Nat → Int} : ∀ {n : Nat}, (∀ i, i < n → f i = 0) → sumN f n = 0
  | 0, _ => rfl
  | n + 1, h => by rw [sumN, sumN_zero (fun i hi => h i (by omega)), h n (by omega)]; rfl
theorem sumN_one {f : Nat → Int} {k : Nat} : ∀ {n : Nat}, k < n → (∀ i, i < n → i ≠ k → f i = 0) → sumN f n = f k
  | 0, hk, _ => by omega
  | n + 1, hk, h => by
    rw [sumN]
    by_cases e : k = n
    · subst e
      rw [sumN_zero (fun i hi => h i (by omega) (by omega))]
      omega
    · rw [sumN_one (n := n) (by omega) (fun i hi hne => h i (by omega) hne), h n (by omega) (by omega)]
      omega
theorem sumN_swap {f : Nat → Nat → Int} {m : Nat} : ∀ {n : Nat}, sumN (fun i => sumN (f i) m) n = sumN (fun j => sumN (fun i => f i j) n) m
  | 0 => (sumN_zero (fun _ _ => rfl)).symm
  | n + 1 => by
    simp only [sumN]
    rw [sumN_swap, ← sumN_add]
theorem sumN_bd {f : Nat → Int} {M : Int} : ∀ {n : Nat}, (∀ i, i < n → 0 ≤ f i ∧ f i ≤ M) → 0 ≤ sumN f n ∧ sumN f n ≤ M * n
  | 0, _ => by simp [sumN]
  | n + 1, h => by
    have h1 := sumN_bd (n := n) (fun i hi => h i (by omega))
    have h2 := h n (by omega)
    have h3 : M * ((n + 1 : Nat) : Int) = M * n + M := by rw [Int.natCast_add, Int.mul_add]; simp
    rw [sumN, h3]
    omega
theorem b01_bd (x : Bool) : 0 ≤ b01 x ∧ b01 x ≤ 1 := by cases x <;> decide
/-! What a rank is. -/
def sv (b : StewBook) (i : Nat) : StewService := b.fServices.getD i default
def cp (b : StewBook) (j : Nat) : StewCopy := b.fCopies.getD j default
def lv (b : StewBook) (i : Nat) : List Int := liveUp b (sv b i).fName b.fCopies.length
def bad3 (b : StewBook) (s : StewService) (c : StewCopy) : Bool := c.fImage != s.fImage || drP b c
def g0 (b : StewBook) (i : Nat) : Int := b01 (sv b i).fGone
def g1 (b : StewBook) (i : Nat) : Int := (cntOf b (sv b i).fName).fEnding + if (sv b i).fGone = true then (cntOf b (sv b i).fName).fLive else 0
def absI (x : Int) : Int := if x < 0 then -x else x
def g2 (b : StewBook) (i : Nat) : Int := if (sv b i).fGone = true then 0 else absI ((cntOf b (sv b i).fName).fLive - (sv b i).fWant)
def k3 (b : StewBook) (i : Nat) (k : Nat) : Int := b01 (bad3 b (sv b i) (cp b ((lv b i).getD k default).toNat))
def k4 (b : StewBook) (i : Nat) (k : Nat) : Int := b01 ((cp b ((lv b i).getD k default).toNat).fState != 3)
def g3 (b : StewBook) (i : Nat) : Int := if (sv b i).fGone = true then 0 else sumN (k3 b i) (lv b i).length
def g4 (b : StewBook) (i : Nat) : Int := if (sv b i).fGone = true then 0 else sumN (k4 b i) (lv b i).length
def so (b : StewBook) (j : Nat) : StewService := sv b (svcI b (cp b j).fService).toNat
def off (b : StewBook) (j : Nat) : Bool := (cp b j).fEnding || (so b j).fGone
def e1 (b : StewBook) (j : Nat) : Int := b01 (off b j)
def e3 (b : StewBook) (j : Nat) : Int := if off b j = true then 0 else b01 (bad3 b (so b j) (cp b j))
def e4 (b : StewBook) (j : Nat) : Int := if off b j = true then 0 else b01 ((cp b j).fState != 3)
def rankN (b : StewBook) (n : Nat) : List Int := [sumN (g0 b) n, sumN (g1 b) n, sumN (g2 b) n, sumN (g3 b) n, sumN (g4 b) n]
def rankL (b : StewBook) : List Int := if valid b = true then rankN b b.fServices.length else [0, 0, 0, 0, 0]
/-! What a valid book tells. -/
theorem valid_parts {b : StewBook} (h : valid b = true) : b.fServices.length ≤ 8 ∧ b.fCopies.length ≤ 200 ∧ b.fBerths.length ≤ 6 ∧ (∀ i, i < b.fServices.length → vS b i = true) ∧ (∀ j, j < b.fCopies.length → vC b j = true) := by
  simp only [valid, Bool.and_eq_true, Bool.not_eq_true', Bool.or_eq_false_iff, decide_eq_false_iff_not] at h
  obtain ⟨⟨⟨⟨_, h1⟩, h2⟩, h3⟩, h4, h5, h6, _⟩ := h
  exact ⟨by omega, by omega, by omega, fun i hi => allN_get h4 (Nat.zero_le _) (by omega), fun j hj => allN_get h6 (Nat.zero_le _) (by omega)⟩
theorem valid_want {b : StewBook} (h : valid b = true) {i : Nat} (hi : i < b.fServices.length) : 0 ≤ (sv b i).fWant ∧ (sv b i).fWant ≤ 10 := by
  have := (valid_parts h).2.2.2.1 i hi
  simp only [vS, svcOk, Bool.and_eq_true] at this
  have hw := this.1.1.1.1.1.1.2
  simp only [inR, Bool.and_eq_true, decide_eq_true_eq] at hw
  exact hw
theorem bl_trans : ∀ {a b c : List UInt8}, Op.bytesLess a b = true → Op.bytesLess b c = true → Op.bytesLess a c = true
  | [], [], _, h, _ => by simp [Op.bytesLess] at h
  | [], _ :: _, [], _, h => by simp [Op.bytesLess] at h
  | [], _ :: _, _ :: _, _, _ => rfl
  | _ :: _, [], _, h, _ => by simp [Op.bytesLess] at h
  | _ :: _, _ :: _, [], _, h => by simp [Op.bytesLess] at h
  | x :: a, y :: b, z :: c, h1, h2 => by
    simp only [Op.bytesLess, Bool.or_eq_true, Bool.and_eq_true, decide_eq_true_eq, beq_iff_eq] at h1 h2 ⊢
    rcases h1 with h1 | ⟨rfl, h1⟩ <;> rcases h2 with h2 | ⟨rfl, h2⟩
    · exact .inl (UInt8.lt_trans h1 h2)
    · exact .inl h1
    · exact .inl h2
    · exact .inr ⟨rfl, bl_trans h1 h2⟩
/-- Names in order: each ahead of all later ones. -/
theorem ord_less {f : Nat → List UInt8} {n : Nat} (h : ∀ i, 0 < i → i < n → Op.bytesLess (f (i - 1)) (f i) = true) : ∀ {d i : Nat}, i + d + 1 < n → Op.bytesLess (f i) (f (i + d + 1)) = true
  | 0, i, hn => by
    have := h (i + 1) (by omega) hn
    simpa using this
  | d + 1, i, hn => by
    have h1 := ord_less h (d := d) (i := i) (by omega)
    have h2 := h (i + (d + 1) + 1) (by omega) hn
    have e : i + (d + 1) + 1 - 1 = i + d + 1 := by omega
    rw [e] at h2
    exact bl_trans h1 h2
theorem ord_ne {f : Nat → List UInt8} {n : Nat} (h : ∀ i, 0 < i → i < n → Op.bytesLess (f (i - 1)) (f i) = true) {i j : Nat} (hij : i < j) (hj : j < n) : f i ≠ f j := fun e => by
  have := ord_less h (d := j - i - 1) (i := i) (by omega)
  have e2 : i + (j - i - 1) + 1 = j := by omega
  rw [e2, e, bl_irr] at this
  cases this
def isC (b : StewBook) (i j : Nat) : Bool := (cp b j).fService.toList == (sv b i).fName.toList
theorem cnt_exact (name : List UInt8) (img : Int) (xs : List StewCopy) : ∀ {n : Nat}, n ≤ 1048576 →
    (cntUp name img xs n).fLive = sumN (fun j => b01 ((xs.getD j default).fService.toList == name && !(xs.getD j default).fEnding)) n ∧
    (cntUp name img xs n).fEnding = sumN (fun j => b01 ((xs.getD j default).fService.toList == name && (xs.getD j default).fEnding)) n
  | 0, _ => ⟨rfl, rfl⟩
  | n + 1, h => by
    obtain ⟨h1, h2⟩ := cnt_exact name img xs (n := n) (by omega)
    have q1 := sumN_bd (f := fun j => b01 ((xs.getD j default).fService.toList == name && !(xs.getD j default).fEnding)) (M := 1) (n := n) (fun i _ => b01_bd _)
    have q2 := sumN_bd (f := fun j => b01 ((xs.getD j default).fService.toList == name && (xs.getD j default).fEnding)) (M := 1) (n := n) (fun i _ => b01_bd _)
    rw [← h1] at q1
    rw [← h2] at q2
    rw [sumN, sumN, ← h1, ← h2, cntUp, stepC]
    by_cases hs : (xs.getD n default).fService.toList = name
    · have hs' : ((xs.getD n default).fService.toList == name) = true := by rw [hs]; exact beq_self_eq_true _
      rw [if_pos hs, hs']
      by_cases he : (xs.getD n default).fEnding = true
      · rw [if_pos he, he]
        refine ⟨(Int.add_zero _).symm, ?_⟩
        show IntKind.wrap .i64 _ = _ + 1
        exact wrap_ok (by omega) (by omega)
      · have he' : (xs.getD n default).fEnding = false := by simpa using he
        rw [if_neg he, he']
        refine ⟨?_, (Int.add_zero _).symm⟩
        show IntKind.wrap .i64 _ = _ + 1
        exact wrap_ok (by omega) (by omega)
    · have hs' : ((xs.getD n default).fService.toList == name) = false := by simpa using hs
      rw [if_neg hs, hs']
      exact ⟨(Int.add_zero _).symm, (Int.add_zero _).symm⟩
theorem svcI_of (b : StewBook) {i : Nat} (hi : i < b.fServices.length) : ¬ svcI b (sv b i).fName < 0 := fun h => by
  rcases idxN_cases (f := svcF b (sv b i).fName) (k := b.fServices.length) (i := 0) with ⟨_, h2⟩ | ⟨j, h1, _, _, _⟩
  · have := h2 i (Nat.zero_le _) (by omega)
    simp [svcF, sv] at this
  · have e : svcI b (sv b i).fName = j := h1
    omega
theorem cnt_of (b : StewBook) (h3 : b.fCopies.length ≤ 1048576) {i : Nat} (hi : i < b.fServices.length) :
    (cntOf b (sv b i).fName).fLive = sumN (fun j => b01 (isC b i j && !(cp b j).fEnding)) b.fCopies.length ∧
    (cntOf b (sv b i).fName).fEnding = sumN (fun j => b01 (isC b i j && (cp b j).fEnding)) b.fCopies.length := by
  rw [cntOf, if_neg (svcI_of b hi)]
  exact cnt_exact _ _ _ h3
theorem live_sum (f : Nat → Int) (b : StewBook) (name : ByteArray) : ∀ n, sumN (fun k => f ((liveUp b name n).getD k default).toNat) (liveUp b name n).length = sumN (fun j => if liveP b name j = true then f j else 0) n
  | 0 => rfl
  | n + 1 => by
    rw [sumN, ← live_sum f b name n, liveUp]
    by_cases h : liveP b name n = true
    · rw [if_pos h, if_pos h, List.length_append]
      show sumN _ ((liveUp b name n).length + 1) = _
      rw [sumN]
      congr 1
      · refine sumN_congr fun k hk => ?_
        rw [List.getD_eq_getElem?_getD, List.getD_eq_getElem?_getD, List.getElem?_append_left hk]
      · simp
    · rw [if_neg h, if_neg h]
      omega
def i0 (b : StewBook) (j : Nat) : Nat := (svcI b (cp b j).fService).toNat
theorem i0_spec {b : StewBook} (hv : valid b = true) {j : Nat} (hj : j < b.fCopies.length) : i0 b j < b.fServices.length ∧ isC b (i0 b j) j = true := by
  have h1 := valid_copy b hv hj
  have h2 := svcI_hit b (b.fCopies.getD j default).fService h1
  refine ⟨?_, ?_⟩
  · show (svcI b (b.fCopies.getD j default).fService).toNat < _
    omega
  · simp only [isC, beq_iff_eq]
    exact h2.2.symm
theorem sv_ne {b : StewBook} (hv : valid b = true) {i k : Nat} (hi : i < b.fServices.length) (hk : k < b.fServices.length) (h : (sv b i).fName.toList = (sv b k).fName.toList) : i = k := by
  have hs : ∀ i, 0 < i → i < b.fServices.length → Op.bytesLess (sv b (i - 1)).fName.toList (sv b i).fName.toList = true := fun i h0 hi => by
    have := (valid_parts hv).2.2.2.1 i hi
    simp only [vS, Bool.and_eq_true, Bool.not_eq_true', Bool.and_eq_false_iff, Bool.not_eq_false', decide_eq_false_iff_not] at this
    rcases this.2 with q | q
    · omega
    · have hS := (valid_parts hv).1
      have e : pr i = i - 1 := by unfold pr; rw [wrap_ok (by omega) (by omega)]; omega
      rw [e] at q
      exact q
  rcases Nat.lt_trichotomy i k with q | q | q
  · exact absurd h (ord_ne (f := fun i => (sv b i).fName.toList) hs q hk)
  · exact q
  · exact absurd h.symm (ord_ne (f := fun i => (sv b i).fName.toList) hs q hi)
theorem dbl {b : StewBook} (hv : valid b = true) (F : Nat → Nat → Int) (hF : ∀ i j, isC b i j = false → F i j = 0) : sumN (fun i => sumN (F i) b.fCopies.length) b.fServices.length = sumN (fun j => F (i0 b j) j) b.fCopies.length := by
  rw [sumN_swap]
  refine sumN_congr fun j hj => ?_
  obtain ⟨h1, h2⟩ := i0_spec hv hj
  refine sumN_one (f := fun i => F i j) h1 fun i hi hne => hF i j ?_
  cases hq : isC b i j with
  | false => rfl
  | true =>
    simp only [isC, beq_iff_eq] at hq h2
    exact absurd (sv_ne hv hi h1 (hq.symm.trans h2)) hne
theorem rank1 {b : StewBook} (hv : valid b = true) : sumN (g1 b) b.fServices.length = sumN (e1 b) b.fCopies.length := by
  have h3 : b.fCopies.length ≤ 1048576 := by have := (valid_parts hv).2.1; omega
  have hd := dbl hv (fun i j => if isC b i j = true then b01 ((cp b j).fEnding || (sv b i).fGone) else 0) (fun i j h => by simp [h])
  have h1 : sumN (g1 b) b.fServices.length = sumN (fun i => sumN (fun j => if isC b i j = true then b01 ((cp b j).fEnding || (sv b i).fGone) else 0) b.fCopies.length) b.fServices.length := by
    refine sumN_congr fun i hi => ?_
    obtain ⟨c1, c2⟩ := cnt_of b h3 hi
    rw [g1, c1, c2]
    cases hg : (sv b i).fGone with
    | true =>
      rw [if_pos rfl, ← sumN_add]
      refine sumN_congr fun j _ => ?_
      cases isC b i j <;> cases (cp b j).fEnding <;> rfl
    | false =>
      rw [if_neg Bool.false_ne_true, Int.add_zero]
      refine sumN_congr fun j _ => ?_
      cases isC b i j <;> cases (cp b j).fEnding <;> rfl
  rw [h1, hd]
  refine sumN_congr fun j hj => ?_
  show (if isC b (i0 b j) j = true then _ else _) = _
  rw [if_pos (i0_spec hv hj).2]
  rfl
theorem rankK {b : StewBook} (hv : valid b = true) (B : StewService → StewCopy → Bool) :
    sumN (fun i => if (sv b i).fGone = true then 0 else sumN (fun k => b01 (B (sv b i) (cp b ((lv b i).getD k default).toNat))) (lv b i).length) b.fServices.length = sumN (fun j => if off b j = true then 0 else b01 (B (so b j) (cp b j))) b.fCopies.length := by
  have hd := dbl hv (fun i j => if isC b i j = true then (if ((cp b j).fEnding || (sv b i).fGone) = true then 0 else b01 (B (sv b i) (cp b j))) else 0) (fun i j h => by simp [h])
  have h1 : sumN (fun i => if (sv b i).fGone = true then 0 else sumN (fun k => b01 (B (sv b i) (cp b ((lv b i).getD k default).toNat))) (lv b i).length) b.fServices.length = sumN (fun i => sumN (fun j => if isC b i j = true then (if ((cp b j).fEnding || (sv b i).fGone) = true then 0 else b01 (B (sv b i) (cp b j))) else 0) b.fCopies.length) b.fServices.length := by
    refine sumN_congr fun i hi => ?_
    cases hg : (sv b i).fGone with
    | true =>
      rw [if_pos rfl]
      refine (sumN_zero fun j _ => ?_).symm
      cases isC b i j <;> simp
    | false =>
      rw [if_neg Bool.false_ne_true]
      have hl := live_sum (fun j => b01 (B (sv b i) (cp b j))) b (sv b i).fName b.fCopies.length
      refine hl.trans (sumN_congr fun j _ => ?_)
      have e : liveP b (sv b i).fName j = (isC b i j && !(cp b j).fEnding) := rfl
      rw [e]
      cases isC b i j <;> cases (cp b j).fEnding <;> simp
  rw [h1, hd]
  refine sumN_congr fun j hj => ?_
  show (if isC b (i0 b j) j = true then _ else _) = _
  rw [if_pos (i0_spec hv hj).2]
  rfl
theorem rank3 {b : StewBook} (hv : valid b = true) : sumN (g3 b) b.fServices.length = sumN (e3 b) b.fCopies.length := rankK hv (bad3 b)
theorem rank4 {b : StewBook} (hv : valid b = true) : sumN (g4 b) b.fServices.length = sumN (e4 b) b.fCopies.length := rankK hv (fun _ c => c.fState != 3)
theorem rank_eq {b : StewBook} (hv : valid b = true) : [sumN (g0 b) b.fServices.length, sumN (e1 b) b.fCopies.length, sumN (g2 b) b.fServices.length, sumN (e3 b) b.fCopies.length, sumN (e4 b) b.fCopies.length] = rankL b := by
  rw [rankL, if_pos hv, rankN, rank1 hv, rank3 hv, rank4 hv]
end Go.Ab
