/- Steps towards the law: the machine, contracts of functions and facts of lists. -/
import Derived.Test.YtalddljlemppnaaStewQ2
import Derived.Test.YtalddljlemppnaaRows
import Derived.Test.YtalddljlemppnaaStewQ1
set_option linter.unusedSimpArgs false
set_option linter.unusedVariables false
namespace Go.Ab
open Go Go.RowKit Go.Proofs
attribute [local irreducible] XC Rdr IntKind.wrap xw xos xqs xr xd
set_option maxRecDepth 100000
set_option maxHeartbeats 16000000
def cf182 : CF := ⟨5,[.t 2],(.seq (.ops [Oo 1 (.bx (.t 0)),Ok 2 (.bool false)]) (.seq (.ops [Of 3 5 1,Ol 4 3,Om 2 4]) .ret))⟩
theorem c182 : compileF Try.prog [] 182 = some cf182 := by kernel_rfl
def cf149 : CF := ⟨132,[],(.seq (.ops [Om 13 0,Om 14 0,On 15 14,Of 16 2 15,Ol 17 16,Oc 18 155 [.t 17,(.k (.fn 182 []))],On 19 13,Of 20 2 19,Os 1 20 18]) (.seq (.seq (.ops [Om 21 0,On 22 21,Of 23 2 22,Ol 24 23,Og 25 24,Ok 26 (.int .i64 0)]) (.block 0 (.loop (.seq (.ops [Ob 27 .lss 26 25]) (.seq (.cond (.t 27) .skip (.exit 0)) (.seq (.block 1 (.seq (.ops [Om 28 26,Om 2 28]) (.seq (.ops [Om 29 0,On 30 29,Of 31 2 30,Ol 32 31,Om 33 2,Ox 34 7 32 33,Om 3 34]) (.seq (.ops [Om 35 3,On 36 35,Of 37 4 36,Ol 38 37,Oo 39 (.bin .eql (.t 38) (.k (.int .i64 2)))]) (.cond (.t 39) (.ops [Om 40 3,Om 41 3,Om 42 0,On 43 42,Of 44 0 43,Ol 45 44,On 46 40,Of 47 4 46,⟨none,.st 1 (.t 47) (.k (.int .i64 3)),none⟩,On 48 41,Of 49 2 48,Os 1 49 45]) .skip))))) (.ops [Oi 50 26,Om 26 50]))))))) (.seq (.ops [Om 51 0,On 52 51,Of 53 2 52,Ol 54 53,Og 55 54,Ok 56 (.int .i64 0)]) (.block 2 (.loop (.seq (.ops [Ob 57 .lss 56 55]) (.seq (.cond (.t 57) .skip (.exit 2)) (.seq (.block 3 (.seq (.ops [Om 58 56,Om 4 58]) (.seq (.ops [Om 59 0,On 60 59,Of 61 2 60,Ol 62 61,Om 63 4,Ox 64 7 62 63,Om 5 64]) (.seq (.seq (.ops [Om 65 5,On 66 65,Of 67 4 66,Ol 68 67,Oo 69 (.bin .neq (.t 68) (.k (.int .i64 1)))]) (.cond (.t 69) (.exit 3) .skip)) (.seq (.ops [Ok 6 (.str ⟨#[]⟩),Ok 7 (.int .i64 (-1))]) (.seq (.seq (.ops [Om 70 0,On 71 70,Of 72 3 71,Ol 73 72,Og 74 73,Ok 75 (.int .i64 0)]) (.block 4 (.loop (.seq (.ops [Ob 76 .lss 75 74]) (.seq (.cond (.t 76) .skip (.exit 4)) (.seq (.block 5 (.seq (.ops [Ox 77 2 73 75,Od 78 2 77,Oo 9 (.al (.agg [.str ⟨#[]⟩,.bool false])),Os 2 9 78]) (.seq (.seq (.ops [Of 79 1 9,Ol 80 79]) (.cond (.t 80) (.exit 5) .skip)) (.seq (.ops [Ok 10 (.int .i64 0)]) (.seq (.seq (.ops [Om 81 0,On 82 81,Of 83 2 82,Ol 84 83,Og 85 84,Ok 86 (.int .i64 0)]) (.block 6 (.loop (.seq (.ops [Ob 87 .lss 86 85]) (.seq (.cond (.t 87) .skip (.exit 6)) (.seq (.block 7 (.seq (.ops [Ox 88 7 84 86,Od 89 7 88,Oo 12 (.al (.agg [.str ⟨#[]⟩,.int .i64 0,.int .i64 0,.int .i64 0,.int .i64 0,.bool false,.str ⟨#[]⟩])),Os 7 12 89]) (.ops [Om 90 10,Of 91 4 12,Ol 92 91,Oo 93 (.bin .neq (.t 92) (.k (.int .i64 1))),Om 94 93,⟨some 95,.fa 6 1 6 (.t 12),some (94,true)⟩,⟨some 96,.ld 1 false (.t 95),some (94,true)⟩,⟨some 97,.fa 0 1 0 (.t 9),some (94,true)⟩,⟨some 98,.ld 1 false (.t 97),some (94,true)⟩,⟨some 99,.bin .eql (.t 96) (.t 98),some (94,true)⟩,Oo 100 (.pick (.t 94) (.t 99) (.k (.bool false))),Oc 101 102 [.t 100],Ob 102 .add 90 101,Om 10 102]))) (.ops [Oi 103 86,Om 86 103]))))))) (.seq (.ops [Om 104 7,Oo 105 (.bin .lss (.t 104) (.k (.int .i64 0))),Om 106 105,⟨some 107,.mv (.t 10),some (106,false)⟩,⟨some 108,.mv (.t 7),some (106,false)⟩,⟨some 109,.bin .lss (.t 107) (.t 108),some (106,false)⟩,Oo 110 (.pick (.t 106) (.k (.bool true)) (.t 109))]) (.cond (.t 110) (.ops [Of 111 0 9,Ol 112 111,Om 113 10,Om 6 112,Om 7 113]) .skip))))))) (.ops [Oi 114 75,Om 75 114]))))))) (.seq (.ops [Om 115 7,Oo 116 (.bin .geq (.t 115) (.k (.int .i64 0)))]) (.cond (.t 116) (.ops [Om 117 5,Om 118 5,Om 119 5,Om 120 0,On 121 120,Of 122 0 121,Ol 123 122,Om 124 6,On 125 117,Of 126 4 125,⟨none,.st 1 (.t 126) (.k (.int .i64 2)),none⟩,On 127 118,Of 128 2 127,Os 1 128 123,On 129 119,Of 130 6 129,Os 1 130 124]) .skip)))))))) (.ops [Oi 131 56,Om 56 131])))))))))⟩
theorem c149 : compileF Try.prog [] 149 = some cf149 := by kernel_rfl
/-! ### The two ways to find the least berth -/
abbrev emp : List UInt8 := (ByteArray.mk #[]).toList
theorem set_same {ds : List Go.Ab.D} {i : Nat} {d : Go.Ab.D} (h : i < ds.length) (e : ds.getD i .any = d) : ds.set i d = ds := by
 subst e
 have q : ds.getD i .any = ds[i] := by simp [h]
 rw [q]
 exact List.set_getElem_self h
def standI (xs : List StewCopy) (nm : ByteArray) : Nat → Int
 | 0 => 0
 | i + 1 => standI xs nm i + b01 ((xs.getD i default).fState != 1 && standP nm (xs.getD i default))
theorem standI_bd (xs : List StewCopy) (nm : ByteArray) : ∀ i, 0 ≤ standI xs nm i ∧ standI xs nm i ≤ i
 | 0 => ⟨Int.le_refl _, Int.le_refl _⟩
 | i + 1 => by
  have := standI_bd xs nm i
  have h := b01_bd ((xs.getD i default).fState != 1 && standP nm (xs.getD i default))
  rw [standI]
  omega
def WC (xs : List StewCopy) : Prop := ∀ c ∈ xs, c.fState = 1 → c.fBerth.toList = emp
def WB (bs : List StewBerth) : Prop := ∀ x ∈ bs, x.fName.toList ≠ emp
theorem standI_eq {xs : List StewCopy} {nm : ByteArray} (hW : WC xs) (hn : nm.toList ≠ emp) : ∀ i, i ≤ xs.length → standI xs nm i = standU xs nm i
 | 0, _ => rfl
 | i + 1, h => by
  rw [standI, standU, standI_eq hW hn i (by omega)]
  have hm : xs.getD i default ∈ xs := by
   rw [show xs.getD i default = xs[i]'(by omega) by simp [show i < xs.length by omega]]
   exact List.getElem_mem _
  have hc := hW _ hm
  generalize xs.getD i default = c at hc
  by_cases h1 : c.fState = 1
  ·have h2 : standP nm c = false := by
    unfold standP
    rw [hc h1]
    exact beq_eq_false_iff_ne.2 (Ne.symm hn)
   rw [h2, Bool.and_false, if_neg Bool.false_ne_true]
   exact Int.add_zero _
  ·have h2 : (c.fState != 1) = true := by simp [h1]
   rw [h2, Bool.true_and]
   cases hp : standP nm c
   ·rw [if_neg Bool.false_ne_true]
    exact Int.add_zero _
   ·rw [if_pos rfl]
    rfl
def leastD (r : ByteArray × Int) (x : StewBerth) (n : Int) : Bool := decide (r.2 < 0) || decide (n < r.2)
def leastI (bs : List StewBerth) (xs : List StewCopy) : Nat → ByteArray × Int
 | 0 => (⟨#[]⟩, -1)
 | i + 1 => if (bs.getD i default).fDrain = true then leastI bs xs i else if leastD (leastI bs xs i) (bs.getD i default) (standI xs (bs.getD i default).fName xs.length) = true then ((bs.getD i default).fName, standI xs (bs.getD i default).fName xs.length) else leastI bs xs i
theorem leastU_bd (bs : List StewBerth) (xs : List StewCopy) : ∀ i, 0 ≤ (leastU bs xs i).2
 | 0 => Int.le_refl _
 | i + 1 => by
  rw [leastU]
  split
  ·exact (standU_bd xs _ _).1
  ·exact leastU_bd bs xs i
theorem leastI_eq {bs : List StewBerth} {xs : List StewCopy} (hW : WC xs) (hB : WB bs) : ∀ i, i ≤ bs.length → (leastI bs xs i).1 = (leastU bs xs i).1 ∧ ((leastU bs xs i).1.toList = emp → (leastI bs xs i).2 = -1) ∧ ((leastU bs xs i).1.toList ≠ emp → (leastI bs xs i).2 = (leastU bs xs i).2)
 | 0, _ => ⟨rfl, fun _ => rfl, fun h => absurd rfl h⟩
 | i + 1, h => by
  obtain ⟨h1, h2, h3⟩ := leastI_eq hW hB i (by omega)
  have hm : bs.getD i default ∈ bs := by
   rw [show bs.getD i default = bs[i]'(by omega) by simp [show i < bs.length by omega]]
   exact List.getElem_mem _
  have hx := hB _ hm
  have h0 := leastU_bd bs xs i
  have hS := standI_eq hW hx xs.length (Nat.le_refl _)
  have hS0 := (standU_bd xs (bs.getD i default).fName xs.length).1
  rw [leastI, leastU, hS]
  generalize standU xs (bs.getD i default).fName xs.length = N at *
  generalize bs.getD i default = x at *
  generalize leastU bs xs i = U at *
  generalize leastI bs xs i = I at *
  unfold leastC leastD
  cases hd : x.fDrain
  ·rw [if_neg Bool.false_ne_true]
   have hcond : (decide (I.2 < 0) || decide (N < I.2)) = (!false && (U.1.toList == emp || decide (N < U.2))) := by
    by_cases he : U.1.toList = emp
    ·rw [h2 he, he]
     simp
    ·rw [h3 he, beq_eq_false_iff_ne.2 he]
     have : decide (U.2 < 0) = false := by simp; omega
     rw [this]
     simp
   rw [hcond]
   split
   ·exact ⟨rfl, fun q => absurd q hx, fun _ => rfl⟩
   ·exact ⟨h1, h2, h3⟩
  ·rw [if_pos rfl, if_neg (by simp)]
   exact ⟨h1, h2, h3⟩
theorem leastI_all {bs : List StewBerth} {xs : List StewCopy} (hW : WC xs) (hB : WB bs) : (leastI bs xs bs.length).1 = leastB bs xs ∧ decide ((leastI bs xs bs.length).2 ≥ 0) = !((leastB bs xs).toList == emp) := by
 obtain ⟨h1, h2, h3⟩ := leastI_eq hW hB bs.length (Nat.le_refl _)
 refine ⟨h1, ?_⟩
 have h0 := leastU_bd bs xs bs.length
 unfold leastB
 by_cases he : (leastU bs xs bs.length).1.toList = emp
 ·rw [h2 he, he]
  simp
 ·rw [h3 he, beq_eq_false_iff_ne.2 he]
  simp
  omega
theorem WC.place1 {bs : List StewBerth} {v : Int} {xs : List StewCopy} {i : Nat} (h : WC xs) : WC (place1 bs v xs i) := by
 unfold Go.Ab.place1
 split
 ·intro c hc
  rcases List.mem_or_eq_of_mem_set hc with q | q
  ·exact h c q
  ·subst q
   intro h2
   exact absurd h2 (by show ¬ ((2 : Int) = 1); decide)
 ·exact h
theorem WC.placeU {bs : List StewBerth} {v : Int} {xs : List StewCopy} (h : WC xs) : ∀ i, WC (placeU bs v xs i)
 | 0 => h
 | i + 1 => (WC.placeU h i).place1
theorem WC.tickF {v : Int} {xs : List StewCopy} (h : WC xs) (i : Nat) : WC (tickF v xs i) := by
 intro c hc
 unfold Go.Ab.tickF at hc
 obtain ⟨d, hd, rfl⟩ := List.mem_map.1 hc
 have hd2 := h d (List.mem_of_mem_take (List.mem_filter.1 hd).1)
 unfold tickC
 split
 ·intro h3
  exact absurd h3 (by show ¬ ((3 : Int) = 1); decide)
 ·exact hd2
theorem tick_cl (a : StewCopy) : Rdr Try.prog 182 [a.D] (.bool a.fEnding) := by
 refine Rdr.intro' hm c182 (Nat.le_of_ble_eq_true rfl) ?_
 conv => whnf
 repeat' (first | (refine z_ld1 ?_; first | (refine z_ld rfl rfl rfl rfl au1 au2 ?_; conv => whnf) | (refine z_ld0 rfl ?_; conv => whnf)) | (refine z_op ?_ ?_; (focus exact rfl); conv => whnf) | (refine zs_ops ?_ ?_; (focus exact rfl)) | ((first | refine z_nil fun vals => ?_ | refine g_op ?_); conv => whnf) | (refine And.intro ?_ ?_; (focus exact au0); conv => whnf) | (refine g_seq ?_) | (refine XS.go ?_) | (refine g_ops ?_) | ((first | refine g_nil ?_ | refine g_ret ?_ | refine r_t ?_ | refine r_nil ?_ | refine fun _ => ?_); conv => whnf) | fail)
 rfl
theorem impl_tickX (x : StewBook) (hs : x.small) (hW : WC x.fCopies) (hB : WB x.fBerths) (b0 b1 b2 b3 c1 c2 c3 : Nat) : XC Try.prog 149 [.lref 300 b0 [] 0] (x.P 300 b0 301 302 303 b1 b2 b3 c1 c2 c3) (fun d ls => d = .tup [] ∧ ls = ({ x with fCopies := tickL x.fNow x } : StewBook).P 300 b0 301 302 303 b1 b2 b3 c1 c2 c3) := by
 have l1 := hs.fServices.1
 have l2 := hs.fCopies.1
 have l3 := hs.fBerths.1
 have hD := delF_StewCopy 182 [] (fun a => a.fEnding) rfl tick_cl 302 x.fCopies b2 c2 l2
 refine XC.intro' hm [300, 301, 302, 303] rfl c149 (Nat.le_of_ble_eq_true rfl) ?_
 simp only [StewBook.P, StewBook.O, StewBook.L]
 conv => whnf
 repeat' (first | (refine g_op ?_; conv => whnf) | (refine And.intro ?_ ?_; (focus exact au0); conv => whnf) | (refine g_seq ?_) | (refine g_ops ?_) | fail)
 refine XCL.of_XC (ls := [(302, b2, .arr 7 (x.fCopies.map StewCopy.D) c2)]) ⟨rfl, rfl, rfl, True.intro⟩ (hD.mono fun d ls h => ?_)
 obtain ⟨rfl, rfl⟩ := h
 conv => whnf
 have hTe : tickF x.fNow x.fCopies x.fCopies.length = (x.fCopies.filter fun a => !a.fEnding).map (tickC x.fNow) := by unfold tickF; rw [List.take_length]
 have hWT := hW.tickF (v := x.fNow) x.fCopies.length
 have hTl := tickF_le x.fNow x.fCopies x.fCopies.length
 have hE : tickL x.fNow x = placeU x.fBerths x.fNow (tickF x.fNow x.fCopies x.fCopies.length) (tickF x.fNow x.fCopies x.fCopies.length).length := rfl
 rw [hE]
 clear hE hD hW
 generalize tickF x.fNow x.fCopies x.fCopies.length = T0 at *
 have hFl : (x.fCopies.filter fun a => !a.fEnding).length = T0.length := by rw [hTe, List.length_map]
 generalize (x.fCopies.filter fun a => !a.fEnding) = F0 at *
 repeat' (first | (refine g_op ?_; conv => whnf) | (refine And.intro ?_ ?_; (focus exact au0); conv => whnf) | (refine g_seq ?_) | (refine XS.go ?_) | (refine g_ops ?_) | (refine g_loop ?_) | (refine g_nil ?_; conv => whnf) | (refine g_block ?_) | fail)
 refine XLc.mkG (α := Nat) (fun i gs => i ≤ F0.length ∧ gs 300 = b0 ∧ gs 301 = b1 ∧ gs 302 = b2 ∧ gs 303 = b3) (fun i => F0.length - i) (fun i gs => [.lref 300 (gs 300) [] 0, .any, .any, .any, .any, .any, .any, .any, .any, .any, .any, .any, .any, .any, .any, .any, .any, .any, .any, .any, .any, .any, .any, .any, .any, .int .i64 (F0.length : Int), .int .i64 (i : Int)]) (fun i gs => [(300, .agg [.int .i64 x.fNow, .lsl 301 (gs 301) x.fServices.length c1, .lsl 302 (gs 302) (part (tickC x.fNow) F0 i).length c2, .lsl 303 (gs 303) x.fBerths.length c3]), (301, .arr 13 (x.fServices.map StewService.D) c1), (302, .arr 7 ((part (tickC x.fNow) F0 i).map StewCopy.D) c2), (303, .arr 2 (x.fBerths.map StewBerth.D) c3)]) 0 ⟨Nat.zero_le _, rfl, rfl, rfl, rfl⟩ ⟨?_, ?_⟩ ?_
 ·repeat' (first | exact True.intro | refine And.intro rfl ?_)
 ·exact ⟨rfl, rfl, rfl, rfl, True.intro⟩
 intro i gs hI
 obtain ⟨hi, g0, g1, g2, g3⟩ := hI
 have hpl : (part (tickC x.fNow) F0 i).length = F0.length := part_len _
 have hp1 := fun (h : i < F0.length) => part_set (tickC x.fNow) default h
 have hpg := fun (h : i < F0.length) => part_get (tickC x.fNow) default h
 generalize hP : part (tickC x.fNow) F0 i = P at *
 repeat' (first | (refine g_op ?_; conv => whnf) | (refine And.intro ?_ ?_; (focus exact au0); conv => whnf) | (refine g_seq ?_) | (refine XS.go ?_) | (refine g_ops ?_) | ((first | refine g_nil ?_ | refine g_cond ?_); conv => whnf) | fail)
 refine Br.mk (fun hb => ?_) (fun hb => ?_)
 ·have hlt : i < F0.length := by simpa using hb
  clear hb
  have hw : IntKind.wrap .i64 ((i : Int) + 1) = ((i + 1 : Nat) : Int) := by rw [wrap_ok (by omega) (by omega)]; rfl
  have hj0 : i < (P.map StewCopy.D).length := by rw [List.length_map]; omega
  have he0 : (P.map StewCopy.D).getD i .any = (F0.getD i default).D := by rw [elt_map (by omega), hpg hlt]
  have hp2 := hp1 hlt
  have hL : P.length = (part (tickC x.fNow) F0 (i + 1)).length := by rw [← hp2, List.length_set]
  clear hp1 hpg
  generalize F0.getD i default = c at *
  conv => whnf
  repeat' (first | (refine z_ld1 ?_; first | (refine z_ld rfl rfl rfl rfl au1 au2 ?_; conv => whnf) | (refine z_ld0 rfl ?_; conv => whnf)) | (refine z_ix1 ?_; first | (refine z_ix rfl rfl rfl rfl rfl ⟨by first | omega | (simp only [decide_eq_true_eq, Bool.not_eq_true', Bool.or_eq_false_iff, decide_eq_false_iff_not, Bool.and_eq_true, Bool.not_eq_false'] at *; omega), by first | omega | (simp only [decide_eq_true_eq, Bool.not_eq_true', Bool.or_eq_false_iff, decide_eq_false_iff_not, Bool.and_eq_true, Bool.not_eq_false'] at *; omega)⟩ ?_; conv => whnf) | (refine z_ix0 rfl rfl ?_; conv => whnf)) | (refine z_op ?_ ?_; (focus exact rfl); conv => whnf) | (refine zs_ops ?_ ?_; (focus exact rfl)) | ((first | refine z_nil fun vals => ?_ | refine g_op ?_); conv => whnf) | (refine And.intro ?_ ?_; (focus exact au0); conv => whnf) | (refine g_seq ?_) | (refine XS.go ?_) | (refine g_ops ?_) | ((first | refine g_nil ?_ | refine g_cond ?_ | refine g_skip ?_); conv => whnf) | (refine g_block ?_) | fail)
  refine Br.mk (fun hb => ?_) (fun hb => ?_)
  ·have hR : ((P.map StewCopy.D).set i ({ c with fState := 3 } : StewCopy).D).set i ({ c with fState := 3, fVersion := x.fNow } : StewCopy).D = (part (tickC x.fNow) F0 (i + 1)).map StewCopy.D := by
    rw [← hp2, List.set_set, List.map_set, tickC, if_pos hb]
   clear hb
   conv => whnf
   repeat' (first | (refine z_ld1 ?_; first | (refine z_ld rfl rfl rfl rfl au1 au2 ?_; conv => whnf) | (refine z_ld0 rfl ?_; conv => whnf)) | (refine z_st1 ?_; first | (refine z_st rfl rfl rfl au1 au2 rfl rfl ?_; conv => whnf) | (refine z_st0 ?_; conv => whnf)) | (refine z_op ?_ ?_; (focus exact rfl); conv => whnf) | (refine zs_ops ?_ ?_; (focus exact rfl)) | ((first | refine z_nil fun vals => ?_ | refine g_op ?_); conv => whnf) | (refine And.intro ?_ ?_; (focus exact au0); conv => whnf) | (refine XS.go ?_) | (refine g_ops ?_) | (refine g_nil ?_; conv => whnf) | fail)
   refine ⟨i + 1, ⟨hlt, g0, g1, g2, g3⟩, by omega, ?_, ?_⟩
   ·repeat' (first | exact True.intro | refine And.intro (congrArg (D.int .i64) hw) ?_ | refine And.intro rfl ?_)
   ·exact ⟨congrArg (fun n => some (D.agg [.int .i64 x.fNow, .lsl 301 (gs 301) x.fServices.length c1, .lsl 302 (gs 302) n c2, .lsl 303 (gs 303) x.fBerths.length c3])) hL, rfl, congrArg (fun l => some (D.arr 7 l c2)) hR, rfl, True.intro⟩
  ·have hR : P.map StewCopy.D = (part (tickC x.fNow) F0 (i + 1)).map StewCopy.D := by
    rw [← hp2, List.map_set, tickC, if_neg (by rw [hb]; exact Bool.false_ne_true)]
    exact (set_same hj0 he0).symm
   clear hb
   conv => whnf
   repeat' (first | (refine g_op ?_; conv => whnf) | (refine And.intro ?_ ?_; (focus exact au0); conv => whnf) | (refine XS.go ?_) | (refine g_ops ?_) | ((first | refine g_nil ?_ | refine g_skip ?_); conv => whnf) | fail)
   refine ⟨i + 1, ⟨hlt, g0, g1, g2, g3⟩, by omega, ?_, ?_⟩
   ·repeat' (first | exact True.intro | refine And.intro (congrArg (D.int .i64) hw) ?_ | refine And.intro rfl ?_)
   ·exact ⟨congrArg (fun n => some (D.agg [.int .i64 x.fNow, .lsl 301 (gs 301) x.fServices.length c1, .lsl 302 (gs 302) n c2, .lsl 303 (gs 303) x.fBerths.length c3])) hL, rfl, congrArg (fun l => some (D.arr 7 l c2)) hR, rfl, True.intro⟩
 have hi2 : i = F0.length := by
  have : ¬ i < F0.length := by simpa using hb
  omega
 subst hi2
 have hPT : P = T0 := by rw [hTe, ← hP, part_all]
 subst hPT
 clear hb hp1 hpg hTe hFl hP
 conv => whnf
 repeat' (first | (refine g_op ?_; conv => whnf) | (refine And.intro ?_ ?_; (focus exact au0); conv => whnf) | (refine g_seq ?_) | (refine XS.go ?_) | (refine g_ops ?_) | (refine g_loop ?_) | ((first | refine g_nil ?_ | refine g_exit ?_); conv => whnf) | (refine g_block ?_) | fail)
 refine XLc.mkG (α := Nat) (fun i gs => i ≤ P.length ∧ gs 300 = b0 ∧ gs 301 = b1 ∧ gs 302 = b2 ∧ gs 303 = b3) (fun i => P.length - i) (fun i gs => [.lref 300 (gs 300) [] 0, .any, .any, .any, .any, .any, .any, .any, .any, .any, .any, .any, .any, .any, .any, .any, .any, .any, .any, .any, .any, .any, .any, .any, .any, .any, .any, .any, .any, .any, .any, .any, .any, .any, .any, .any, .any, .any, .any, .any, .any, .any, .any, .any, .any, .any, .any, .any, .any, .any, .any, .any, .any, .any, .any, .int .i64 (P.length : Int), .int .i64 (i : Int)]) (fun i gs => [(300, .agg [.int .i64 x.fNow, .lsl 301 (gs 301) x.fServices.length c1, .lsl 302 (gs 302) (placeU x.fBerths x.fNow P i).length c2, .lsl 303 (gs 303) x.fBerths.length c3]), (301, .arr 13 (x.fServices.map StewService.D) c1), (302, .arr 7 ((placeU x.fBerths x.fNow P i).map StewCopy.D) c2), (303, .arr 2 (x.fBerths.map StewBerth.D) c3)]) 0 ⟨Nat.zero_le _, g0, g1, g2, g3⟩ ⟨?_, ?_⟩ ?_
 ·repeat' (first | exact True.intro | refine And.intro rfl ?_)
 ·exact ⟨rfl, rfl, rfl, rfl, True.intro⟩
 intro i gs hI
 obtain ⟨hi, g0, g1, g2, g3⟩ := hI
 have hPl := placeU_len x.fBerths x.fNow P i
 have hp1 : placeU x.fBerths x.fNow P (i + 1) = place1 x.fBerths x.fNow (placeU x.fBerths x.fNow P i) i := rfl
 have hWP := hWT.placeU (bs := x.fBerths) (v := x.fNow) i
 generalize hQ : placeU x.fBerths x.fNow P i = Q at *
 repeat' (first | (refine g_op ?_; conv => whnf) | (refine And.intro ?_ ?_; (focus exact au0); conv => whnf) | (refine g_seq ?_) | (refine XS.go ?_) | (refine g_ops ?_) | ((first | refine g_nil ?_ | refine g_cond ?_); conv => whnf) | fail)
 refine Br.mk (fun hb => ?_) (fun hb => ?_)
 ·have hlt : i < P.length := by simpa using hb
  clear hb
  have hw : IntKind.wrap .i64 ((i : Int) + 1) = ((i + 1 : Nat) : Int) := by rw [wrap_ok (by omega) (by omega)]; rfl
  have hj0 : i < (Q.map StewCopy.D).length := by rw [List.length_map]; omega
  have he0 : (Q.map StewCopy.D).getD i .any = (Q.getD i default).D := elt_map (by omega)
  unfold place1 at hp1
  have hLA := leastI_all hWP hB
  generalize Q.getD i default = c at *
  conv => whnf
  repeat' (first | (refine z_ld1 ?_; first | (refine z_ld rfl rfl rfl rfl au1 au2 ?_; conv => whnf) | (refine z_ld0 rfl ?_; conv => whnf)) | (refine z_ix1 ?_; first | (refine z_ix rfl rfl rfl rfl rfl ⟨by first | omega | (simp only [decide_eq_true_eq, Bool.not_eq_true', Bool.or_eq_false_iff, decide_eq_false_iff_not, Bool.and_eq_true, Bool.not_eq_false'] at *; omega), by first | omega | (simp only [decide_eq_true_eq, Bool.not_eq_true', Bool.or_eq_false_iff, decide_eq_false_iff_not, Bool.and_eq_true, Bool.not_eq_false'] at *; omega)⟩ ?_; conv => whnf) | (refine z_ix0 rfl rfl ?_; conv => whnf)) | (refine z_op ?_ ?_; (focus exact rfl); conv => whnf) | (refine zs_ops ?_ ?_; (focus exact rfl)) | ((first | refine z_nil fun vals => ?_ | refine g_op ?_); conv => whnf) | (refine And.intro ?_ ?_; (focus exact au0); conv => whnf) | (refine g_seq ?_) | (refine XS.go ?_) | (refine g_ops ?_) | ((first | refine g_nil ?_ | refine g_cond ?_ | refine g_skip ?_); conv => whnf) | (refine g_block ?_) | fail)
  refine Br.mk (fun hb => ?_) (fun hb => ?_)
  ·have hs1 : (c.fState == 1) = false := by simpa [bne] using hb
   rw [hs1, Bool.false_and, if_neg Bool.false_ne_true] at hp1
   clear hb
   conv => whnf
   repeat' (first | (refine g_op ?_; conv => whnf) | (refine And.intro ?_ ?_; (focus exact au0); conv => whnf) | (refine XS.go ?_) | (refine g_ops ?_) | ((first | refine g_nil ?_ | refine g_exit ?_); conv => whnf) | fail)
   refine ⟨i + 1, ⟨hlt, g0, g1, g2, g3⟩, by omega, ?_, ?_⟩
   ·repeat' (first | exact True.intro | refine And.intro (congrArg (D.int .i64) hw) ?_ | refine And.intro rfl ?_)
   ·rw [hp1]
    exact ⟨rfl, rfl, rfl, rfl, True.intro⟩
  have hs1 : (c.fState == 1) = true := by simpa [bne] using hb
  clear hb
  conv => whnf
  repeat' (first | (refine z_ld1 ?_; first | (refine z_ld rfl rfl rfl rfl au1 au2 ?_; conv => whnf) | (refine z_ld0 rfl ?_; conv => whnf)) | (refine z_op ?_ ?_; (focus exact rfl); conv => whnf) | (refine zs_ops ?_ ?_; (focus exact rfl)) | ((first | refine z_nil fun vals => ?_ | refine g_op ?_); conv => whnf) | (refine And.intro ?_ ?_; (focus exact au0); conv => whnf) | (refine g_seq ?_) | (refine XS.go ?_) | (refine g_ops ?_) | (refine g_loop ?_) | ((first | refine g_nil ?_ | refine g_skip ?_); conv => whnf) | (refine g_block ?_) | fail)
  refine XLc.cut (α := Unit) (β := Unit) 4 (fun _ gs => gs 300 = b0 ∧ gs 301 = b1 ∧ gs 302 = b2 ∧ gs 303 = b3) (fun _ gs => [.lref 300 (gs 300) [] 0, .any, .any, .any, .any, .lref 302 (gs 302) [i] (i * 7), .str (leastI x.fBerths Q x.fBerths.length).1, .int .i64 (leastI x.fBerths Q x.fBerths.length).2, .any, .any, .any, .any, .any, .any, .any, .any, .any, .any, .any, .any, .any, .any, .any, .any, .any, .any, .any, .any, .any, .any, .any, .any, .any, .any, .any, .any, .any, .any, .any, .any, .any, .any, .any, .any, .any, .any, .any, .any, .any, .any, .any, .any, .any, .any, .any, .int .i64 (P.length : Int), .int .i64 (i : Int)]) (fun _ gs => [(300, .agg [.int .i64 x.fNow, .lsl 301 (gs 301) x.fServices.length c1, .lsl 302 (gs 302) (Q).length c2, .lsl 303 (gs 303) x.fBerths.length c3]), (301, .arr 13 (x.fServices.map StewService.D) c1), (302, .arr 7 ((Q).map StewCopy.D) c2), (303, .arr 2 (x.fBerths.map StewBerth.D) c3)]) (fun _ => False) (fun _ => []) ?_ (fun _ _ h => h.elim) ?_
  ·refine XLc.mkG (α := Nat) (fun k gs => k ≤ x.fBerths.length ∧ gs 300 = b0 ∧ gs 301 = b1 ∧ gs 302 = b2 ∧ gs 303 = b3) (fun k => x.fBerths.length - k) (fun k gs => [.lref 300 (gs 300) [] 0, .any, .any, .any, .any, .lref 302 (gs 302) [i] (i * 7), .str (leastI x.fBerths Q k).1, .int .i64 (leastI x.fBerths Q k).2, .any, .any, .any, .any, .any, .any, .any, .any, .any, .any, .any, .any, .any, .any, .any, .any, .any, .any, .any, .any, .any, .any, .any, .any, .any, .any, .any, .any, .any, .any, .any, .any, .any, .any, .any, .any, .any, .any, .any, .any, .any, .any, .any, .any, .any, .any, .any, .int .i64 (P.length : Int), .int .i64 (i : Int), .any, .any, .any, .any, .any, .any, .any, .any, .any, .any, .any, .any, .any, .any, .any, .any, .lsl 303 (gs 303) x.fBerths.length c3, .int .i64 (x.fBerths.length : Int), .int .i64 (k : Int)]) (fun k gs => [(300, .agg [.int .i64 x.fNow, .lsl 301 (gs 301) x.fServices.length c1, .lsl 302 (gs 302) (Q).length c2, .lsl 303 (gs 303) x.fBerths.length c3]), (301, .arr 13 (x.fServices.map StewService.D) c1), (302, .arr 7 ((Q).map StewCopy.D) c2), (303, .arr 2 (x.fBerths.map StewBerth.D) c3)]) 0 ⟨Nat.zero_le _, g0, g1, g2, g3⟩ ⟨?_, ?_⟩ ?_
   ·repeat' (first | exact True.intro | refine And.intro rfl ?_)
   ·exact ⟨rfl, rfl, rfl, rfl, True.intro⟩
   clear g0 g1 g2 g3
   intro k gs hI
   obtain ⟨hk, g0, g1, g2, g3⟩ := hI
   repeat' (first | (refine g_op ?_; conv => whnf) | (refine And.intro ?_ ?_; (focus exact au0); conv => whnf) | (refine g_seq ?_) | (refine XS.go ?_) | (refine g_ops ?_) | ((first | refine g_nil ?_ | refine g_cond ?_); conv => whnf) | fail)
   refine Br.mk (fun hb => ?_) (fun hb => ?_)
   ·have hltk : k < x.fBerths.length := by simpa using hb
    clear hb
    have hwk : IntKind.wrap .i64 ((k : Int) + 1) = ((k + 1 : Nat) : Int) := by rw [wrap_ok (by omega) (by omega)]; rfl
    have hjb : k < (x.fBerths.map StewBerth.D).length := by rw [List.length_map]; exact hltk
    have heb : (x.fBerths.map StewBerth.D).getD k .any = (x.fBerths.getD k default).D := elt_map hltk
    have hI1 : leastI x.fBerths Q (k + 1) = if (x.fBerths.getD k default).fDrain = true then leastI x.fBerths Q k else if leastD (leastI x.fBerths Q k) (x.fBerths.getD k default) (standI Q (x.fBerths.getD k default).fName Q.length) = true then ((x.fBerths.getD k default).fName, standI Q (x.fBerths.getD k default).fName Q.length) else leastI x.fBerths Q k := rfl
    generalize leastI x.fBerths Q k = I at *
    generalize x.fBerths.getD k default = y at *
    clear hj0 he0
    conv => whnf
    repeat' (first | (refine z_ld1 ?_; first | (refine z_ld rfl rfl rfl rfl au1 au2 ?_; conv => whnf) | (refine z_ld0 rfl ?_; conv => whnf)) | (refine z_st1 ?_; first | (refine z_st rfl rfl rfl au1 au2 rfl rfl ?_; conv => whnf) | (refine z_st0 ?_; conv => whnf)) | (refine z_ix1 ?_; first | (refine z_ix rfl rfl rfl rfl rfl ⟨by first | omega | (simp only [decide_eq_true_eq, Bool.not_eq_true', Bool.or_eq_false_iff, decide_eq_false_iff_not, Bool.and_eq_true, Bool.not_eq_false'] at *; omega), by first | omega | (simp only [decide_eq_true_eq, Bool.not_eq_true', Bool.or_eq_false_iff, decide_eq_false_iff_not, Bool.and_eq_true, Bool.not_eq_false'] at *; omega)⟩ ?_; conv => whnf) | (refine z_ix0 rfl rfl ?_; conv => whnf)) | (refine z_op ?_ ?_; (focus exact rfl); conv => whnf) | (refine zs_ops ?_ ?_; (focus exact rfl)) | ((first | refine z_nil fun vals => ?_ | refine z_eff ?_); conv => whnf) | (refine And.intro ?_ ?_; (focus exact au0); conv => whnf) | (refine g_seq ?_) | (refine XS.go ?_) | ((first | refine g_cond ?_ | refine g_skip ?_); conv => whnf) | (refine g_block ?_) | (refine fun _ => ?_; conv => whnf) | fail)
    refine Br.mk (fun hb => ?_) (fun hb => ?_)
    ·rw [if_pos hb] at hI1
     clear hb
     conv => whnf
     repeat' (first | (refine g_op ?_; conv => whnf) | (refine And.intro ?_ ?_; (focus exact au0); conv => whnf) | (refine XS.go ?_) | (refine g_ops ?_) | ((first | refine g_nil ?_ | refine g_exit ?_); conv => whnf) | fail)
     refine ⟨k + 1, ⟨hltk, g0, g1, g2, g3⟩, by omega, ?_, ?_⟩
     ·rw [hI1]
      repeat' (first | exact True.intro | refine And.intro rfl ?_ | refine And.intro (congrArg (D.int .i64) hwk) ?_)
     ·exact ⟨rfl, rfl, rfl, rfl, True.intro⟩
    rw [if_neg (by rw [hb]; exact Bool.false_ne_true)] at hI1
    clear hb
    conv => whnf
    repeat' (first | (refine z_ld1 ?_; first | (refine z_ld rfl rfl rfl rfl au1 au2 ?_; conv => whnf) | (refine z_ld0 rfl ?_; conv => whnf)) | (refine z_op ?_ ?_; (focus exact rfl); conv => whnf) | (refine zs_ops ?_ ?_; (focus exact rfl)) | ((first | refine z_nil fun vals => ?_ | refine g_op ?_); conv => whnf) | (refine And.intro ?_ ?_; (focus exact au0); conv => whnf) | (refine g_seq ?_) | (refine XS.go ?_) | (refine g_ops ?_) | (refine g_loop ?_) | ((first | refine g_nil ?_ | refine g_skip ?_); conv => whnf) | (refine g_block ?_) | fail)
    refine XLc.cut (α := Unit) (β := Unit) 6 (fun _ gs => gs 300 = b0 ∧ gs 301 = b1 ∧ gs 302 = b2 ∧ gs 303 = b3) (fun _ gs => [.lref 300 (gs 300) [] 0, .any, .any, .any, .any, .lref 302 (gs 302) [i] (i * 7), .str I.1, .int .i64 I.2, .any, .lref 9 (gs 9) [] 0, .int .i64 (standI Q y.fName Q.length), .any, .any, .any, .any, .any, .any, .any, .any, .any, .any, .any, .any, .any, .any, .any, .any, .any, .any, .any, .any, .any, .any, .any, .any, .any, .any, .any, .any, .any, .any, .any, .any, .any, .any, .any, .any, .any, .any, .any, .any, .any, .any, .any, .any, .int .i64 (P.length : Int), .int .i64 (i : Int), .any, .any, .any, .any, .any, .any, .any, .any, .any, .any, .any, .any, .any, .any, .any, .any, .lsl 303 (gs 303) x.fBerths.length c3, .int .i64 (x.fBerths.length : Int), .int .i64 (k : Int)]) (fun _ gs => [(300, .agg [.int .i64 x.fNow, .lsl 301 (gs 301) x.fServices.length c1, .lsl 302 (gs 302) (Q).length c2, .lsl 303 (gs 303) x.fBerths.length c3]), (301, .arr 13 (x.fServices.map StewService.D) c1), (302, .arr 7 ((Q).map StewCopy.D) c2), (303, .arr 2 (x.fBerths.map StewBerth.D) c3), (9, y.D)]) (fun _ => False) (fun _ => []) ?_ (fun _ _ h => h.elim) ?_
    ·refine XLc.mkG (α := Nat) (fun m gs => m ≤ Q.length ∧ gs 300 = b0 ∧ gs 301 = b1 ∧ gs 302 = b2 ∧ gs 303 = b3) (fun m => Q.length - m) (fun m gs => [.lref 300 (gs 300) [] 0, .any, .any, .any, .any, .lref 302 (gs 302) [i] (i * 7), .str I.1, .int .i64 I.2, .any, .lref 9 (gs 9) [] 0, .int .i64 (standI Q y.fName m), .any, .any, .any, .any, .any, .any, .any, .any, .any, .any, .any, .any, .any, .any, .any, .any, .any, .any, .any, .any, .any, .any, .any, .any, .any, .any, .any, .any, .any, .any, .any, .any, .any, .any, .any, .any, .any, .any, .any, .any, .any, .any, .any, .any, .int .i64 (P.length : Int), .int .i64 (i : Int), .any, .any, .any, .any, .any, .any, .any, .any, .any, .any, .any, .any, .any, .any, .any, .any, .lsl 303 (gs 303) x.fBerths.length c3, .int .i64 (x.fBerths.length : Int), .int .i64 (k : Int), .any, .any, .any, .any, .any, .any, .any, .any, .lsl 302 (gs 302) Q.length c2, .int .i64 (Q.length : Int), .int .i64 (m : Int)]) (fun m gs => [(300, .agg [.int .i64 x.fNow, .lsl 301 (gs 301) x.fServices.length c1, .lsl 302 (gs 302) (Q).length c2, .lsl 303 (gs 303) x.fBerths.length c3]), (301, .arr 13 (x.fServices.map StewService.D) c1), (302, .arr 7 ((Q).map StewCopy.D) c2), (303, .arr 2 (x.fBerths.map StewBerth.D) c3), (9, y.D)]) 0 ⟨Nat.zero_le _, g0, g1, g2, g3⟩ ⟨?_, ?_⟩ ?_
     ·repeat' (first | exact True.intro | refine And.intro rfl ?_)
     ·exact ⟨rfl, rfl, rfl, rfl, rfl, True.intro⟩
     clear g0 g1 g2 g3 hI1 hjb heb
     intro m gs hI
     obtain ⟨hm0, g0, g1, g2, g3⟩ := hI
     repeat' (first | (refine g_op ?_; conv => whnf) | (refine And.intro ?_ ?_; (focus exact au0); conv => whnf) | (refine g_seq ?_) | (refine XS.go ?_) | (refine g_ops ?_) | ((first | refine g_nil ?_ | refine g_cond ?_); conv => whnf) | fail)
     refine Br.mk (fun hb => ?_) (fun hb => ?_)
     ·have hltm : m < Q.length := by simpa using hb
      clear hb
      have hwm : IntKind.wrap .i64 ((m : Int) + 1) = ((m + 1 : Nat) : Int) := by rw [wrap_ok (by omega) (by omega)]; rfl
      have hjm : m < (Q.map StewCopy.D).length := by rw [List.length_map]; exact hltm
      have hem : (Q.map StewCopy.D).getD m .any = (Q.getD m default).D := elt_map hltm
      have hS1 : standI Q y.fName (m + 1) = standI Q y.fName m + b01 ((Q.getD m default).fState != 1 && standP y.fName (Q.getD m default)) := rfl
      have hSb := standI_bd Q y.fName m
      have hB1 := b01_bd ((Q.getD m default).fState != 1 && standP y.fName (Q.getD m default))
      have hws : IntKind.wrap .i64 (standI Q y.fName m + b01 ((Q.getD m default).fState != 1 && standP y.fName (Q.getD m default))) = standI Q y.fName (m + 1) := by rw [hS1]; exact wrap_ok (by omega) (by omega)
      clear hS1 hSb hB1
      generalize Q.getD m default = e at *
      conv => whnf
      repeat' (first | (refine z_ld1 ?_; first | (refine z_ld rfl rfl rfl rfl au1 au2 ?_; conv => whnf) | (refine z_ld0 rfl ?_; conv => whnf)) | (refine z_ld1g ?_; first | (refine z_ldg rfl rfl rfl rfl rfl rfl rfl (by (repeat intro _); exact ⟨au1, au2⟩) rfl rfl rfl rfl ?_; conv => whnf) | (refine z_ld0g ?_; (conv => whnf); refine And.intro ?_ ?_; (focus exact rfl); conv => whnf)) | (refine z_st1 ?_; first | (refine z_st rfl rfl rfl au1 au2 rfl rfl ?_; conv => whnf) | (refine z_st0 ?_; conv => whnf)) | (refine z_ix1 ?_; first | (refine z_ix rfl rfl rfl rfl rfl ⟨by first | omega | (simp only [decide_eq_true_eq, Bool.not_eq_true', Bool.or_eq_false_iff, decide_eq_false_iff_not, Bool.and_eq_true, Bool.not_eq_false'] at *; omega), by first | omega | (simp only [decide_eq_true_eq, Bool.not_eq_true', Bool.or_eq_false_iff, decide_eq_false_iff_not, Bool.and_eq_true, Bool.not_eq_false'] at *; omega)⟩ ?_; conv => whnf) | (refine z_ix0 rfl rfl ?_; conv => whnf)) | (refine z_op ?_ ?_; (focus exact rfl); conv => whnf) | (refine z_opg0 ?_; (conv => whnf); refine And.intro ?_ ?_; (focus exact rfl); conv => whnf) | (refine z_pick ?_ ?_; (focus exact rfl); conv => whnf) | (refine zs_ops ?_ ?_; (focus exact rfl)) | (refine z_nil fun vals => ?_; conv => whnf) | (refine z_call ?_ ?_; (focus exact rfl)) | (refine z_eff ?_; conv => whnf) | (refine RC.of (impl_one _) ?_ ?_; (focus exact rfl); conv => whnf) | (refine g_op ?_; conv => whnf) | (refine And.intro ?_ ?_; (focus exact au0); conv => whnf) | (refine g_seq ?_) | (refine XS.go ?_) | (refine g_ops ?_) | ((first | refine g_nil ?_ | refine g_skip ?_); conv => whnf) | (refine g_block ?_) | (refine fun _ => ?_; conv => whnf) | fail)
      refine ⟨m + 1, ⟨hltm, g0, g1, g2, g3⟩, by omega, ?_, ?_⟩
      ·repeat' (first | exact True.intro | refine And.intro rfl ?_ | refine And.intro (congrArg (D.int .i64) hwm) ?_ | refine And.intro (congrArg (D.int .i64) hws) ?_)
      ·exact ⟨rfl, rfl, rfl, rfl, rfl, True.intro⟩
     have hm2 : m = Q.length := by
      have : ¬ m < Q.length := by simpa using hb
      omega
     subst hm2
     clear hb
     conv => whnf
     repeat' (first | (refine And.intro ?_ ?_; (focus exact au0); conv => whnf) | (refine g_exit ?_; conv => whnf) | fail)
     refine ⟨(), ⟨g0, g1, g2, g3⟩, ⟨?_, ?_⟩⟩
     ·repeat' (first | exact True.intro | refine And.intro rfl ?_)
     ·exact ⟨rfl, rfl, rfl, rfl, rfl, True.intro⟩
    clear g0 g1 g2 g3
    intro _ gs hE
    obtain ⟨g0, g1, g2, g3⟩ := hE
    generalize standI Q y.fName Q.length = N at *
    conv => whnf
    repeat' (first | (refine z_op ?_ ?_; (focus exact rfl); conv => whnf) | (refine z_opg0 ?_; (conv => whnf); refine And.intro ?_ ?_; (focus exact rfl); conv => whnf) | (refine z_pick ?_ ?_; (focus exact rfl); conv => whnf) | (refine zs_ops ?_ ?_; (focus exact rfl)) | (refine z_nil fun vals => ?_; conv => whnf) | (refine And.intro ?_ ?_; (focus exact au0); conv => whnf) | (refine g_seq ?_) | (refine XS.go ?_) | (refine g_cond ?_; conv => whnf) | fail)
    refine Br.mk (fun hb => ?_) (fun hb => ?_)
    ·rw [if_pos (show leastD I y N = true from hb)] at hI1
     clear hb
     conv => whnf
     repeat' (first | (refine z_ld1 ?_; first | (refine z_ld rfl rfl rfl rfl au1 au2 ?_; conv => whnf) | (refine z_ld0 rfl ?_; conv => whnf)) | (refine z_op ?_ ?_; (focus exact rfl); conv => whnf) | (refine zs_ops ?_ ?_; (focus exact rfl)) | ((first | refine z_nil fun vals => ?_ | refine g_op ?_); conv => whnf) | (refine And.intro ?_ ?_; (focus exact au0); conv => whnf) | (refine XS.go ?_) | (refine g_ops ?_) | (refine g_nil ?_; conv => whnf) | fail)
     refine ⟨k + 1, ⟨hltk, g0, g1, g2, g3⟩, by omega, ?_, ?_⟩
     ·rw [hI1]
      repeat' (first | exact True.intro | refine And.intro rfl ?_ | refine And.intro (congrArg (D.int .i64) hwk) ?_)
     ·exact ⟨rfl, rfl, rfl, rfl, True.intro⟩
    ·rw [if_neg (by rw [show leastD I y N = false from hb]; exact Bool.false_ne_true)] at hI1
     clear hb
     conv => whnf
     repeat' (first | (refine g_op ?_; conv => whnf) | (refine And.intro ?_ ?_; (focus exact au0); conv => whnf) | (refine XS.go ?_) | (refine g_ops ?_) | ((first | refine g_nil ?_ | refine g_skip ?_); conv => whnf) | fail)
     refine ⟨k + 1, ⟨hltk, g0, g1, g2, g3⟩, by omega, ?_, ?_⟩
     ·rw [hI1]
      repeat' (first | exact True.intro | refine And.intro rfl ?_ | refine And.intro (congrArg (D.int .i64) hwk) ?_)
     ·exact ⟨rfl, rfl, rfl, rfl, True.intro⟩
   have hk2 : k = x.fBerths.length := by
    have : ¬ k < x.fBerths.length := by simpa using hb
    omega
   subst hk2
   clear hb
   conv => whnf
   repeat' (first | (refine And.intro ?_ ?_; (focus exact au0); conv => whnf) | (refine g_exit ?_; conv => whnf) | fail)
   refine ⟨(), ⟨g0, g1, g2, g3⟩, ⟨?_, ?_⟩⟩
   ·repeat' (first | exact True.intro | refine And.intro rfl ?_)
   ·exact ⟨rfl, rfl, rfl, rfl, True.intro⟩
  clear g0 g1 g2 g3
  intro _ gs hE
  obtain ⟨g0, g1, g2, g3⟩ := hE
  have hL : Q.length = (placeU x.fBerths x.fNow P (i + 1)).length := by rw [hPl, placeU_len]
  generalize leastI x.fBerths Q x.fBerths.length = I at *
  obtain ⟨hL1, hL2⟩ := hLA
  rw [hs1, ← hL2, Bool.true_and, ← hL1] at hp1
  conv => whnf
  repeat' (first | (refine g_op ?_; conv => whnf) | (refine And.intro ?_ ?_; (focus exact au0); conv => whnf) | (refine g_seq ?_) | (refine XS.go ?_) | (refine g_ops ?_) | ((first | refine g_nil ?_ | refine g_cond ?_); conv => whnf) | fail)
  refine Br.mk (fun hb => ?_) (fun hb => ?_)
  ·rw [if_pos hb] at hp1
   have hR : (((Q.map StewCopy.D).set i ({ c with fState := 2 } : StewCopy).D).set i ({ c with fState := 2, fVersion := x.fNow } : StewCopy).D).set i ({ c with fState := 2, fBerth := I.1, fVersion := x.fNow } : StewCopy).D = (placeU x.fBerths x.fNow P (i + 1)).map StewCopy.D := by
    rw [hp1, List.set_set, List.set_set, List.map_set]
   clear hb
   conv => whnf
   repeat' (first | (refine z_ld1 ?_; first | (refine z_ld rfl rfl rfl rfl au1 au2 ?_; conv => whnf) | (refine z_ld0 rfl ?_; conv => whnf)) | (refine z_st1 ?_; first | (refine z_st rfl rfl rfl au1 au2 rfl rfl ?_; conv => whnf) | (refine z_st0 ?_; conv => whnf)) | (refine z_op ?_ ?_; (focus exact rfl); conv => whnf) | (refine zs_ops ?_ ?_; (focus exact rfl)) | ((first | refine z_nil fun vals => ?_ | refine g_op ?_); conv => whnf) | (refine And.intro ?_ ?_; (focus exact au0); conv => whnf) | (refine XS.go ?_) | (refine g_ops ?_) | (refine g_nil ?_; conv => whnf) | fail)
   refine ⟨i + 1, ⟨hlt, g0, g1, g2, g3⟩, by omega, ?_, ?_⟩
   ·repeat' (first | exact True.intro | refine And.intro (congrArg (D.int .i64) hw) ?_ | refine And.intro rfl ?_)
   ·exact ⟨congrArg (fun n => some (D.agg [.int .i64 x.fNow, .lsl 301 (gs 301) x.fServices.length c1, .lsl 302 (gs 302) n c2, .lsl 303 (gs 303) x.fBerths.length c3])) hL, rfl, congrArg (fun l => some (D.arr 7 l c2)) hR, rfl, True.intro⟩
  ·rw [if_neg (by rw [hb]; exact Bool.false_ne_true)] at hp1
   clear hb
   conv => whnf
   repeat' (first | (refine g_op ?_; conv => whnf) | (refine And.intro ?_ ?_; (focus exact au0); conv => whnf) | (refine XS.go ?_) | (refine g_ops ?_) | ((first | refine g_nil ?_ | refine g_skip ?_); conv => whnf) | fail)
   refine ⟨i + 1, ⟨hlt, g0, g1, g2, g3⟩, by omega, ?_, ?_⟩
   ·repeat' (first | exact True.intro | refine And.intro (congrArg (D.int .i64) hw) ?_ | refine And.intro rfl ?_)
   ·rw [hp1]
    exact ⟨rfl, rfl, rfl, rfl, True.intro⟩
 have hi2 : i = P.length := by
  have : ¬ i < P.length := by simpa using hb
  omega
 subst hi2
 subst g0 g1 g2 g3
 clear hb hp1
 rw [hQ]
 conv => whnf
 repeat' (first | (refine And.intro ?_ ?_; (focus exact au0); conv => whnf) | ((first | refine g_exit ?_ | refine r_nil ?_); conv => whnf) | fail)
 first | done | exact ⟨rfl, rfl⟩ | exact rfl
end Go.Ab
set_option linter.unusedSimpArgs false
set_option linter.unusedVariables false
namespace Go.Ab
open Go Go.RowKit Go.Proofs
attribute [local irreducible] XC Rdr IntKind.wrap xw xos xqs xr xd
set_option maxRecDepth 100000
theorem svc_ord {b : StewBook} (hv : valid b = true) : ∀ i, 0 < i → i < b.fServices.length → Op.bytesLess (b.fServices.getD (i - 1) default).fName.toList (b.fServices.getD i default).fName.toList = true := fun i h0 hi => by
 have := (valid_parts hv).2.2.2.1 i hi
 simp only [vS, Bool.and_eq_true, Bool.not_eq_true', Bool.and_eq_false_iff, Bool.not_eq_false', decide_eq_false_iff_not] at this
 rcases this.2 with q | q
 ·omega
 ·have hS := (valid_parts hv).1
  have e : pr i = i - 1 := by unfold pr; rw [wrap_ok (by omega) (by omega)]; omega
  rw [e] at q
  exact q
theorem valid_b {b : StewBook} (hv : valid b = true) : ∀ i, i < b.fBerths.length → vB b i = true := fun i hi => by
 simp only [valid, Bool.and_eq_true] at hv
 exact allN_get hv.2.2.1 (Nat.zero_le _) (by omega)
theorem ber_ord {b : StewBook} (hv : valid b = true) : ∀ i, 0 < i → i < b.fBerths.length → Op.bytesLess (b.fBerths.getD (i - 1) default).fName.toList (b.fBerths.getD i default).fName.toList = true := fun i h0 hi => by
 have := valid_b hv i hi
 simp only [vB, Bool.and_eq_true, Bool.not_eq_true', Bool.and_eq_false_iff, Bool.not_eq_false', decide_eq_false_iff_not] at this
 rcases this.2 with q | q
 ·omega
 ·have hS := (valid_parts hv).2.2.1
  have e : pr i = i - 1 := by unfold pr; rw [wrap_ok (by omega) (by omega)]; omega
  rw [e] at q
  exact q
theorem name_ne {s : ByteArray} (h : nameOk s = true) : s.toList ≠ emp := fun e => by
 have h1 : 1 ≤ s.size := by
  simp only [nameOk, inR, Bool.and_eq_true, decide_eq_true_eq] at h
  omega
 unfold emp at e
 rw [ByteArray.toList_eq, ByteArray.toList_eq] at e
 have h2 : s.data.size = 0 := by
  have := congrArg List.length e
  simpa using this
 have h3 : s.size = s.data.size := rfl
 omega
theorem ber_name {b : StewBook} (hv : valid b = true) : WB b.fBerths := fun x hx => by
 obtain ⟨i, hi, rfl⟩ := List.getElem_of_mem hx
 have := valid_b hv i hi
 simp only [vB, Bool.and_eq_true] at this
 have q := name_ne this.1
 rwa [show b.fBerths.getD i default = b.fBerths[i] by simp [hi]] at q
theorem copy_wait {b : StewBook} (hv : valid b = true) : WC b.fCopies := fun c hc h1 => by
 obtain ⟨i, hi, rfl⟩ := List.getElem_of_mem hc
 have := (valid_parts hv).2.2.2.2 i hi
 rw [vC, show b.fCopies.getD i default = b.fCopies[i] by simp [hi]] at this
 simp only [Bool.and_eq_true, copyOk] at this
 have q := this.1.2
 rw [h1] at q
 simpa using q
/-! ### Lists in order -/
theorem idxN_congr {f g : Nat → Bool} : ∀ {k i : Nat}, (∀ j, i ≤ j → j < i + k → f j = g j) → idxN f k i = idxN g k i
 | 0, _, _ => rfl
 | k + 1, i, h => by
  rw [idxN, idxN, h i (Nat.le_refl _) (by omega), idxN_congr fun j h1 h2 => h j (by omega) (by omega)]
theorem pI_found {g : Nat → List UInt8} {n j : Nat} {nm : List UInt8} (ho : ∀ i, 0 < i → i < n → Op.bytesLess (g (i - 1)) (g i) = true) (hj : j < n) (he : g j = nm) : pI (fun i => !Op.bytesLess (g i) nm) n = j := by
 have hlt : ∀ {i k : Nat}, i < k → k < n → Op.bytesLess (g i) (g k) = true := fun {i k} h1 h2 => by
  have := ord_less ho (d := k - i - 1) (i := i) (by omega)
  rwa [show i + (k - i - 1) + 1 = k by omega] at this
 rcases idxN_cases (f := fun i => !Op.bytesLess (g i) nm) (k := n) (i := 0) with ⟨h1, h2⟩ | ⟨k, h1, _, h3, h4⟩
 ·have := h2 j (Nat.zero_le _) (by omega)
  rw [he, bl_irr] at this
  cases this
 ·rw [pI_hit h1]
  rcases Nat.lt_trichotomy k j with q | q | q
  ·have h5 := hlt q hj
   rw [he] at h5
   rw [h5] at h4
   cases h4
  ·exact q
  ·have h5 := idxN_first h1 j (Nat.zero_le _) q
   rw [he, bl_irr] at h5
   cases h5
theorem less_not {a b : List UInt8} (h : a ≠ b) : Op.bytesLess b a = !Op.bytesLess a b := by
 have q := le_eq b a
 rw [beq_eq_false_iff_ne.2 (Ne.symm h), Bool.or_false] at q
 exact q
theorem pI_miss {g : Nat → List UInt8} {n : Nat} {nm : List UInt8} (hne : ∀ i, i < n → g i ≠ nm) : idxN (fun i => Op.bytesLess nm (g i)) n 0 = idxN (fun i => !Op.bytesLess (g i) nm) n 0 :=
 idxN_congr fun j _ h2 => less_not (hne j (by omega))
theorem svcI_found {b : StewBook} {nm : ByteArray} {j : Nat} (h : svcI b nm = (j : Int)) : j < b.fServices.length ∧ (b.fServices.getD j default).fName.toList = nm.toList := by
 rcases idxN_cases (f := svcF b nm) (k := b.fServices.length) (i := 0) with ⟨h1, _⟩ | ⟨j0, h1, _, h3, h4⟩
 ·have : svcI b nm = -1 := h1
  omega
 ·have : svcI b nm = (j0 : Int) := h1
  have e : j0 = j := by omega
  subst e
  exact ⟨by omega, by simpa [svcF] using h4⟩
theorem svcI_none {b : StewBook} {nm : ByteArray} (h : svcI b nm = -1) : ∀ i, i < b.fServices.length → (b.fServices.getD i default).fName.toList ≠ nm.toList := fun i hi => by
 rcases idxN_cases (f := svcF b nm) (k := b.fServices.length) (i := 0) with ⟨_, h2⟩ | ⟨j0, h1, _, h3, h4⟩
 ·simpa [svcF] using h2 i (Nat.zero_le _) (by omega)
 ·have : svcI b nm = (j0 : Int) := h1
  omega
theorem berI_found {b : StewBook} {nm : ByteArray} {j : Nat} (h : berI b nm = (j : Int)) : j < b.fBerths.length ∧ (b.fBerths.getD j default).fName.toList = nm.toList := by
 rcases idxN_cases (f := berF b nm) (k := b.fBerths.length) (i := 0) with ⟨h1, _⟩ | ⟨j0, h1, _, h3, h4⟩
 ·have : berI b nm = -1 := h1
  omega
 ·have : berI b nm = (j0 : Int) := h1
  have e : j0 = j := by omega
  subst e
  exact ⟨by omega, by simpa [berF] using h4⟩
theorem berI_none {b : StewBook} {nm : ByteArray} (h : berI b nm = -1) : ∀ i, i < b.fBerths.length → (b.fBerths.getD i default).fName.toList ≠ nm.toList := fun i hi => by
 rcases idxN_cases (f := berF b nm) (k := b.fBerths.length) (i := 0) with ⟨_, h2⟩ | ⟨j0, h1, _, h3, h4⟩
 ·simpa [berF] using h2 i (Nat.zero_le _) (by omega)
 ·have : berI b nm = (j0 : Int) := h1
  omega
/-- A wish for a service that is there. -/
theorem wish_set {b : StewBook} (hv : valid b = true) {w : StewService} {v : Int} {j : Nat} (h : svcI b w.fName = (j : Int)) : wishL b.fServices w v = b.fServices.set j { w with fVersion := v, fCool := 0, fNext := (b.fServices.getD j default).fNext } := by
 obtain ⟨hj, he⟩ := svcI_found h
 have hk : svcK b.fServices w.fName = j := pI_found (g := fun i => (b.fServices.getD i default).fName.toList) (svc_ord hv) hj he
 have hS : svcS b.fServices w.fName = true := by
  unfold svcS
  rw [hk]
  simp only [Bool.and_eq_true, decide_eq_true_eq, beq_iff_eq]
  exact ⟨hj, he⟩
 unfold wishL wishS svcT
 rw [if_pos hS, if_pos hS, hk, List.set_eq_take_append_cons_drop, if_pos hj]
/-- A wish for a new service. -/
theorem wish_ins {b : StewBook} {w : StewService} {v : Int} (h : svcI b w.fName = -1) : wishL b.fServices w v = insAt b.fServices (svcK b.fServices w.fName) { w with fVersion := v, fCool := 0, fNext := 1 } := by
 have hne := svcI_none h
 have hS : svcS b.fServices w.fName = false := by
  unfold svcS
  refine Bool.eq_false_iff.2 fun q => ?_
  simp only [Bool.and_eq_true, decide_eq_true_eq, beq_iff_eq] at q
  exact hne _ q.1 q.2
 unfold wishL wishS svcT insAt
 rw [if_neg (by rw [hS]; exact Bool.false_ne_true), if_neg (by rw [hS]; exact Bool.false_ne_true)]
theorem svcK_idx {b : StewBook} {nm : ByteArray} (h : svcI b nm = -1) : idxN (fun i => Op.bytesLess nm.toList (b.fServices.getD i default).fName.toList) b.fServices.length 0 = idxN (svcP b.fServices nm) b.fServices.length 0 :=
 pI_miss (g := fun i => (b.fServices.getD i default).fName.toList) (svcI_none h)
theorem raise_set {b : StewBook} (hv : valid b = true) {nm : ByteArray} {dr : Bool} {j : Nat} (h : berI b nm = (j : Int)) : raiseL b.fBerths nm dr = b.fBerths.set j ⟨nm, dr⟩ := by
 obtain ⟨hj, he⟩ := berI_found h
 have hk : berK b.fBerths nm = j := pI_found (g := fun i => (b.fBerths.getD i default).fName.toList) (ber_ord hv) hj he
 have hS : berS b.fBerths nm = true := by
  unfold berS
  rw [hk]
  simp only [Bool.and_eq_true, decide_eq_true_eq, beq_iff_eq]
  exact ⟨hj, he⟩
 unfold raiseL berT
 rw [if_pos hS, hk, List.set_eq_take_append_cons_drop, if_pos hj]
theorem raise_ins {b : StewBook} {nm : ByteArray} {dr : Bool} (h : berI b nm = -1) : raiseL b.fBerths nm dr = insAt b.fBerths (berK b.fBerths nm) ⟨nm, dr⟩ := by
 have hne := berI_none h
 have hS : berS b.fBerths nm = false := by
  unfold berS
  refine Bool.eq_false_iff.2 fun q => ?_
  simp only [Bool.and_eq_true, decide_eq_true_eq, beq_iff_eq] at q
  exact hne _ q.1 q.2
 unfold raiseL berT insAt
 rw [if_neg (by rw [hS]; exact Bool.false_ne_true)]
theorem berK_idx {b : StewBook} {nm : ByteArray} (h : berI b nm = -1) : idxN (fun i => Op.bytesLess nm.toList (b.fBerths.getD i default).fName.toList) b.fBerths.length 0 = idxN (berP b.fBerths nm) b.fBerths.length 0 :=
 pI_miss (g := fun i => (b.fBerths.getD i default).fName.toList) (berI_none h)
/-- Where one is put in, it is found. -/
theorem insAt_get {α : Type} [Inhabited α] (xs : List α) (i : Nat) (x : α) (hi : i ≤ xs.length) : (insAt xs i x).getD i default = x := by
 unfold insAt
 rw [List.getD_eq_getElem?_getD, List.getElem?_append_right (by rw [List.length_take]; omega), List.length_take]
 simp [Nat.min_eq_left hi]
theorem insAt_lo {α : Type} [Inhabited α] (xs : List α) (i j : Nat) (x : α) (hi : i ≤ xs.length) (hj : j < i) : (insAt xs i x).getD j default = xs.getD j default := by
 unfold insAt
 rw [List.getD_eq_getElem?_getD, List.getElem?_append_left (by rw [List.length_take]; omega), List.getElem?_take, if_pos hj, List.getD_eq_getElem?_getD]
theorem insAt_len {α : Type} (xs : List α) (i : Nat) (x : α) : (insAt xs i x).length = xs.length + 1 := by
 unfold insAt
 simp only [List.length_append, List.length_cons, List.length_take, List.length_drop]
 omega
theorem insAt_set {α : Type} (xs : List α) (i : Nat) (x y : α) (hi : i ≤ xs.length) : (insAt xs i x).set i y = insAt xs i y := by
 unfold insAt
 rw [List.set_append_right _ _ (by rw [List.length_take]; omega), List.length_take, Nat.min_eq_left hi, Nat.sub_self]
 rfl
theorem idxN_at {f : Nat → Bool} {n i : Nat} (hi : i < n) (hf : f i = true) (hlo : ∀ j, j < i → f j = false) : idxN f n 0 = (i : Int) := by
 rcases idxN_cases (f := f) (k := n) (i := 0) with ⟨_, h2⟩ | ⟨j, h1, _, h3, h4⟩
 ·rw [h2 i (Nat.zero_le _) (by omega)] at hf
  cases hf
 ·rw [h1]
  rcases Nat.lt_trichotomy j i with q | q | q
  ·rw [hlo j q] at h4
   cases h4
  ·rw [q]
  ·rw [idxN_first h1 i (Nat.zero_le _) q] at hf
   cases hf
theorem svcI_ins {b : StewBook} {y : StewService} {i : Nat} (h : svcI b y.fName = -1) (hi : i ≤ b.fServices.length) : svcI { b with fServices := insAt b.fServices i y } y.fName = (i : Int) := by
 refine idxN_at (by show i < (insAt b.fServices i y).length; rw [insAt_len]; omega) ?_ fun j hj => ?_
 ·unfold svcF
  show (((insAt b.fServices i y).getD i default).fName.toList == _) = true
  rw [insAt_get _ _ _ hi]
  exact beq_self_eq_true _
 ·unfold svcF
  show (((insAt b.fServices i y).getD j default).fName.toList == _) = false
  rw [insAt_lo _ _ _ _ hi hj]
  exact beq_eq_false_iff_ne.2 (svcI_none h j (by omega))
theorem berI_ins {b : StewBook} {y : StewBerth} {i : Nat} (h : berI b y.fName = -1) (hi : i ≤ b.fBerths.length) : berI { b with fBerths := insAt b.fBerths i y } y.fName = (i : Int) := by
 refine idxN_at (by show i < (insAt b.fBerths i y).length; rw [insAt_len]; omega) ?_ fun j hj => ?_
 ·unfold berF
  show (((insAt b.fBerths i y).getD i default).fName.toList == _) = true
  rw [insAt_get _ _ _ hi]
  exact beq_self_eq_true _
 ·unfold berF
  show (((insAt b.fBerths i y).getD j default).fName.toList == _) = false
  rw [insAt_lo _ _ _ _ hi hj]
  exact beq_eq_false_iff_ne.2 (berI_none h j (by omega))
/-- The berth that sinks. -/
theorem sink_ber {b : StewBook} (hv : valid b = true) {nm : ByteArray} {j : Nat} (h : berI b nm = (j : Int)) : (b.fBerths.filter fun x => !(x.fName.toList == nm.toList)) = b.fBerths.take j ++ b.fBerths.drop (j + 1) := by
 obtain ⟨hj, he⟩ := berI_found h
 have hone : ∀ i, i < b.fBerths.length → i ≠ j → (b.fBerths.getD i default).fName.toList ≠ nm.toList := fun i hi hne e => by
  rw [← he] at e
  rcases Nat.lt_or_gt_of_ne hne with q | q
  ·exact ord_ne (f := fun i => (b.fBerths.getD i default).fName.toList) (ber_ord hv) q hj e
  ·exact ord_ne (f := fun i => (b.fBerths.getD i default).fName.toList) (ber_ord hv) q hi e.symm
 have e0 : b.fBerths = b.fBerths.take j ++ b.fBerths[j] :: b.fBerths.drop (j + 1) := by simp
 have hget : ∀ i (hi : i < b.fBerths.length), b.fBerths.getD i default = b.fBerths[i] := fun i hi => by simp [hi]
 conv => lhs; rw [e0]
 rw [List.filter_append, List.filter_cons, if_neg (by rw [← hget j hj, he]; simp)]
 congr 1
 ·refine List.filter_eq_self.2 fun a ha => ?_
  obtain ⟨i, hi, rfl⟩ := List.getElem_of_mem ha
  rw [List.length_take] at hi
  rw [List.getElem_take]
  have := hone i (by omega) (by omega)
  rw [hget i (by omega)] at this
  simp [this]
 ·refine List.filter_eq_self.2 fun a ha => ?_
  obtain ⟨i, hi, rfl⟩ := List.getElem_of_mem ha
  rw [List.length_drop] at hi
  rw [List.getElem_drop]
  have := hone (j + 1 + i) (by omega) (by omega)
  rw [hget _ (by omega)] at this
  simp [this]
theorem sink_cpy {b : StewBook} (hv : valid b = true) {nm : ByteArray} (hn : nm.toList ≠ emp) : (b.fCopies.filter fun c => !(c.fState != 1 && standP nm c)) = b.fCopies.filter fun c => !standP nm c := by
 refine List.filter_congr fun c hc => ?_
 by_cases h1 : c.fState = 1
 ·have h2 : standP nm c = false := by
   unfold standP
   rw [copy_wait hv c hc h1]
   exact beq_eq_false_iff_ne.2 (Ne.symm hn)
  rw [h2, Bool.and_false]
 ·rw [show (c.fState != 1) = true by simp [h1], Bool.true_and]
end Go.Ab
set_option linter.unusedSimpArgs false
set_option linter.unusedVariables false
namespace Go.Ab
open Go Go.RowKit Go.Proofs
attribute [local irreducible] XC Rdr IntKind.wrap xw xos xqs xr xd
set_option maxRecDepth 100000
set_option maxHeartbeats 16000000
theorem insR0_StewBerth (x : StewBerth) (xs : List StewBerth) (i b c : Nat) (hi : i ≤ xs.length) (hl : xs.length ≤ 1048576) :
  XC Try.prog 159 [.lsl 0 b xs.length c, .int .i64 (i : Int), .ro 2 [x.D]] [(0, b, .arr 2 (xs.map StewBerth.D) c)] (fun d ls => ∃ b' c', xs.length + 1 ≤ c' ∧ (d = .lsl 6 b' (xs.length + 1) c' ∨ d = .lvw 0 b' 0 0 (xs.length + 1) c') ∧ ls = [(6, b', .arr 2 ((insAt xs i x).map StewBerth.D) c')]) := by
 refine XC.intro' hm [6] rfl c159 (Nat.le_of_ble_eq_true rfl) ?_
 conv => whnf
 repeat' (first | (refine g_op ?_; conv => whnf) | (refine And.intro ?_ ?_; (focus exact au0); conv => whnf) | (refine g_seq ?_) | (refine g_ops ?_) | (refine g_nil ?_; conv => whnf) | fail)
 refine XS.capLe2 0 rfl fun hcp => ?_
 rw [List.length_map] at hcp
 have h1 : (i : Int) ≤ ((xs.length : Nat) : Int) := by omega
 have h2 : ((xs.length : Nat) : Int) ≤ (c : Int) := by omega
 have hA : (xs.map StewBerth.D).length = xs.length := List.length_map ..
 have hlm : xs.length = (xs.map StewBerth.D).length := hA.symm
 have hbare : (xs.map StewBerth.D).map D.bare = xs.map StewBerth.D := by rw [List.map_map]; rfl
 have hbig : (xs.map StewBerth.D).length + [x.D].length ≤ 1073741824 := by rw [hA]; simp only [List.length_cons, List.length_nil]; omega
 have hmap : (insAt xs i x).map StewBerth.D = (xs.map StewBerth.D).take i ++ x.D :: (xs.map StewBerth.D).drop i := by simp only [insAt, List.map_append, List.map_cons, List.map_take, List.map_drop]
 refine XS.go ?_
 repeat' (first | ((refine And.intro h1 ?_; conv => whnf)) | ((refine And.intro h2 ?_; conv => whnf)) | (refine g_op ?_; conv => whnf) | (refine And.intro ?_ ?_; (focus exact au0); conv => whnf) | (refine g_seq ?_) | (refine XS.go ?_) | (refine g_ops ?_) | (refine g_nil ?_; conv => whnf) | (refine Br.f ?_ ?_; (focus (first | assumption | exact rfl)); conv => whnf) | ((first | refine g_cond ?_ | refine g_skip ?_); conv => whnf) | fail)
 refine Br.mk (fun hb => ?_) (fun hb => ?_)
 ·have hin : i = xs.length := by
   have q := hb
   simp at q
   omega
  clear hb
  conv => whnf
  repeat' (first | ((refine And.intro hlm ?_; conv => whnf)) | ((refine And.intro hbig ?_; conv => whnf)) | ((refine fun n1 b1 c1 hn1 hc1 => ?_; conv => whnf)) | (refine g_op ?_; conv => whnf) | (refine And.intro ?_ ?_; (focus exact au0); conv => whnf) | (refine g_seq ?_) | (refine g_ops ?_) | (refine g_nil ?_; conv => whnf) | fail)
  refine XS.move 25 6 [6] rfl ?_
  refine XS.go ?_
  repeat' (first | (refine And.intro ?_ ?_; (focus exact au0); conv => whnf) | ((first | refine g_ret ?_ | refine r_t ?_ | refine r_nil ?_); conv => whnf) | fail)
  have hn2 : n1 = xs.length + 1 := by rw [hn1, hA]; rfl
  subst hn2
  refine ⟨b1, c1, hc1, .inl rfl, ?_⟩
  rw [hmap, hin]
  have e1 : (xs.map StewBerth.D).take xs.length = xs.map StewBerth.D := by rw [← hA]; exact List.take_length
  have e2 : (xs.map StewBerth.D).drop xs.length = [] := by rw [← hA]; exact List.drop_length
  rw [e1, e2]
  rfl
 have hin : i < xs.length := by
  have q := hb
  simp at q
  omega
 clear hb
 generalize xs.map StewBerth.D = A at *
 conv => whnf
 repeat' (first | (refine g_op ?_; conv => whnf) | (refine And.intro ?_ ?_; (focus exact au0); conv => whnf) | (refine g_seq ?_) | (refine XS.go ?_) | (refine g_ops ?_) | ((first | refine g_nil ?_ | refine g_cond ?_ | refine g_skip ?_); conv => whnf) | fail)
 refine Br.mk (fun hb => ?_) (fun hb => ?_)
 ·have hw1 : IntKind.wrap .i64 ((xs.length : Int) + ((1 : Nat) : Int)) = (xs.length : Int) + 1 := wrap_ok (by omega) (by omega)
  have hk : IntKind.wrap .i64 (IntKind.wrap .i64 ((xs.length : Int) + ((1 : Nat) : Int)) - (i : Int)) = (xs.length : Int) + 1 - i := by rw [hw1]; exact wrap_ok (by omega) (by omega)
  have hcc : (c : Int) < (xs.length : Int) + 1 := by
   have q := hb
   rw [show (([x.D].length : Nat) : Int) = ((1 : Nat) : Int) from rfl] at q
   rw [hw1] at q
   simpa using q
  clear hb
  have k1 : 0 ≤ (i : Int) ∧ (i : Int) ≤ (c : Int) := by omega
  have k2 : 0 < IntKind.wrap .i64 (IntKind.wrap .i64 ((xs.length : Int) + ((1 : Nat) : Int)) - (i : Int)) := by rw [hk]; omega
  have k3 : (c : Int) < (((i : Int).toNat : Nat) : Int) + IntKind.wrap .i64 (IntKind.wrap .i64 ((xs.length : Int) + ((1 : Nat) : Int)) - (i : Int)) := by rw [hk]; omega
  have k4 : (((i : Int).toNat : Nat) : Int) + IntKind.wrap .i64 (IntKind.wrap .i64 ((xs.length : Int) + ((1 : Nat) : Int)) - (i : Int)) ≤ 1073741824 := by rw [hk]; omega
  have k5 : (i : Int).toNat ≤ A.length := by omega
  have k6 : (i : Int).toNat ≤ c := by omega
  conv => whnf
  repeat' (first | ((refine And.intro k1.2 ?_; conv => whnf)) | ((refine And.intro k2 ?_; conv => whnf)) | ((refine And.intro k3 ?_; conv => whnf)) | ((refine And.intro k4 ?_; conv => whnf)) | ((refine And.intro k5 ?_; conv => whnf)) | ((refine And.intro k6 ?_; conv => whnf)) | ((refine And.intro hbare ?_; conv => whnf)) | ((refine fun m1 b1 c1 hn1 hc1 => ?_; conv => whnf)) | (refine g_op ?_; conv => whnf) | (refine And.intro ?_ ?_; (focus exact au0); conv => whnf) | (refine g_seq ?_) | (refine g_ops ?_) | (refine g_nil ?_; conv => whnf) | fail)
  have hm1 : m1 = xs.length + 1 := by rw [hn1]; rw [show (([x.D].length : Nat) : Int) = ((1 : Nat) : Int) from rfl, hk]; omega
  have hkn : (IntKind.wrap .i64 (IntKind.wrap .i64 ((xs.length : Int) + ((1 : Nat) : Int)) - (i : Int))).toNat = xs.length + 1 - i := by rw [hk]; omega
  have hC : A.take ((i : Int) - 0).toNat ++ List.replicate (IntKind.wrap .i64 (IntKind.wrap .i64 ((xs.length : Int) + ((1 : Nat) : Int)) - (i : Int))).toNat (Go.Ab.D.agg [.str ⟨#[]⟩, .bool false]) = A.take i ++ List.replicate (xs.length + 1 - i) (Go.Ab.D.agg [.str ⟨#[]⟩, .bool false]) := by
   rw [hkn]
   have e : ((i : Int) - 0).toNat = i := by omega
   rw [e]
  subst hm1
  refine XS.weakenA (fs := [.lsl 0 b xs.length c, .int .i64 (i : Int), .ro 2 [x.D], .any, .any, .any, .any, .int .i64 ((1 : Nat) : Int), .any, .lsl 40 b1 (xs.length + 1) c1]) (ls := [(0, .arr 2 A c), (40, .arr 2 (A.take i ++ List.replicate (xs.length + 1 - i) (Go.Ab.D.agg [.str ⟨#[]⟩, .bool false])) c1)]) ⟨?_, ?_⟩ ?_
  ·repeat' (first | exact True.intro | refine And.intro rfl ?_)
  ·exact ⟨rfl, congrArg (fun l => some (D.arr 2 l c1)) hC, True.intro⟩
  have hl1 : (A.take i ++ List.replicate (xs.length + 1 - i) (Go.Ab.D.agg [.str ⟨#[]⟩, .bool false])).length = xs.length + 1 := by rw [List.length_append, List.length_take, List.length_replicate, hA]; omega
  have hb1 : (A.take i ++ List.replicate (xs.length + 1 - i) (Go.Ab.D.agg [.str ⟨#[]⟩, .bool false])).map D.bare = A.take i ++ List.replicate (xs.length + 1 - i) (Go.Ab.D.agg [.str ⟨#[]⟩, .bool false]) := by rw [List.map_append, List.map_take, hbare, List.map_replicate]; rfl
  have hC1 : ∀ k, k = 1 → (A.take i ++ List.replicate (xs.length + 1 - i) (Go.Ab.D.agg [.str ⟨#[]⟩, .bool false])).take (i : Int).toNat ++ ([x.D].take 1).take k ++ (A.take i ++ List.replicate (xs.length + 1 - i) (Go.Ab.D.agg [.str ⟨#[]⟩, .bool false])).drop ((i : Int).toNat + k) = A.take i ++ x.D :: List.replicate (xs.length - i) (Go.Ab.D.agg [.str ⟨#[]⟩, .bool false]) := fun k hk => by
   subst hk
   exact ins_g1 (by omega) (by omega)
  generalize hB : A.take i ++ List.replicate (xs.length + 1 - i) (Go.Ab.D.agg [.str ⟨#[]⟩, .bool false]) = B at *
  have k1' : (i : Int) ≤ ((xs.length + 1 : Nat) : Int) := by omega
  have k2' : ((xs.length + 1 : Nat) : Int) ≤ (c1 : Int) := by omega
  have k3' : (i : Int).toNat ≤ B.length := by omega
  have k4' : (i : Int).toNat + (((xs.length + 1 : Nat) : Int) - (i : Int)).toNat ≤ c1 := by omega
  refine XS.go ?_
  conv => whnf
  have hkle : ∀ k : Nat, k = min 1 (((xs.length + 1 : Nat) : Int) - (i : Int)).toNat → k ≤ ([x.D].take 1).length := fun k hk => by simp only [List.take_succ_cons, List.length_cons]; omega
  repeat' (first | ((refine And.intro k1' ?_; conv => whnf)) | ((refine And.intro k2' ?_; conv => whnf)) | ((refine And.intro k3' ?_; conv => whnf)) | ((refine And.intro k4' ?_; conv => whnf)) | ((refine And.intro hb1 ?_; conv => whnf)) | ((refine fun k9 (hk9 : k9 = min 1 (((xs.length + 1 : Nat) : Int) - (i : Int)).toNat) => And.intro (hkle k9 hk9) ?_; conv => whnf)) | (refine g_op ?_; conv => whnf) | (refine And.intro ?_ ?_; (focus exact au0); conv => whnf) | (refine g_seq ?_) | (refine g_ops ?_) | (refine g_nil ?_; conv => whnf) | fail)
  refine XS.weakenA (fs := [.lsl 0 b xs.length c, .int .i64 (i : Int), .ro 2 [x.D], .any, .any, .any, .any, .int .i64 ((1 : Nat) : Int), .any, .lsl 40 b1 (xs.length + 1) c1]) (ls := [(0, .arr 2 A c), (40, .arr 2 (A.take i ++ x.D :: List.replicate (xs.length - i) (Go.Ab.D.agg [.str ⟨#[]⟩, .bool false])) c1)]) ⟨?_, ?_⟩ ?_
  ·repeat' (first | exact True.intro | refine And.intro rfl ?_)
  ·exact ⟨rfl, congrArg (fun l => some (D.arr 2 l c1)) (hC1 k9 (by omega)), True.intro⟩
  have hl2 : (A.take i ++ x.D :: List.replicate (xs.length - i) (Go.Ab.D.agg [.str ⟨#[]⟩, .bool false])).length = xs.length + 1 := by rw [List.length_append, List.length_take, List.length_cons, List.length_replicate, hA]; omega
  have hb2 : (A.take i ++ x.D :: List.replicate (xs.length - i) (Go.Ab.D.agg [.str ⟨#[]⟩, .bool false])).map D.bare = A.take i ++ x.D :: List.replicate (xs.length - i) (Go.Ab.D.agg [.str ⟨#[]⟩, .bool false]) := by rw [List.map_append, List.map_take, hbare, List.map_cons, List.map_replicate]; rfl
  have hwi : IntKind.wrap .i64 ((i : Int) + ((1 : Nat) : Int)) = (i : Int) + 1 := wrap_ok (by omega) (by omega)
  have hC2 : ∀ k, k = min (((xs.length : Nat) : Int) - (i : Int)).toNat (((xs.length + 1 : Nat) : Int) - IntKind.wrap .i64 ((i : Int) + ((1 : Nat) : Int))).toNat → (A.take i ++ x.D :: List.replicate (xs.length - i) (Go.Ab.D.agg [.str ⟨#[]⟩, .bool false])).take (IntKind.wrap .i64 ((i : Int) + ((1 : Nat) : Int))).toNat ++ ((A.drop (i : Int).toNat).take (((xs.length : Nat) : Int) - (i : Int)).toNat).take k ++ (A.take i ++ x.D :: List.replicate (xs.length - i) (Go.Ab.D.agg [.str ⟨#[]⟩, .bool false])).drop ((IntKind.wrap .i64 ((i : Int) + ((1 : Nat) : Int))).toNat + k) = A.take i ++ x.D :: A.drop i := fun k hk => by
   rw [hwi] at hk ⊢
   exact ins_g2 hA hin (by omega) (by omega) (by omega) (by omega)
  generalize hB2 : A.take i ++ x.D :: List.replicate (xs.length - i) (Go.Ab.D.agg [.str ⟨#[]⟩, .bool false]) = B2 at *
  have j1 : 0 ≤ IntKind.wrap .i64 ((i : Int) + ((1 : Nat) : Int)) := by rw [hwi]; omega
  have j2 : IntKind.wrap .i64 ((i : Int) + ((1 : Nat) : Int)) ≤ ((xs.length + 1 : Nat) : Int) := by rw [hwi]; omega
  have j3 : (IntKind.wrap .i64 ((i : Int) + ((1 : Nat) : Int))).toNat ≤ B2.length := by rw [hwi]; omega
  have j4 : (IntKind.wrap .i64 ((i : Int) + ((1 : Nat) : Int))).toNat + (((xs.length + 1 : Nat) : Int) - IntKind.wrap .i64 ((i : Int) + ((1 : Nat) : Int))).toNat ≤ c1 := by rw [hwi]; omega
  have hkle2 : ∀ k, k = min (((xs.length : Nat) : Int) - (i : Int)).toNat (((xs.length + 1 : Nat) : Int) - IntKind.wrap .i64 ((i : Int) + ((1 : Nat) : Int))).toNat → k ≤ ((A.drop (i : Int).toNat).take (((xs.length : Nat) : Int) - (i : Int)).toNat).length := fun k hk => by rw [List.length_take, List.length_drop, hA]; omega
  refine XS.go ?_
  conv => whnf
  repeat' (first | ((refine And.intro j1 ?_; conv => whnf)) | ((refine And.intro j2 ?_; conv => whnf)) | ((refine And.intro k2' ?_; conv => whnf)) | ((refine And.intro h1 ?_; conv => whnf)) | ((refine And.intro h2 ?_; conv => whnf)) | ((refine And.intro j3 ?_; conv => whnf)) | ((refine And.intro j4 ?_; conv => whnf)) | ((refine And.intro hb2 ?_; conv => whnf)) | ((refine And.intro hbare ?_; conv => whnf)) | ((refine fun k8 (hk8 : k8 = min (((xs.length : Nat) : Int) - (i : Int)).toNat (((xs.length + 1 : Nat) : Int) - IntKind.wrap .i64 ((i : Int) + ((1 : Nat) : Int))).toNat) => And.intro (hkle2 k8 hk8) ?_; conv => whnf)) | ((refine And.intro True.intro ?_; conv => whnf)) | (refine And.intro ?_ ?_; (focus exact au0); conv => whnf) | (refine g_seq ?_) | (refine g_drawn ?_) | ((first | refine d_p ?_ | refine d_e ?_ | refine d_nil ?_); conv => whnf) | fail)
  refine XS.weakenA (fs := [.any, .any, .any, .any, .any, .any, .any, .any, .any, .lsl 40 b1 (xs.length + 1) c1]) (ls := [(40, .arr 2 (A.take i ++ x.D :: A.drop i) c1)]) ⟨?_, ?_⟩ ?_
  ·repeat' (first | exact True.intro | refine And.intro rfl ?_)
  ·exact ⟨congrArg (fun l => some (D.arr 2 l c1)) (hC2 k8 hk8), True.intro⟩
  refine XS.go ?_
  conv => whnf
  repeat' (first | (refine g_op ?_; conv => whnf) | (refine And.intro ?_ ?_; (focus exact au0); conv => whnf) | (refine g_seq ?_) | (refine g_ops ?_) | (refine g_nil ?_; conv => whnf) | fail)
  refine XS.move 40 6 [6] rfl ?_
  refine XS.go ?_
  repeat' (first | (refine And.intro ?_ ?_; (focus exact au0); conv => whnf) | ((first | refine g_ret ?_ | refine r_t ?_ | refine r_nil ?_); conv => whnf) | fail)
  exact ⟨b1, c1, hc1, .inl rfl, congrArg (fun l => [(6, b1, D.arr 2 l c1)]) hmap.symm⟩
 have hw1 : IntKind.wrap .i64 ((xs.length : Int) + ((1 : Nat) : Int)) = (xs.length : Int) + 1 := wrap_ok (by omega) (by omega)
 have hcc : (xs.length : Int) + 1 ≤ (c : Int) := by
  have q := hb
  rw [show (([x.D].length : Nat) : Int) = ((1 : Nat) : Int) from rfl] at q
  rw [hw1] at q
  simpa using q
 clear hb
 have k1 : 0 ≤ IntKind.wrap .i64 ((xs.length : Int) + ((1 : Nat) : Int)) := by rw [hw1]; omega
 have k2 : IntKind.wrap .i64 ((xs.length : Int) + ((1 : Nat) : Int)) ≤ (c : Int) := by rw [hw1]; omega
 conv => whnf
 repeat' (first | (refine g_skip ?_; conv => whnf) | fail)
 refine XS.go ?_
 conv => whnf
 repeat' (first | ((refine And.intro k1 ?_; conv => whnf)) | ((refine And.intro k2 ?_; conv => whnf)) | (refine g_op ?_; conv => whnf) | (refine And.intro ?_ ?_; (focus exact au0); conv => whnf) | (refine g_seq ?_) | (refine g_ops ?_) | (refine g_nil ?_; conv => whnf) | fail)
 have he : (IntKind.wrap .i64 ((xs.length : Int) + ((1 : Nat) : Int)) - 0).toNat = xs.length + 1 := by rw [hw1]; omega
 refine XS.weakenA (fs := [.lvw 0 b 0 0 (xs.length + 1) c, .int .i64 (i : Int), .ro 2 [x.D], .any, .any, .any, .any, .int .i64 ((1 : Nat) : Int), .int .i64 (xs.length : Int)]) (ls := [(0, .arr 2 A c)]) ⟨?_, ?_⟩ ?_
 ·repeat' (first | exact True.intro | refine And.intro rfl ?_ | refine And.intro (congrArg (fun m => D.lvw 0 b 0 0 m c) he) ?_)
 ·exact ⟨rfl, True.intro⟩
 have hwi : IntKind.wrap .i64 ((i : Int) + ((1 : Nat) : Int)) = (i : Int) + 1 := wrap_ok (by omega) (by omega)
 have j1 : 0 ≤ IntKind.wrap .i64 ((i : Int) + ((1 : Nat) : Int)) := by rw [hwi]; omega
 have j2 : IntKind.wrap .i64 ((i : Int) + ((1 : Nat) : Int)) ≤ ((xs.length + 1 : Nat) : Int) := by rw [hwi]; omega
 have j0 : ((xs.length + 1 : Nat) : Int) ≤ (c : Int) := by omega
 have q1 : [x.D].length * 2 ≠ 0 := by show 1 * 2 ≠ 0; decide
 have q2 : c ≠ 0 := by omega
 have q3 : c - (IntKind.wrap .i64 ((i : Int) + ((1 : Nat) : Int))).toNat ≠ 0 := by rw [hwi]; omega
 have o1 : 0 + (IntKind.wrap .i64 ((i : Int) + ((1 : Nat) : Int))).toNat * 2 = (0 + (IntKind.wrap .i64 ((i : Int) + ((1 : Nat) : Int))).toNat) * 2 := by omega
 have o2 : 0 + (i : Int).toNat * 2 = (0 + (i : Int).toNat) * 2 := by omega
 have j3 : 0 + (IntKind.wrap .i64 ((i : Int) + ((1 : Nat) : Int))).toNat ≤ A.length := by rw [hwi]; omega
 have j4 : 0 + (IntKind.wrap .i64 ((i : Int) + ((1 : Nat) : Int))).toNat + (((xs.length + 1 : Nat) : Int) - IntKind.wrap .i64 ((i : Int) + ((1 : Nat) : Int))).toNat ≤ c := by rw [hwi]; omega
 have j5 : (i : Int) ≤ ((xs.length + 1 : Nat) : Int) := by omega
 have hkle2 : ∀ k, k = min (((xs.length + 1 : Nat) : Int) - (i : Int)).toNat (((xs.length + 1 : Nat) : Int) - IntKind.wrap .i64 ((i : Int) + ((1 : Nat) : Int))).toNat → k ≤ ((A.drop (0 + (i : Int).toNat)).take (((xs.length + 1 : Nat) : Int) - (i : Int)).toNat).length := fun k hk => by rw [hwi] at hk; rw [List.length_take, List.length_drop, hA]; omega
 have hC1 : ∀ k, k = min (((xs.length + 1 : Nat) : Int) - (i : Int)).toNat (((xs.length + 1 : Nat) : Int) - IntKind.wrap .i64 ((i : Int) + ((1 : Nat) : Int))).toNat → A.take (0 + (IntKind.wrap .i64 ((i : Int) + ((1 : Nat) : Int))).toNat) ++ ((A.drop (0 + (i : Int).toNat)).take (((xs.length + 1 : Nat) : Int) - (i : Int)).toNat).take k ++ A.drop (0 + (IntKind.wrap .i64 ((i : Int) + ((1 : Nat) : Int))).toNat + k) = A.take (i + 1) ++ A.drop i := fun k hk => by
  rw [hwi] at hk ⊢
  exact ins_r1 hA hin (by omega) (by omega) (by omega) (by omega)
 refine XS.go ?_
 conv => whnf
 repeat' (first | ((refine And.intro ovl_StewBerth ?_; conv => whnf)) | ((refine And.intro q1 ?_; conv => whnf)) | ((refine And.intro q2 ?_; conv => whnf)) | ((refine And.intro q3 ?_; conv => whnf)) | ((refine And.intro j1 ?_; conv => whnf)) | ((refine And.intro j2 ?_; conv => whnf)) | ((refine And.intro j0 ?_; conv => whnf)) | (refine g_op ?_; conv => whnf) | (refine And.intro ?_ ?_; (focus exact au0); conv => whnf) | (refine g_seq ?_) | (refine g_ops ?_) | (refine g_nil ?_; conv => whnf) | fail)
 refine XS.go ?_
 conv => whnf
 repeat' (first | ((refine And.intro j1 ?_; conv => whnf)) | ((refine And.intro j2 ?_; conv => whnf)) | ((refine And.intro j0 ?_; conv => whnf)) | ((refine And.intro o1 ?_; conv => whnf)) | ((refine And.intro o2 ?_; conv => whnf)) | ((refine And.intro j3 ?_; conv => whnf)) | ((refine And.intro j4 ?_; conv => whnf)) | ((refine And.intro j5 ?_; conv => whnf)) | ((refine And.intro hbare ?_; conv => whnf)) | ((refine fun k8 (hk8 : k8 = min (((xs.length + 1 : Nat) : Int) - (i : Int)).toNat (((xs.length + 1 : Nat) : Int) - IntKind.wrap .i64 ((i : Int) + ((1 : Nat) : Int))).toNat) => And.intro (hkle2 k8 hk8) ?_; conv => whnf)) | ((refine And.intro True.intro ?_; conv => whnf)) | (refine And.intro ?_ ?_; (focus exact au0); conv => whnf) | (refine g_seq ?_) | (refine Br.t ?_ ?_; (focus (first | assumption | exact rfl)); conv => whnf) | (refine g_cond ?_; conv => whnf) | (refine g_drawn ?_) | ((first | refine d_p ?_ | refine d_e ?_ | refine d_nil ?_); conv => whnf) | fail)
 refine XS.weakenA (fs := [.lvw 0 b 0 0 (xs.length + 1) c, .int .i64 (i : Int), .ro 2 [x.D], .any, .any, .any, .any, .int .i64 ((1 : Nat) : Int), .int .i64 (xs.length : Int)]) (ls := [(0, .arr 2 (A.take (i + 1) ++ A.drop i) c)]) ⟨?_, ?_⟩ ?_
 ·repeat' (first | exact True.intro | refine And.intro rfl ?_)
 ·exact ⟨congrArg (fun l => some (D.arr 2 l c)) (hC1 k8 hk8), True.intro⟩
 have hl2 : (A.take (i + 1) ++ A.drop i).length = xs.length + 1 := by rw [List.length_append, List.length_take, List.length_drop, hA]; omega
 have hb2 : (A.take (i + 1) ++ A.drop i).map D.bare = A.take (i + 1) ++ A.drop i := by rw [List.map_append, List.map_take, List.map_drop, hbare]
 have hkle : ∀ k : Nat, k = min 1 (((xs.length + 1 : Nat) : Int) - (i : Int)).toNat → k ≤ ([x.D].take 1).length := fun k hk => by simp only [List.take_succ_cons, List.length_cons]; omega
 have hC2 : ∀ k : Nat, k = min 1 (((xs.length + 1 : Nat) : Int) - (i : Int)).toNat → (A.take (i + 1) ++ A.drop i).take (0 + (i : Int).toNat) ++ ([x.D].take 1).take k ++ (A.take (i + 1) ++ A.drop i).drop (0 + (i : Int).toNat + k) = A.take i ++ x.D :: A.drop i := fun k hk => ins_r2 hA hin (by omega) (by omega)
 generalize A.take (i + 1) ++ A.drop i = B at *
 have j6 : 0 + (i : Int).toNat ≤ B.length := by omega
 have j7 : 0 + (i : Int).toNat + (((xs.length + 1 : Nat) : Int) - (i : Int)).toNat ≤ c := by omega
 refine XS.go ?_
 conv => whnf
 repeat' (first | ((refine And.intro j5 ?_; conv => whnf)) | ((refine And.intro j0 ?_; conv => whnf)) | ((refine And.intro o2 ?_; conv => whnf)) | ((refine And.intro j6 ?_; conv => whnf)) | ((refine And.intro j7 ?_; conv => whnf)) | ((refine And.intro hb2 ?_; conv => whnf)) | ((refine fun k9 (hk9 : k9 = min 1 (((xs.length + 1 : Nat) : Int) - (i : Int)).toNat) => And.intro (hkle k9 hk9) ?_; conv => whnf)) | (refine g_op ?_; conv => whnf) | (refine And.intro ?_ ?_; (focus exact au0); conv => whnf) | (refine g_seq ?_) | (refine g_ops ?_) | (refine g_nil ?_; conv => whnf) | fail)
 refine XS.weakenA (fs := [.lvw 0 b 0 0 (xs.length + 1) c]) (ls := [(0, .arr 2 (A.take i ++ x.D :: A.drop i) c)]) ⟨?_, ?_⟩ ?_
 ·repeat' (first | exact True.intro | refine And.intro rfl ?_)
 ·exact ⟨congrArg (fun l => some (D.arr 2 l c)) (hC2 k9 hk9), True.intro⟩
 refine XS.go ?_
 conv => whnf
 repeat' (first | (refine g_op ?_; conv => whnf) | (refine And.intro ?_ ?_; (focus exact au0); conv => whnf) | (refine g_seq ?_) | (refine g_ops ?_) | (refine g_nil ?_; conv => whnf) | fail)
 refine XS.move 0 6 [6] rfl ?_
 refine XS.go ?_
 repeat' (first | (refine And.intro ?_ ?_; (focus exact au0); conv => whnf) | ((first | refine g_ret ?_ | refine r_t ?_ | refine r_nil ?_); conv => whnf) | fail)
 exact ⟨b, c, by omega, .inr rfl, congrArg (fun l => [(6, b, D.arr 2 l c)]) hmap.symm⟩
/-- slices.Insert of one value: s, v: the names of the row and of the value's row, r: the name of what comes back. -/
theorem insR_StewBerth (s r : Nat) (x : StewBerth) (xs : List StewBerth) (i b c : Nat) (hi : i ≤ xs.length) (hl : xs.length ≤ 1048576) :
  XC Try.prog 159 [.lsl s b xs.length c, .int .i64 (i : Int), .ro 2 [x.D]] [(s, b, .arr 2 (xs.map StewBerth.D) c)] (fun d ls => ∃ b' c', d = .lsl r b' (insAt xs i x).length c' ∧ ls = [(r, b', .arr 2 ((insAt xs i x).map StewBerth.D) c')]) := by
 have hil : (insAt xs i x).length = xs.length + 1 := by simp [insAt]; omega
 refine (insR0_StewBerth x xs i b c hi hl).renm (fun _ _ _ h => h) rfl (fun d ls ⟨b', c', hc', h1, h2⟩ => ?_)
 subst h2
 refine ⟨.lsl r b' (insAt xs i x).length c', _, ⟨b', c', rfl, rfl⟩, fun _ _ _ h => HolL.renm rfl h, fun U w v hv => ?_⟩
 rw [hil]
 rcases h1 with h1 | h1
 ·subst h1
  exact hv
 ·subst h1
  exact hv
theorem insR0_StewService (x : StewService) (xs : List StewService) (i b c : Nat) (hi : i ≤ xs.length) (hl : xs.length ≤ 1048576) :
  XC Try.prog 152 [.lsl 0 b xs.length c, .int .i64 (i : Int), .ro 13 [x.D]] [(0, b, .arr 13 (xs.map StewService.D) c)] (fun d ls => ∃ b' c', xs.length + 1 ≤ c' ∧ (d = .lsl 6 b' (xs.length + 1) c' ∨ d = .lvw 0 b' 0 0 (xs.length + 1) c') ∧ ls = [(6, b', .arr 13 ((insAt xs i x).map StewService.D) c')]) := by
 refine XC.intro' hm [6] rfl c152 (Nat.le_of_ble_eq_true rfl) ?_
 conv => whnf
 repeat' (first | (refine g_op ?_; conv => whnf) | (refine And.intro ?_ ?_; (focus exact au0); conv => whnf) | (refine g_seq ?_) | (refine g_ops ?_) | (refine g_nil ?_; conv => whnf) | fail)
 refine XS.capLe2 0 rfl fun hcp => ?_
 rw [List.length_map] at hcp
 have h1 : (i : Int) ≤ ((xs.length : Nat) : Int) := by omega
 have h2 : ((xs.length : Nat) : Int) ≤ (c : Int) := by omega
 have hA : (xs.map StewService.D).length = xs.length := List.length_map ..
 have hlm : xs.length = (xs.map StewService.D).length := hA.symm
 have hbare : (xs.map StewService.D).map D.bare = xs.map StewService.D := by rw [List.map_map]; rfl
 have hbig : (xs.map StewService.D).length + [x.D].length ≤ 1073741824 := by rw [hA]; simp only [List.length_cons, List.length_nil]; omega
 have hmap : (insAt xs i x).map StewService.D = (xs.map StewService.D).take i ++ x.D :: (xs.map StewService.D).drop i := by simp only [insAt, List.map_append, List.map_cons, List.map_take, List.map_drop]
 refine XS.go ?_
 repeat' (first | ((refine And.intro h1 ?_; conv => whnf)) | ((refine And.intro h2 ?_; conv => whnf)) | (refine g_op ?_; conv => whnf) | (refine And.intro ?_ ?_; (focus exact au0); conv => whnf) | (refine g_seq ?_) | (refine XS.go ?_) | (refine g_ops ?_) | (refine g_nil ?_; conv => whnf) | (refine Br.f ?_ ?_; (focus (first | assumption | exact rfl)); conv => whnf) | ((first | refine g_cond ?_ | refine g_skip ?_); conv => whnf) | fail)
 refine Br.mk (fun hb => ?_) (fun hb => ?_)
 ·have hin : i = xs.length := by
   have q := hb
   simp at q
   omega
  clear hb
  conv => whnf
  repeat' (first | ((refine And.intro hlm ?_; conv => whnf)) | ((refine And.intro hbig ?_; conv => whnf)) | ((refine fun n1 b1 c1 hn1 hc1 => ?_; conv => whnf)) | (refine g_op ?_; conv => whnf) | (refine And.intro ?_ ?_; (focus exact au0); conv => whnf) | (refine g_seq ?_) | (refine g_ops ?_) | (refine g_nil ?_; conv => whnf) | fail)
  refine XS.move 25 6 [6] rfl ?_
  refine XS.go ?_
  repeat' (first | (refine And.intro ?_ ?_; (focus exact au0); conv => whnf) | ((first | refine g_ret ?_ | refine r_t ?_ | refine r_nil ?_); conv => whnf) | fail)
  have hn2 : n1 = xs.length + 1 := by rw [hn1, hA]; rfl
  subst hn2
  refine ⟨b1, c1, hc1, .inl rfl, ?_⟩
  rw [hmap, hin]
  have e1 : (xs.map StewService.D).take xs.length = xs.map StewService.D := by rw [← hA]; exact List.take_length
  have e2 : (xs.map StewService.D).drop xs.length = [] := by rw [← hA]; exact List.drop_length
  rw [e1, e2]
  rfl
 have hin : i < xs.length := by
  have q := hb
  simp at q
  omega
 clear hb
 generalize xs.map StewService.D = A at *
 conv => whnf
 repeat' (first | (refine g_op ?_; conv => whnf) | (refine And.intro ?_ ?_; (focus exact au0); conv => whnf) | (refine g_seq ?_) | (refine XS.go ?_) | (refine g_ops ?_) | ((first | refine g_nil ?_ | refine g_cond ?_ | refine g_skip ?_); conv => whnf) | fail)
 refine Br.mk (fun hb => ?_) (fun hb => ?_)
 ·have hw1 : IntKind.wrap .i64 ((xs.length : Int) + ((1 : Nat) : Int)) = (xs.length : Int) + 1 := wrap_ok (by omega) (by omega)
  have hk : IntKind.wrap .i64 (IntKind.wrap .i64 ((xs.length : Int) + ((1 : Nat) : Int)) - (i : Int)) = (xs.length : Int) + 1 - i := by rw [hw1]; exact wrap_ok (by omega) (by omega)
  have hcc : (c : Int) < (xs.length : Int) + 1 := by
   have q := hb
   rw [show (([x.D].length : Nat) : Int) = ((1 : Nat) : Int) from rfl] at q
   rw [hw1] at q
   simpa using q
  clear hb
  have k1 : 0 ≤ (i : Int) ∧ (i : Int) ≤ (c : Int) := by omega
  have k2 : 0 < IntKind.wrap .i64 (IntKind.wrap .i64 ((xs.length : Int) + ((1 : Nat) : Int)) - (i : Int)) := by rw [hk]; omega
  have k3 : (c : Int) < (((i : Int).toNat : Nat) : Int) + IntKind.wrap .i64 (IntKind.wrap .i64 ((xs.length : Int) + ((1 : Nat) : Int)) - (i : Int)) := by rw [hk]; omega
  have k4 : (((i : Int).toNat : Nat) : Int) + IntKind.wrap .i64 (IntKind.wrap .i64 ((xs.length : Int) + ((1 : Nat) : Int)) - (i : Int)) ≤ 1073741824 := by rw [hk]; omega
  have k5 : (i : Int).toNat ≤ A.length := by omega
  have k6 : (i : Int).toNat ≤ c := by omega
  conv => whnf
  repeat' (first | ((refine And.intro k1.2 ?_; conv => whnf)) | ((refine And.intro k2 ?_; conv => whnf)) | ((refine And.intro k3 ?_; conv => whnf)) | ((refine And.intro k4 ?_; conv => whnf)) | ((refine And.intro k5 ?_; conv => whnf)) | ((refine And.intro k6 ?_; conv => whnf)) | ((refine And.intro hbare ?_; conv => whnf)) | ((refine fun m1 b1 c1 hn1 hc1 => ?_; conv => whnf)) | (refine g_op ?_; conv => whnf) | (refine And.intro ?_ ?_; (focus exact au0); conv => whnf) | (refine g_seq ?_) | (refine g_ops ?_) | (refine g_nil ?_; conv => whnf) | fail)
  have hm1 : m1 = xs.length + 1 := by rw [hn1]; rw [show (([x.D].length : Nat) : Int) = ((1 : Nat) : Int) from rfl, hk]; omega
  have hkn : (IntKind.wrap .i64 (IntKind.wrap .i64 ((xs.length : Int) + ((1 : Nat) : Int)) - (i : Int))).toNat = xs.length + 1 - i := by rw [hk]; omega
  have hC : A.take ((i : Int) - 0).toNat ++ List.replicate (IntKind.wrap .i64 (IntKind.wrap .i64 ((xs.length : Int) + ((1 : Nat) : Int)) - (i : Int))).toNat (Go.Ab.D.agg [.str ⟨#[]⟩, .int .i64 0, .bool false, .int .i64 0, .int .i64 0, .int .i64 0, .int .i64 0, .int .i64 0, .int .i64 0, .int .i64 0, .int .i64 0, .int .i64 0, .int .i64 0]) = A.take i ++ List.replicate (xs.length + 1 - i) (Go.Ab.D.agg [.str ⟨#[]⟩, .int .i64 0, .bool false, .int .i64 0, .int .i64 0, .int .i64 0, .int .i64 0, .int .i64 0, .int .i64 0, .int .i64 0, .int .i64 0, .int .i64 0, .int .i64 0]) := by
   rw [hkn]
   have e : ((i : Int) - 0).toNat = i := by omega
   rw [e]
  subst hm1
  refine XS.weakenA (fs := [.lsl 0 b xs.length c, .int .i64 (i : Int), .ro 13 [x.D], .any, .any, .any, .any, .int .i64 ((1 : Nat) : Int), .any, .lsl 40 b1 (xs.length + 1) c1]) (ls := [(0, .arr 13 A c), (40, .arr 13 (A.take i ++ List.replicate (xs.length + 1 - i) (Go.Ab.D.agg [.str ⟨#[]⟩, .int .i64 0, .bool false, .int .i64 0, .int .i64 0, .int .i64 0, .int .i64 0, .int .i64 0, .int .i64 0, .int .i64 0, .int .i64 0, .int .i64 0, .int .i64 0])) c1)]) ⟨?_, ?_⟩ ?_
  ·repeat' (first | exact True.intro | refine And.intro rfl ?_)
  ·exact ⟨rfl, congrArg (fun l => some (D.arr 13 l c1)) hC, True.intro⟩
  have hl1 : (A.take i ++ List.replicate (xs.length + 1 - i) (Go.Ab.D.agg [.str ⟨#[]⟩, .int .i64 0, .bool false, .int .i64 0, .int .i64 0, .int .i64 0, .int .i64 0, .int .i64 0, .int .i64 0, .int .i64 0, .int .i64 0, .int .i64 0, .int .i64 0])).length = xs.length + 1 := by rw [List.length_append, List.length_take, List.length_replicate, hA]; omega
  have hb1 : (A.take i ++ List.replicate (xs.length + 1 - i) (Go.Ab.D.agg [.str ⟨#[]⟩, .int .i64 0, .bool false, .int .i64 0, .int .i64 0, .int .i64 0, .int .i64 0, .int .i64 0, .int .i64 0, .int .i64 0, .int .i64 0, .int .i64 0, .int .i64 0])).map D.bare = A.take i ++ List.replicate (xs.length + 1 - i) (Go.Ab.D.agg [.str ⟨#[]⟩, .int .i64 0, .bool false, .int .i64 0, .int .i64 0, .int .i64 0, .int .i64 0, .int .i64 0, .int .i64 0, .int .i64 0, .int .i64 0, .int .i64 0, .int .i64 0]) := by rw [List.map_append, List.map_take, hbare, List.map_replicate]; rfl
  have hC1 : ∀ k, k = 1 → (A.take i ++ List.replicate (xs.length + 1 - i) (Go.Ab.D.agg [.str ⟨#[]⟩, .int .i64 0, .bool false, .int .i64 0, .int .i64 0, .int .i64 0, .int .i64 0, .int .i64 0, .int .i64 0, .int .i64 0, .int .i64 0, .int .i64 0, .int .i64 0])).take (i : Int).toNat ++ ([x.D].take 1).take k ++ (A.take i ++ List.replicate (xs.length + 1 - i) (Go.Ab.D.agg [.str ⟨#[]⟩, .int .i64 0, .bool false, .int .i64 0, .int .i64 0, .int .i64 0, .int .i64 0, .int .i64 0, .int .i64 0, .int .i64 0, .int .i64 0, .int .i64 0, .int .i64 0])).drop ((i : Int).toNat + k) = A.take i ++ x.D :: List.replicate (xs.length - i) (Go.Ab.D.agg [.str ⟨#[]⟩, .int .i64 0, .bool false, .int .i64 0, .int .i64 0, .int .i64 0, .int .i64 0, .int .i64 0, .int .i64 0, .int .i64 0, .int .i64 0, .int .i64 0, .int .i64 0]) := fun k hk => by
   subst hk
   exact ins_g1 (by omega) (by omega)
  generalize hB : A.take i ++ List.replicate (xs.length + 1 - i) (Go.Ab.D.agg [.str ⟨#[]⟩, .int .i64 0, .bool false, .int .i64 0, .int .i64 0, .int .i64 0, .int .i64 0, .int .i64 0, .int .i64 0, .int .i64 0, .int .i64 0, .int .i64 0, .int .i64 0]) = B at *
  have k1' : (i : Int) ≤ ((xs.length + 1 : Nat) : Int) := by omega
  have k2' : ((xs.length + 1 : Nat) : Int) ≤ (c1 : Int) := by omega
  have k3' : (i : Int).toNat ≤ B.length := by omega
  have k4' : (i : Int).toNat + (((xs.length + 1 : Nat) : Int) - (i : Int)).toNat ≤ c1 := by omega
  refine XS.go ?_
  conv => whnf
  have hkle : ∀ k : Nat, k = min 1 (((xs.length + 1 : Nat) : Int) - (i : Int)).toNat → k ≤ ([x.D].take 1).length := fun k hk => by simp only [List.take_succ_cons, List.length_cons]; omega
  repeat' (first | ((refine And.intro k1' ?_; conv => whnf)) | ((refine And.intro k2' ?_; conv => whnf)) | ((refine And.intro k3' ?_; conv => whnf)) | ((refine And.intro k4' ?_; conv => whnf)) | ((refine And.intro hb1 ?_; conv => whnf)) | ((refine fun k9 (hk9 : k9 = min 1 (((xs.length + 1 : Nat) : Int) - (i : Int)).toNat) => And.intro (hkle k9 hk9) ?_; conv => whnf)) | (refine g_op ?_; conv => whnf) | (refine And.intro ?_ ?_; (focus exact au0); conv => whnf) | (refine g_seq ?_) | (refine g_ops ?_) | (refine g_nil ?_; conv => whnf) | fail)
  refine XS.weakenA (fs := [.lsl 0 b xs.length c, .int .i64 (i : Int), .ro 13 [x.D], .any, .any, .any, .any, .int .i64 ((1 : Nat) : Int), .any, .lsl 40 b1 (xs.length + 1) c1]) (ls := [(0, .arr 13 A c), (40, .arr 13 (A.take i ++ x.D :: List.replicate (xs.length - i) (Go.Ab.D.agg [.str ⟨#[]⟩, .int .i64 0, .bool false, .int .i64 0, .int .i64 0, .int .i64 0, .int .i64 0, .int .i64 0, .int .i64 0, .int .i64 0, .int .i64 0, .int .i64 0, .int .i64 0])) c1)]) ⟨?_, ?_⟩ ?_
  ·repeat' (first | exact True.intro | refine And.intro rfl ?_)
  ·exact ⟨rfl, congrArg (fun l => some (D.arr 13 l c1)) (hC1 k9 (by omega)), True.intro⟩
  have hl2 : (A.take i ++ x.D :: List.replicate (xs.length - i) (Go.Ab.D.agg [.str ⟨#[]⟩, .int .i64 0, .bool false, .int .i64 0, .int .i64 0, .int .i64 0, .int .i64 0, .int .i64 0, .int .i64 0, .int .i64 0, .int .i64 0, .int .i64 0, .int .i64 0])).length = xs.length + 1 := by rw [List.length_append, List.length_take, List.length_cons, List.length_replicate, hA]; omega
  have hb2 : (A.take i ++ x.D :: List.replicate (xs.length - i) (Go.Ab.D.agg [.str ⟨#[]⟩, .int .i64 0, .bool false, .int .i64 0, .int .i64 0, .int .i64 0, .int .i64 0, .int .i64 0, .int .i64 0, .int .i64 0, .int .i64 0, .int .i64 0, .int .i64 0])).map D.bare = A.take i ++ x.D :: List.replicate (xs.length - i) (Go.Ab.D.agg [.str ⟨#[]⟩, .int .i64 0, .bool false, .int .i64 0, .int .i64 0, .int .i64 0, .int .i64 0, .int .i64 0, .int .i64 0, .int .i64 0, .int .i64 0, .int .i64 0, .int .i64 0]) := by rw [List.map_append, List.map_take, hbare, List.map_cons, List.map_replicate]; rfl
  have hwi : IntKind.wrap .i64 ((i : Int) + ((1 : Nat) : Int)) = (i : Int) + 1 := wrap_ok (by omega) (by omega)
  have hC2 : ∀ k, k = min (((xs.length : Nat) : Int) - (i : Int)).toNat (((xs.length + 1 : Nat) : Int) - IntKind.wrap .i64 ((i : Int) + ((1 : Nat) : Int))).toNat → (A.take i ++ x.D :: List.replicate (xs.length - i) (Go.Ab.D.agg [.str ⟨#[]⟩, .int .i64 0, .bool false, .int .i64 0, .int .i64 0, .int .i64 0, .int .i64 0, .int .i64 0, .int .i64 0, .int .i64 0, .int .i64 0, .int .i64 0, .int .i64 0])).take (IntKind.wrap .i64 ((i : Int) + ((1 : Nat) : Int))).toNat ++ ((A.drop (i : Int).toNat).take (((xs.length : Nat) : Int) - (i : Int)).toNat).take k ++ (A.take i ++ x.D :: List.replicate (xs.length - i) (Go.Ab.D.agg [.str ⟨#[]⟩, .int .i64 0, .bool false, .int .i64 0, .int .i64 0, .int .i64 0, .int .i64 0, .int .i64 0, .int .i64 0, .int .i64 0, .int .i64 0, .int .i64 0, .int .i64 0])).drop ((IntKind.wrap .i64 ((i : Int) + ((1 : Nat) : Int))).toNat + k) = A.take i ++ x.D :: A.drop i := fun k hk => by
   rw [hwi] at hk ⊢
   exact ins_g2 hA hin (by omega) (by omega) (by omega) (by omega)
  generalize hB2 : A.take i ++ x.D :: List.replicate (xs.length - i) (Go.Ab.D.agg [.str ⟨#[]⟩, .int .i64 0, .bool false, .int .i64 0, .int .i64 0, .int .i64 0, .int .i64 0, .int .i64 0, .int .i64 0, .int .i64 0, .int .i64 0, .int .i64 0, .int .i64 0]) = B2 at *
  have j1 : 0 ≤ IntKind.wrap .i64 ((i : Int) + ((1 : Nat) : Int)) := by rw [hwi]; omega
  have j2 : IntKind.wrap .i64 ((i : Int) + ((1 : Nat) : Int)) ≤ ((xs.length + 1 : Nat) : Int) := by rw [hwi]; omega
  have j3 : (IntKind.wrap .i64 ((i : Int) + ((1 : Nat) : Int))).toNat ≤ B2.length := by rw [hwi]; omega
  have j4 : (IntKind.wrap .i64 ((i : Int) + ((1 : Nat) : Int))).toNat + (((xs.length + 1 : Nat) : Int) - IntKind.wrap .i64 ((i : Int) + ((1 : Nat) : Int))).toNat ≤ c1 := by rw [hwi]; omega
  have hkle2 : ∀ k, k = min (((xs.length : Nat) : Int) - (i : Int)).toNat (((xs.length + 1 : Nat) : Int) - IntKind.wrap .i64 ((i : Int) + ((1 : Nat) : Int))).toNat → k ≤ ((A.drop (i : Int).toNat).take (((xs.length : Nat) : Int) - (i : Int)).toNat).length := fun k hk => by rw [List.length_take, List.length_drop, hA]; omega
  refine XS.go ?_
  conv => whnf
  repeat' (first | ((refine And.intro j1 ?_; conv => whnf)) | ((refine And.intro j2 ?_; conv => whnf)) | ((refine And.intro k2' ?_; conv => whnf)) | ((refine And.intro h1 ?_; conv => whnf)) | ((refine And.intro h2 ?_; conv => whnf)) | ((refine And.intro j3 ?_; conv => whnf)) | ((refine And.intro j4 ?_; conv => whnf)) | ((refine And.intro hb2 ?_; conv => whnf)) | ((refine And.intro hbare ?_; conv => whnf)) | ((refine fun k8 (hk8 : k8 = min (((xs.length : Nat) : Int) - (i : Int)).toNat (((xs.length + 1 : Nat) : Int) - IntKind.wrap .i64 ((i : Int) + ((1 : Nat) : Int))).toNat) => And.intro (hkle2 k8 hk8) ?_; conv => whnf)) | ((refine And.intro True.intro ?_; conv => whnf)) | (refine And.intro ?_ ?_; (focus exact au0); conv => whnf) | (refine g_seq ?_) | (refine g_drawn ?_) | ((first | refine d_p ?_ | refine d_e ?_ | refine d_nil ?_); conv => whnf) | fail)
  refine XS.weakenA (fs := [.any, .any, .any, .any, .any, .any, .any, .any, .any, .lsl 40 b1 (xs.length + 1) c1]) (ls := [(40, .arr 13 (A.take i ++ x.D :: A.drop i) c1)]) ⟨?_, ?_⟩ ?_
  ·repeat' (first | exact True.intro | refine And.intro rfl ?_)
  ·exact ⟨congrArg (fun l => some (D.arr 13 l c1)) (hC2 k8 hk8), True.intro⟩
  refine XS.go ?_
  conv => whnf
  repeat' (first | (refine g_op ?_; conv => whnf) | (refine And.intro ?_ ?_; (focus exact au0); conv => whnf) | (refine g_seq ?_) | (refine g_ops ?_) | (refine g_nil ?_; conv => whnf) | fail)
  refine XS.move 40 6 [6] rfl ?_
  refine XS.go ?_
  repeat' (first | (refine And.intro ?_ ?_; (focus exact au0); conv => whnf) | ((first | refine g_ret ?_ | refine r_t ?_ | refine r_nil ?_); conv => whnf) | fail)
  exact ⟨b1, c1, hc1, .inl rfl, congrArg (fun l => [(6, b1, D.arr 13 l c1)]) hmap.symm⟩
 have hw1 : IntKind.wrap .i64 ((xs.length : Int) + ((1 : Nat) : Int)) = (xs.length : Int) + 1 := wrap_ok (by omega) (by omega)
 have hcc : (xs.length : Int) + 1 ≤ (c : Int) := by
  have q := hb
  rw [show (([x.D].length : Nat) : Int) = ((1 : Nat) : Int) from rfl] at q
  rw [hw1] at q
  simpa using q
 clear hb
 have k1 : 0 ≤ IntKind.wrap .i64 ((xs.length : Int) + ((1 : Nat) : Int)) := by rw [hw1]; omega
 have k2 : IntKind.wrap .i64 ((xs.length : Int) + ((1 : Nat) : Int)) ≤ (c : Int) := by rw [hw1]; omega
 conv => whnf
 repeat' (first | (refine g_skip ?_; conv => whnf) | fail)
 refine XS.go ?_
 conv => whnf
 repeat' (first | ((refine And.intro k1 ?_; conv => whnf)) | ((refine And.intro k2 ?_; conv => whnf)) | (refine g_op ?_; conv => whnf) | (refine And.intro ?_ ?_; (focus exact au0); conv => whnf) | (refine g_seq ?_) | (refine g_ops ?_) | (refine g_nil ?_; conv => whnf) | fail)
 have he : (IntKind.wrap .i64 ((xs.length : Int) + ((1 : Nat) : Int)) - 0).toNat = xs.length + 1 := by rw [hw1]; omega
 refine XS.weakenA (fs := [.lvw 0 b 0 0 (xs.length + 1) c, .int .i64 (i : Int), .ro 13 [x.D], .any, .any, .any, .any, .int .i64 ((1 : Nat) : Int), .int .i64 (xs.length : Int)]) (ls := [(0, .arr 13 A c)]) ⟨?_, ?_⟩ ?_
 ·repeat' (first | exact True.intro | refine And.intro rfl ?_ | refine And.intro (congrArg (fun m => D.lvw 0 b 0 0 m c) he) ?_)
 ·exact ⟨rfl, True.intro⟩
 have hwi : IntKind.wrap .i64 ((i : Int) + ((1 : Nat) : Int)) = (i : Int) + 1 := wrap_ok (by omega) (by omega)
 have j1 : 0 ≤ IntKind.wrap .i64 ((i : Int) + ((1 : Nat) : Int)) := by rw [hwi]; omega
 have j2 : IntKind.wrap .i64 ((i : Int) + ((1 : Nat) : Int)) ≤ ((xs.length + 1 : Nat) : Int) := by rw [hwi]; omega
 have j0 : ((xs.length + 1 : Nat) : Int) ≤ (c : Int) := by omega
 have q1 : [x.D].length * 13 ≠ 0 := by show 1 * 13 ≠ 0; decide
 have q2 : c ≠ 0 := by omega
 have q3 : c - (IntKind.wrap .i64 ((i : Int) + ((1 : Nat) : Int))).toNat ≠ 0 := by rw [hwi]; omega
 have o1 : 0 + (IntKind.wrap .i64 ((i : Int) + ((1 : Nat) : Int))).toNat * 13 = (0 + (IntKind.wrap .i64 ((i : Int) + ((1 : Nat) : Int))).toNat) * 13 := by omega
 have o2 : 0 + (i : Int).toNat * 13 = (0 + (i : Int).toNat) * 13 := by omega
 have j3 : 0 + (IntKind.wrap .i64 ((i : Int) + ((1 : Nat) : Int))).toNat ≤ A.length := by rw [hwi]; omega
 have j4 : 0 + (IntKind.wrap .i64 ((i : Int) + ((1 : Nat) : Int))).toNat + (((xs.length + 1 : Nat) : Int) - IntKind.wrap .i64 ((i : Int) + ((1 : Nat) : Int))).toNat ≤ c := by rw [hwi]; omega
 have j5 : (i : Int) ≤ ((xs.length + 1 : Nat) : Int) := by omega
 have hkle2 : ∀ k, k = min (((xs.length + 1 : Nat) : Int) - (i : Int)).toNat (((xs.length + 1 : Nat) : Int) - IntKind.wrap .i64 ((i : Int) + ((1 : Nat) : Int))).toNat → k ≤ ((A.drop (0 + (i : Int).toNat)).take (((xs.length + 1 : Nat) : Int) - (i : Int)).toNat).length := fun k hk => by rw [hwi] at hk; rw [List.length_take, List.length_drop, hA]; omega
 have hC1 : ∀ k, k = min (((xs.length + 1 : Nat) : Int) - (i : Int)).toNat (((xs.length + 1 : Nat) : Int) - IntKind.wrap .i64 ((i : Int) + ((1 : Nat) : Int))).toNat → A.take (0 + (IntKind.wrap .i64 ((i : Int) + ((1 : Nat) : Int))).toNat) ++ ((A.drop (0 + (i : Int).toNat)).take (((xs.length + 1 : Nat) : Int) - (i : Int)).toNat).take k ++ A.drop (0 + (IntKind.wrap .i64 ((i : Int) + ((1 : Nat) : Int))).toNat + k) = A.take (i + 1) ++ A.drop i := fun k hk => by
  rw [hwi] at hk ⊢
  exact ins_r1 hA hin (by omega) (by omega) (by omega) (by omega)
 refine XS.go ?_
 conv => whnf
 repeat' (first | ((refine And.intro ovl_StewService ?_; conv => whnf)) | ((refine And.intro q1 ?_; conv => whnf)) | ((refine And.intro q2 ?_; conv => whnf)) | ((refine And.intro q3 ?_; conv => whnf)) | ((refine And.intro j1 ?_; conv => whnf)) | ((refine And.intro j2 ?_; conv => whnf)) | ((refine And.intro j0 ?_; conv => whnf)) | (refine g_op ?_; conv => whnf) | (refine And.intro ?_ ?_; (focus exact au0); conv => whnf) | (refine g_seq ?_) | (refine g_ops ?_) | (refine g_nil ?_; conv => whnf) | fail)
 refine XS.go ?_
 conv => whnf
 repeat' (first | ((refine And.intro j1 ?_; conv => whnf)) | ((refine And.intro j2 ?_; conv => whnf)) | ((refine And.intro j0 ?_; conv => whnf)) | ((refine And.intro o1 ?_; conv => whnf)) | ((refine And.intro o2 ?_; conv => whnf)) | ((refine And.intro j3 ?_; conv => whnf)) | ((refine And.intro j4 ?_; conv => whnf)) | ((refine And.intro j5 ?_; conv => whnf)) | ((refine And.intro hbare ?_; conv => whnf)) | ((refine fun k8 (hk8 : k8 = min (((xs.length + 1 : Nat) : Int) - (i : Int)).toNat (((xs.length + 1 : Nat) : Int) - IntKind.wrap .i64 ((i : Int) + ((1 : Nat) : Int))).toNat) => And.intro (hkle2 k8 hk8) ?_; conv => whnf)) | ((refine And.intro True.intro ?_; conv => whnf)) | (refine And.intro ?_ ?_; (focus exact au0); conv => whnf) | (refine g_seq ?_) | (refine Br.t ?_ ?_; (focus (first | assumption | exact rfl)); conv => whnf) | (refine g_cond ?_; conv => whnf) | (refine g_drawn ?_) | ((first | refine d_p ?_ | refine d_e ?_ | refine d_nil ?_); conv => whnf) | fail)
 refine XS.weakenA (fs := [.lvw 0 b 0 0 (xs.length + 1) c, .int .i64 (i : Int), .ro 13 [x.D], .any, .any, .any, .any, .int .i64 ((1 : Nat) : Int), .int .i64 (xs.length : Int)]) (ls := [(0, .arr 13 (A.take (i + 1) ++ A.drop i) c)]) ⟨?_, ?_⟩ ?_
 ·repeat' (first | exact True.intro | refine And.intro rfl ?_)
 ·exact ⟨congrArg (fun l => some (D.arr 13 l c)) (hC1 k8 hk8), True.intro⟩
 have hl2 : (A.take (i + 1) ++ A.drop i).length = xs.length + 1 := by rw [List.length_append, List.length_take, List.length_drop, hA]; omega
 have hb2 : (A.take (i + 1) ++ A.drop i).map D.bare = A.take (i + 1) ++ A.drop i := by rw [List.map_append, List.map_take, List.map_drop, hbare]
 have hkle : ∀ k : Nat, k = min 1 (((xs.length + 1 : Nat) : Int) - (i : Int)).toNat → k ≤ ([x.D].take 1).length := fun k hk => by simp only [List.take_succ_cons, List.length_cons]; omega
 have hC2 : ∀ k : Nat, k = min 1 (((xs.length + 1 : Nat) : Int) - (i : Int)).toNat → (A.take (i + 1) ++ A.drop i).take (0 + (i : Int).toNat) ++ ([x.D].take 1).take k ++ (A.take (i + 1) ++ A.drop i).drop (0 + (i : Int).toNat + k) = A.take i ++ x.D :: A.drop i := fun k hk => ins_r2 hA hin (by omega) (by omega)
 generalize A.take (i + 1) ++ A.drop i = B at *
 have j6 : 0 + (i : Int).toNat ≤ B.length := by omega
 have j7 : 0 + (i : Int).toNat + (((xs.length + 1 : Nat) : Int) - (i : Int)).toNat ≤ c := by omega
 refine XS.go ?_
 conv => whnf
 repeat' (first | ((refine And.intro j5 ?_; conv => whnf)) | ((refine And.intro j0 ?_; conv => whnf)) | ((refine And.intro o2 ?_; conv => whnf)) | ((refine And.intro j6 ?_; conv => whnf)) | ((refine And.intro j7 ?_; conv => whnf)) | ((refine And.intro hb2 ?_; conv => whnf)) | ((refine fun k9 (hk9 : k9 = min 1 (((xs.length + 1 : Nat) : Int) - (i : Int)).toNat) => And.intro (hkle k9 hk9) ?_; conv => whnf)) | (refine g_op ?_; conv => whnf) | (refine And.intro ?_ ?_; (focus exact au0); conv => whnf) | (refine g_seq ?_) | (refine g_ops ?_) | (refine g_nil ?_; conv => whnf) | fail)
 refine XS.weakenA (fs := [.lvw 0 b 0 0 (xs.length + 1) c]) (ls := [(0, .arr 13 (A.take i ++ x.D :: A.drop i) c)]) ⟨?_, ?_⟩ ?_
 ·repeat' (first | exact True.intro | refine And.intro rfl ?_)
 ·exact ⟨congrArg (fun l => some (D.arr 13 l c)) (hC2 k9 hk9), True.intro⟩
 refine XS.go ?_
 conv => whnf
 repeat' (first | (refine g_op ?_; conv => whnf) | (refine And.intro ?_ ?_; (focus exact au0); conv => whnf) | (refine g_seq ?_) | (refine g_ops ?_) | (refine g_nil ?_; conv => whnf) | fail)
 refine XS.move 0 6 [6] rfl ?_
 refine XS.go ?_
 repeat' (first | (refine And.intro ?_ ?_; (focus exact au0); conv => whnf) | ((first | refine g_ret ?_ | refine r_t ?_ | refine r_nil ?_); conv => whnf) | fail)
 exact ⟨b, c, by omega, .inr rfl, congrArg (fun l => [(6, b, D.arr 13 l c)]) hmap.symm⟩
/-- slices.Insert of one value: s, v: the names of the row and of the value's row, r: the name of what comes back. -/
theorem insR_StewService (s r : Nat) (x : StewService) (xs : List StewService) (i b c : Nat) (hi : i ≤ xs.length) (hl : xs.length ≤ 1048576) :
  XC Try.prog 152 [.lsl s b xs.length c, .int .i64 (i : Int), .ro 13 [x.D]] [(s, b, .arr 13 (xs.map StewService.D) c)] (fun d ls => ∃ b' c', d = .lsl r b' (insAt xs i x).length c' ∧ ls = [(r, b', .arr 13 ((insAt xs i x).map StewService.D) c')]) := by
 have hil : (insAt xs i x).length = xs.length + 1 := by simp [insAt]; omega
 refine (insR0_StewService x xs i b c hi hl).renm (fun _ _ _ h => h) rfl (fun d ls ⟨b', c', hc', h1, h2⟩ => ?_)
 subst h2
 refine ⟨.lsl r b' (insAt xs i x).length c', _, ⟨b', c', rfl, rfl⟩, fun _ _ _ h => HolL.renm rfl h, fun U w v hv => ?_⟩
 rw [hil]
 rcases h1 with h1 | h1
 ·subst h1
  exact hv
 ·subst h1
  exact hv
end Go.Ab
set_option linter.unusedSimpArgs false
set_option linter.unusedVariables false
namespace Go.Ab
open Go Go.RowKit Go.Proofs
attribute [local irreducible] XC Rdr IntKind.wrap xw xos xqs xr xd
set_option maxRecDepth 100000
set_option maxHeartbeats 16000000
def cf151 : CF := ⟨9,[.t 3],(.seq (.ops [Oo 2 (.bx (.t 0)),Ok 3 (.bool false)]) (.seq (.ops [Of 4 0 2,Ol 5 4,Of 6 0 1,Ol 7 6,Ob 8 .gtr 5 7,Om 3 8]) .ret))⟩
theorem c151 : compileF Try.prog [] 151 = some cf151 := by kernel_rfl
def cf154 : CF := ⟨9,[.t 3],(.seq (.ops [Oo 2 (.bx (.t 0)),Ok 3 (.bool false)]) (.seq (.ops [Of 4 0 2,Ol 5 4,Oo 6 (.fa 14 1 2 (.t 1)),Ol 7 6,Ob 8 .eql 5 7,Om 3 8]) .ret))⟩
theorem c154 : compileF Try.prog [] 154 = some cf154 := by kernel_rfl
def cf156 : CF := ⟨14,[.t 3],(.seq (.ops [Oo 2 (.bx (.t 0)),Ok 3 (.bool false)]) (.seq (.ops [Of 4 4 2,Ol 5 4,Oo 6 (.bin .neq (.t 5) (.k (.int .i64 1))),Om 7 6,⟨some 8,.fa 6 1 6 (.t 2),some (7,true)⟩,⟨some 9,.ld 1 false (.t 8),some (7,true)⟩,⟨some 10,.fa 14 1 2 (.t 1),some (7,true)⟩,⟨some 11,.ld 1 false (.t 10),some (7,true)⟩,⟨some 12,.bin .eql (.t 9) (.t 11),some (7,true)⟩,Oo 13 (.pick (.t 7) (.t 12) (.k (.bool false))),Om 3 13]) .ret))⟩
theorem c156 : compileF Try.prog [] 156 = some cf156 := by kernel_rfl
def cf158 : CF := ⟨9,[.t 3],(.seq (.ops [Oo 2 (.bx (.t 0)),Ok 3 (.bool false)]) (.seq (.ops [Of 4 0 2,Ol 5 4,Oo 6 (.fa 14 1 2 (.t 1)),Ol 7 6,Ob 8 .gtr 5 7,Om 3 8]) .ret))⟩
theorem c158 : compileF Try.prog [] 158 = some cf158 := by kernel_rfl
def cf111 : CF := ⟨223,[.t 4],(.seq (.ops [Oo 3 (.bx (.t 1)),Ok 4 (.int .i64 0)]) (.seq (.seq (.ops [Of 11 0 3,Ol 12 11,Oo 13 (.bin .lss (.t 12) (.k (.int .i64 1))),Om 14 13,⟨some 15,.fa 0 1 0 (.t 3),some (14,false)⟩,⟨some 16,.ld 1 false (.t 15),some (14,false)⟩,⟨some 17,.bin .gtr (.t 16) (.k (.int .i64 6)),some (14,false)⟩,Oo 18 (.pick (.t 14) (.k (.bool true)) (.t 17))]) (.cond (.t 18) (.seq (.ops [Ok 4 (.int .i64 4)]) .ret) .skip)) (.seq (.seq (.ops [Om 19 0,On 20 19,Of 21 0 20,Ol 22 21,Oo 23 (.bin .eql (.t 22) (.k (.int .i64 1000000)))]) (.cond (.t 23) (.seq (.ops [Ok 4 (.int .i64 7)]) .ret) .skip)) (.seq (.ops [Om 24 0,On 25 24,Of 26 0 25,Ol 27 26,Oi 28 27,On 29 24,Of 30 0 29,Os 1 30 28]) (.seq (.seq (.ops [Of 31 0 3,Ol 32 31]) (.block 0 (.seq (.ops [Oo 34 (.bin .eql (.t 32) (.k (.int .i64 1))),Om 33 34]) (.cond (.t 33) (.ops [Om 35 0,Oc 36 149 [.t 35]]) (.seq (.ops [Oo 38 (.bin .eql (.t 32) (.k (.int .i64 2))),Om 37 38]) (.cond (.t 37) (.seq (.ops [Oo 39 (.fa 1 13 1 (.t 3)),Od 40 13 39,Oo 5 (.al (.agg [.str ⟨#[]⟩,.int .i64 0,.bool false,.int .i64 0,.int .i64 0,.int .i64 0,.int .i64 0,.int .i64 0,.int .i64 0,.int .i64 0,.int .i64 0,.int .i64 0,.int .i64 0])),Os 13 5 40]) (.seq (.seq (.ops [Om 41 0,Of 42 0 5,Ol 43 42,Oc 44 78 [.t 41,.t 43],Om 6 44]) (.seq (.ops [Om 45 6,Oo 46 (.ptb true (.t 45) (.k (.nilp)))]) (.cond (.t 46) (.ops [Om 47 6,On 48 47,Of 49 7 48,Ol 50 49,Of 51 7 5,Os 1 51 50]) (.seq (.ops [Of 52 7 5,⟨none,.st 1 (.t 52) (.k (.int .i64 1)),none⟩]) (.seq (.ops [Om 53 0,On 54 53,Of 55 1 54,Ol 56 55,Oo 57 (.fnm 151 [(.t 5)]),Oc 58 150 [.t 56,.t 57],Om 7 58]) (.seq (.seq (.ops [Om 59 7,Oo 60 (.bin .lss (.t 59) (.k (.int .i64 0)))]) (.cond (.t 60) (.ops [Om 61 0,On 62 61,Of 63 1 62,Ol 64 63,Og 65 64,Om 7 65]) .skip)) (.drawn [Qm 66 0,Qm 67 0,Qn 68 67,Qf 69 1 68,Ql 70 69,Qm 71 7,Qf 72 0 5,Ql 73 72,Qo 74 (.bld (.agg [.str ⟨#[]⟩,.int .i64 0,.bool false,.int .i64 0,.int .i64 0,.int .i64 0,.int .i64 0,.int .i64 0,.int .i64 0,.int .i64 0,.int .i64 0,.int .i64 0,.int .i64 0]) [(0,0,1,(.t 73))]),Qo 75 (.bsl (.agg [.str ⟨#[]⟩,.int .i64 0,.bool false,.int .i64 0,.int .i64 0,.int .i64 0,.int .i64 0,.int .i64 0,.int .i64 0,.int .i64 0,.int .i64 0,.int .i64 0,.int .i64 0]) 1 [(0,(.t 74))]),(Oc 76 152 [.t 70,.t 71,.t 75],true,[]),Qn 77 66,Qf 78 1 77,Qs 1 78 76]))))))) (.seq (.ops [Om 79 0,On 80 79,Of 81 0 80,Ol 82 81,Of 83 1 5,Os 1 83 82,Of 84 12 5,⟨none,.st 1 (.t 84) (.k (.int .i64 0)),none⟩]) (.drawn [Qm 85 0,Qf 86 0 5,Ql 87 86,Qd 89 13 5,(Oc 88 78 [.t 85,.t 87],true,[(.t 5)]),Qn 90 88,Qs 13 90 89])))) (.seq (.ops [Oo 92 (.bin .eql (.t 32) (.k (.int .i64 3))),Om 91 92]) (.cond (.t 91) (.seq (.ops [Om 93 0,Oo 94 (.fa 14 1 2 (.t 3)),Ol 95 94,Oo 96 (.fa 15 1 3 (.t 3)),Ol 97 96,Oc 98 96 [.t 93,.t 95,.t 97],Om 8 98]) (.seq (.seq (.ops [Om 99 8,Oo 100 (.ptb false (.t 99) (.k (.nilp))),Om 101 100,⟨some 102,.mv (.t 8),some (101,false)⟩,⟨some 103,.nilc (.t 102),some (101,false)⟩,⟨some 104,.fa 4 1 4 (.t 103),some (101,false)⟩,⟨some 105,.ld 1 false (.t 104),some (101,false)⟩,⟨some 106,.bin .neq (.t 105) (.k (.int .i64 3)),some (101,false)⟩,⟨some 107,.mv (.t 106),some (101,false)⟩,⟨some 108,.mv (.t 8),some (107,true)⟩,⟨some 109,.nilc (.t 108),some (107,true)⟩,⟨some 110,.fa 4 1 4 (.t 109),some (107,true)⟩,⟨some 111,.ld 1 false (.t 110),some (107,true)⟩,⟨some 112,.bin .neq (.t 111) (.k (.int .i64 2)),some (107,true)⟩,⟨some 113,.pick (.t 107) (.t 112) (.k (.bool false)),some (101,false)⟩,Oo 114 (.pick (.t 101) (.k (.bool true)) (.t 113))]) (.cond (.t 114) (.seq (.ops [Ok 4 (.int .i64 3)]) .ret) .skip)) (.ops [Om 115 8,Om 116 8,Om 117 0,On 118 117,Of 119 0 118,Ol 120 119,On 121 115,Of 122 4 121,⟨none,.st 1 (.t 122) (.k (.int .i64 4)),none⟩,On 123 116,Of 124 2 123,Os 1 124 120]))) (.seq (.ops [Oo 126 (.bin .eql (.t 32) (.k (.int .i64 4))),Om 125 126]) (.cond (.t 125) (.seq (.seq (.ops [Om 127 0,Oo 128 (.fa 14 1 2 (.t 3)),Ol 129 128,Oc 130 79 [.t 127,.t 129],Oo 131 (.ptb false (.t 130) (.k (.nilp)))]) (.cond (.t 131) (.seq (.ops [Ok 4 (.int .i64 3)]) .ret) .skip)) (.seq (.ops [Om 132 0,Om 133 0,On 134 133,Of 135 3 134,Ol 136 135,Oo 137 (.fnm 154 [(.t 3)]),Oc 138 153 [.t 136,.t 137],On 139 132,Of 140 3 139,Os 1 140 138]) (.ops [Om 141 0,Om 142 0,On 143 142,Of 144 2 143,Ol 145 144,Oo 146 (.fnm 156 [(.t 3)]),Oc 147 155 [.t 145,.t 146],On 148 141,Of 149 2 148,Os 1 149 147]))) (.seq (.ops [Oo 151 (.bin .eql (.t 32) (.k (.int .i64 5))),Om 150 151]) (.cond (.t 150) (.seq (.seq (.ops [Om 152 0,Oo 153 (.fa 14 1 2 (.t 3)),Ol 154 153,Oc 155 79 [.t 152,.t 154],Oo 156 (.ptb false (.t 155) (.k (.nilp)))]) (.cond (.t 156) (.seq (.ops [Om 157 0,On 158 157,Of 159 3 158,Ol 160 159,Oo 161 (.fnm 158 [(.t 3)]),Oc 162 157 [.t 160,.t 161],Om 9 162]) (.seq (.seq (.ops [Om 163 9,Oo 164 (.bin .lss (.t 163) (.k (.int .i64 0)))]) (.cond (.t 164) (.ops [Om 165 0,On 166 165,Of 167 3 166,Ol 168 167,Og 169 168,Om 9 169]) .skip)) (.drawn [Qm 170 0,Qm 171 0,Qn 172 171,Qf 173 3 172,Ql 174 173,Qm 175 9,Qo 176 (.fa 14 1 2 (.t 3)),Ql 177 176,Qo 178 (.bld (.agg [.str ⟨#[]⟩,.bool false]) [(0,0,1,(.t 177))]),Qo 179 (.bsl (.agg [.str ⟨#[]⟩,.bool false]) 1 [(0,(.t 178))]),(Oc 180 159 [.t 174,.t 175,.t 179],true,[]),Qn 181 170,Qf 182 3 181,Qs 1 182 180]))) .skip)) (.drawn [Qm 183 0,Qo 184 (.fa 14 1 2 (.t 3)),Ql 185 184,Qo 187 (.fa 16 1 4 (.t 3)),Ql 188 187,(Oc 186 79 [.t 183,.t 185],true,[(.t 187)]),Qn 189 186,Qf 190 1 189,Qs 1 190 188])) (.seq (.ops [Oo 192 (.bin .eql (.t 32) (.k (.int .i64 6))),Om 191 192]) (.cond (.t 191) (.seq (.ops [Om 193 0,Oo 194 (.fa 14 1 2 (.t 3)),Ol 195 194,Oc 196 78 [.t 193,.t 195],Om 10 196]) (.seq (.seq (.ops [Om 197 10,Oo 198 (.ptb false (.t 197) (.k (.nilp))),Om 199 198,⟨some 200,.mv (.t 10),some (199,false)⟩,⟨some 201,.nilc (.t 200),some (199,false)⟩,⟨some 202,.fa 8 1 8 (.t 201),some (199,false)⟩,⟨some 203,.ld 1 false (.t 202),some (199,false)⟩,⟨some 204,.bin .eql (.t 203) (.k (.int .i64 0)),some (199,false)⟩,Oo 205 (.pick (.t 199) (.k (.bool true)) (.t 204))]) (.cond (.t 205) (.seq (.ops [Ok 4 (.int .i64 3)]) .ret) .skip)) (.drawn [Qm 206 10,Qm 207 10,Qo 208 (.fa 15 1 3 (.t 3)),Ql 209 208,Qm 210 0,Qn 211 210,Qf 212 0 211,Ql 213 212,Qn 214 206,Qf 215 11 214,Qs 1 215 209,Qn 216 207,Qf 217 1 216,Qs 1 217 213]))) .skip)))))))))))))) (.seq (.seq (.ops [Om 218 0,On 219 218,Od 220 4 219,Oc 221 20 [.t 220],Oo 222 (.not (.t 221))]) (.cond (.t 222) (.seq (.ops [Ok 4 (.int .i64 2)]) .ret) .skip)) (.seq (.ops [Ok 4 (.int .i64 0)]) .ret)))))))⟩
theorem c111 : compileF Try.prog [] 111 = some cf111 := by kernel_rfl
section
variable {P : Program} {n : Nat} {st : St} {K : St → Prop}
theorem d_st {sz k b j o : Nat} {x y : Opd} {os : List (COp × Bool × List Opd)} {p : List Nat} {es cp : Nat} {ds : List Go.Ab.D} {el d0 : Go.Ab.D} {o' : Nat} (hx : x.ev st = .lref k b (j :: p) o) (hl : st.lc k = some (.arr es ds cp)) (hb : st.gen k = b) (hj : j < ds.length) (hel : ds.getD j .any = el)
  (hat : el.at p = some (d0, o')) (hoo : j * es + o' = o) (h : deepK (y.ev st) fun d => d.memB = true ∧ d.len = sz ∧ xset (el.set p d) fun c' => deepK c' fun c' => xd P n os (st.setLc k (.arr es (ds.set j c') cp)) K) : xd P n ((⟨none, .st sz x y, none⟩, true, []) :: os) st K := by
 refine d_e ?_
 rw [deepK_eq] at h
 show xo P none st (fun d st' => True ∧ putS n none d st' fun st2 => xd P n os st2 K) (.st sz x y)
 simp only [xo, deepK_eq]
 refine ⟨h.1, h.2.1, ?_⟩
 rw [hx, xst_eq]
 refine ⟨hb, ?_⟩
 rw [hl]
 refine ⟨hj, ?_, ?_⟩
 ·rw [hel, hat]; exact hoo
 ·rw [hel]
  have h2 := h.2.2
  unfold xset at h2 ⊢
  split at h2
  ·rw [deepK_eq] at h2
   show True ∧ putS n none .undef _ _
   rw [putS_eq]
   exact ⟨True.intro, h2⟩
  ·exact h2.elim
end
theorem ba_inj {a b : ByteArray} (h : a.toList = b.toList) : a = b := by
 rw [ByteArray.toList_eq, ByteArray.toList_eq] at h
 exact ByteArray.ext (Array.toList_inj.1 h)
/-- What a closure has of an owned box may be read. -/
theorem Bor.fn1 {st : St} {f s b o : Nat} {p : List Nat} {c : Go.Ab.D} (h : Bor st (.lref s b p o) (.cref c)) : Bor st (.fn f [.lref s b p o]) (.fn f [.cref c]) := fun F g w v hH hr => by
 obtain ⟨vs, e, v1, r, e1, h1, h2, h3⟩ := hr
 exact ⟨vs, e, v1, r, e1, rfl, h F g w v1 hH h2, h3⟩
def joinQ {α : Type} (E : α → (Nat → Nat) → Prop) (fs : α → (Nat → Nat) → List Go.Ab.D) (ls : α → (Nat → Nat) → List (Nat × Go.Ab.D)) (Q : Post) : Post := fun e st =>
 match e with
 | .normal => ∃ y, E y st.gen ∧ FitA st (fs y st.gen) (ls y st.gen)
 | e => Q e st
/-- A part of the code with a small goal of its own; it may return. -/
theorem XS.joinQ {P : Program} {n : Nat} {st : St} {Q : Post} {α : Type} {cc : CC} (E : α → (Nat → Nat) → Prop) (fs : α → (Nat → Nat) → List Go.Ab.D) (ls : α → (Nat → Nat) → List (Nat × Go.Ab.D))
  (h1 : XS P n cc st (Go.Ab.joinQ E fs ls Q)) (h2 : ∀ y gs, E y gs → Q .normal (St.mkA (fs y gs) gs (ls y gs))) : XS P n cc st Q :=
 ⟨fun hm nq c hc F g a w hH => (h1.sem hm nq c hc F g a w hH) |> fun h => wp_mono h fun e a2 w2 hq => by
  cases e with
  | normal =>
   obtain ⟨g2, st2, hH2, y, hE, hF⟩ := hq
   exact ⟨g2, _, hH2.weaken hF.le, h2 y _ hE⟩
  | exit k => exact hq
  | ret => exact hq
  | goto l => exact hq
  | panic c => exact hq
  | outgrown => exact hq⟩
theorem sea_cl1 (a : StewService) (y : StewService) : Rdr Try.prog 151 [a.D, .cref y.D] (.bool (Op.bytesLess y.fName.toList a.fName.toList)) := by
 refine Rdr.intro' hm c151 (Nat.le_of_ble_eq_true rfl) ?_
 conv => whnf
 repeat' (first | (refine z_ld1 ?_; first | (refine z_ld rfl rfl rfl rfl au1 au2 ?_; conv => whnf) | (refine z_ld0 rfl ?_; conv => whnf)) | (refine z_op ?_ ?_; (focus exact rfl); conv => whnf) | (refine zs_ops ?_ ?_; (focus exact rfl)) | ((first | refine z_nil fun vals => ?_ | refine g_op ?_); conv => whnf) | (refine And.intro ?_ ?_; (focus exact au0); conv => whnf) | (refine g_seq ?_) | (refine XS.go ?_) | (refine g_ops ?_) | ((first | refine g_nil ?_ | refine g_ret ?_ | refine r_t ?_ | refine r_nil ?_ | refine fun _ => ?_); conv => whnf) | fail)
 (conv => lhs; whnf)
 exact congrArg D.bool (by rw [le_eq, Bool.not_not])
theorem sea_cl2 (a : StewBerth) (e : StewEvent) : Rdr Try.prog 154 [a.D, .cref e.D] (.bool (a.fName.toList == e.fName.toList)) := by
 refine Rdr.intro' hm c154 (Nat.le_of_ble_eq_true rfl) ?_
 conv => whnf
 repeat' (first | (refine z_ld1 ?_; first | (refine z_ld rfl rfl rfl rfl au1 au2 ?_; conv => whnf) | (refine z_ld0 rfl ?_; conv => whnf)) | (refine z_op ?_ ?_; (focus exact rfl); conv => whnf) | (refine zs_ops ?_ ?_; (focus exact rfl)) | ((first | refine z_nil fun vals => ?_ | refine g_op ?_); conv => whnf) | (refine And.intro ?_ ?_; (focus exact au0); conv => whnf) | (refine g_seq ?_) | (refine XS.go ?_) | (refine g_ops ?_) | ((first | refine g_nil ?_ | refine g_ret ?_ | refine r_t ?_ | refine r_nil ?_ | refine fun _ => ?_); conv => whnf) | fail)
 rfl
theorem sea_cl3 (a : StewCopy) (e : StewEvent) : Rdr Try.prog 156 [a.D, .cref e.D] (.bool (a.fState != 1 && standP e.fName a)) := by
 refine Rdr.intro' hm c156 (Nat.le_of_ble_eq_true rfl) ?_
 conv => whnf
 repeat' (first | (refine z_ld1 ?_; first | (refine z_ld rfl rfl rfl rfl au1 au2 ?_; conv => whnf) | (refine z_ld0 rfl ?_; conv => whnf)) | (refine z_ld1g ?_; first | (refine z_ldg rfl rfl rfl rfl rfl rfl rfl (by (repeat intro _); exact ⟨au1, au2⟩) rfl rfl rfl rfl ?_; conv => whnf) | (refine z_ld0g ?_; (conv => whnf); refine And.intro ?_ ?_; (focus exact rfl); conv => whnf)) | (refine z_op ?_ ?_; (focus exact rfl); conv => whnf) | (refine z_opg0 ?_; (conv => whnf); refine And.intro ?_ ?_; (focus exact rfl); conv => whnf) | (refine z_pick ?_ ?_; (focus exact rfl); conv => whnf) | (refine zs_ops ?_ ?_; (focus exact rfl)) | ((first | refine z_nil fun vals => ?_ | refine g_op ?_); conv => whnf) | (refine And.intro ?_ ?_; (focus exact au0); conv => whnf) | (refine g_seq ?_) | (refine XS.go ?_) | (refine g_ops ?_) | ((first | refine g_nil ?_ | refine g_ret ?_ | refine r_t ?_ | refine r_nil ?_ | refine fun _ => ?_); conv => whnf) | fail)
 (conv => lhs; whnf)
 rfl
theorem sea_cl4 (a : StewBerth) (e : StewEvent) : Rdr Try.prog 158 [a.D, .cref e.D] (.bool (Op.bytesLess e.fName.toList a.fName.toList)) := by
 refine Rdr.intro' hm c158 (Nat.le_of_ble_eq_true rfl) ?_
 conv => whnf
 repeat' (first | (refine z_ld1 ?_; first | (refine z_ld rfl rfl rfl rfl au1 au2 ?_; conv => whnf) | (refine z_ld0 rfl ?_; conv => whnf)) | (refine z_op ?_ ?_; (focus exact rfl); conv => whnf) | (refine zs_ops ?_ ?_; (focus exact rfl)) | ((first | refine z_nil fun vals => ?_ | refine g_op ?_); conv => whnf) | (refine And.intro ?_ ?_; (focus exact au0); conv => whnf) | (refine g_seq ?_) | (refine XS.go ?_) | (refine g_ops ?_) | ((first | refine g_nil ?_ | refine g_ret ?_ | refine r_t ?_ | refine r_nil ?_ | refine fun _ => ?_); conv => whnf) | fail)
 (conv => lhs; whnf)
 exact congrArg D.bool (by rw [le_eq, Bool.not_not])
/-- The code of an event in a valid book. -/
def codeI (x : StewBook) (e : StewEvent) : Int := if inR e.fKind 1 6 = true then (if x.fNow = 1000000 then 7 else seaC x e) else 4
def SeaO (x : StewBook) (e : StewEvent) (b0 : Nat) (d : Go.Ab.D) (ls : List Loan) : Prop := ∃ (z : StewBook) (b1 b2 b3 c1 c2 c3 : Nat), d = .int .i64 (codeI x e) ∧ ls = z.P 300 b0 301 302 303 b1 b2 b3 c1 c2 c3 ∧ (codeI x e = 0 → z = (seaP x e).1)
theorem impl_seaX (x : StewBook) (e : StewEvent) (hs : x.small) (hv : valid x = true) (b0 b1 b2 b3 c1 c2 c3 : Nat) : XC Try.prog 111 [.lref 300 b0 [] 0, e.D] (x.P 300 b0 301 302 303 b1 b2 b3 c1 c2 c3) (SeaO x e b0) := by
 have l1 := hs.fServices.1
 have l2 := hs.fCopies.1
 have l3 := hs.fBerths.1
 obtain ⟨v1, v2, v3, _, _⟩ := valid_parts hv
 have hnow : 0 ≤ x.fNow ∧ x.fNow ≤ 1000000 := by
  simp only [valid, Bool.and_eq_true, Bool.not_eq_true', Bool.or_eq_false_iff, Bool.not_eq_false', inR, decide_eq_true_eq] at hv
  omega
 have hWC : WC x.fCopies := copy_wait hv
 have hWB : WB x.fBerths := ber_name hv
 refine XC.intro' hm [300, 301, 302, 303] rfl c111 (Nat.le_of_ble_eq_true rfl) ?_
 simp only [StewBook.P, StewBook.O, StewBook.L]
 unfold SeaO
 conv => whnf
 repeat' (first | (refine g_op ?_; conv => whnf) | (refine And.intro ?_ ?_; (focus exact au0); conv => whnf) | (refine g_seq ?_) | (refine g_ops ?_) | ((first | refine g_nil ?_ | refine fun _ => ?_); conv => whnf) | fail)
 refine XS.freezeB 3 rfl ?_
 refine XS.go ?_
 conv => whnf
 repeat' (first | (refine z_ld1 ?_; first | (refine z_ld rfl rfl rfl rfl au1 au2 ?_; conv => whnf) | (refine z_ld0 rfl ?_; conv => whnf)) | (refine z_ld1g ?_; first | (refine z_ldg rfl rfl rfl rfl rfl rfl rfl (by (repeat intro _); exact ⟨au1, au2⟩) rfl rfl rfl rfl ?_; conv => whnf) | (refine z_ld0g ?_; (conv => whnf); refine And.intro ?_ ?_; (focus exact rfl); conv => whnf)) | (refine z_op ?_ ?_; (focus exact rfl); conv => whnf) | (refine z_opg0 ?_; (conv => whnf); refine And.intro ?_ ?_; (focus exact rfl); conv => whnf) | (refine z_pick ?_ ?_; (focus exact rfl); conv => whnf) | (refine zs_ops ?_ ?_; (focus exact rfl)) | (refine z_nil fun vals => ?_; conv => whnf) | (refine And.intro ?_ ?_; (focus exact au0); conv => whnf) | (refine g_seq ?_) | (refine XS.go ?_) | (refine g_cond ?_; conv => whnf) | fail)
 refine Br.mk (fun hb => ?_) (fun hb => ?_)
 ·have hI : inR e.fKind 1 6 = false := by
   simp only [Bool.or_eq_true, decide_eq_true_eq] at hb
   simp only [inR, Bool.and_eq_false_iff, decide_eq_false_iff_not]
   omega
  have hC : codeI x e = 4 := by rw [codeI, if_neg (by rw [hI]; exact Bool.false_ne_true)]
  rw [hC]
  conv => whnf
  repeat' (first | (refine g_op ?_; conv => whnf) | (refine And.intro ?_ ?_; (focus exact au0); conv => whnf) | (refine g_seq ?_) | (refine XS.go ?_) | (refine g_ops ?_) | ((first | refine g_nil ?_ | refine g_ret ?_ | refine r_t ?_ | refine r_nil ?_); conv => whnf) | fail)
  exact ⟨x, _, _, _, c1, c2, c3, rfl, rfl, fun h => absurd h (by decide)⟩
 have hI : 1 ≤ e.fKind ∧ e.fKind ≤ 6 := by
  simp only [Bool.or_eq_false_iff, decide_eq_false_iff_not] at hb
  omega
 have hI2 : inR e.fKind 1 6 = true := by simp [inR, hI]
 clear hb
 conv => whnf
 repeat' (first | (refine z_ld1 ?_; first | (refine z_ld rfl rfl rfl rfl au1 au2 ?_; conv => whnf) | (refine z_ld0 rfl ?_; conv => whnf)) | (refine z_op ?_ ?_; (focus exact rfl); conv => whnf) | (refine zs_ops ?_ ?_; (focus exact rfl)) | (refine z_nil fun vals => ?_; conv => whnf) | (refine And.intro ?_ ?_; (focus exact au0); conv => whnf) | (refine g_seq ?_) | (refine XS.go ?_) | ((first | refine g_cond ?_ | refine g_skip ?_); conv => whnf) | fail)
 refine Br.mk (fun hb => ?_) (fun hb => ?_)
 ·have hN : x.fNow = 1000000 := by simpa using hb
  have hC : codeI x e = 7 := by rw [codeI, if_pos hI2, if_pos hN]
  rw [hC]
  conv => whnf
  repeat' (first | (refine g_op ?_; conv => whnf) | (refine And.intro ?_ ?_; (focus exact au0); conv => whnf) | (refine g_seq ?_) | (refine XS.go ?_) | (refine g_ops ?_) | ((first | refine g_nil ?_ | refine g_ret ?_ | refine r_t ?_ | refine r_nil ?_); conv => whnf) | fail)
  exact ⟨x, _, _, _, c1, c2, c3, rfl, rfl, fun h => absurd h (by decide)⟩
 have hN : ¬ x.fNow = 1000000 := by simpa using hb
 have hC : codeI x e = seaC x e := by rw [codeI, if_pos hI2, if_neg hN]
 rw [hC]
 have hvw : IntKind.wrap .i64 (x.fNow + 1) = nowV x := wrap_ok (by omega) (by omega)
 clear hb hC
 conv => whnf
 repeat' (first | (refine g_skip ?_; conv => whnf) | fail)
 refine XS.go ?_
 conv => whnf
 repeat' (first | (refine g_op ?_; conv => whnf) | (refine And.intro ?_ ?_; (focus exact au0); conv => whnf) | (refine g_seq ?_) | (refine g_ops ?_) | (refine g_nil ?_; conv => whnf) | fail)
 refine XS.weakenA (fs := [.lref 300 b0 [] 0, .any, .any, .cref e.D]) (ls := [(300, .agg [.int .i64 (nowV x), .lsl 301 b1 x.fServices.length c1, .lsl 302 b2 x.fCopies.length c2, .lsl 303 b3 x.fBerths.length c3]), (301, .arr 13 (x.fServices.map StewService.D) c1), (302, .arr 7 (x.fCopies.map StewCopy.D) c2), (303, .arr 2 (x.fBerths.map StewBerth.D) c3)]) ⟨?_, ?_⟩ ?_
 ·repeat' (first | exact True.intro | refine And.intro rfl ?_)
 ·exact ⟨congrArg (fun n => some (D.agg [.int .i64 n, .lsl 301 b1 x.fServices.length c1, .lsl 302 b2 x.fCopies.length c2, .lsl 303 b3 x.fBerths.length c3])) hvw, rfl, rfl, rfl, True.intro⟩
 refine XS.go ?_
 conv => whnf
 repeat' (first | (refine g_op ?_; conv => whnf) | (refine And.intro ?_ ?_; (focus exact au0); conv => whnf) | (refine g_seq ?_) | (refine g_ops ?_) | (refine g_nil ?_; conv => whnf) | fail)
 refine XS.joinQ (α := Nat × Nat × Nat) (fun _ gs => gs 300 = b0 ∧ (seaP x e).2 = 0) (fun q gs => [.lref 300 (gs 300) [] 0]) (fun q gs => [(300, .agg [.int .i64 (seaP x e).1.fNow, .lsl 301 (gs 301) (seaP x e).1.fServices.length q.1, .lsl 302 (gs 302) (seaP x e).1.fCopies.length q.2.1, .lsl 303 (gs 303) (seaP x e).1.fBerths.length q.2.2]), (301, .arr 13 ((seaP x e).1.fServices.map StewService.D) q.1), (302, .arr 7 ((seaP x e).1.fCopies.map StewCopy.D) q.2.1), (303, .arr 2 ((seaP x e).1.fBerths.map StewBerth.D) q.2.2)]) ?_ ?_
 ·have hs1 : (({ x with fNow := nowV x } : StewBook)).small := ⟨hs.fServices, hs.fCopies, hs.fBerths⟩
  refine XS.go ?_
  conv => whnf
  repeat' (first | (refine g_op ?_; conv => whnf) | (refine And.intro ?_ ?_; (focus exact au0); conv => whnf) | (refine g_seq ?_) | (refine XS.go ?_) | (refine g_ops ?_) | ((first | refine g_nil ?_ | refine g_cond ?_); conv => whnf) | (refine g_block ?_) | fail)
  refine Br.mk (fun hb => ?_) (fun hb1 => ?_)
  ·have hk : e.fKind = 1 := by simpa using hb
   rw [seaP1 hk]
   clear hb
   conv => whnf
   repeat' (first | (refine g_op ?_; conv => whnf) | (refine And.intro ?_ ?_; (focus exact au0); conv => whnf) | (refine g_ops ?_) | fail)
   refine XCL.of_XC (ls := (({ x with fNow := nowV x } : StewBook)).P 300 b0 301 302 303 b1 b2 b3 c1 c2 c3) ⟨rfl, rfl, rfl, rfl, rfl, rfl, rfl, rfl, rfl, rfl, rfl, rfl, True.intro⟩ ((impl_tickX ({ x with fNow := nowV x } : StewBook) hs1 hWC hWB b0 b1 b2 b3 c1 c2 c3).mono fun d ls h => ?_)
   obtain ⟨rfl, rfl⟩ := h
   conv => whnf
   repeat' (first | (refine And.intro ?_ ?_; (focus exact au0); conv => whnf) | (refine g_nil ?_; conv => whnf) | fail)
   refine ⟨(c1, c2, c3), ⟨rfl, rfl⟩, ⟨?_, ?_⟩⟩
   ·repeat' (first | exact True.intro | refine And.intro rfl ?_)
   ·exact ⟨rfl, rfl, rfl, rfl, True.intro⟩
  conv => whnf
  repeat' (first | (refine g_op ?_; conv => whnf) | (refine And.intro ?_ ?_; (focus exact au0); conv => whnf) | (refine g_seq ?_) | (refine XS.go ?_) | (refine g_ops ?_) | ((first | refine g_nil ?_ | refine g_cond ?_); conv => whnf) | fail)
  refine Br.mk (fun hb => ?_) (fun hb2 => ?_)
  ·have hk : e.fKind = 2 := by simpa using hb
   rw [seaP2 hk]
   clear hb
   conv => whnf
   repeat' (first | (refine g_op ?_; conv => whnf) | (refine And.intro ?_ ?_; (focus exact au0); conv => whnf) | (refine g_seq ?_) | (refine XS.go ?_) | (refine g_ops ?_) | ((first | refine g_nil ?_ | refine fun _ => ?_); conv => whnf) | fail)
   refine XCL.of_XC (ls := (({ x with fNow := nowV x } : StewBook)).P 300 b0 301 302 303 b1 b2 b3 c1 c2 c3) ⟨rfl, rfl, rfl, rfl, rfl, rfl, rfl, rfl, rfl, rfl, rfl, rfl, True.intro⟩ ((impl_svcO ({ x with fNow := nowV x } : StewBook) e.fService.fName hs1 b0 b1 b2 b3 c1 c2 c3).mono fun d ls h => ?_)
   obtain ⟨rfl, rfl⟩ := h
   rcases svcI_cs ({ x with fNow := nowV x } : StewBook) e.fService.fName with hq | ⟨j, hq, hjl⟩
   ·have hq' : svcI x e.fService.fName = -1 := hq
    rw [hq, wish_ins hq']
    have hix := indexF_StewService 151 [.cref (({ e.fService with fNext := 1 } : StewService)).D] (fun a => Op.bytesLess (({ e.fService with fNext := 1 } : StewService)).fName.toList a.fName.toList) rfl (fun a => sea_cl1 a ({ e.fService with fNext := 1 } : StewService)) x.fServices l1
    rw [show (({ e.fService with fNext := 1 } : StewService)).fName = e.fService.fName from rfl, svcK_idx hq'] at hix
    have hKl : svcK x.fServices e.fService.fName ≤ x.fServices.length := pI_le _ _
    conv => whnf
    repeat' (first | ((refine XCL.of_rdrB hix (.cons (Bor.rowM rfl rfl rfl (fun _ => rfl)) (.cons (Bor.fn1 (Bor.box rfl rfl rfl rfl rfl (Bor.refl _ _) rfl rfl rfl)) .nil)) rfl ?_; conv => whnf)) | (refine g_op ?_; conv => whnf) | (refine And.intro ?_ ?_; (focus exact au0); conv => whnf) | (refine g_seq ?_) | (refine XS.go ?_) | (refine g_ops ?_) | (refine g_nil ?_; conv => whnf) | (refine Br.f ?_ ?_; (focus (first | assumption | exact rfl)); conv => whnf) | (refine g_cond ?_; conv => whnf) | fail)
    refine Br.mk (fun hb => ?_) (fun hb => ?_)
    ·have hKe : x.fServices.length = svcK x.fServices e.fService.fName := by
      unfold svcK pI
      rw [if_pos (of_decide_eq_true hb)]
     clear hb
     have hixl : x.fServices.length ≤ x.fServices.length := Nat.le_refl _
     have hins := insR_StewService 301 76 (⟨e.fService.fName, 0, false, 0, 0, 0, 0, 0, 0, 0, 0, 0, 0⟩ : StewService) x.fServices x.fServices.length b1 c1 hixl l1
     conv => whnf
     repeat' (first | (refine g_op ?_; conv => whnf) | (refine And.intro ?_ ?_; (focus exact au0); conv => whnf) | (refine XS.go ?_) | (refine g_ops ?_) | (refine g_nil ?_; conv => whnf) | (refine g_drawn ?_) | ((first | refine d_p ?_ | refine d_e ?_); conv => whnf) | fail)
     refine XCL.of_XC (ls := [(301, b1, .arr 13 (x.fServices.map StewService.D) c1)]) ⟨rfl, rfl, rfl, True.intro⟩ (hins.mono fun d ls h => ?_)
     obtain ⟨b', c', rfl, rfl⟩ := h
     conv => whnf
     repeat' (first | ((refine And.intro True.intro ?_; conv => whnf)) | (refine And.intro ?_ ?_; (focus exact au0); conv => whnf) | ((first | refine d_p ?_ | refine d_e ?_ | refine d_nil ?_); conv => whnf) | fail)
     refine XS.move 76 301 [] rfl ?_
     refine XS.hintB 300 301 [1] rfl rfl rfl rfl rfl (fun _ _ _ h => by cases h) rfl ?_
     have hlen := insAt_len x.fServices x.fServices.length (⟨e.fService.fName, 0, false, 0, 0, 0, 0, 0, 0, 0, 0, 0, 0⟩ : StewService)
     have hq2 : svcI ({ x with fNow := nowV x, fServices := insAt x.fServices x.fServices.length (⟨e.fService.fName, 0, false, 0, 0, 0, 0, 0, 0, 0, 0, 0, 0⟩ : StewService) } : StewBook) e.fService.fName = ((x.fServices.length : Nat) : Int) := svcI_ins (b := ({ x with fNow := nowV x } : StewBook)) (y := (⟨e.fService.fName, 0, false, 0, 0, 0, 0, 0, 0, 0, 0, 0, 0⟩ : StewService)) hq hixl
     have hsZ : (({ x with fNow := nowV x, fServices := insAt x.fServices x.fServices.length (⟨e.fService.fName, 0, false, 0, 0, 0, 0, 0, 0, 0, 0, 0, 0⟩ : StewService) } : StewBook)).small := ⟨⟨by show (insAt x.fServices x.fServices.length (⟨e.fService.fName, 0, false, 0, 0, 0, 0, 0, 0, 0, 0, 0, 0⟩ : StewService)).length ≤ _; omega, fun _ _ => ⟨⟩⟩, hs.fCopies, hs.fBerths⟩
     have hP := impl_svcO ({ x with fNow := nowV x, fServices := insAt x.fServices x.fServices.length (⟨e.fService.fName, 0, false, 0, 0, 0, 0, 0, 0, 0, 0, 0, 0⟩ : StewService) } : StewBook) e.fService.fName hsZ b0 b' b2 b3 c' c2 c3
     rw [hq2] at hP
     have hj0 : x.fServices.length < ((insAt x.fServices x.fServices.length (⟨e.fService.fName, 0, false, 0, 0, 0, 0, 0, 0, 0, 0, 0, 0⟩ : StewService)).map StewService.D).length := by rw [List.length_map]; omega
     have he0 : ((insAt x.fServices x.fServices.length (⟨e.fService.fName, 0, false, 0, 0, 0, 0, 0, 0, 0, 0, 0, 0⟩ : StewService)).map StewService.D).getD x.fServices.length .any = ((⟨e.fService.fName, 0, false, 0, 0, 0, 0, 0, 0, 0, 0, 0, 0⟩ : StewService)).D := by rw [elt_map (by omega), insAt_get _ _ _ hixl]
     have hset : ((insAt x.fServices x.fServices.length (⟨e.fService.fName, 0, false, 0, 0, 0, 0, 0, 0, 0, 0, 0, 0⟩ : StewService)).map StewService.D).set x.fServices.length (({ e.fService with fVersion := nowV x, fCool := 0, fNext := 1 } : StewService)).D = (insAt x.fServices (svcK x.fServices e.fService.fName) ({ e.fService with fVersion := nowV x, fCool := 0, fNext := 1 } : StewService)).map StewService.D := by rw [← List.map_set, insAt_set _ _ _ _ hixl]; rw [← hKe]
     have hlen2 : (insAt x.fServices x.fServices.length (⟨e.fService.fName, 0, false, 0, 0, 0, 0, 0, 0, 0, 0, 0, 0⟩ : StewService)).length = (insAt x.fServices (svcK x.fServices e.fService.fName) ({ e.fService with fVersion := nowV x, fCool := 0, fNext := 1 } : StewService)).length := by rw [insAt_len, insAt_len]
     refine XS.go ?_
     conv => whnf
     repeat' (first | (refine g_op ?_; conv => whnf) | (refine And.intro ?_ ?_; (focus exact au0); conv => whnf) | (refine g_seq ?_) | (refine XS.go ?_) | (refine g_ops ?_) | (refine g_nil ?_; conv => whnf) | (refine g_drawn ?_) | ((first | refine d_p ?_ | refine d_e ?_); conv => whnf) | fail)
     refine XCL.of_XC (ls := (({ x with fNow := nowV x, fServices := insAt x.fServices x.fServices.length (⟨e.fService.fName, 0, false, 0, 0, 0, 0, 0, 0, 0, 0, 0, 0⟩ : StewService) } : StewBook)).P 300 b0 301 302 303 b' b2 b3 c' c2 c3) ⟨rfl, rfl, rfl, rfl, rfl, rfl, rfl, rfl, rfl, rfl, rfl, rfl, True.intro⟩ (hP.mono fun d ls h => ?_)
     obtain ⟨rfl, rfl⟩ := h
     conv => whnf
     repeat' (first | ((refine d_st rfl rfl rfl hj0 he0 rfl rfl ?_; conv => whnf)) | ((refine And.intro ⟨⟨rfl, rfl⟩, True.intro⟩ ?_; conv => whnf)) | (refine And.intro ?_ ?_; (focus exact au0); conv => whnf) | ((first | refine d_p ?_ | refine d_nil ?_); conv => whnf) | fail)
     refine ⟨(c', c2, c3), ⟨rfl, rfl⟩, ⟨?_, ?_⟩⟩
     ·repeat' (first | exact True.intro | refine And.intro rfl ?_)
     ·exact ⟨congrArg (fun n => some (D.agg [.int .i64 (nowV x), .lsl 301 b' n c', .lsl 302 b2 x.fCopies.length c2, .lsl 303 b3 x.fBerths.length c3])) hlen2, congrArg (fun l => some (D.arr 13 l c')) hset, rfl, rfl, True.intro⟩
    ·have hKe : idxN (svcP x.fServices e.fService.fName) x.fServices.length 0 = ((svcK x.fServices e.fService.fName : Nat) : Int) := by
      have h0 := of_decide_eq_false hb
      unfold svcK pI
      rw [if_neg h0]
      omega
     rw [hKe]
     clear hb
     have hixl : (svcK x.fServices e.fService.fName) ≤ x.fServices.length := hKl
     have hins := insR_StewService 301 76 (⟨e.fService.fName, 0, false, 0, 0, 0, 0, 0, 0, 0, 0, 0, 0⟩ : StewService) x.fServices (svcK x.fServices e.fService.fName) b1 c1 hixl l1
     conv => whnf
     repeat' (first | (refine And.intro ?_ ?_; (focus exact au0); conv => whnf) | (refine XS.go ?_) | (refine g_skip ?_; conv => whnf) | (refine g_drawn ?_) | ((first | refine d_p ?_ | refine d_e ?_); conv => whnf) | fail)
     refine XCL.of_XC (ls := [(301, b1, .arr 13 (x.fServices.map StewService.D) c1)]) ⟨rfl, rfl, rfl, True.intro⟩ (hins.mono fun d ls h => ?_)
     obtain ⟨b', c', rfl, rfl⟩ := h
     conv => whnf
     repeat' (first | ((refine And.intro True.intro ?_; conv => whnf)) | (refine And.intro ?_ ?_; (focus exact au0); conv => whnf) | ((first | refine d_p ?_ | refine d_e ?_ | refine d_nil ?_); conv => whnf) | fail)
     refine XS.move 76 301 [] rfl ?_
     refine XS.hintB 300 301 [1] rfl rfl rfl rfl rfl (fun _ _ _ h => by cases h) rfl ?_
     have hlen := insAt_len x.fServices (svcK x.fServices e.fService.fName) (⟨e.fService.fName, 0, false, 0, 0, 0, 0, 0, 0, 0, 0, 0, 0⟩ : StewService)
     have hq2 : svcI ({ x with fNow := nowV x, fServices := insAt x.fServices (svcK x.fServices e.fService.fName) (⟨e.fService.fName, 0, false, 0, 0, 0, 0, 0, 0, 0, 0, 0, 0⟩ : StewService) } : StewBook) e.fService.fName = (((svcK x.fServices e.fService.fName) : Nat) : Int) := svcI_ins (b := ({ x with fNow := nowV x } : StewBook)) (y := (⟨e.fService.fName, 0, false, 0, 0, 0, 0, 0, 0, 0, 0, 0, 0⟩ : StewService)) hq hixl
     have hsZ : (({ x with fNow := nowV x, fServices := insAt x.fServices (svcK x.fServices e.fService.fName) (⟨e.fService.fName, 0, false, 0, 0, 0, 0, 0, 0, 0, 0, 0, 0⟩ : StewService) } : StewBook)).small := ⟨⟨by show (insAt x.fServices (svcK x.fServices e.fService.fName) (⟨e.fService.fName, 0, false, 0, 0, 0, 0, 0, 0, 0, 0, 0, 0⟩ : StewService)).length ≤ _; omega, fun _ _ => ⟨⟩⟩, hs.fCopies, hs.fBerths⟩
     have hP := impl_svcO ({ x with fNow := nowV x, fServices := insAt x.fServices (svcK x.fServices e.fService.fName) (⟨e.fService.fName, 0, false, 0, 0, 0, 0, 0, 0, 0, 0, 0, 0⟩ : StewService) } : StewBook) e.fService.fName hsZ b0 b' b2 b3 c' c2 c3
     rw [hq2] at hP
     have hj0 : (svcK x.fServices e.fService.fName) < ((insAt x.fServices (svcK x.fServices e.fService.fName) (⟨e.fService.fName, 0, false, 0, 0, 0, 0, 0, 0, 0, 0, 0, 0⟩ : StewService)).map StewService.D).length := by rw [List.length_map]; omega
     have he0 : ((insAt x.fServices (svcK x.fServices e.fService.fName) (⟨e.fService.fName, 0, false, 0, 0, 0, 0, 0, 0, 0, 0, 0, 0⟩ : StewService)).map StewService.D).getD (svcK x.fServices e.fService.fName) .any = ((⟨e.fService.fName, 0, false, 0, 0, 0, 0, 0, 0, 0, 0, 0, 0⟩ : StewService)).D := by rw [elt_map (by omega), insAt_get _ _ _ hixl]
     have hset : ((insAt x.fServices (svcK x.fServices e.fService.fName) (⟨e.fService.fName, 0, false, 0, 0, 0, 0, 0, 0, 0, 0, 0, 0⟩ : StewService)).map StewService.D).set (svcK x.fServices e.fService.fName) (({ e.fService with fVersion := nowV x, fCool := 0, fNext := 1 } : StewService)).D = (insAt x.fServices (svcK x.fServices e.fService.fName) ({ e.fService with fVersion := nowV x, fCool := 0, fNext := 1 } : StewService)).map StewService.D := by rw [← List.map_set, insAt_set _ _ _ _ hixl]
     have hlen2 : (insAt x.fServices (svcK x.fServices e.fService.fName) (⟨e.fService.fName, 0, false, 0, 0, 0, 0, 0, 0, 0, 0, 0, 0⟩ : StewService)).length = (insAt x.fServices (svcK x.fServices e.fService.fName) ({ e.fService with fVersion := nowV x, fCool := 0, fNext := 1 } : StewService)).length := by rw [insAt_len, insAt_len]
     refine XS.go ?_
     conv => whnf
     repeat' (first | (refine g_op ?_; conv => whnf) | (refine And.intro ?_ ?_; (focus exact au0); conv => whnf) | (refine g_seq ?_) | (refine XS.go ?_) | (refine g_ops ?_) | (refine g_nil ?_; conv => whnf) | (refine g_drawn ?_) | ((first | refine d_p ?_ | refine d_e ?_); conv => whnf) | fail)
     refine XCL.of_XC (ls := (({ x with fNow := nowV x, fServices := insAt x.fServices (svcK x.fServices e.fService.fName) (⟨e.fService.fName, 0, false, 0, 0, 0, 0, 0, 0, 0, 0, 0, 0⟩ : StewService) } : StewBook)).P 300 b0 301 302 303 b' b2 b3 c' c2 c3) ⟨rfl, rfl, rfl, rfl, rfl, rfl, rfl, rfl, rfl, rfl, rfl, rfl, True.intro⟩ (hP.mono fun d ls h => ?_)
     obtain ⟨rfl, rfl⟩ := h
     conv => whnf
     repeat' (first | ((refine d_st rfl rfl rfl hj0 he0 rfl rfl ?_; conv => whnf)) | ((refine And.intro ⟨⟨rfl, rfl⟩, True.intro⟩ ?_; conv => whnf)) | (refine And.intro ?_ ?_; (focus exact au0); conv => whnf) | ((first | refine d_p ?_ | refine d_nil ?_); conv => whnf) | fail)
     refine ⟨(c', c2, c3), ⟨rfl, rfl⟩, ⟨?_, ?_⟩⟩
     ·repeat' (first | exact True.intro | refine And.intro rfl ?_)
     ·exact ⟨congrArg (fun n => some (D.agg [.int .i64 (nowV x), .lsl 301 b' n c', .lsl 302 b2 x.fCopies.length c2, .lsl 303 b3 x.fBerths.length c3])) hlen2, congrArg (fun l => some (D.arr 13 l c')) hset, rfl, rfl, True.intro⟩
   ·have hq' : svcI x e.fService.fName = (j : Int) := hq
    obtain ⟨g1, g2⟩ := svcI_found hq'
    rw [wish_set hv hq']
    have hj0 : j < (x.fServices.map StewService.D).length := by rw [List.length_map]; exact g1
    have he0 : (x.fServices.map StewService.D).getD j .any = (x.fServices.getD j default).D := elt_map g1
    have hP := impl_svcO ({ x with fNow := nowV x } : StewBook) e.fService.fName hs1 b0 b1 b2 b3 c1 c2 c3
    rw [hq] at hP ⊢
    generalize x.fServices.getD j default = y at *
    generalize hys : x.fServices.set j ({ e.fService with fVersion := nowV x, fCool := 0, fNext := y.fNext } : StewService) = ys
    have hyl : x.fServices.length = ys.length := by rw [← hys, List.length_set]
    have hyD : (x.fServices.map StewService.D).set j (({ e.fService with fVersion := nowV x, fCool := 0, fNext := y.fNext } : StewService)).D = ys.map StewService.D := by rw [← hys, List.map_set]
    conv => whnf
    repeat' (first | (refine g_op ?_; conv => whnf) | (refine And.intro ?_ ?_; (focus exact au0); conv => whnf) | (refine g_nil ?_; conv => whnf) | fail)
    refine XS.go ?_
    conv => whnf
    repeat' (first | (refine g_op ?_; conv => whnf) | (refine And.intro ?_ ?_; (focus exact au0); conv => whnf) | (refine g_seq ?_) | (refine g_ops ?_) | (refine g_nil ?_; conv => whnf) | fail)
    refine XS.go ?_
    conv => whnf
    repeat' (first | (refine z_ld1 ?_; first | (refine z_ld rfl rfl rfl rfl au1 au2 ?_; conv => whnf) | (refine z_ld0 rfl ?_; conv => whnf)) | (refine z_st1 ?_; first | (refine z_st rfl rfl rfl au1 au2 rfl rfl ?_; conv => whnf) | (refine z_st0 ?_; conv => whnf)) | (refine z_op ?_ ?_; (focus exact rfl); conv => whnf) | (refine zs_ops ?_ ?_; (focus exact rfl)) | (refine z_nil fun vals => ?_; conv => whnf) | (refine And.intro ?_ ?_; (focus exact au0); conv => whnf) | (refine Br.t ?_ ?_; (focus (first | assumption | exact rfl)); conv => whnf) | (refine g_cond ?_; conv => whnf) | fail)
    refine XS.go ?_
    conv => whnf
    repeat' (first | (refine g_op ?_; conv => whnf) | (refine And.intro ?_ ?_; (focus exact au0); conv => whnf) | (refine g_seq ?_) | (refine XS.go ?_) | (refine g_ops ?_) | (refine g_nil ?_; conv => whnf) | (refine g_drawn ?_) | ((first | refine d_p ?_ | refine d_e ?_); conv => whnf) | fail)
    refine XCL.of_XC (ls := (({ x with fNow := nowV x } : StewBook)).P 300 b0 301 302 303 b1 b2 b3 c1 c2 c3) ⟨rfl, rfl, rfl, rfl, rfl, rfl, rfl, rfl, rfl, rfl, rfl, rfl, True.intro⟩ (hP.mono fun d ls h => ?_)
    obtain ⟨rfl, rfl⟩ := h
    conv => whnf
    repeat' (first | ((refine d_st rfl rfl rfl hj0 he0 rfl rfl ?_; conv => whnf)) | ((refine And.intro ⟨⟨rfl, rfl⟩, True.intro⟩ ?_; conv => whnf)) | (refine And.intro ?_ ?_; (focus exact au0); conv => whnf) | ((first | refine d_p ?_ | refine d_nil ?_); conv => whnf) | fail)
    refine ⟨(c1, c2, c3), ⟨rfl, rfl⟩, ⟨?_, ?_⟩⟩
    ·repeat' (first | exact True.intro | refine And.intro rfl ?_)
    ·exact ⟨congrArg (fun n => some (D.agg [.int .i64 (nowV x), .lsl 301 b1 n c1, .lsl 302 b2 x.fCopies.length c2, .lsl 303 b3 x.fBerths.length c3])) hyl, congrArg (fun l => some (D.arr 13 l c1)) hyD, rfl, rfl, True.intro⟩
  conv => whnf
  repeat' (first | (refine g_op ?_; conv => whnf) | (refine And.intro ?_ ?_; (focus exact au0); conv => whnf) | (refine g_seq ?_) | (refine XS.go ?_) | (refine g_ops ?_) | ((first | refine g_nil ?_ | refine g_cond ?_); conv => whnf) | fail)
  refine Br.mk (fun hb => ?_) (fun hb3 => ?_)
  ·have hk : e.fKind = 3 := by simpa using hb
   clear hb
   conv => whnf
   repeat' (first | (refine g_op ?_; conv => whnf) | (refine And.intro ?_ ?_; (focus exact au0); conv => whnf) | (refine g_seq ?_) | (refine g_ops ?_) | fail)
   refine XCL.of_XC (ls := (({ x with fNow := nowV x } : StewBook)).P 300 b0 301 302 303 b1 b2 b3 c1 c2 c3) ⟨rfl, rfl, rfl, rfl, rfl, rfl, rfl, rfl, rfl, rfl, rfl, rfl, True.intro⟩ ((impl_cpyO ({ x with fNow := nowV x } : StewBook) e.fName e.fNumber hs1 b0 b1 b2 b3 c1 c2 c3).mono fun d ls h => ?_)
   obtain ⟨rfl, rfl⟩ := h
   rcases cpyI_cs ({ x with fNow := nowV x } : StewBook) e.fName e.fNumber with hq | ⟨j, hq, hjl⟩
   ·have hS : seaC x e = 3 := by unfold seaC; rw [seaP3n hk (show cpyI x e.fName e.fNumber = -1 from hq)]; rfl
    rw [hq, hS]
    conv => whnf
    repeat' (first | (refine g_op ?_; conv => whnf) | (refine And.intro ?_ ?_; (focus exact au0); conv => whnf) | (refine g_nil ?_; conv => whnf) | fail)
    refine XS.go ?_
    conv => whnf
    repeat' (first | (refine z_skipF ?_ ?_; (focus ((conv => lhs; whnf); done)); (conv => whnf); refine And.intro ?_ ?_; (focus exact rfl)) | (refine z_skipT' ?_ ?_; (focus ((conv => lhs; whnf); done)); (conv => whnf); refine And.intro ?_ ?_; (focus exact rfl)) | (refine z_op ?_ ?_; (focus exact rfl); conv => whnf) | (refine z_pick ?_ ?_; (focus exact rfl); conv => whnf) | (refine zs_ops ?_ ?_; (focus exact rfl)) | ((first | refine z_nil fun vals => ?_ | refine g_op ?_); conv => whnf) | (refine And.intro ?_ ?_; (focus exact au0); conv => whnf) | (refine g_seq ?_) | (refine XS.go ?_) | (refine g_ops ?_) | (refine g_nil ?_; conv => whnf) | (refine Br.t ?_ ?_; (focus (first | assumption | exact rfl)); conv => whnf) | ((first | refine g_cond ?_ | refine g_ret ?_ | refine r_t ?_ | refine r_nil ?_); conv => whnf) | fail)
    exact ⟨({ x with fNow := nowV x } : StewBook), _, _, _, c1, c2, c3, rfl, rfl, fun h => absurd h (by decide)⟩
   ·have hq' : cpyI x e.fName e.fNumber = (j : Int) := hq
    have hjl' : j < x.fCopies.length := hjl
    rw [hq]
    have hj0 : j < (x.fCopies.map StewCopy.D).length := by rw [List.length_map]; exact hjl
    have he0 : (x.fCopies.map StewCopy.D).getD j .any = (x.fCopies.getD j default).D := elt_map hjl
    cases hf : failOk (x.fCopies.getD j default) with
    | false =>
     have hS : seaC x e = 3 := by unfold seaC; rw [seaP3b hk hq' hf]; rfl
     rw [hS]
     generalize x.fCopies.getD j default = c at *
     conv => whnf
     repeat' (first | (refine z_ld1g ?_; first | (refine z_ldg rfl rfl rfl rfl rfl rfl rfl (by (repeat intro _); exact ⟨au1, au2⟩) rfl rfl rfl rfl ?_; conv => whnf) | (refine z_ld0g ?_; (conv => whnf); refine And.intro ?_ ?_; (focus exact rfl); conv => whnf)) | (refine z_op ?_ ?_; (focus exact rfl); conv => whnf) | (refine z_opg0 ?_; (conv => whnf); refine And.intro ?_ ?_; (focus exact rfl); conv => whnf) | (refine z_pick ?_ ?_; (focus exact rfl); conv => whnf) | (refine z_pickg ?_; (conv => whnf); refine And.intro ?_ ?_; (focus exact rfl); conv => whnf) | (refine zs_ops ?_ ?_; (focus exact rfl)) | ((first | refine z_nil fun vals => ?_ | refine g_op ?_); conv => whnf) | (refine And.intro ?_ ?_; (focus exact au0); conv => whnf) | (refine g_seq ?_) | (refine XS.go ?_) | ((first | refine g_nil ?_ | refine g_cond ?_); conv => whnf) | fail)
     refine Br.t (by simp only [failOk, Bool.or_eq_false_iff] at hf; simp [bne, hf.1, hf.2]) ?_
     conv => whnf
     repeat' (first | (refine g_op ?_; conv => whnf) | (refine And.intro ?_ ?_; (focus exact au0); conv => whnf) | (refine g_seq ?_) | (refine XS.go ?_) | (refine g_ops ?_) | ((first | refine g_nil ?_ | refine g_ret ?_ | refine r_t ?_ | refine r_nil ?_); conv => whnf) | fail)
     exact ⟨({ x with fNow := nowV x } : StewBook), _, _, _, c1, c2, c3, rfl, rfl, fun h => absurd h (by decide)⟩
    | true =>
     rw [seaP3p hk hq' hf]
     generalize x.fCopies.getD j default = c at *
     generalize hy : x.fCopies.set j { c with fState := 4, fVersion := nowV x } = ys
     have hyl : x.fCopies.length = ys.length := by rw [← hy, List.length_set]
     have hyD : ((x.fCopies.map StewCopy.D).set j ({ c with fState := 4 } : StewCopy).D).set j ({ c with fState := 4, fVersion := nowV x } : StewCopy).D = ys.map StewCopy.D := by rw [List.set_set, ← hy, List.map_set]
     conv => whnf
     repeat' (first | (refine z_ld1g ?_; first | (refine z_ldg rfl rfl rfl rfl rfl rfl rfl (by (repeat intro _); exact ⟨au1, au2⟩) rfl rfl rfl rfl ?_; conv => whnf) | (refine z_ld0g ?_; (conv => whnf); refine And.intro ?_ ?_; (focus exact rfl); conv => whnf)) | (refine z_op ?_ ?_; (focus exact rfl); conv => whnf) | (refine z_opg0 ?_; (conv => whnf); refine And.intro ?_ ?_; (focus exact rfl); conv => whnf) | (refine z_pick ?_ ?_; (focus exact rfl); conv => whnf) | (refine z_pickg ?_; (conv => whnf); refine And.intro ?_ ?_; (focus exact rfl); conv => whnf) | (refine zs_ops ?_ ?_; (focus exact rfl)) | ((first | refine z_nil fun vals => ?_ | refine g_op ?_); conv => whnf) | (refine And.intro ?_ ?_; (focus exact au0); conv => whnf) | (refine g_seq ?_) | (refine XS.go ?_) | ((first | refine g_nil ?_ | refine g_cond ?_); conv => whnf) | fail)
     refine Br.f (by simp only [failOk, Bool.or_eq_true] at hf; rcases hf with hf | hf <;> simp [bne, hf]) ?_
     conv => whnf
     repeat' (first | (refine z_ld1 ?_; first | (refine z_ld rfl rfl rfl rfl au1 au2 ?_; conv => whnf) | (refine z_ld0 rfl ?_; conv => whnf)) | (refine z_st1 ?_; first | (refine z_st rfl rfl rfl au1 au2 rfl rfl ?_; conv => whnf) | (refine z_st0 ?_; conv => whnf)) | (refine z_op ?_ ?_; (focus exact rfl); conv => whnf) | (refine zs_ops ?_ ?_; (focus exact rfl)) | (refine z_nil fun vals => ?_; conv => whnf) | (refine And.intro ?_ ?_; (focus exact au0); conv => whnf) | (refine XS.go ?_) | (refine g_skip ?_; conv => whnf) | fail)
     refine ⟨(c1, c2, c3), ⟨rfl, rfl⟩, ⟨?_, ?_⟩⟩
     ·repeat' (first | exact True.intro | refine And.intro rfl ?_)
     ·exact ⟨congrArg (fun n => some (D.agg [.int .i64 (nowV x), .lsl 301 b1 x.fServices.length c1, .lsl 302 b2 n c2, .lsl 303 b3 x.fBerths.length c3])) hyl, rfl, congrArg (fun l => some (D.arr 7 l c2)) hyD, rfl, True.intro⟩
  conv => whnf
  repeat' (first | (refine g_op ?_; conv => whnf) | (refine And.intro ?_ ?_; (focus exact au0); conv => whnf) | (refine g_seq ?_) | (refine XS.go ?_) | (refine g_ops ?_) | ((first | refine g_nil ?_ | refine g_cond ?_); conv => whnf) | fail)
  refine Br.mk (fun hb => ?_) (fun hb4 => ?_)
  ·have hk : e.fKind = 4 := by simpa using hb
   clear hb
   conv => whnf
   repeat' (first | (refine g_op ?_; conv => whnf) | (refine And.intro ?_ ?_; (focus exact au0); conv => whnf) | (refine g_seq ?_) | (refine g_ops ?_) | fail)
   refine XCL.of_XC (ls := (({ x with fNow := nowV x } : StewBook)).P 300 b0 301 302 303 b1 b2 b3 c1 c2 c3) ⟨rfl, rfl, rfl, rfl, rfl, rfl, rfl, rfl, rfl, rfl, rfl, rfl, True.intro⟩ ((impl_berO ({ x with fNow := nowV x } : StewBook) e.fName hs1 b0 b1 b2 b3 c1 c2 c3).mono fun d ls h => ?_)
   obtain ⟨rfl, rfl⟩ := h
   rcases berI_cs ({ x with fNow := nowV x } : StewBook) e.fName with hq | ⟨j, hq, hjl⟩
   ·have hS : seaC x e = 3 := by unfold seaC; rw [seaP4n hk (show berI x e.fName = -1 from hq)]; rfl
    rw [hq, hS]
    conv => whnf
    repeat' (first | (refine g_op ?_; conv => whnf) | (refine And.intro ?_ ?_; (focus exact au0); conv => whnf) | (refine g_seq ?_) | (refine XS.go ?_) | (refine g_ops ?_) | (refine g_nil ?_; conv => whnf) | (refine Br.t ?_ ?_; (focus (first | assumption | exact rfl)); conv => whnf) | ((first | refine g_cond ?_ | refine g_ret ?_ | refine r_t ?_ | refine r_nil ?_); conv => whnf) | fail)
    exact ⟨({ x with fNow := nowV x } : StewBook), _, _, _, c1, c2, c3, rfl, rfl, fun h => absurd h (by decide)⟩
   ·have hq' : berI x e.fName = (j : Int) := hq
    have hn : e.fName.toList ≠ emp := by
     obtain ⟨g1, g2⟩ := berI_found hq'
     rw [← g2, show x.fBerths.getD j default = x.fBerths[j] by simp [g1]]
     exact hWB _ (List.getElem_mem _)
    rw [hq, seaP4p hk hq', ← sink_ber hv hq', ← sink_cpy hv hn]
    have hD1 := delF_StewBerth 154 [.cref e.D] (fun a => a.fName.toList == e.fName.toList) rfl (fun a => sea_cl2 a e) 303 x.fBerths b3 c3 l3
    have hD2 := delF_StewCopy 156 [.cref e.D] (fun a => a.fState != 1 && standP e.fName a) rfl (fun a => sea_cl3 a e) 302 x.fCopies b2 c2 l2
    conv => whnf
    repeat' (first | (refine g_op ?_; conv => whnf) | (refine And.intro ?_ ?_; (focus exact au0); conv => whnf) | (refine g_seq ?_) | (refine XS.go ?_) | (refine g_ops ?_) | (refine g_nil ?_; conv => whnf) | (refine Br.f ?_ ?_; (focus (first | assumption | exact rfl)); conv => whnf) | ((first | refine g_cond ?_ | refine g_skip ?_); conv => whnf) | fail)
    refine XCL.of_XC (ls := [(303, b3, .arr 2 (x.fBerths.map StewBerth.D) c3)]) ⟨rfl, rfl, rfl, True.intro⟩ (hD1.mono fun d ls h => ?_)
    obtain ⟨rfl, rfl⟩ := h
    conv => whnf
    repeat' (first | (refine g_op ?_; conv => whnf) | (refine And.intro ?_ ?_; (focus exact au0); conv => whnf) | (refine XS.go ?_) | (refine g_ops ?_) | (refine g_nil ?_; conv => whnf) | fail)
    refine XCL.of_XC (ls := [(302, b2, .arr 7 (x.fCopies.map StewCopy.D) c2)]) ⟨rfl, rfl, rfl, True.intro⟩ (hD2.mono fun d ls h => ?_)
    obtain ⟨rfl, rfl⟩ := h
    conv => whnf
    repeat' (first | (refine g_op ?_; conv => whnf) | (refine And.intro ?_ ?_; (focus exact au0); conv => whnf) | (refine g_nil ?_; conv => whnf) | fail)
    refine ⟨(c1, c2, c3), ⟨rfl, rfl⟩, ⟨?_, ?_⟩⟩
    ·repeat' (first | exact True.intro | refine And.intro rfl ?_)
    ·exact ⟨rfl, rfl, rfl, rfl, True.intro⟩
  conv => whnf
  repeat' (first | (refine g_op ?_; conv => whnf) | (refine And.intro ?_ ?_; (focus exact au0); conv => whnf) | (refine g_seq ?_) | (refine XS.go ?_) | (refine g_ops ?_) | ((first | refine g_nil ?_ | refine g_cond ?_); conv => whnf) | fail)
  refine Br.mk (fun hb => ?_) (fun hb5 => ?_)
  ·have hk : e.fKind = 5 := by simpa using hb
   rw [seaP5 hk]
   clear hb
   conv => whnf
   repeat' (first | (refine g_op ?_; conv => whnf) | (refine And.intro ?_ ?_; (focus exact au0); conv => whnf) | (refine g_seq ?_) | (refine g_ops ?_) | fail)
   refine XCL.of_XC (ls := (({ x with fNow := nowV x } : StewBook)).P 300 b0 301 302 303 b1 b2 b3 c1 c2 c3) ⟨rfl, rfl, rfl, rfl, rfl, rfl, rfl, rfl, rfl, rfl, rfl, rfl, True.intro⟩ ((impl_berO ({ x with fNow := nowV x } : StewBook) e.fName hs1 b0 b1 b2 b3 c1 c2 c3).mono fun d ls h => ?_)
   obtain ⟨rfl, rfl⟩ := h
   rcases berI_cs ({ x with fNow := nowV x } : StewBook) e.fName with hq | ⟨j, hq, hjl⟩
   ·have hq' : berI x e.fName = -1 := hq
    rw [hq, raise_ins hq']
    have hix := indexF_StewBerth 158 [.cref e.D] (fun a => Op.bytesLess e.fName.toList a.fName.toList) rfl (fun a => sea_cl4 a e) x.fBerths l3
    rw [berK_idx hq'] at hix
    have hKl : berK x.fBerths e.fName ≤ x.fBerths.length := pI_le _ _
    conv => whnf
    repeat' (first | ((refine XCL.of_rdrB hix (.cons (Bor.rowM rfl rfl rfl (fun _ => rfl)) (.cons (Bor.refl _ _) .nil)) rfl ?_; conv => whnf)) | (refine g_op ?_; conv => whnf) | (refine And.intro ?_ ?_; (focus exact au0); conv => whnf) | (refine g_seq ?_) | (refine XS.go ?_) | (refine g_ops ?_) | (refine g_nil ?_; conv => whnf) | (refine Br.t ?_ ?_; (focus (first | assumption | exact rfl)); conv => whnf) | (refine g_cond ?_; conv => whnf) | fail)
    refine Br.mk (fun hb => ?_) (fun hb => ?_)
    ·have hKe : x.fBerths.length = berK x.fBerths e.fName := by
      unfold berK pI
      rw [if_pos (of_decide_eq_true hb)]
     clear hb
     have hixl : x.fBerths.length ≤ x.fBerths.length := Nat.le_refl _
     have hins := insR_StewBerth 303 180 ⟨e.fName, false⟩ x.fBerths x.fBerths.length b3 c3 hixl l3
     conv => whnf
     repeat' (first | (refine g_op ?_; conv => whnf) | (refine And.intro ?_ ?_; (focus exact au0); conv => whnf) | (refine XS.go ?_) | (refine g_ops ?_) | (refine g_nil ?_; conv => whnf) | (refine g_drawn ?_) | ((first | refine d_p ?_ | refine d_e ?_); conv => whnf) | fail)
     refine XCL.of_XC (ls := [(303, b3, .arr 2 (x.fBerths.map StewBerth.D) c3)]) ⟨rfl, rfl, rfl, True.intro⟩ (hins.mono fun d ls h => ?_)
     obtain ⟨b', c', rfl, rfl⟩ := h
     conv => whnf
     repeat' (first | ((refine And.intro True.intro ?_; conv => whnf)) | (refine And.intro ?_ ?_; (focus exact au0); conv => whnf) | ((first | refine d_p ?_ | refine d_e ?_ | refine d_nil ?_); conv => whnf) | fail)
     refine XS.move 180 303 [] rfl ?_
     refine XS.hintB 300 303 [3] rfl rfl rfl rfl rfl (fun _ _ _ h => by cases h) rfl ?_
     have hlen := insAt_len x.fBerths x.fBerths.length ⟨e.fName, false⟩
     have hq2 : berI ({ x with fNow := nowV x, fBerths := insAt x.fBerths x.fBerths.length ⟨e.fName, false⟩ } : StewBook) e.fName = ((x.fBerths.length : Nat) : Int) := berI_ins (b := ({ x with fNow := nowV x } : StewBook)) (y := ⟨e.fName, false⟩) hq hixl
     have hsZ : (({ x with fNow := nowV x, fBerths := insAt x.fBerths x.fBerths.length ⟨e.fName, false⟩ } : StewBook)).small := ⟨hs.fServices, hs.fCopies, ⟨by show (insAt x.fBerths x.fBerths.length ⟨e.fName, false⟩).length ≤ _; omega, fun _ _ => ⟨⟩⟩⟩
     have hP := impl_berO ({ x with fNow := nowV x, fBerths := insAt x.fBerths x.fBerths.length ⟨e.fName, false⟩ } : StewBook) e.fName hsZ b0 b1 b2 b' c1 c2 c'
     rw [hq2] at hP
     have hj0 : x.fBerths.length < ((insAt x.fBerths x.fBerths.length ⟨e.fName, false⟩).map StewBerth.D).length := by rw [List.length_map]; omega
     have he0 : ((insAt x.fBerths x.fBerths.length ⟨e.fName, false⟩).map StewBerth.D).getD x.fBerths.length .any = (⟨e.fName, false⟩ : StewBerth).D := by rw [elt_map (by omega), insAt_get _ _ _ hixl]
     have hset : ((insAt x.fBerths x.fBerths.length ⟨e.fName, false⟩).map StewBerth.D).set x.fBerths.length (⟨e.fName, e.fFlag⟩ : StewBerth).D = (insAt x.fBerths (berK x.fBerths e.fName) ⟨e.fName, e.fFlag⟩).map StewBerth.D := by rw [← List.map_set, insAt_set _ _ _ _ hixl]; rw [← hKe]
     have hlen2 : (insAt x.fBerths x.fBerths.length ⟨e.fName, false⟩).length = (insAt x.fBerths (berK x.fBerths e.fName) ⟨e.fName, e.fFlag⟩).length := by rw [insAt_len, insAt_len]
     refine XS.go ?_
     conv => whnf
     repeat' (first | (refine And.intro ?_ ?_; (focus exact au0); conv => whnf) | (refine g_drawn ?_) | ((first | refine d_p ?_ | refine d_e ?_); conv => whnf) | fail)
     refine XCL.of_XC (ls := (({ x with fNow := nowV x, fBerths := insAt x.fBerths x.fBerths.length ⟨e.fName, false⟩ } : StewBook)).P 300 b0 301 302 303 b1 b2 b' c1 c2 c') ⟨rfl, rfl, rfl, rfl, rfl, rfl, rfl, rfl, rfl, rfl, rfl, rfl, True.intro⟩ (hP.mono fun d ls h => ?_)
     obtain ⟨rfl, rfl⟩ := h
     conv => whnf
     repeat' (first | ((refine d_st rfl rfl rfl hj0 he0 rfl rfl ?_; conv => whnf)) | ((refine And.intro True.intro ?_; conv => whnf)) | (refine And.intro ?_ ?_; (focus exact au0); conv => whnf) | ((first | refine d_p ?_ | refine d_nil ?_); conv => whnf) | fail)
     refine ⟨(c1, c2, c'), ⟨rfl, rfl⟩, ⟨?_, ?_⟩⟩
     ·repeat' (first | exact True.intro | refine And.intro rfl ?_)
     ·exact ⟨congrArg (fun n => some (D.agg [.int .i64 (nowV x), .lsl 301 b1 x.fServices.length c1, .lsl 302 b2 x.fCopies.length c2, .lsl 303 b' n c'])) hlen2, rfl, rfl, congrArg (fun l => some (D.arr 2 l c')) hset, True.intro⟩
    ·have hKe : idxN (berP x.fBerths e.fName) x.fBerths.length 0 = ((berK x.fBerths e.fName : Nat) : Int) := by
      have h0 := of_decide_eq_false hb
      unfold berK pI
      rw [if_neg h0]
      omega
     rw [hKe]
     clear hb
     have hixl : (berK x.fBerths e.fName) ≤ x.fBerths.length := hKl
     have hins := insR_StewBerth 303 180 ⟨e.fName, false⟩ x.fBerths (berK x.fBerths e.fName) b3 c3 hixl l3
     conv => whnf
     repeat' (first | (refine And.intro ?_ ?_; (focus exact au0); conv => whnf) | (refine XS.go ?_) | (refine g_skip ?_; conv => whnf) | (refine g_drawn ?_) | ((first | refine d_p ?_ | refine d_e ?_); conv => whnf) | fail)
     refine XCL.of_XC (ls := [(303, b3, .arr 2 (x.fBerths.map StewBerth.D) c3)]) ⟨rfl, rfl, rfl, True.intro⟩ (hins.mono fun d ls h => ?_)
     obtain ⟨b', c', rfl, rfl⟩ := h
     conv => whnf
     repeat' (first | ((refine And.intro True.intro ?_; conv => whnf)) | (refine And.intro ?_ ?_; (focus exact au0); conv => whnf) | ((first | refine d_p ?_ | refine d_e ?_ | refine d_nil ?_); conv => whnf) | fail)
     refine XS.move 180 303 [] rfl ?_
     refine XS.hintB 300 303 [3] rfl rfl rfl rfl rfl (fun _ _ _ h => by cases h) rfl ?_
     have hlen := insAt_len x.fBerths (berK x.fBerths e.fName) ⟨e.fName, false⟩
     have hq2 : berI ({ x with fNow := nowV x, fBerths := insAt x.fBerths (berK x.fBerths e.fName) ⟨e.fName, false⟩ } : StewBook) e.fName = (((berK x.fBerths e.fName) : Nat) : Int) := berI_ins (b := ({ x with fNow := nowV x } : StewBook)) (y := ⟨e.fName, false⟩) hq hixl
     have hsZ : (({ x with fNow := nowV x, fBerths := insAt x.fBerths (berK x.fBerths e.fName) ⟨e.fName, false⟩ } : StewBook)).small := ⟨hs.fServices, hs.fCopies, ⟨by show (insAt x.fBerths (berK x.fBerths e.fName) ⟨e.fName, false⟩).length ≤ _; omega, fun _ _ => ⟨⟩⟩⟩
     have hP := impl_berO ({ x with fNow := nowV x, fBerths := insAt x.fBerths (berK x.fBerths e.fName) ⟨e.fName, false⟩ } : StewBook) e.fName hsZ b0 b1 b2 b' c1 c2 c'
     rw [hq2] at hP
     have hj0 : (berK x.fBerths e.fName) < ((insAt x.fBerths (berK x.fBerths e.fName) ⟨e.fName, false⟩).map StewBerth.D).length := by rw [List.length_map]; omega
     have he0 : ((insAt x.fBerths (berK x.fBerths e.fName) ⟨e.fName, false⟩).map StewBerth.D).getD (berK x.fBerths e.fName) .any = (⟨e.fName, false⟩ : StewBerth).D := by rw [elt_map (by omega), insAt_get _ _ _ hixl]
     have hset : ((insAt x.fBerths (berK x.fBerths e.fName) ⟨e.fName, false⟩).map StewBerth.D).set (berK x.fBerths e.fName) (⟨e.fName, e.fFlag⟩ : StewBerth).D = (insAt x.fBerths (berK x.fBerths e.fName) ⟨e.fName, e.fFlag⟩).map StewBerth.D := by rw [← List.map_set, insAt_set _ _ _ _ hixl]
     have hlen2 : (insAt x.fBerths (berK x.fBerths e.fName) ⟨e.fName, false⟩).length = (insAt x.fBerths (berK x.fBerths e.fName) ⟨e.fName, e.fFlag⟩).length := by rw [insAt_len, insAt_len]
     refine XS.go ?_
     conv => whnf
     repeat' (first | (refine And.intro ?_ ?_; (focus exact au0); conv => whnf) | (refine g_drawn ?_) | ((first | refine d_p ?_ | refine d_e ?_); conv => whnf) | fail)
     refine XCL.of_XC (ls := (({ x with fNow := nowV x, fBerths := insAt x.fBerths (berK x.fBerths e.fName) ⟨e.fName, false⟩ } : StewBook)).P 300 b0 301 302 303 b1 b2 b' c1 c2 c') ⟨rfl, rfl, rfl, rfl, rfl, rfl, rfl, rfl, rfl, rfl, rfl, rfl, True.intro⟩ (hP.mono fun d ls h => ?_)
     obtain ⟨rfl, rfl⟩ := h
     conv => whnf
     repeat' (first | ((refine d_st rfl rfl rfl hj0 he0 rfl rfl ?_; conv => whnf)) | ((refine And.intro True.intro ?_; conv => whnf)) | (refine And.intro ?_ ?_; (focus exact au0); conv => whnf) | ((first | refine d_p ?_ | refine d_nil ?_); conv => whnf) | fail)
     refine ⟨(c1, c2, c'), ⟨rfl, rfl⟩, ⟨?_, ?_⟩⟩
     ·repeat' (first | exact True.intro | refine And.intro rfl ?_)
     ·exact ⟨congrArg (fun n => some (D.agg [.int .i64 (nowV x), .lsl 301 b1 x.fServices.length c1, .lsl 302 b2 x.fCopies.length c2, .lsl 303 b' n c'])) hlen2, rfl, rfl, congrArg (fun l => some (D.arr 2 l c')) hset, True.intro⟩
   ·have hq' : berI x e.fName = (j : Int) := hq
    obtain ⟨g1, g2⟩ := berI_found hq'
    rw [raise_set hv hq']
    have hj0 : j < (x.fBerths.map StewBerth.D).length := by rw [List.length_map]; exact g1
    have he0 : (x.fBerths.map StewBerth.D).getD j .any = (x.fBerths.getD j default).D := elt_map g1
    have hy : (⟨e.fName, e.fFlag⟩ : StewBerth) = { (x.fBerths.getD j default) with fDrain := e.fFlag } := by
     rw [StewBerth.mk.injEq]
     refine ⟨ba_inj g2.symm, rfl⟩
    rw [hy]
    have hP := impl_berO ({ x with fNow := nowV x } : StewBook) e.fName hs1 b0 b1 b2 b3 c1 c2 c3
    rw [hq] at hP ⊢
    generalize x.fBerths.getD j default = y at *
    generalize hys : x.fBerths.set j { y with fDrain := e.fFlag } = ys
    have hyl : x.fBerths.length = ys.length := by rw [← hys, List.length_set]
    have hyD : (x.fBerths.map StewBerth.D).set j ({ y with fDrain := e.fFlag } : StewBerth).D = ys.map StewBerth.D := by rw [← hys, List.map_set]
    conv => whnf
    repeat' (first | (refine g_op ?_; conv => whnf) | (refine And.intro ?_ ?_; (focus exact au0); conv => whnf) | (refine XS.go ?_) | (refine g_nil ?_; conv => whnf) | (refine Br.f ?_ ?_; (focus (first | assumption | exact rfl)); conv => whnf) | ((first | refine g_cond ?_ | refine g_skip ?_); conv => whnf) | (refine g_drawn ?_) | ((first | refine d_p ?_ | refine d_e ?_); conv => whnf) | fail)
    refine XCL.of_XC (ls := (({ x with fNow := nowV x } : StewBook)).P 300 b0 301 302 303 b1 b2 b3 c1 c2 c3) ⟨rfl, rfl, rfl, rfl, rfl, rfl, rfl, rfl, rfl, rfl, rfl, rfl, True.intro⟩ (hP.mono fun d ls h => ?_)
    obtain ⟨rfl, rfl⟩ := h
    conv => whnf
    repeat' (first | ((refine d_st rfl rfl rfl hj0 he0 rfl rfl ?_; conv => whnf)) | ((refine And.intro True.intro ?_; conv => whnf)) | (refine And.intro ?_ ?_; (focus exact au0); conv => whnf) | ((first | refine d_p ?_ | refine d_nil ?_); conv => whnf) | fail)
    refine ⟨(c1, c2, c3), ⟨rfl, rfl⟩, ⟨?_, ?_⟩⟩
    ·repeat' (first | exact True.intro | refine And.intro rfl ?_)
    ·exact ⟨congrArg (fun n => some (D.agg [.int .i64 (nowV x), .lsl 301 b1 x.fServices.length c1, .lsl 302 b2 x.fCopies.length c2, .lsl 303 b3 n c3])) hyl, rfl, rfl, congrArg (fun l => some (D.arr 2 l c3)) hyD, True.intro⟩
  conv => whnf
  repeat' (first | (refine g_op ?_; conv => whnf) | (refine And.intro ?_ ?_; (focus exact au0); conv => whnf) | (refine g_seq ?_) | (refine XS.go ?_) | (refine g_ops ?_) | ((first | refine g_nil ?_ | refine g_cond ?_); conv => whnf) | fail)
  refine Br.mk (fun hb => ?_) (fun hb6 => ?_)
  ·have hk : e.fKind = 6 := by simpa using hb
   clear hb
   conv => whnf
   repeat' (first | (refine g_op ?_; conv => whnf) | (refine And.intro ?_ ?_; (focus exact au0); conv => whnf) | (refine g_seq ?_) | (refine g_ops ?_) | fail)
   refine XCL.of_XC (ls := (({ x with fNow := nowV x } : StewBook)).P 300 b0 301 302 303 b1 b2 b3 c1 c2 c3) ⟨rfl, rfl, rfl, rfl, rfl, rfl, rfl, rfl, rfl, rfl, rfl, rfl, True.intro⟩ ((impl_svcO ({ x with fNow := nowV x } : StewBook) e.fName hs1 b0 b1 b2 b3 c1 c2 c3).mono fun d ls h => ?_)
   obtain ⟨rfl, rfl⟩ := h
   rcases svcI_cs ({ x with fNow := nowV x } : StewBook) e.fName with hq | ⟨j, hq, hjl⟩
   ·have hS : seaC x e = 3 := by unfold seaC; rw [seaP6n hk (show svcI x e.fName = -1 from hq)]; rfl
    rw [hq, hS]
    conv => whnf
    repeat' (first | (refine g_op ?_; conv => whnf) | (refine And.intro ?_ ?_; (focus exact au0); conv => whnf) | (refine g_nil ?_; conv => whnf) | fail)
    refine XS.go ?_
    conv => whnf
    repeat' (first | (refine z_skipT' ?_ ?_; (focus ((conv => lhs; whnf); done)); (conv => whnf); refine And.intro ?_ ?_; (focus exact rfl)) | (refine z_op ?_ ?_; (focus exact rfl); conv => whnf) | (refine z_pick ?_ ?_; (focus exact rfl); conv => whnf) | (refine zs_ops ?_ ?_; (focus exact rfl)) | ((first | refine z_nil fun vals => ?_ | refine g_op ?_); conv => whnf) | (refine And.intro ?_ ?_; (focus exact au0); conv => whnf) | (refine g_seq ?_) | (refine XS.go ?_) | (refine g_ops ?_) | (refine g_nil ?_; conv => whnf) | (refine Br.t ?_ ?_; (focus (first | assumption | exact rfl)); conv => whnf) | ((first | refine g_cond ?_ | refine g_ret ?_ | refine r_t ?_ | refine r_nil ?_); conv => whnf) | fail)
    exact ⟨({ x with fNow := nowV x } : StewBook), _, _, _, c1, c2, c3, rfl, rfl, fun h => absurd h (by decide)⟩
   ·have hq' : svcI x e.fName = (j : Int) := hq
    have hjl' : j < x.fServices.length := hjl
    rw [hq]
    have hj0 : j < (x.fServices.map StewService.D).length := by rw [List.length_map]; exact hjl
    have he0 : (x.fServices.map StewService.D).getD j .any = (x.fServices.getD j default).D := elt_map hjl
    cases hf : ((x.fServices.getD j default).fPer == 0) with
    | true =>
     have hS : seaC x e = 3 := by unfold seaC; rw [seaP6b hk hq' hf]; rfl
     rw [hS]
     generalize x.fServices.getD j default = c at *
     conv => whnf
     repeat' (first | (refine z_ld1g ?_; first | (refine z_ldg rfl rfl rfl rfl rfl rfl rfl (by (repeat intro _); exact ⟨au1, au2⟩) rfl rfl rfl rfl ?_; conv => whnf) | (refine z_ld0g ?_; (conv => whnf); refine And.intro ?_ ?_; (focus exact rfl); conv => whnf)) | (refine z_op ?_ ?_; (focus exact rfl); conv => whnf) | (refine z_opg0 ?_; (conv => whnf); refine And.intro ?_ ?_; (focus exact rfl); conv => whnf) | (refine z_pick ?_ ?_; (focus exact rfl); conv => whnf) | (refine zs_ops ?_ ?_; (focus exact rfl)) | ((first | refine z_nil fun vals => ?_ | refine g_op ?_); conv => whnf) | (refine And.intro ?_ ?_; (focus exact au0); conv => whnf) | (refine g_seq ?_) | (refine XS.go ?_) | (refine g_ops ?_) | (refine g_nil ?_; conv => whnf) | (refine Br.t ?_ ?_; (focus (first | assumption | exact rfl)); conv => whnf) | ((first | refine g_cond ?_ | refine g_ret ?_ | refine r_t ?_ | refine r_nil ?_); conv => whnf) | fail)
     exact ⟨({ x with fNow := nowV x } : StewBook), _, _, _, c1, c2, c3, rfl, rfl, fun h => absurd h (by decide)⟩
    | false =>
     rw [seaP6p hk hq' hf]
     generalize x.fServices.getD j default = c at *
     generalize hy : x.fServices.set j { c with fLoad := e.fNumber, fVersion := nowV x } = ys
     have hyl : x.fServices.length = ys.length := by rw [← hy, List.length_set]
     have hyD : ((x.fServices.map StewService.D).set j ({ c with fLoad := e.fNumber } : StewService).D).set j ({ c with fLoad := e.fNumber, fVersion := nowV x } : StewService).D = ys.map StewService.D := by rw [List.set_set, ← hy, List.map_set]
     conv => whnf
     repeat' (first | ((refine d_st rfl rfl rfl hj0 he0 rfl rfl ?_; conv => whnf)) | ((refine d_st rfl rfl rfl (by simp only [List.length_set]; exact hj0) (elt_set hj0) rfl rfl ?_; conv => whnf)) | (refine z_ld1g ?_; first | (refine z_ldg rfl rfl rfl rfl rfl rfl rfl (by (repeat intro _); exact ⟨au1, au2⟩) rfl rfl rfl rfl ?_; conv => whnf) | (refine z_ld0g ?_; (conv => whnf); refine And.intro ?_ ?_; (focus exact rfl); conv => whnf)) | (refine z_op ?_ ?_; (focus exact rfl); conv => whnf) | (refine z_opg0 ?_; (conv => whnf); refine And.intro ?_ ?_; (focus exact rfl); conv => whnf) | (refine z_pick ?_ ?_; (focus exact rfl); conv => whnf) | (refine zs_ops ?_ ?_; (focus exact rfl)) | ((first | refine z_nil fun vals => ?_ | refine g_op ?_); conv => whnf) | (refine And.intro ?_ ?_; (focus exact au0); conv => whnf) | (refine g_seq ?_) | (refine XS.go ?_) | (refine g_nil ?_; conv => whnf) | (refine Br.f ?_ ?_; (focus (first | assumption | exact rfl)); conv => whnf) | ((first | refine g_cond ?_ | refine g_skip ?_); conv => whnf) | (refine g_drawn ?_) | ((first | refine d_p ?_ | refine d_nil ?_); conv => whnf) | fail)
     refine ⟨(c1, c2, c3), ⟨rfl, rfl⟩, ⟨?_, ?_⟩⟩
     ·repeat' (first | exact True.intro | refine And.intro rfl ?_)
     ·exact ⟨congrArg (fun n => some (D.agg [.int .i64 (nowV x), .lsl 301 b1 n c1, .lsl 302 b2 x.fCopies.length c2, .lsl 303 b3 x.fBerths.length c3])) hyl, congrArg (fun l => some (D.arr 13 l c1)) hyD, rfl, rfl, True.intro⟩
  exfalso
  simp at hb1 hb2 hb3 hb4 hb5 hb6
  omega
 ·intro q gs hE
  obtain ⟨q1, q2, q3⟩ := q
  obtain ⟨g0, hz⟩ := hE
  have hyl := seaP_len (e := e) v1 v2 v3
  have hyb : bLen (seaP x e).1 := ⟨by omega, by omega, by omega⟩
  have hVy := impl_Valid (seaP x e).1 hyb.1 hyb.2.2 hyb.2.1
  have hCy : seaC x e = if valid (seaP x e).1 = true then 0 else 2 := by
   unfold seaC
   rw [hz]
   cases valid (seaP x e).1 <;> rfl
  rw [hCy]
  generalize (seaP x e).1 = y at *
  clear hyl hCy
  cases hvy : valid y with
  | false =>
   rw [hvy] at hVy
   conv => whnf
   repeat' (first | ((refine XCL.of_rdrB hVy (.cons (Bor.bookO rfl rfl rfl rfl rfl rfl) .nil) rfl ?_; conv => whnf)) | (refine g_op ?_; conv => whnf) | (refine And.intro ?_ ?_; (focus exact au0); conv => whnf) | (refine g_seq ?_) | (refine XS.go ?_) | (refine g_ops ?_) | (refine g_nil ?_; conv => whnf) | (refine Br.t ?_ ?_; (focus (first | assumption | exact rfl)); conv => whnf) | ((first | refine g_cond ?_ | refine g_ret ?_ | refine r_t ?_ | refine r_nil ?_); conv => whnf) | fail)
   subst g0
   exact ⟨y, _, _, _, q1, q2, q3, rfl, rfl, fun h => rfl⟩
  | true =>
   rw [hvy] at hVy
   conv => whnf
   repeat' (first | ((refine XCL.of_rdrB hVy (.cons (Bor.bookO rfl rfl rfl rfl rfl rfl) .nil) rfl ?_; conv => whnf)) | (refine g_op ?_; conv => whnf) | (refine And.intro ?_ ?_; (focus exact au0); conv => whnf) | (refine g_seq ?_) | (refine XS.go ?_) | (refine g_ops ?_) | (refine g_nil ?_; conv => whnf) | (refine Br.f ?_ ?_; (focus (first | assumption | exact rfl)); conv => whnf) | ((first | refine g_cond ?_ | refine g_skip ?_ | refine g_ret ?_ | refine r_t ?_ | refine r_nil ?_); conv => whnf) | fail)
   subst g0
   exact ⟨y, _, _, _, q1, q2, q3, rfl, rfl, fun h => rfl⟩
end Go.Ab
set_option linter.unusedSimpArgs false
set_option linter.unusedVariables false
namespace Go.Ab
open Go Go.RowKit Go.Proofs
attribute [local irreducible] XC Rdr IntKind.wrap xw xos xqs xr xd
set_option maxRecDepth 100000
set_option maxHeartbeats 16000000
def cf48 : CF := ⟨22,[.c 4 4 true,.t 5],(.seq (.ops [Oo 2 (.bx (.t 0)),Oo 3 (.bx (.t 1)),Oo 4 (.al (.agg [.int .i64 0,.nil,.nil,.nil])),Ok 5 (.int .i64 0)]) (.seq (.seq (.ops [Od 8 4 2,Oc 9 20 [.t 8],Oo 10 (.not (.t 9))]) (.cond (.t 10) (.seq (.ops [Oo 11 (.bld (.agg [.int .i64 0,.nil,.nil,.nil]) []),Os 4 4 11,Ok 5 (.int .i64 1)]) .ret) .skip)) (.seq (.ops [Od 12 4 2,Oc 13 66 [.t 12],Oo 6 (.al (.agg [.int .i64 0,.nil,.nil,.nil])),Os 4 6 13]) (.seq (.seq (.ops [Od 14 17 3,Oc 15 111 [.t 6,.t 14],Om 7 15]) (.seq (.ops [Om 16 7,Oo 17 (.bin .neq (.t 16) (.k (.int .i64 0)))]) (.cond (.t 17) (.seq (.ops [Od 18 4 2,Oc 19 66 [.t 18],Om 20 7,Os 4 4 19,Om 5 20]) .ret) .skip))) (.seq (.ops [Od 21 4 6,Os 4 4 21,Ok 5 (.int .i64 0)]) .ret)))))⟩
theorem c48 : compileF Try.prog [] 48 = some cf48 := by kernel_rfl
theorem seaR_code {b : StewBook} (hv : valid b = true) (e : StewEvent) : seaR b e = if codeI b e = 0 then ((seaP b e).1, 0) else (b, codeI b e) := by
 have hnow : b.fNow ≤ 1000000 := by
  simp only [valid, Bool.and_eq_true, Bool.not_eq_true', Bool.or_eq_false_iff, Bool.not_eq_false', inR, decide_eq_true_eq] at hv
  omega
 unfold seaR codeI
 rw [if_pos hv]
 cases hI : inR e.fKind 1 6 with
 | true =>
  simp only [if_true]
  by_cases hN : b.fNow = 1000000
  ·rw [if_pos (by omega), if_pos hN]
   rfl
  ·rw [if_neg (by omega), if_neg hN]
 | false =>
  simp only [Bool.false_eq_true, if_false]
  have hK : ¬ (1 ≤ e.fKind ∧ e.fKind ≤ 6) := fun h => by
   have : inR e.fKind 1 6 = true := by simp [inR, h]
   rw [hI] at this
   cases this
  by_cases hN : b.fNow ≥ 1000000
  ·first | (rw [if_pos hN]; done) | (rw [if_pos hN]; rfl)
  ·rw [if_neg hN]
   have hC : seaC b e = 4 := by
    unfold seaC
    rw [seaP0 (by omega) (by omega) (by omega) (by omega) (by omega) (by omega)]
    rfl
   rw [hC]
   first | done | rfl
theorem impl_SeaY (b : StewBook) (e : StewEvent) (hs : b.small) : XC Try.prog 48 [b.D, e.D] [] (KT (seaR b e) 41 42 43) := by
 have hV := impl_Valid b hs.fServices.1 hs.fBerths.1 hs.fCopies.1
 cases hv : valid b with
 | false =>
  rw [hv] at hV
  have hE : seaR b e = (default, 1) := by simp [seaR, hv]
  rw [hE]
  have h : XC Try.prog 48 [b.D, e.D] [] (fun d ls => d = .tup [bookZ, .int .i64 1] ∧ ls = []) := by
   refine XC.intro' hm [] rfl c48 (Nat.le_of_ble_eq_true rfl) ?_
   conv => whnf
   repeat' (first | (refine g_op ?_; conv => whnf) | (refine And.intro ?_ ?_; (focus exact au0); conv => whnf) | (refine g_seq ?_) | (refine XS.go ?_) | (refine g_ops ?_) | (refine g_nil ?_; conv => whnf) | (refine Br.t ?_ ?_; (focus (first | assumption | exact rfl)); conv => whnf) | ((first | refine g_cond ?_ | refine g_ret ?_ | refine r_t ?_ | refine r_c ?_ | refine r_nil ?_ | refine fun _ => ?_ | refine XCL.of_rdr (hV) ?_); conv => whnf) | fail)
   first | done | exact ⟨rfl, rfl⟩ | exact rfl
  exact KT.zero h
 | true =>
  rw [hv] at hV
  rw [seaR_code hv]
  have hCl := fun t1 t2 t3 => KB.names t1 t2 t3 (impl_cloneX b hs)
  refine KT.names (s1 := 301) (s2 := 302) (s3 := 303) 41 42 43 ?_
  refine XC.intro' hm [301, 302, 303] rfl c48 (Nat.le_of_ble_eq_true rfl) ?_
  conv => whnf
  repeat' (first | (refine g_op ?_; conv => whnf) | (refine And.intro ?_ ?_; (focus exact au0); conv => whnf) | (refine g_seq ?_) | (refine g_ops ?_) | ((first | refine g_nil ?_ | refine fun _ => ?_); conv => whnf) | fail)
  rename_i z2 z3 z4
  refine XS.freezeB 2 rfl ?_
  refine XS.freezeB 3 rfl ?_
  refine XS.go ?_
  conv => whnf
  repeat' (first | (refine g_op ?_; conv => whnf) | (refine And.intro ?_ ?_; (focus exact au0); conv => whnf) | (refine g_seq ?_) | (refine XS.go ?_) | (refine g_ops ?_) | (refine g_nil ?_; conv => whnf) | (refine Br.f ?_ ?_; (focus (first | assumption | exact rfl)); conv => whnf) | ((first | refine g_cond ?_ | refine g_skip ?_ | refine XCL.of_rdr (hV) ?_); conv => whnf) | fail)
  refine XCL.of_XC (ls := []) True.intro ((hCl 301 302 303).mono fun d ls h => ?_)
  obtain ⟨d1, d2, d3, e1, e2, e3, rfl, rfl⟩ := h
  conv => whnf
  repeat' (first | (refine g_op ?_; conv => whnf) | (refine And.intro ?_ ?_; (focus exact au0); conv => whnf) | ((first | refine g_nil ?_ | refine fun _ => ?_); conv => whnf) | fail)
  rename_i z6
  refine XS.move 6 300 [6] rfl ?_
  refine XS.go ?_
  conv => whnf
  repeat' (first | (refine g_op ?_; conv => whnf) | (refine And.intro ?_ ?_; (focus exact au0); conv => whnf) | (refine g_seq ?_) | (refine g_ops ?_) | fail)
  refine XCL.of_XC (ls := b.P 300 z6 301 302 303 d1 d2 d3 e1 e2 e3) ⟨rfl, rfl, rfl, rfl, rfl, rfl, rfl, rfl, rfl, rfl, rfl, rfl, True.intro⟩ ((impl_seaX b e hs hv z6 d1 d2 d3 e1 e2 e3).mono fun d ls h => ?_)
  obtain ⟨z, b1, b2, b3, c1, c2, c3, rfl, rfl, hz⟩ := h
  generalize codeI b e = k at *
  simp only [StewBook.P, StewBook.O, StewBook.L]
  conv => whnf
  repeat' (first | (refine g_op ?_; conv => whnf) | (refine And.intro ?_ ?_; (focus exact au0); conv => whnf) | (refine g_seq ?_) | (refine XS.go ?_) | (refine g_ops ?_) | ((first | refine g_nil ?_ | refine g_cond ?_); conv => whnf) | fail)
  refine Br.mk (fun hb => ?_) (fun hb => ?_)
  ·have hk : ¬ k = 0 := by simpa using hb
   rw [if_neg hk]
   conv => whnf
   repeat' (first | (refine g_op ?_; conv => whnf) | (refine And.intro ?_ ?_; (focus exact au0); conv => whnf) | (refine g_seq ?_) | (refine g_ops ?_) | fail)
   refine XCL.of_XC (ls := []) True.intro ((hCl 301 302 303).mono fun d ls h => ?_)
   obtain ⟨p1, p2, p3, q1, q2, q3, rfl, rfl⟩ := h
   conv => whnf
   repeat' (first | (refine g_op ?_; conv => whnf) | (refine And.intro ?_ ?_; (focus exact au0); conv => whnf) | (refine XS.go ?_) | ((first | refine g_nil ?_ | refine g_ret ?_ | refine r_t ?_ | refine r_c ?_ | refine r_nil ?_); conv => whnf) | fail)
   exact ⟨p1, p2, p3, q1, q2, q3, rfl, rfl⟩
  ·have hk : k = 0 := by simpa using hb
   rw [if_pos hk, ← hz hk]
   conv => whnf
   repeat' (first | (refine g_op ?_; conv => whnf) | (refine And.intro ?_ ?_; (focus exact au0); conv => whnf) | (refine g_seq ?_) | (refine XS.go ?_) | (refine g_ops ?_) | ((first | refine g_nil ?_ | refine g_skip ?_ | refine g_ret ?_ | refine r_t ?_ | refine r_c ?_ | refine r_nil ?_); conv => whnf) | fail)
   exact ⟨b1, b2, b3, c1, c2, c3, rfl, rfl⟩
theorem impl_Sea (b : StewBook) (e : StewEvent) (hs : b.small) : Rdr Try.prog 48 [b.D, e.D] (.tup [(seaR b e).1.D, .int .i64 (seaR b e).2]) := KT.rdr (impl_SeaY b e hs)
theorem frz_bookE (x : StewBook) (d : Go.Ab.D) (hd : ∀ ls, frzV ls d = d) (b1 b2 b3 c1 c2 c3 e1 e2 e3 : Nat) : frzVs (x.L 31 32 33 b1 b2 b3 e1 e2 e3) [x.O 31 32 33 b1 b2 b3 c1 c2 c3, d] = [x.D, d] := by
 have t1 : (D.frozs (x.fServices.map StewService.D)).take x.fServices.length = x.fServices.map StewService.D := by rw [D.frozs_map (fun _ => rfl), List.take_of_length_le (by simp)]
 have t2 : (D.frozs (x.fCopies.map StewCopy.D)).take x.fCopies.length = x.fCopies.map StewCopy.D := by rw [D.frozs_map (fun _ => rfl), List.take_of_length_le (by simp)]
 have t3 : (D.frozs (x.fBerths.map StewBerth.D)).take x.fBerths.length = x.fBerths.map StewBerth.D := by rw [D.frozs_map (fun _ => rfl), List.take_of_length_le (by simp)]
 show [D.agg [.int .i64 x.fNow, .ro 13 ((D.frozs (x.fServices.map StewService.D)).take x.fServices.length), .ro 7 ((D.frozs (x.fCopies.map StewCopy.D)).take x.fCopies.length), .ro 2 ((D.frozs (x.fBerths.map StewBerth.D)).take x.fBerths.length)], frzV _ d] = [x.D, d]
 rw [t1, t2, t3, hd]
 rfl
theorem impl_SeaB (x : StewBook) (e : StewEvent) (hs : x.small) (b1 b2 b3 c1 c2 c3 : Nat) : XC Try.prog 48 [x.O 31 32 33 b1 b2 b3 c1 c2 c3, e.D] (x.L 31 32 33 b1 b2 b3 c1 c2 c3) (fun d ls => ∃ l, ls = x.L 31 32 33 b1 b2 b3 c1 c2 c3 ++ l ∧ KT (seaR x e) 41 42 43 d l) := by
 have h := impl_SeaY x e hs
 rw [← frz_bookE x e.D (fun _ => rfl) b1 b2 b3 c1 c2 c3 c1 c2 c3] at h
 exact XC.bor h ⟨⟨True.intro, ⟨rfl, Nat.le_of_eq (by simp)⟩, ⟨rfl, Nat.le_of_eq (by simp)⟩, ⟨rfl, Nat.le_of_eq (by simp)⟩, True.intro⟩, ⟨True.intro, ⟨True.intro, True.intro, True.intro, True.intro, True.intro, True.intro, True.intro, True.intro, True.intro, True.intro, True.intro, True.intro, True.intro, True.intro⟩, True.intro, True.intro, True.intro, True.intro⟩, True.intro⟩ (fun d l h => h.cl)
end Go.Ab
set_option linter.unusedSimpArgs false
set_option linter.unusedVariables false
namespace Go.Ab
open Go Go.RowKit Go.Proofs
attribute [local irreducible] XC Rdr IntKind.wrap xw xos xqs xr xd
set_option maxRecDepth 100000
set_option maxHeartbeats 16000000
def cf11 : CF := ⟨109,[.t 4],(.seq (.ops [Oo 2 (.bx (.t 0)),Oo 3 (.bx (.t 1)),Ok 4 (.bool false)]) (.seq (.ops [Ok 5 (.int .i64 1048576)]) (.seq (.ops [Od 16 4 2,Om 17 5,Oc 18 22 [.t 16,.t 17],Om 5 18]) (.seq (.seq (.ops [Om 19 5,Oo 20 (.bin .lss (.t 19) (.k (.int .i64 0)))]) (.cond (.t 20) (.seq (.ops [Ok 4 (.bool true)]) .ret) .skip)) (.seq (.ops [Od 21 17 3,Om 22 5,Oc 23 45 [.t 21,.t 22],Om 5 23]) (.seq (.seq (.ops [Om 24 5,Oo 25 (.bin .lss (.t 24) (.k (.int .i64 0)))]) (.cond (.t 25) (.seq (.ops [Ok 4 (.bool true)]) .ret) .skip)) (.seq (.drawn [Qd 27 4 2,Qd 29 17 3,(Oc 28 23 [.t 27],true,[(.t 3)]),(Oc 30 47 [.t 29],true,[]),(Oc 31 46 [.t 28,.t 30],true,[]),Qm 26 31,Qo 32 (.ext (.t 26) 0),Qo 33 (.ext (.t 26) 1),(Oo 6 (.al (.agg [.int .i64 0,.nil,.nil,.nil])),true,[]),Qs 4 6 32,Qm 7 33]) (.seq (.ops [Od 34 4 2,Oc 35 23 [.t 34],Oo 8 (.al (.agg [.int .i64 0,.nil,.nil,.nil])),Os 4 8 35]) (.seq (.drawn [Qd 37 4 8,Qd 38 17 3,(Oc 39 47 [.t 38],true,[(.t 8)]),(Oc 40 48 [.t 37,.t 39],true,[]),Qm 36 40,Qo 41 (.ext (.t 36) 0),Qo 42 (.ext (.t 36) 1),(Oo 9 (.al (.agg [.int .i64 0,.nil,.nil,.nil])),true,[]),Qs 4 9 41,Qm 10 42]) (.seq (.seq (.ops [Od 43 4 9,Od 44 4 6,Oc 45 24 [.t 43,.t 44],Oo 46 (.not (.t 45)),Om 47 46,⟨some 48,.mv (.t 10),some (47,false)⟩,⟨some 49,.mv (.t 7),some (47,false)⟩,⟨some 50,.bin .neq (.t 48) (.t 49),some (47,false)⟩,Oo 51 (.pick (.t 47) (.k (.bool true)) (.t 50))]) (.cond (.t 51) (.seq (.ops [Ok 4 (.bool false)]) .ret) .skip)) (.seq (.seq (.quiet [Od 52 4 8,Od 53 4 2,Oc 54 23 [.t 53],Oc 55 24 [.t 52,.t 54],Oo 56 (.not (.t 55))]) (.cond (.t 56) (.seq (.ops [Ok 4 (.bool false)]) .ret) .skip)) (.seq (.ops [Ok 11 (.int .i64 1)]) (.seq (.ops [Od 57 4 8,Om 58 11,Oc 59 40 [.t 57,.t 58],Om 11 59]) (.seq (.seq (.ops [Om 60 11,Oo 61 (.bin .lss (.t 60) (.k (.int .i64 0))),Om 62 61,⟨some 63,.ld 4 true (.t 9),some (62,false)⟩,⟨some 64,.ld 4 true (.t 6),some (62,false)⟩,⟨some 65,.call 24 [.t 63,.t 64],some (62,false)⟩,⟨some 66,.not (.t 65),some (62,false)⟩,Oo 67 (.pick (.t 62) (.k (.bool true)) (.t 66)),Om 68 67,⟨some 69,.mv (.t 10),some (68,false)⟩,⟨some 70,.mv (.t 7),some (68,false)⟩,⟨some 71,.bin .neq (.t 69) (.t 70),some (68,false)⟩,Oo 72 (.pick (.t 68) (.k (.bool true)) (.t 71))]) (.cond (.t 72) (.seq (.ops [Ok 4 (.bool false)]) .ret) .skip)) (.seq (.ops [Ok 12 (.int .i64 1)]) (.seq (.ops [Od 73 4 9,Om 74 12,Oc 75 40 [.t 73,.t 74],Om 12 75]) (.seq (.ops [Ok 13 (.int .i64 1)]) (.seq (.ops [Od 76 4 9,Om 77 13,Oc 78 49 [.t 76,.t 77],Om 13 78]) (.seq (.seq (.ops [Om 79 13,Oo 80 (.bin .lss (.t 79) (.k (.int .i64 0)))]) (.cond (.t 80) (.seq (.ops [Ok 4 (.bool false)]) .ret) .skip)) (.seq (.seq (.ops [Om 81 13,Om 82 12,Ob 83 .neq 81 82]) (.cond (.t 83) (.seq (.ops [Ok 4 (.bool false)]) .ret) .skip)) (.seq (.drawn [Qd 85 4 2,Qd 87 17 3,(Oc 86 23 [.t 85],true,[(.t 3)]),(Oc 88 47 [.t 87],true,[]),(Oc 89 48 [.t 86,.t 88],true,[]),Qm 84 89,Qo 90 (.ext (.t 84) 0),Qo 91 (.ext (.t 84) 1),(Oo 14 (.al (.agg [.int .i64 0,.nil,.nil,.nil])),true,[]),Qs 4 14 90,Qm 15 91]) (.seq (.seq (.ops [Od 92 4 14,Od 93 4 6,Oc 94 24 [.t 92,.t 93],Oo 95 (.not (.t 94)),Om 96 95,⟨some 97,.mv (.t 15),some (96,false)⟩,⟨some 98,.mv (.t 7),some (96,false)⟩,⟨some 99,.bin .neq (.t 97) (.t 98),some (96,false)⟩,Oo 100 (.pick (.t 96) (.k (.bool true)) (.t 99))]) (.cond (.t 100) (.seq (.ops [Ok 4 (.bool false)]) .ret) .skip)) (.seq (.ops [Ok 13 (.int .i64 1)]) (.seq (.ops [Od 101 4 9,Om 102 13,Oc 103 49 [.t 101,.t 102],Om 13 103]) (.seq (.seq (.ops [Om 104 13,Oo 105 (.bin .lss (.t 104) (.k (.int .i64 0)))]) (.cond (.t 105) (.seq (.ops [Ok 4 (.bool false)]) .ret) .skip)) (.seq (.seq (.ops [Om 106 13,Om 107 12,Ob 108 .neq 106 107]) (.cond (.t 108) (.seq (.ops [Ok 4 (.bool false)]) .ret) .skip)) (.seq (.ops [Ok 4 (.bool true)]) .ret)))))))))))))))))))))))))))⟩
theorem c11 : compileF Try.prog [] 11 = some cf11 := by kernel_rfl
theorem seaR_small (x : StewBook) (e : StewEvent) (hs : x.small) : (seaR x e).1.small := by
 unfold seaR
 split
 ·rename_i hv
  obtain ⟨v1, v2, v3, _, _⟩ := valid_parts hv
  have := seaP_len (e := e) v1 v2 v3
  split
  ·exact hs
  ·split
   ·exact bLen.small ⟨by show (seaP x e).1.fServices.length ≤ _; omega, by show (seaP x e).1.fCopies.length ≤ _; omega, by show (seaP x e).1.fBerths.length ≤ _; omega⟩
   ·exact hs
 ·exact ⟨⟨Nat.zero_le _, fun _ h => by cases h⟩, ⟨Nat.zero_le _, fun _ h => by cases h⟩, ⟨Nat.zero_le _, fun _ h => by cases h⟩⟩
theorem law_StewSea (x : StewBook) (e : StewEvent) (hw : x.wf) (he : e.wf) : Rdr Try.prog 11 [x.D, e.D] (.bool true) := by
 refine Rdr.intro' hm c11 (Nat.le_of_ble_eq_true rfl) ?_
 conv => whnf
 repeat' (first | (refine g_op ?_; conv => whnf) | (refine And.intro ?_ ?_; (focus exact au0); conv => whnf) | (refine g_seq ?_) | (refine g_ops ?_) | ((first | refine g_nil ?_ | refine fun _ => ?_); conv => whnf) | fail)
 refine XS.freezeB 2 rfl ?_
 refine XS.freezeB 3 rfl ?_
 refine XS.go ?_
 conv => whnf
 repeat' (first | (refine g_op ?_; conv => whnf) | (refine And.intro ?_ ?_; (focus exact au0); conv => whnf) | (refine g_seq ?_) | (refine XS.go ?_) | (refine g_ops ?_) | (refine g_nil ?_; conv => whnf) | fail)
 refine XCL.ask (sz_StewBook x _ hw (by decide) (by decide)) (fun d h => ?_)
 obtain ⟨n, rfl, hn⟩ := h
 conv => whnf
 repeat' (first | (refine g_op ?_; conv => whnf) | (refine And.intro ?_ ?_; (focus exact au0); conv => whnf) | (refine g_seq ?_) | (refine XS.go ?_) | (refine g_ops ?_) | ((first | refine g_nil ?_ | refine g_cond ?_); conv => whnf) | fail)
 refine Br.mk (fun hb => ?_) (fun hb => ?_)
 ·conv => whnf
  repeat' (first | (refine g_op ?_; conv => whnf) | (refine And.intro ?_ ?_; (focus exact au0); conv => whnf) | (refine g_seq ?_) | (refine XS.go ?_) | (refine g_ops ?_) | ((first | refine g_nil ?_ | refine g_ret ?_ | refine r_t ?_ | refine r_nil ?_); conv => whnf) | fail)
  rfl
 have hn0 : 0 ≤ n := Int.not_lt.1 (of_decide_eq_false hb)
 have hs : x.small := (hn hn0).2
 have hn1 : n ≤ 1048576 := (hn hn0).1
 clear hb hn
 conv => whnf
 repeat' (first | (refine g_op ?_; conv => whnf) | (refine And.intro ?_ ?_; (focus exact au0); conv => whnf) | (refine g_seq ?_) | (refine XS.go ?_) | (refine g_ops ?_) | (refine g_skip ?_; conv => whnf) | fail)
 refine XCL.ask (sz_StewEvent e n he hn0 hn1) (fun d h => ?_)
 obtain ⟨n2, rfl, hn2⟩ := h
 conv => whnf
 repeat' (first | (refine g_op ?_; conv => whnf) | (refine And.intro ?_ ?_; (focus exact au0); conv => whnf) | (refine g_seq ?_) | (refine XS.go ?_) | (refine g_ops ?_) | ((first | refine g_nil ?_ | refine g_cond ?_); conv => whnf) | fail)
 refine Br.mk (fun hb => ?_) (fun hb => ?_)
 ·conv => whnf
  repeat' (first | (refine g_op ?_; conv => whnf) | (refine And.intro ?_ ?_; (focus exact au0); conv => whnf) | (refine g_seq ?_) | (refine XS.go ?_) | (refine g_ops ?_) | ((first | refine g_nil ?_ | refine g_ret ?_ | refine r_t ?_ | refine r_nil ?_); conv => whnf) | fail)
  rfl
 have hse : e.small := (hn2 (Int.not_lt.1 (of_decide_eq_false hb))).2
 clear hb hn2
 have hRs := seaR_small x e hs
 have hsp := spec_Sea x e hs
 have him0 := impl_Sea x e hs
 have him := fun b1 b2 b3 c1 c2 c3 => impl_SeaB x e hs b1 b2 b3 c1 c2 c3
 have hto := to_StewEvent e hse
 have htb := to_StewBook x hs
 have hex := eq_StewBook x hs
 generalize seaR x e = RP at *
 obtain ⟨R, kk⟩ := RP
 dsimp only at hRs hsp him0
 have heq := eq_StewBook R hRs
 conv => whnf
 repeat' (first | (refine g_skip ?_; conv => whnf) | fail)
 refine XS.go ?_
 conv => whnf
 repeat' (first | ((refine And.intro True.intro ?_; conv => whnf)) | (refine And.intro ?_ ?_; (focus exact au0); conv => whnf) | (refine g_seq ?_) | (refine g_drawn ?_) | ((first | refine d_p ?_ | refine d_e ?_ | refine d_nil ?_ | refine fun _ => ?_ | refine XCL.of_rdr (htb) ?_ | refine XCL.of_rdr (hto) ?_ | refine XCL.of_rdr (hsp) ?_); conv => whnf) | fail)
 refine XS.go ?_
 conv => whnf
 repeat' (first | (refine g_op ?_; conv => whnf) | (refine And.intro ?_ ?_; (focus exact au0); conv => whnf) | (refine g_seq ?_) | (refine g_ops ?_) | fail)
 refine XCL.of_XC (ls := []) True.intro ((tox_Book 31 32 33 x hs).mono fun d ls h => ?_)
 obtain ⟨b1, b2, b3, rfl, rfl⟩ := h
 conv => whnf
 repeat' (first | ((refine And.intro ⟨⟨rfl, rfl⟩, True.intro⟩ ?_; conv => whnf)) | (refine g_op ?_; conv => whnf) | (refine And.intro ?_ ?_; (focus exact au0); conv => whnf) | (refine g_seq ?_) | (refine XS.go ?_) | (refine g_nil ?_; conv => whnf) | (refine g_drawn ?_) | ((first | refine d_p ?_ | refine d_e ?_ | refine fun _ => ?_ | refine XCL.of_rdr (hto) ?_); conv => whnf) | fail)
 refine XCL.of_XC (ls := x.L 31 32 33 b1 b2 b3 _ _ _) ⟨rfl, rfl, rfl, rfl, rfl, rfl, rfl, rfl, rfl, True.intro⟩ ((him b1 b2 b3 _ _ _).mono fun d ls h => ?_)
 obtain ⟨l, rfl, d1, d2, d3, e1, e2, e3, rfl, rfl⟩ := h
 conv => whnf
 repeat' (first | ((refine And.intro True.intro ?_; conv => whnf)) | ((refine XCL.of_rdrB heq (.cons (Bor.bookO rfl rfl rfl rfl rfl rfl) (.cons (Bor.refl _ _) .nil)) rfl ?_; conv => whnf)) | (refine g_op ?_; conv => whnf) | (refine And.intro ?_ ?_; (focus exact au0); conv => whnf) | (refine g_seq ?_) | (refine XS.go ?_) | (refine g_ops ?_) | ((first | refine g_nil ?_ | refine g_opg ?_); conv => whnf) | (refine Br.f ?_ ?_; (focus (first | assumption | exact rfl)); conv => whnf) | ((first | refine g_cond ?_ | refine d_p ?_ | refine d_e ?_ | refine d_nil ?_ | refine fun _ => ?_); conv => whnf) | fail)
 refine Br.f (by simp) ?_
 conv => whnf
 repeat' (first | ((refine QC.of_rdrB hex (.cons (Bor.bookO rfl rfl rfl rfl rfl rfl) (.cons (Bor.refl _ _) .nil)) rfl ?_; conv => whnf)) | (refine g_op ?_; conv => whnf) | (refine And.intro ?_ ?_; (focus exact au0); conv => whnf) | (refine g_seq ?_) | (refine XS.go ?_) | (refine g_ops ?_) | (refine g_nil ?_; conv => whnf) | (refine Br.f ?_ ?_; (focus (first | assumption | exact rfl)); conv => whnf) | ((first | refine g_cond ?_ | refine g_skip ?_); conv => whnf) | (refine g_quiet ?_) | ((first | refine q_op ?_ | refine q_nil ?_ | refine QC.of_rdr (htb) ?_); conv => whnf) | fail)
 obtain ⟨h0, hB⟩ := mkBK_bd x hs
 obtain ⟨h2, hB2⟩ := mkBK_bd R hRs
 have hM0 : decide (mkBK x 1 < 0) = false := decide_eq_false (by omega)
 have hM2 : decide (mkBK R 1 < 0) = false := decide_eq_false (by omega)
 have hmk := fun b1 b2 b3 c1 c2 c3 => mark_Book 31 32 33 x b1 b2 b3 c1 c2 c3 1 (by decide) hs hB
 have hmk2 := fun b1 b2 b3 c1 c2 c3 => mark_Book 41 42 43 R b1 b2 b3 c1 c2 c3 1 (by decide) hRs hB2
 have hhd := held_Book R 1 (by decide) hRs hB2
 generalize mkBK x 1 = M at *
 generalize mkBK R 1 = M2 at *
 refine XCL.of_XC (ls := x.L 31 32 33 b1 b2 b3 _ _ _) ⟨rfl, rfl, rfl, rfl, rfl, rfl, rfl, rfl, rfl, True.intro⟩ ((hmk b1 b2 b3 _ _ _).mono fun d ls h => ?_)
 obtain ⟨rfl, rfl⟩ := h
 conv => whnf
 repeat' (first | ((refine XCL.of_rdrB heq (.cons (Bor.bookO rfl rfl rfl rfl rfl rfl) (.cons (Bor.refl _ _) .nil)) rfl ?_; conv => whnf)) | (refine g_op ?_; conv => whnf) | (refine And.intro ?_ ?_; (focus exact au0); conv => whnf) | (refine g_seq ?_) | (refine XS.go ?_) | (refine g_ops ?_) | ((first | refine g_nil ?_ | refine g_opg ?_); conv => whnf) | (refine Br.f ?_ ?_; (focus (first | assumption | exact rfl)); conv => whnf) | (refine g_cond ?_; conv => whnf) | fail)
 refine Br.f (by simp) ?_
 conv => whnf
 repeat' (first | (refine g_op ?_; conv => whnf) | (refine And.intro ?_ ?_; (focus exact au0); conv => whnf) | (refine g_seq ?_) | (refine XS.go ?_) | (refine g_ops ?_) | ((first | refine g_nil ?_ | refine g_skip ?_); conv => whnf) | fail)
 refine XCL.of_XC (ls := R.L 41 42 43 d1 d2 d3 e1 e2 e3) ⟨rfl, rfl, rfl, rfl, rfl, rfl, rfl, rfl, rfl, True.intro⟩ ((hmk2 d1 d2 d3 e1 e2 e3).mono fun d ls h => ?_)
 obtain ⟨rfl, rfl⟩ := h
 conv => whnf
 repeat' (first | ((refine XCL.of_rdrB hhd (.cons (Bor.bookM rfl rfl rfl rfl rfl rfl) (.cons (Bor.refl _ _) .nil)) rfl ?_; conv => whnf)) | (refine g_op ?_; conv => whnf) | (refine And.intro ?_ ?_; (focus exact au0); conv => whnf) | (refine g_seq ?_) | (refine XS.go ?_) | (refine g_ops ?_) | (refine g_nil ?_; conv => whnf) | (refine Br.f ?_ ?_; (focus (first | assumption | exact rfl)); conv => whnf) | ((first | refine g_cond ?_ | refine g_skip ?_); conv => whnf) | fail)
 refine Br.f (by simp) ?_
 conv => whnf
 repeat' (first | ((refine And.intro True.intro ?_; conv => whnf)) | (refine g_op ?_; conv => whnf) | (refine And.intro ?_ ?_; (focus exact au0); conv => whnf) | (refine g_seq ?_) | (refine XS.go ?_) | (refine g_ops ?_) | ((first | refine g_nil ?_ | refine g_opg ?_); conv => whnf) | (refine Br.f ?_ ?_; (focus (first | assumption | exact rfl)); conv => whnf) | ((first | refine g_cond ?_ | refine g_skip ?_); conv => whnf) | (refine g_drawn ?_) | ((first | refine d_p ?_ | refine d_e ?_ | refine d_nil ?_ | refine fun _ => ?_ | refine XCL.of_rdr (htb) ?_ | refine XCL.of_rdr (hto) ?_ | refine XCL.of_rdr (him0) ?_ | refine XCL.of_rdr (heq) ?_); conv => whnf) | fail)
 refine Br.f (by simp) ?_
 conv => whnf
 repeat' (first | ((refine XCL.of_rdrB hhd (.cons (Bor.bookM rfl rfl rfl rfl rfl rfl) (.cons (Bor.refl _ _) .nil)) rfl ?_; conv => whnf)) | (refine g_op ?_; conv => whnf) | (refine And.intro ?_ ?_; (focus exact au0); conv => whnf) | (refine g_seq ?_) | (refine XS.go ?_) | (refine g_ops ?_) | (refine g_nil ?_; conv => whnf) | (refine Br.f ?_ ?_; (focus (first | assumption | exact rfl)); conv => whnf) | ((first | refine g_cond ?_ | refine g_skip ?_); conv => whnf) | fail)
 refine Br.f (by simp) ?_
 conv => whnf
 repeat' (first | (refine g_op ?_; conv => whnf) | (refine And.intro ?_ ?_; (focus exact au0); conv => whnf) | (refine g_seq ?_) | (refine XS.go ?_) | (refine g_ops ?_) | ((first | refine g_nil ?_ | refine g_skip ?_ | refine g_ret ?_ | refine r_t ?_ | refine r_nil ?_); conv => whnf) | fail)
 rfl
end Go.Ab
