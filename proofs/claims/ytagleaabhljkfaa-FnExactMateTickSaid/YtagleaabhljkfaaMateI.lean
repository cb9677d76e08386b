/- Steps towards the law: the machine, contracts of functions and facts of lists. -/
import Derived.Test.YtagleaabhljkfaaMateS
import Derived.Test.YtagleaabhljkfaaAb11
import Derived.Test.YtagleaabhljkfaaRows
set_option linter.unusedSimpArgs false
set_option linter.unusedVariables false
namespace Go.Ab
open Go Go.RowKit Go.Proofs
attribute [local irreducible] XC Rdr IntKind.wrap xw xos xqs xr xd
set_option maxRecDepth 100000
set_option maxHeartbeats 16000000
def cf127 : CF := ⟨95,[.t 6],(.seq (.ops [Ok 6 (.nil)]) (.seq (.ops [Om 10 0,Om 11 1,Oo 12 (.slc 4 false (.t 10) (some (.t 11)) none)]) (.seq (.ops [Om 13 2,Og 14 13,Om 7 14]) (.seq (.seq (.ops [Om 15 7,Oo 16 (.bin .eql (.t 15) (.k (.int .i64 0)))]) (.cond (.t 16) (.seq (.ops [Om 17 0,Om 6 17]) .ret) .skip)) (.seq (.ops [Om 18 0,Og 19 18,Om 8 19]) (.seq (.seq (.ops [Om 20 1,Om 21 8,Ob 22 .eql 20 21]) (.cond (.t 22) (.seq (.ops [Om 23 0,Om 24 2,Oo 25 (.app 4 48 (.t 23) (.t 24)),Om 6 25]) .ret) .skip)) (.seq (.seq (.ops [Om 26 8,Om 27 7,Ob 28 .add 26 27,Om 29 0,Oo 30 (.capl (.t 29)),Ob 31 .gtr 28 30]) (.cond (.t 31) (.seq (.ops [Om 32 0,Om 33 1,Oo 34 (.slc 4 false (.t 32) none (some (.t 33))),Om 35 8,Om 36 7,Ob 37 .add 35 36,Om 38 1,Ob 39 .sub 37 38,Oo 40 (.apz 48 (.agg [.str ⟨#[]⟩,.str ⟨#[]⟩,.int .i64 0,.int .i64 0]) (.t 34) (.t 39)),Om 9 40]) (.seq (.ops [Om 41 9,Om 42 1,Oo 43 (.slc 4 false (.t 41) (some (.t 42)) none),Om 44 2,Oo 45 (.cpy 4 (.t 43) (.t 44))]) (.seq (.drawn [Qm 46 9,Qm 47 1,Qm 48 7,Qb 49 .add 47 48,Qo 50 (.slc 4 false (.t 46) (some (.t 49)) none),Qm 51 0,Qm 52 1,Qo 53 (.slc 4 false (.t 51) (some (.t 52)) none),(Oo 54 (.cpy 4 (.t 50) (.t 53)),true,[])]) (.seq (.ops [Om 55 9,Om 6 55]) .ret)))) .skip)) (.seq (.ops [Om 56 0,Om 57 8,Om 58 7,Ob 59 .add 57 58,Oo 60 (.slc 4 false (.t 56) none (some (.t 59))),Om 0 60]) (.seq (.seq (.ops [Om 61 2,Om 62 0,Om 63 1,Om 64 7,Ob 65 .add 63 64,Oo 66 (.slc 4 false (.t 62) (some (.t 65)) none),Oo 67 (.ovl 133 (.t 61) (.t 66)),Oo 68 (.not (.t 67))]) (.cond (.t 68) (.seq (.drawn [Qm 69 0,Qm 70 1,Qm 71 7,Qb 72 .add 70 71,Qo 73 (.slc 4 false (.t 69) (some (.t 72)) none),Qm 74 0,Qm 75 1,Qo 76 (.slc 4 false (.t 74) (some (.t 75)) none),(Oo 77 (.cpy 4 (.t 73) (.t 76)),true,[])]) (.seq (.ops [Om 78 0,Om 79 1,Oo 80 (.slc 4 false (.t 78) (some (.t 79)) none),Om 81 2,Oo 82 (.cpy 4 (.t 80) (.t 81))]) (.seq (.ops [Om 83 0,Om 6 83]) .ret))) .skip)) (.seq (.ops [Om 84 0,Om 85 8,Oo 86 (.slc 4 false (.t 84) (some (.t 85)) none),Om 87 2,Oo 88 (.cpy 4 (.t 86) (.t 87))]) (.seq (.ops [Om 89 0,Om 90 1,Oo 91 (.slc 4 false (.t 89) (some (.t 90)) none),Om 92 7,Oc 93 134 [.t 91,.t 92]]) (.seq (.ops [Om 94 0,Om 6 94]) .ret))))))))))))⟩
theorem c127 : compileF Try.prog [] 127 = some cf127 := by kernel_rfl
theorem ovl_MateAsk : OvlF Try.prog 133 := ovlF_mk (fn := Try.prog.funcs[133]!) (t := (Try.prog.funcs[133]!).params[0]!) (r := (Try.prog.funcs[133]!).resultTypes[0]!) (e := sliceOf Try.prog ((Try.prog.funcs[133]!).params[0]!)) (i := (Try.prog.info? (sliceOf Try.prog ((Try.prog.funcs[133]!).params[0]!))).get!) (by kernel_rfl) (by kernel_rfl) (by kernel_rfl) (by kernel_rfl) (by kernel_rfl) (by kernel_rfl) (by kernel_rfl)
theorem insF0_MateAsk (x : MateAsk) (xs : List MateAsk) (i b c b2 c2 : Nat) (hi : i ≤ xs.length) (hl : xs.length ≤ 1048576) (hc2 : 1 ≤ c2) :
  XC Try.prog 127 [.lsl 0 b xs.length c, .int .i64 (i : Int), .lsl 1 b2 1 c2] [(0, b, .arr 4 (xs.map MateAsk.D) c), (1, b2, .arr 4 [x.D] c2)] (fun d ls => ∃ b' c', xs.length + 1 ≤ c' ∧ (d = .lsl 6 b' (xs.length + 1) c' ∨ d = .lvw 0 b' 0 0 (xs.length + 1) c') ∧ ls = [(6, b', .arr 4 ((insAt xs i x).map MateAsk.D) c')]) := by
 refine XC.intro' hm [6] rfl c127 (Nat.le_of_ble_eq_true rfl) ?_
 conv => whnf
 repeat' (first | (refine g_op ?_; conv => whnf) | (refine And.intro ?_ ?_; (focus exact au0); conv => whnf) | (refine g_seq ?_) | (refine g_ops ?_) | (refine g_nil ?_; conv => whnf) | fail)
 refine XS.capLe2 0 rfl fun hcp => ?_
 rw [List.length_map] at hcp
 have h1 : (i : Int) ≤ ((xs.length : Nat) : Int) := by omega
 have h2 : ((xs.length : Nat) : Int) ≤ (c : Int) := by omega
 have hA : (xs.map MateAsk.D).length = xs.length := List.length_map ..
 have hlm : xs.length = (xs.map MateAsk.D).length := hA.symm
 have hbare : (xs.map MateAsk.D).map D.bare = xs.map MateAsk.D := by rw [List.map_map]; rfl
 have hbig : (xs.map MateAsk.D).length + [x.D].length ≤ 1073741824 := by rw [hA]; simp only [List.length_cons, List.length_nil]; omega
 have hmap : (insAt xs i x).map MateAsk.D = (xs.map MateAsk.D).take i ++ x.D :: (xs.map MateAsk.D).drop i := by simp only [insAt, List.map_append, List.map_cons, List.map_take, List.map_drop]
 refine XS.go ?_
 repeat' (first | ((refine And.intro h1 ?_; conv => whnf)) | ((refine And.intro h2 ?_; conv => whnf)) | (refine g_op ?_; conv => whnf) | (refine And.intro ?_ ?_; (focus exact au0); conv => whnf) | (refine g_seq ?_) | (refine XS.go ?_) | (refine g_ops ?_) | (refine g_nil ?_; conv => whnf) | (refine Br.f ?_ ?_; (focus (first | assumption | exact rfl)); conv => whnf) | ((first | refine g_cond ?_ | refine g_skip ?_); conv => whnf) | fail)
 refine Br.mk (fun hb => ?_) (fun hb => ?_)
 ·have hin : i = xs.length := by
   have q := hb
   simp at q
   omega
  clear hb
  conv => whnf
  repeat' (first | ((refine And.intro hlm ?_; conv => whnf)) | ((refine And.intro hbig ?_; conv => whnf)) | ((refine fun n1 b1 c1 hn1 hc1 => ?_; conv => whnf)) | (refine g_op ?_; conv => whnf) | (refine And.intro ?_ ?_; (focus exact au0); conv => whnf) | (refine g_seq ?_) | (refine g_ops ?_) | (refine g_nil ?_; conv => whnf) | fail)
  refine XS.move 25 6 [6] rfl ?_
  refine XS.go ?_
  repeat' (first | (refine And.intro ?_ ?_; (focus exact au0); conv => whnf) | ((first | refine g_ret ?_ | refine r_t ?_ | refine r_nil ?_); conv => whnf) | fail)
  have hn2 : n1 = xs.length + 1 := by rw [hn1, hA]; rfl
  subst hn2
  refine ⟨b1, c1, hc1, .inl rfl, ?_⟩
  rw [hmap, hin]
  have e1 : (xs.map MateAsk.D).take xs.length = xs.map MateAsk.D := by rw [← hA]; exact List.take_length
  have e2 : (xs.map MateAsk.D).drop xs.length = [] := by rw [← hA]; exact List.drop_length
  rw [e1, e2]
  rfl
 have hin : i < xs.length := by
  have q := hb
  simp at q
  omega
 clear hb
 generalize xs.map MateAsk.D = A at *
 conv => whnf
 repeat' (first | (refine g_op ?_; conv => whnf) | (refine And.intro ?_ ?_; (focus exact au0); conv => whnf) | (refine g_seq ?_) | (refine XS.go ?_) | (refine g_ops ?_) | ((first | refine g_nil ?_ | refine g_cond ?_ | refine g_skip ?_); conv => whnf) | fail)
 refine Br.mk (fun hb => ?_) (fun hb => ?_)
 ·have hw1 : IntKind.wrap .i64 ((xs.length : Int) + ((1 : Nat) : Int)) = (xs.length : Int) + 1 := wrap_ok (by omega) (by omega)
  have hk : IntKind.wrap .i64 (IntKind.wrap .i64 ((xs.length : Int) + ((1 : Nat) : Int)) - (i : Int)) = (xs.length : Int) + 1 - i := by rw [hw1]; exact wrap_ok (by omega) (by omega)
  have hcc : (c : Int) < (xs.length : Int) + 1 := by
   have q := hb
   rw [hw1] at q
   simpa using q
  clear hb
  have k1 : 0 ≤ (i : Int) ∧ (i : Int) ≤ (c : Int) := by omega
  have k2 : 0 < IntKind.wrap .i64 (IntKind.wrap .i64 ((xs.length : Int) + ((1 : Nat) : Int)) - (i : Int)) := by rw [hk]; omega
  have k3 : (c : Int) < (((i : Int).toNat : Nat) : Int) + IntKind.wrap .i64 (IntKind.wrap .i64 ((xs.length : Int) + ((1 : Nat) : Int)) - (i : Int)) := by rw [hk]; omega
  have k4 : (((i : Int).toNat : Nat) : Int) + IntKind.wrap .i64 (IntKind.wrap .i64 ((xs.length : Int) + ((1 : Nat) : Int)) - (i : Int)) ≤ 1073741824 := by rw [hk]; omega
  have k5 : (i : Int).toNat ≤ A.length := by omega
  have k6 : (i : Int).toNat ≤ c := by omega
  conv => whnf
  repeat' (first | ((refine And.intro k1.2 ?_; conv => whnf)) | ((refine And.intro k2 ?_; conv => whnf)) | ((refine And.intro k3 ?_; conv => whnf)) | ((refine And.intro k4 ?_; conv => whnf)) | ((refine And.intro k5 ?_; conv => whnf)) | ((refine And.intro k6 ?_; conv => whnf)) | ((refine And.intro hbare ?_; conv => whnf)) | ((refine fun m1 b1 c1 hn1 hc1 => ?_; conv => whnf)) | (refine g_op ?_; conv => whnf) | (refine And.intro ?_ ?_; (focus exact au0); conv => whnf) | (refine g_seq ?_) | (refine g_ops ?_) | (refine g_nil ?_; conv => whnf) | fail)
  have hm1 : m1 = xs.length + 1 := by rw [hn1, hk]; omega
  have hkn : (IntKind.wrap .i64 (IntKind.wrap .i64 ((xs.length : Int) + ((1 : Nat) : Int)) - (i : Int))).toNat = xs.length + 1 - i := by rw [hk]; omega
  have hC : A.take ((i : Int) - 0).toNat ++ List.replicate (IntKind.wrap .i64 (IntKind.wrap .i64 ((xs.length : Int) + ((1 : Nat) : Int)) - (i : Int))).toNat (Go.Ab.D.agg [.str ⟨#[]⟩, .str ⟨#[]⟩, .int .i64 0, .int .i64 0]) = A.take i ++ List.replicate (xs.length + 1 - i) (Go.Ab.D.agg [.str ⟨#[]⟩, .str ⟨#[]⟩, .int .i64 0, .int .i64 0]) := by
   rw [hkn]
   have e : ((i : Int) - 0).toNat = i := by omega
   rw [e]
  subst hm1
  refine XS.weakenA (fs := [.lsl 0 b xs.length c, .int .i64 (i : Int), .lsl 1 b2 1 c2, .any, .any, .any, .any, .int .i64 ((1 : Nat) : Int), .any, .lsl 40 b1 (xs.length + 1) c1]) (ls := [(0, .arr 4 A c), (1, .arr 4 [x.D] c2), (40, .arr 4 (A.take i ++ List.replicate (xs.length + 1 - i) (Go.Ab.D.agg [.str ⟨#[]⟩, .str ⟨#[]⟩, .int .i64 0, .int .i64 0])) c1)]) ⟨?_, ?_⟩ ?_
  ·repeat' (first | exact True.intro | refine And.intro rfl ?_)
  ·exact ⟨rfl, rfl, congrArg (fun l => some (D.arr 4 l c1)) hC, True.intro⟩
  have hl1 : (A.take i ++ List.replicate (xs.length + 1 - i) (Go.Ab.D.agg [.str ⟨#[]⟩, .str ⟨#[]⟩, .int .i64 0, .int .i64 0])).length = xs.length + 1 := by rw [List.length_append, List.length_take, List.length_replicate, hA]; omega
  have hb1 : (A.take i ++ List.replicate (xs.length + 1 - i) (Go.Ab.D.agg [.str ⟨#[]⟩, .str ⟨#[]⟩, .int .i64 0, .int .i64 0])).map D.bare = A.take i ++ List.replicate (xs.length + 1 - i) (Go.Ab.D.agg [.str ⟨#[]⟩, .str ⟨#[]⟩, .int .i64 0, .int .i64 0]) := by rw [List.map_append, List.map_take, hbare, List.map_replicate]; rfl
  have hC1 : ∀ k, k = 1 → (A.take i ++ List.replicate (xs.length + 1 - i) (Go.Ab.D.agg [.str ⟨#[]⟩, .str ⟨#[]⟩, .int .i64 0, .int .i64 0])).take (i : Int).toNat ++ ([x.D].take 1).take k ++ (A.take i ++ List.replicate (xs.length + 1 - i) (Go.Ab.D.agg [.str ⟨#[]⟩, .str ⟨#[]⟩, .int .i64 0, .int .i64 0])).drop ((i : Int).toNat + k) = A.take i ++ x.D :: List.replicate (xs.length - i) (Go.Ab.D.agg [.str ⟨#[]⟩, .str ⟨#[]⟩, .int .i64 0, .int .i64 0]) := fun k hk => by
   subst hk
   exact ins_g1 (by omega) (by omega)
  generalize hB : A.take i ++ List.replicate (xs.length + 1 - i) (Go.Ab.D.agg [.str ⟨#[]⟩, .str ⟨#[]⟩, .int .i64 0, .int .i64 0]) = B at *
  have k1' : (i : Int) ≤ ((xs.length + 1 : Nat) : Int) := by omega
  have k2' : ((xs.length + 1 : Nat) : Int) ≤ (c1 : Int) := by omega
  have k3' : (i : Int).toNat ≤ B.length := by omega
  have k4' : (i : Int).toNat + (((xs.length + 1 : Nat) : Int) - (i : Int)).toNat ≤ c1 := by omega
  refine XS.go ?_
  conv => whnf
  have hkle : ∀ k : Nat, k = min 1 (((xs.length + 1 : Nat) : Int) - (i : Int)).toNat → k ≤ ([x.D].take 1).length := fun k hk => by simp only [List.take_succ_cons, List.length_cons]; omega
  repeat' (first | ((refine And.intro k1' ?_; conv => whnf)) | ((refine And.intro k2' ?_; conv => whnf)) | ((refine And.intro k3' ?_; conv => whnf)) | ((refine And.intro k4' ?_; conv => whnf)) | ((refine And.intro hb1 ?_; conv => whnf)) | ((refine fun k9 (hk9 : k9 = min 1 (((xs.length + 1 : Nat) : Int) - (i : Int)).toNat) => And.intro (hkle k9 hk9) ?_; conv => whnf)) | (refine g_op ?_; conv => whnf) | (refine And.intro ?_ ?_; (focus exact au0); conv => whnf) | (refine g_seq ?_) | (refine g_ops ?_) | (refine g_nil ?_; conv => whnf) | fail)
  refine XS.weakenA (fs := [.lsl 0 b xs.length c, .int .i64 (i : Int), .lsl 1 b2 1 c2, .any, .any, .any, .any, .int .i64 ((1 : Nat) : Int), .any, .lsl 40 b1 (xs.length + 1) c1]) (ls := [(0, .arr 4 A c), (40, .arr 4 (A.take i ++ x.D :: List.replicate (xs.length - i) (Go.Ab.D.agg [.str ⟨#[]⟩, .str ⟨#[]⟩, .int .i64 0, .int .i64 0])) c1)]) ⟨?_, ?_⟩ ?_
  ·repeat' (first | exact True.intro | refine And.intro rfl ?_)
  ·exact ⟨rfl, congrArg (fun l => some (D.arr 4 l c1)) (hC1 k9 (by omega)), True.intro⟩
  have hl2 : (A.take i ++ x.D :: List.replicate (xs.length - i) (Go.Ab.D.agg [.str ⟨#[]⟩, .str ⟨#[]⟩, .int .i64 0, .int .i64 0])).length = xs.length + 1 := by rw [List.length_append, List.length_take, List.length_cons, List.length_replicate, hA]; omega
  have hb2 : (A.take i ++ x.D :: List.replicate (xs.length - i) (Go.Ab.D.agg [.str ⟨#[]⟩, .str ⟨#[]⟩, .int .i64 0, .int .i64 0])).map D.bare = A.take i ++ x.D :: List.replicate (xs.length - i) (Go.Ab.D.agg [.str ⟨#[]⟩, .str ⟨#[]⟩, .int .i64 0, .int .i64 0]) := by rw [List.map_append, List.map_take, hbare, List.map_cons, List.map_replicate]; rfl
  have hwi : IntKind.wrap .i64 ((i : Int) + ((1 : Nat) : Int)) = (i : Int) + 1 := wrap_ok (by omega) (by omega)
  have hC2 : ∀ k, k = min (((xs.length : Nat) : Int) - (i : Int)).toNat (((xs.length + 1 : Nat) : Int) - IntKind.wrap .i64 ((i : Int) + ((1 : Nat) : Int))).toNat → (A.take i ++ x.D :: List.replicate (xs.length - i) (Go.Ab.D.agg [.str ⟨#[]⟩, .str ⟨#[]⟩, .int .i64 0, .int .i64 0])).take (IntKind.wrap .i64 ((i : Int) + ((1 : Nat) : Int))).toNat ++ ((A.drop (i : Int).toNat).take (((xs.length : Nat) : Int) - (i : Int)).toNat).take k ++ (A.take i ++ x.D :: List.replicate (xs.length - i) (Go.Ab.D.agg [.str ⟨#[]⟩, .str ⟨#[]⟩, .int .i64 0, .int .i64 0])).drop ((IntKind.wrap .i64 ((i : Int) + ((1 : Nat) : Int))).toNat + k) = A.take i ++ x.D :: A.drop i := fun k hk => by
   rw [hwi] at hk ⊢
   exact ins_g2 hA hin (by omega) (by omega) (by omega) (by omega)
  generalize hB2 : A.take i ++ x.D :: List.replicate (xs.length - i) (Go.Ab.D.agg [.str ⟨#[]⟩, .str ⟨#[]⟩, .int .i64 0, .int .i64 0]) = B2 at *
  have j1 : 0 ≤ IntKind.wrap .i64 ((i : Int) + ((1 : Nat) : Int)) := by rw [hwi]; omega
  have j2 : IntKind.wrap .i64 ((i : Int) + ((1 : Nat) : Int)) ≤ ((xs.length + 1 : Nat) : Int) := by rw [hwi]; omega
  have j3 : (IntKind.wrap .i64 ((i : Int) + ((1 : Nat) : Int))).toNat ≤ B2.length := by rw [hwi]; omega
  have j4 : (IntKind.wrap .i64 ((i : Int) + ((1 : Nat) : Int))).toNat + (((xs.length + 1 : Nat) : Int) - IntKind.wrap .i64 ((i : Int) + ((1 : Nat) : Int))).toNat ≤ c1 := by rw [hwi]; omega
  have hkle2 : ∀ k, k = min (((xs.length : Nat) : Int) - (i : Int)).toNat (((xs.length + 1 : Nat) : Int) - IntKind.wrap .i64 ((i : Int) + ((1 : Nat) : Int))).toNat → k ≤ ((A.drop (i : Int).toNat).take (((xs.length : Nat) : Int) - (i : Int)).toNat).length := fun k hk => by rw [List.length_take, List.length_drop, hA]; omega
  refine XS.go ?_
  conv => whnf
  repeat' (first | ((refine And.intro j1 ?_; conv => whnf)) | ((refine And.intro j2 ?_; conv => whnf)) | ((refine And.intro k2' ?_; conv => whnf)) | ((refine And.intro h1 ?_; conv => whnf)) | ((refine And.intro h2 ?_; conv => whnf)) | ((refine And.intro j3 ?_; conv => whnf)) | ((refine And.intro j4 ?_; conv => whnf)) | ((refine And.intro hb2 ?_; conv => whnf)) | ((refine And.intro hbare ?_; conv => whnf)) | ((refine fun k8 (hk8 : k8 = min (((xs.length : Nat) : Int) - (i : Int)).toNat (((xs.length + 1 : Nat) : Int) - IntKind.wrap .i64 ((i : Int) + ((1 : Nat) : Int))).toNat) => And.intro (hkle2 k8 hk8) ?_; conv => whnf)) | ((refine And.intro True.intro ?_; conv => whnf)) | (refine And.intro ?_ ?_; (focus exact au0); conv => whnf) | (refine g_seq ?_) | (refine g_drawn ?_) | ((first | refine d_p ?_ | refine d_e ?_ | refine d_nil ?_); conv => whnf) | fail)
  refine XS.weakenA (fs := [.any, .any, .any, .any, .any, .any, .any, .any, .any, .lsl 40 b1 (xs.length + 1) c1]) (ls := [(40, .arr 4 (A.take i ++ x.D :: A.drop i) c1)]) ⟨?_, ?_⟩ ?_
  ·repeat' (first | exact True.intro | refine And.intro rfl ?_)
  ·exact ⟨congrArg (fun l => some (D.arr 4 l c1)) (hC2 k8 hk8), True.intro⟩
  refine XS.go ?_
  conv => whnf
  repeat' (first | (refine g_op ?_; conv => whnf) | (refine And.intro ?_ ?_; (focus exact au0); conv => whnf) | (refine g_seq ?_) | (refine g_ops ?_) | (refine g_nil ?_; conv => whnf) | fail)
  refine XS.move 40 6 [6] rfl ?_
  refine XS.go ?_
  repeat' (first | (refine And.intro ?_ ?_; (focus exact au0); conv => whnf) | ((first | refine g_ret ?_ | refine r_t ?_ | refine r_nil ?_); conv => whnf) | fail)
  exact ⟨b1, c1, hc1, .inl rfl, congrArg (fun l => [(6, b1, D.arr 4 l c1)]) hmap.symm⟩
 have hw1 : IntKind.wrap .i64 ((xs.length : Int) + ((1 : Nat) : Int)) = (xs.length : Int) + 1 := wrap_ok (by omega) (by omega)
 have hcc : (xs.length : Int) + 1 ≤ (c : Int) := by
  have q := hb
  rw [hw1] at q
  simpa using q
 clear hb
 have k1 : 0 ≤ IntKind.wrap .i64 ((xs.length : Int) + ((1 : Nat) : Int)) := by rw [hw1]; omega
 have k2 : IntKind.wrap .i64 ((xs.length : Int) + ((1 : Nat) : Int)) ≤ (c : Int) := by rw [hw1]; omega
 conv => whnf
 repeat' (first | (refine g_skip ?_; conv => whnf) | fail)
 refine XS.go ?_
 conv => whnf
 repeat' (first | ((refine And.intro k1 ?_; conv => whnf)) | ((refine And.intro k2 ?_; conv => whnf)) | (refine g_op ?_; conv => whnf) | (refine And.intro ?_ ?_; (focus exact au0); conv => whnf) | (refine g_seq ?_) | (refine g_ops ?_) | (refine g_nil ?_; conv => whnf) | fail)
 have he : (IntKind.wrap .i64 ((xs.length : Int) + ((1 : Nat) : Int)) - 0).toNat = xs.length + 1 := by rw [hw1]; omega
 refine XS.weakenA (fs := [.lvw 0 b 0 0 (xs.length + 1) c, .int .i64 (i : Int), .lsl 1 b2 1 c2, .any, .any, .any, .any, .int .i64 ((1 : Nat) : Int), .int .i64 (xs.length : Int)]) (ls := [(0, .arr 4 A c), (1, .arr 4 [x.D] c2)]) ⟨?_, ?_⟩ ?_
 ·repeat' (first | exact True.intro | refine And.intro rfl ?_ | refine And.intro (congrArg (fun m => D.lvw 0 b 0 0 m c) he) ?_)
 ·exact ⟨rfl, rfl, True.intro⟩
 have hwi : IntKind.wrap .i64 ((i : Int) + ((1 : Nat) : Int)) = (i : Int) + 1 := wrap_ok (by omega) (by omega)
 have j1 : 0 ≤ IntKind.wrap .i64 ((i : Int) + ((1 : Nat) : Int)) := by rw [hwi]; omega
 have j2 : IntKind.wrap .i64 ((i : Int) + ((1 : Nat) : Int)) ≤ ((xs.length + 1 : Nat) : Int) := by rw [hwi]; omega
 have j0 : ((xs.length + 1 : Nat) : Int) ≤ (c : Int) := by omega
 have q1 : c2 ≠ 0 := by omega
 have q2 : c ≠ 0 := by omega
 have q3 : c - (IntKind.wrap .i64 ((i : Int) + ((1 : Nat) : Int))).toNat ≠ 0 := by rw [hwi]; omega
 have o1 : 0 + (IntKind.wrap .i64 ((i : Int) + ((1 : Nat) : Int))).toNat * 4 = (0 + (IntKind.wrap .i64 ((i : Int) + ((1 : Nat) : Int))).toNat) * 4 := by omega
 have o2 : 0 + (i : Int).toNat * 4 = (0 + (i : Int).toNat) * 4 := by omega
 have j3 : 0 + (IntKind.wrap .i64 ((i : Int) + ((1 : Nat) : Int))).toNat ≤ A.length := by rw [hwi]; omega
 have j4 : 0 + (IntKind.wrap .i64 ((i : Int) + ((1 : Nat) : Int))).toNat + (((xs.length + 1 : Nat) : Int) - IntKind.wrap .i64 ((i : Int) + ((1 : Nat) : Int))).toNat ≤ c := by rw [hwi]; omega
 have j5 : (i : Int) ≤ ((xs.length + 1 : Nat) : Int) := by omega
 have hkle2 : ∀ k, k = min (((xs.length + 1 : Nat) : Int) - (i : Int)).toNat (((xs.length + 1 : Nat) : Int) - IntKind.wrap .i64 ((i : Int) + ((1 : Nat) : Int))).toNat → k ≤ ((A.drop (0 + (i : Int).toNat)).take (((xs.length + 1 : Nat) : Int) - (i : Int)).toNat).length := fun k hk => by rw [hwi] at hk; rw [List.length_take, List.length_drop, hA]; omega
 have hC1 : ∀ k, k = min (((xs.length + 1 : Nat) : Int) - (i : Int)).toNat (((xs.length + 1 : Nat) : Int) - IntKind.wrap .i64 ((i : Int) + ((1 : Nat) : Int))).toNat → A.take (0 + (IntKind.wrap .i64 ((i : Int) + ((1 : Nat) : Int))).toNat) ++ ((A.drop (0 + (i : Int).toNat)).take (((xs.length + 1 : Nat) : Int) - (i : Int)).toNat).take k ++ A.drop (0 + (IntKind.wrap .i64 ((i : Int) + ((1 : Nat) : Int))).toNat + k) = A.take (i + 1) ++ A.drop i := fun k hk => by
  rw [hwi] at hk ⊢
  exact ins_r1 hA hin (by omega) (by omega) (by omega) (by omega)
 refine XS.go ?_
 conv => whnf
 repeat' (first | ((refine And.intro ovl_MateAsk ?_; conv => whnf)) | ((refine And.intro q1 ?_; conv => whnf)) | ((refine And.intro q2 ?_; conv => whnf)) | ((refine And.intro q3 ?_; conv => whnf)) | ((refine And.intro j1 ?_; conv => whnf)) | ((refine And.intro j2 ?_; conv => whnf)) | ((refine And.intro j0 ?_; conv => whnf)) | (refine g_op ?_; conv => whnf) | (refine And.intro ?_ ?_; (focus exact au0); conv => whnf) | (refine g_seq ?_) | (refine g_ops ?_) | (refine g_nil ?_; conv => whnf) | fail)
 refine XS.go ?_
 conv => whnf
 repeat' (first | ((refine And.intro j1 ?_; conv => whnf)) | ((refine And.intro j2 ?_; conv => whnf)) | ((refine And.intro j0 ?_; conv => whnf)) | ((refine And.intro o1 ?_; conv => whnf)) | ((refine And.intro o2 ?_; conv => whnf)) | ((refine And.intro j3 ?_; conv => whnf)) | ((refine And.intro j4 ?_; conv => whnf)) | ((refine And.intro j5 ?_; conv => whnf)) | ((refine And.intro hbare ?_; conv => whnf)) | ((refine fun k8 (hk8 : k8 = min (((xs.length + 1 : Nat) : Int) - (i : Int)).toNat (((xs.length + 1 : Nat) : Int) - IntKind.wrap .i64 ((i : Int) + ((1 : Nat) : Int))).toNat) => And.intro (hkle2 k8 hk8) ?_; conv => whnf)) | ((refine And.intro True.intro ?_; conv => whnf)) | (refine And.intro ?_ ?_; (focus exact au0); conv => whnf) | (refine g_seq ?_) | (refine Br.t ?_ ?_; (focus (first | assumption | exact rfl)); conv => whnf) | (refine g_cond ?_; conv => whnf) | (refine g_drawn ?_) | ((first | refine d_p ?_ | refine d_e ?_ | refine d_nil ?_); conv => whnf) | fail)
 refine XS.weakenA (fs := [.lvw 0 b 0 0 (xs.length + 1) c, .int .i64 (i : Int), .lsl 1 b2 1 c2, .any, .any, .any, .any, .int .i64 ((1 : Nat) : Int), .int .i64 (xs.length : Int)]) (ls := [(0, .arr 4 (A.take (i + 1) ++ A.drop i) c), (1, .arr 4 [x.D] c2)]) ⟨?_, ?_⟩ ?_
 ·repeat' (first | exact True.intro | refine And.intro rfl ?_)
 ·exact ⟨congrArg (fun l => some (D.arr 4 l c)) (hC1 k8 hk8), rfl, True.intro⟩
 have hl2 : (A.take (i + 1) ++ A.drop i).length = xs.length + 1 := by rw [List.length_append, List.length_take, List.length_drop, hA]; omega
 have hb2 : (A.take (i + 1) ++ A.drop i).map D.bare = A.take (i + 1) ++ A.drop i := by rw [List.map_append, List.map_take, List.map_drop, hbare]
 have hkle : ∀ k : Nat, k = min 1 (((xs.length + 1 : Nat) : Int) - (i : Int)).toNat → k ≤ ([x.D].take 1).length := fun k hk => by simp only [List.take_succ_cons, List.length_cons]; omega
 have hC2 : ∀ k : Nat, k = min 1 (((xs.length + 1 : Nat) : Int) - (i : Int)).toNat → (A.take (i + 1) ++ A.drop i).take (0 + (i : Int).toNat) ++ ([x.D].take 1).take k ++ (A.take (i + 1) ++ A.drop i).drop (0 + (i : Int).toNat + k) = A.take i ++ x.D :: A.drop i := fun k hk => ins_r2 hA hin (by omega) (by omega)
 generalize A.take (i + 1) ++ A.drop i = B at *
 have j6 : 0 + (i : Int).toNat ≤ B.length := by omega
 have j7 : 0 + (i : Int).toNat + (((xs.length + 1 : Nat) : Int) - (i : Int)).toNat ≤ c := by omega
 refine XS.go ?_
 conv => whnf
 repeat' (first | ((refine And.intro j5 ?_; conv => whnf)) | ((refine And.intro j0 ?_; conv => whnf)) | ((refine And.intro o2 ?_; conv => whnf)) | ((refine And.intro j6 ?_; conv => whnf)) | ((refine And.intro j7 ?_; conv => whnf)) | ((refine And.intro hb2 ?_; conv => whnf)) | ((refine fun k9 (hk9 : k9 = min 1 (((xs.length + 1 : Nat) : Int) - (i : Int)).toNat) => And.intro (hkle k9 hk9) ?_; conv => whnf)) | (refine g_op ?_; conv => whnf) | (refine And.intro ?_ ?_; (focus exact au0); conv => whnf) | (refine g_seq ?_) | (refine g_ops ?_) | (refine g_nil ?_; conv => whnf) | fail)
 refine XS.weakenA (fs := [.lvw 0 b 0 0 (xs.length + 1) c]) (ls := [(0, .arr 4 (A.take i ++ x.D :: A.drop i) c)]) ⟨?_, ?_⟩ ?_
 ·repeat' (first | exact True.intro | refine And.intro rfl ?_)
 ·exact ⟨congrArg (fun l => some (D.arr 4 l c)) (hC2 k9 hk9), True.intro⟩
 refine XS.go ?_
 conv => whnf
 repeat' (first | (refine g_op ?_; conv => whnf) | (refine And.intro ?_ ?_; (focus exact au0); conv => whnf) | (refine g_seq ?_) | (refine g_ops ?_) | (refine g_nil ?_; conv => whnf) | fail)
 refine XS.move 0 6 [6] rfl ?_
 refine XS.go ?_
 repeat' (first | (refine And.intro ?_ ?_; (focus exact au0); conv => whnf) | ((first | refine g_ret ?_ | refine r_t ?_ | refine r_nil ?_); conv => whnf) | fail)
 exact ⟨b, c, by omega, .inr rfl, congrArg (fun l => [(6, b, D.arr 4 l c)]) hmap.symm⟩
/-- slices.Insert of one value: s, v: the names of the row and of the value's row, r: the name of what comes back. -/
theorem insF_MateAsk (s v r : Nat) (x : MateAsk) (xs : List MateAsk) (i b c b2 c2 : Nat) (hi : i ≤ xs.length) (hl : xs.length ≤ 1048576) (hc2 : 1 ≤ c2) :
  XC Try.prog 127 [.lsl s b xs.length c, .int .i64 (i : Int), .lsl v b2 1 c2] [(s, b, .arr 4 (xs.map MateAsk.D) c), (v, b2, .arr 4 [x.D] c2)] (fun d ls => ∃ b' c', d = .lsl r b' (insAt xs i x).length c' ∧ ls = [(r, b', .arr 4 ((insAt xs i x).map MateAsk.D) c')]) := by
 have hil : (insAt xs i x).length = xs.length + 1 := by simp [insAt]; omega
 refine (insF0_MateAsk x xs i b c b2 c2 hi hl hc2).renm (fun _ _ _ h => h) rfl (fun d ls ⟨b', c', hc', h1, h2⟩ => ?_)
 subst h2
 refine ⟨.lsl r b' (insAt xs i x).length c', _, ⟨b', c', rfl, rfl⟩, fun _ _ _ h => HolL.renm rfl h, fun U w v hv => ?_⟩
 rw [hil]
 rcases h1 with h1 | h1
 ·subst h1
  exact hv
 ·subst h1
  exact hv
def cf125 : CF := ⟨95,[.t 6],(.seq (.ops [Ok 6 (.nil)]) (.seq (.ops [Om 10 0,Om 11 1,Oo 12 (.slc 11 false (.t 10) (some (.t 11)) none)]) (.seq (.ops [Om 13 2,Og 14 13,Om 7 14]) (.seq (.seq (.ops [Om 15 7,Oo 16 (.bin .eql (.t 15) (.k (.int .i64 0)))]) (.cond (.t 16) (.seq (.ops [Om 17 0,Om 6 17]) .ret) .skip)) (.seq (.ops [Om 18 0,Og 19 18,Om 8 19]) (.seq (.seq (.ops [Om 20 1,Om 21 8,Ob 22 .eql 20 21]) (.cond (.t 22) (.seq (.ops [Om 23 0,Om 24 2,Oo 25 (.app 11 104 (.t 23) (.t 24)),Om 6 25]) .ret) .skip)) (.seq (.seq (.ops [Om 26 8,Om 27 7,Ob 28 .add 26 27,Om 29 0,Oo 30 (.capl (.t 29)),Ob 31 .gtr 28 30]) (.cond (.t 31) (.seq (.ops [Om 32 0,Om 33 1,Oo 34 (.slc 11 false (.t 32) none (some (.t 33))),Om 35 8,Om 36 7,Ob 37 .add 35 36,Om 38 1,Ob 39 .sub 37 38,Oo 40 (.apz 104 (.agg [.agg [.str ⟨#[]⟩,.int .i64 0,.str ⟨#[]⟩,.int .i64 0,.int .i64 0,.int .i64 0,.int .i64 0],.int .i64 0,.int .i64 0,.int .i64 0,.int .i64 0]) (.t 34) (.t 39)),Om 9 40]) (.seq (.ops [Om 41 9,Om 42 1,Oo 43 (.slc 11 false (.t 41) (some (.t 42)) none),Om 44 2,Oo 45 (.cpy 11 (.t 43) (.t 44))]) (.seq (.drawn [Qm 46 9,Qm 47 1,Qm 48 7,Qb 49 .add 47 48,Qo 50 (.slc 11 false (.t 46) (some (.t 49)) none),Qm 51 0,Qm 52 1,Qo 53 (.slc 11 false (.t 51) (some (.t 52)) none),(Oo 54 (.cpy 11 (.t 50) (.t 53)),true,[])]) (.seq (.ops [Om 55 9,Om 6 55]) .ret)))) .skip)) (.seq (.ops [Om 56 0,Om 57 8,Om 58 7,Ob 59 .add 57 58,Oo 60 (.slc 11 false (.t 56) none (some (.t 59))),Om 0 60]) (.seq (.seq (.ops [Om 61 2,Om 62 0,Om 63 1,Om 64 7,Ob 65 .add 63 64,Oo 66 (.slc 11 false (.t 62) (some (.t 65)) none),Oo 67 (.ovl 131 (.t 61) (.t 66)),Oo 68 (.not (.t 67))]) (.cond (.t 68) (.seq (.drawn [Qm 69 0,Qm 70 1,Qm 71 7,Qb 72 .add 70 71,Qo 73 (.slc 11 false (.t 69) (some (.t 72)) none),Qm 74 0,Qm 75 1,Qo 76 (.slc 11 false (.t 74) (some (.t 75)) none),(Oo 77 (.cpy 11 (.t 73) (.t 76)),true,[])]) (.seq (.ops [Om 78 0,Om 79 1,Oo 80 (.slc 11 false (.t 78) (some (.t 79)) none),Om 81 2,Oo 82 (.cpy 11 (.t 80) (.t 81))]) (.seq (.ops [Om 83 0,Om 6 83]) .ret))) .skip)) (.seq (.ops [Om 84 0,Om 85 8,Oo 86 (.slc 11 false (.t 84) (some (.t 85)) none),Om 87 2,Oo 88 (.cpy 11 (.t 86) (.t 87))]) (.seq (.ops [Om 89 0,Om 90 1,Oo 91 (.slc 11 false (.t 89) (some (.t 90)) none),Om 92 7,Oc 93 132 [.t 91,.t 92]]) (.seq (.ops [Om 94 0,Om 6 94]) .ret))))))))))))⟩
theorem c125 : compileF Try.prog [] 125 = some cf125 := by kernel_rfl
theorem ovl_MateRun : OvlF Try.prog 131 := ovlF_mk (fn := Try.prog.funcs[131]!) (t := (Try.prog.funcs[131]!).params[0]!) (r := (Try.prog.funcs[131]!).resultTypes[0]!) (e := sliceOf Try.prog ((Try.prog.funcs[131]!).params[0]!)) (i := (Try.prog.info? (sliceOf Try.prog ((Try.prog.funcs[131]!).params[0]!))).get!) (by kernel_rfl) (by kernel_rfl) (by kernel_rfl) (by kernel_rfl) (by kernel_rfl) (by kernel_rfl) (by kernel_rfl)
theorem insF0_MateRun (x : MateRun) (xs : List MateRun) (i b c b2 c2 : Nat) (hi : i ≤ xs.length) (hl : xs.length ≤ 1048576) (hc2 : 1 ≤ c2) :
  XC Try.prog 125 [.lsl 0 b xs.length c, .int .i64 (i : Int), .lsl 1 b2 1 c2] [(0, b, .arr 11 (xs.map MateRun.D) c), (1, b2, .arr 11 [x.D] c2)] (fun d ls => ∃ b' c', xs.length + 1 ≤ c' ∧ (d = .lsl 6 b' (xs.length + 1) c' ∨ d = .lvw 0 b' 0 0 (xs.length + 1) c') ∧ ls = [(6, b', .arr 11 ((insAt xs i x).map MateRun.D) c')]) := by
 refine XC.intro' hm [6] rfl c125 (Nat.le_of_ble_eq_true rfl) ?_
 conv => whnf
 repeat' (first | (refine g_op ?_; conv => whnf) | (refine And.intro ?_ ?_; (focus exact au0); conv => whnf) | (refine g_seq ?_) | (refine g_ops ?_) | (refine g_nil ?_; conv => whnf) | fail)
 refine XS.capLe2 0 rfl fun hcp => ?_
 rw [List.length_map] at hcp
 have h1 : (i : Int) ≤ ((xs.length : Nat) : Int) := by omega
 have h2 : ((xs.length : Nat) : Int) ≤ (c : Int) := by omega
 have hA : (xs.map MateRun.D).length = xs.length := List.length_map ..
 have hlm : xs.length = (xs.map MateRun.D).length := hA.symm
 have hbare : (xs.map MateRun.D).map D.bare = xs.map MateRun.D := by rw [List.map_map]; rfl
 have hbig : (xs.map MateRun.D).length + [x.D].length ≤ 1073741824 := by rw [hA]; simp only [List.length_cons, List.length_nil]; omega
 have hmap : (insAt xs i x).map MateRun.D = (xs.map MateRun.D).take i ++ x.D :: (xs.map MateRun.D).drop i := by simp only [insAt, List.map_append, List.map_cons, List.map_take, List.map_drop]
 refine XS.go ?_
 repeat' (first | ((refine And.intro h1 ?_; conv => whnf)) | ((refine And.intro h2 ?_; conv => whnf)) | (refine g_op ?_; conv => whnf) | (refine And.intro ?_ ?_; (focus exact au0); conv => whnf) | (refine g_seq ?_) | (refine XS.go ?_) | (refine g_ops ?_) | (refine g_nil ?_; conv => whnf) | (refine Br.f ?_ ?_; (focus (first | assumption | exact rfl)); conv => whnf) | ((first | refine g_cond ?_ | refine g_skip ?_); conv => whnf) | fail)
 refine Br.mk (fun hb => ?_) (fun hb => ?_)
 ·have hin : i = xs.length := by
   have q := hb
   simp at q
   omega
  clear hb
  conv => whnf
  repeat' (first | ((refine And.intro hlm ?_; conv => whnf)) | ((refine And.intro hbig ?_; conv => whnf)) | ((refine fun n1 b1 c1 hn1 hc1 => ?_; conv => whnf)) | (refine g_op ?_; conv => whnf) | (refine And.intro ?_ ?_; (focus exact au0); conv => whnf) | (refine g_seq ?_) | (refine g_ops ?_) | (refine g_nil ?_; conv => whnf) | fail)
  refine XS.move 25 6 [6] rfl ?_
  refine XS.go ?_
  repeat' (first | (refine And.intro ?_ ?_; (focus exact au0); conv => whnf) | ((first | refine g_ret ?_ | refine r_t ?_ | refine r_nil ?_); conv => whnf) | fail)
  have hn2 : n1 = xs.length + 1 := by rw [hn1, hA]; rfl
  subst hn2
  refine ⟨b1, c1, hc1, .inl rfl, ?_⟩
  rw [hmap, hin]
  have e1 : (xs.map MateRun.D).take xs.length = xs.map MateRun.D := by rw [← hA]; exact List.take_length
  have e2 : (xs.map MateRun.D).drop xs.length = [] := by rw [← hA]; exact List.drop_length
  rw [e1, e2]
  rfl
 have hin : i < xs.length := by
  have q := hb
  simp at q
  omega
 clear hb
 generalize xs.map MateRun.D = A at *
 conv => whnf
 repeat' (first | (refine g_op ?_; conv => whnf) | (refine And.intro ?_ ?_; (focus exact au0); conv => whnf) | (refine g_seq ?_) | (refine XS.go ?_) | (refine g_ops ?_) | ((first | refine g_nil ?_ | refine g_cond ?_ | refine g_skip ?_); conv => whnf) | fail)
 refine Br.mk (fun hb => ?_) (fun hb => ?_)
 ·have hw1 : IntKind.wrap .i64 ((xs.length : Int) + ((1 : Nat) : Int)) = (xs.length : Int) + 1 := wrap_ok (by omega) (by omega)
  have hk : IntKind.wrap .i64 (IntKind.wrap .i64 ((xs.length : Int) + ((1 : Nat) : Int)) - (i : Int)) = (xs.length : Int) + 1 - i := by rw [hw1]; exact wrap_ok (by omega) (by omega)
  have hcc : (c : Int) < (xs.length : Int) + 1 := by
   have q := hb
   rw [hw1] at q
   simpa using q
  clear hb
  have k1 : 0 ≤ (i : Int) ∧ (i : Int) ≤ (c : Int) := by omega
  have k2 : 0 < IntKind.wrap .i64 (IntKind.wrap .i64 ((xs.length : Int) + ((1 : Nat) : Int)) - (i : Int)) := by rw [hk]; omega
  have k3 : (c : Int) < (((i : Int).toNat : Nat) : Int) + IntKind.wrap .i64 (IntKind.wrap .i64 ((xs.length : Int) + ((1 : Nat) : Int)) - (i : Int)) := by rw [hk]; omega
  have k4 : (((i : Int).toNat : Nat) : Int) + IntKind.wrap .i64 (IntKind.wrap .i64 ((xs.length : Int) + ((1 : Nat) : Int)) - (i : Int)) ≤ 1073741824 := by rw [hk]; omega
  have k5 : (i : Int).toNat ≤ A.length := by omega
  have k6 : (i : Int).toNat ≤ c := by omega
  conv => whnf
  repeat' (first | ((refine And.intro k1.2 ?_; conv => whnf)) | ((refine And.intro k2 ?_; conv => whnf)) | ((refine And.intro k3 ?_; conv => whnf)) | ((refine And.intro k4 ?_; conv => whnf)) | ((refine And.intro k5 ?_; conv => whnf)) | ((refine And.intro k6 ?_; conv => whnf)) | ((refine And.intro hbare ?_; conv => whnf)) | ((refine fun m1 b1 c1 hn1 hc1 => ?_; conv => whnf)) | (refine g_op ?_; conv => whnf) | (refine And.intro ?_ ?_; (focus exact au0); conv => whnf) | (refine g_seq ?_) | (refine g_ops ?_) | (refine g_nil ?_; conv => whnf) | fail)
  have hm1 : m1 = xs.length + 1 := by rw [hn1, hk]; omega
  have hkn : (IntKind.wrap .i64 (IntKind.wrap .i64 ((xs.length : Int) + ((1 : Nat) : Int)) - (i : Int))).toNat = xs.length + 1 - i := by rw [hk]; omega
  have hC : A.take ((i : Int) - 0).toNat ++ List.replicate (IntKind.wrap .i64 (IntKind.wrap .i64 ((xs.length : Int) + ((1 : Nat) : Int)) - (i : Int))).toNat (Go.Ab.D.agg [.agg [.str ⟨#[]⟩, .int .i64 0, .str ⟨#[]⟩, .int .i64 0, .int .i64 0, .int .i64 0, .int .i64 0], .int .i64 0, .int .i64 0, .int .i64 0, .int .i64 0]) = A.take i ++ List.replicate (xs.length + 1 - i) (Go.Ab.D.agg [.agg [.str ⟨#[]⟩, .int .i64 0, .str ⟨#[]⟩, .int .i64 0, .int .i64 0, .int .i64 0, .int .i64 0], .int .i64 0, .int .i64 0, .int .i64 0, .int .i64 0]) := by
   rw [hkn]
   have e : ((i : Int) - 0).toNat = i := by omega
   rw [e]
  subst hm1
  refine XS.weakenA (fs := [.lsl 0 b xs.length c, .int .i64 (i : Int), .lsl 1 b2 1 c2, .any, .any, .any, .any, .int .i64 ((1 : Nat) : Int), .any, .lsl 40 b1 (xs.length + 1) c1]) (ls := [(0, .arr 11 A c), (1, .arr 11 [x.D] c2), (40, .arr 11 (A.take i ++ List.replicate (xs.length + 1 - i) (Go.Ab.D.agg [.agg [.str ⟨#[]⟩, .int .i64 0, .str ⟨#[]⟩, .int .i64 0, .int .i64 0, .int .i64 0, .int .i64 0], .int .i64 0, .int .i64 0, .int .i64 0, .int .i64 0])) c1)]) ⟨?_, ?_⟩ ?_
  ·repeat' (first | exact True.intro | refine And.intro rfl ?_)
  ·exact ⟨rfl, rfl, congrArg (fun l => some (D.arr 11 l c1)) hC, True.intro⟩
  have hl1 : (A.take i ++ List.replicate (xs.length + 1 - i) (Go.Ab.D.agg [.agg [.str ⟨#[]⟩, .int .i64 0, .str ⟨#[]⟩, .int .i64 0, .int .i64 0, .int .i64 0, .int .i64 0], .int .i64 0, .int .i64 0, .int .i64 0, .int .i64 0])).length = xs.length + 1 := by rw [List.length_append, List.length_take, List.length_replicate, hA]; omega
  have hb1 : (A.take i ++ List.replicate (xs.length + 1 - i) (Go.Ab.D.agg [.agg [.str ⟨#[]⟩, .int .i64 0, .str ⟨#[]⟩, .int .i64 0, .int .i64 0, .int .i64 0, .int .i64 0], .int .i64 0, .int .i64 0, .int .i64 0, .int .i64 0])).map D.bare = A.take i ++ List.replicate (xs.length + 1 - i) (Go.Ab.D.agg [.agg [.str ⟨#[]⟩, .int .i64 0, .str ⟨#[]⟩, .int .i64 0, .int .i64 0, .int .i64 0, .int .i64 0], .int .i64 0, .int .i64 0, .int .i64 0, .int .i64 0]) := by rw [List.map_append, List.map_take, hbare, List.map_replicate]; rfl
  have hC1 : ∀ k, k = 1 → (A.take i ++ List.replicate (xs.length + 1 - i) (Go.Ab.D.agg [.agg [.str ⟨#[]⟩, .int .i64 0, .str ⟨#[]⟩, .int .i64 0, .int .i64 0, .int .i64 0, .int .i64 0], .int .i64 0, .int .i64 0, .int .i64 0, .int .i64 0])).take (i : Int).toNat ++ ([x.D].take 1).take k ++ (A.take i ++ List.replicate (xs.length + 1 - i) (Go.Ab.D.agg [.agg [.str ⟨#[]⟩, .int .i64 0, .str ⟨#[]⟩, .int .i64 0, .int .i64 0, .int .i64 0, .int .i64 0], .int .i64 0, .int .i64 0, .int .i64 0, .int .i64 0])).drop ((i : Int).toNat + k) = A.take i ++ x.D :: List.replicate (xs.length - i) (Go.Ab.D.agg [.agg [.str ⟨#[]⟩, .int .i64 0, .str ⟨#[]⟩, .int .i64 0, .int .i64 0, .int .i64 0, .int .i64 0], .int .i64 0, .int .i64 0, .int .i64 0, .int .i64 0]) := fun k hk => by
   subst hk
   exact ins_g1 (by omega) (by omega)
  generalize hB : A.take i ++ List.replicate (xs.length + 1 - i) (Go.Ab.D.agg [.agg [.str ⟨#[]⟩, .int .i64 0, .str ⟨#[]⟩, .int .i64 0, .int .i64 0, .int .i64 0, .int .i64 0], .int .i64 0, .int .i64 0, .int .i64 0, .int .i64 0]) = B at *
  have k1' : (i : Int) ≤ ((xs.length + 1 : Nat) : Int) := by omega
  have k2' : ((xs.length + 1 : Nat) : Int) ≤ (c1 : Int) := by omega
  have k3' : (i : Int).toNat ≤ B.length := by omega
  have k4' : (i : Int).toNat + (((xs.length + 1 : Nat) : Int) - (i : Int)).toNat ≤ c1 := by omega
  refine XS.go ?_
  conv => whnf
  have hkle : ∀ k : Nat, k = min 1 (((xs.length + 1 : Nat) : Int) - (i : Int)).toNat → k ≤ ([x.D].take 1).length := fun k hk => by simp only [List.take_succ_cons, List.length_cons]; omega
  repeat' (first | ((refine And.intro k1' ?_; conv => whnf)) | ((refine And.intro k2' ?_; conv => whnf)) | ((refine And.intro k3' ?_; conv => whnf)) | ((refine And.intro k4' ?_; conv => whnf)) | ((refine And.intro hb1 ?_; conv => whnf)) | ((refine fun k9 (hk9 : k9 = min 1 (((xs.length + 1 : Nat) : Int) - (i : Int)).toNat) => And.intro (hkle k9 hk9) ?_; conv => whnf)) | (refine g_op ?_; conv => whnf) | (refine And.intro ?_ ?_; (focus exact au0); conv => whnf) | (refine g_seq ?_) | (refine g_ops ?_) | (refine g_nil ?_; conv => whnf) | fail)
  refine XS.weakenA (fs := [.lsl 0 b xs.length c, .int .i64 (i : Int), .lsl 1 b2 1 c2, .any, .any, .any, .any, .int .i64 ((1 : Nat) : Int), .any, .lsl 40 b1 (xs.length + 1) c1]) (ls := [(0, .arr 11 A c), (40, .arr 11 (A.take i ++ x.D :: List.replicate (xs.length - i) (Go.Ab.D.agg [.agg [.str ⟨#[]⟩, .int .i64 0, .str ⟨#[]⟩, .int .i64 0, .int .i64 0, .int .i64 0, .int .i64 0], .int .i64 0, .int .i64 0, .int .i64 0, .int .i64 0])) c1)]) ⟨?_, ?_⟩ ?_
  ·repeat' (first | exact True.intro | refine And.intro rfl ?_)
  ·exact ⟨rfl, congrArg (fun l => some (D.arr 11 l c1)) (hC1 k9 (by omega)), True.intro⟩
  have hl2 : (A.take i ++ x.D :: List.replicate (xs.length - i) (Go.Ab.D.agg [.agg [.str ⟨#[]⟩, .int .i64 0, .str ⟨#[]⟩, .int .i64 0, .int .i64 0, .int .i64 0, .int .i64 0], .int .i64 0, .int .i64 0, .int .i64 0, .int .i64 0])).length = xs.length + 1 := by rw [List.length_append, List.length_take, List.length_cons, List.length_replicate, hA]; omega
  have hb2 : (A.take i ++ x.D :: List.replicate (xs.length - i) (Go.Ab.D.agg [.agg [.str ⟨#[]⟩, .int .i64 0, .str ⟨#[]⟩, .int .i64 0, .int .i64 0, .int .i64 0, .int .i64 0], .int .i64 0, .int .i64 0, .int .i64 0, .int .i64 0])).map D.bare = A.take i ++ x.D :: List.replicate (xs.length - i) (Go.Ab.D.agg [.agg [.str ⟨#[]⟩, .int .i64 0, .str ⟨#[]⟩, .int .i64 0, .int .i64 0, .int .i64 0, .int .i64 0], .int .i64 0, .int .i64 0, .int .i64 0, .int .i64 0]) := by rw [List.map_append, List.map_take, hbare, List.map_cons, List.map_replicate]; rfl
  have hwi : IntKind.wrap .i64 ((i : Int) + ((1 : Nat) : Int)) = (i : Int) + 1 := wrap_ok (by omega) (by omega)
  have hC2 : ∀ k, k = min (((xs.length : Nat) : Int) - (i : Int)).toNat (((xs.length + 1 : Nat) : Int) - IntKind.wrap .i64 ((i : Int) + ((1 : Nat) : Int))).toNat → (A.take i ++ x.D :: List.replicate (xs.length - i) (Go.Ab.D.agg [.agg [.str ⟨#[]⟩, .int .i64 0, .str ⟨#[]⟩, .int .i64 0, .int .i64 0, .int .i64 0, .int .i64 0], .int .i64 0, .int .i64 0, .int .i64 0, .int .i64 0])).take (IntKind.wrap .i64 ((i : Int) + ((1 : Nat) : Int))).toNat ++ ((A.drop (i : Int).toNat).take (((xs.length : Nat) : Int) - (i : Int)).toNat).take k ++ (A.take i ++ x.D :: List.replicate (xs.length - i) (Go.Ab.D.agg [.agg [.str ⟨#[]⟩, .int .i64 0, .str ⟨#[]⟩, .int .i64 0, .int .i64 0, .int .i64 0, .int .i64 0], .int .i64 0, .int .i64 0, .int .i64 0, .int .i64 0])).drop ((IntKind.wrap .i64 ((i : Int) + ((1 : Nat) : Int))).toNat + k) = A.take i ++ x.D :: A.drop i := fun k hk => by
   rw [hwi] at hk ⊢
   exact ins_g2 hA hin (by omega) (by omega) (by omega) (by omega)
  generalize hB2 : A.take i ++ x.D :: List.replicate (xs.length - i) (Go.Ab.D.agg [.agg [.str ⟨#[]⟩, .int .i64 0, .str ⟨#[]⟩, .int .i64 0, .int .i64 0, .int .i64 0, .int .i64 0], .int .i64 0, .int .i64 0, .int .i64 0, .int .i64 0]) = B2 at *
  have j1 : 0 ≤ IntKind.wrap .i64 ((i : Int) + ((1 : Nat) : Int)) := by rw [hwi]; omega
  have j2 : IntKind.wrap .i64 ((i : Int) + ((1 : Nat) : Int)) ≤ ((xs.length + 1 : Nat) : Int) := by rw [hwi]; omega
  have j3 : (IntKind.wrap .i64 ((i : Int) + ((1 : Nat) : Int))).toNat ≤ B2.length := by rw [hwi]; omega
  have j4 : (IntKind.wrap .i64 ((i : Int) + ((1 : Nat) : Int))).toNat + (((xs.length + 1 : Nat) : Int) - IntKind.wrap .i64 ((i : Int) + ((1 : Nat) : Int))).toNat ≤ c1 := by rw [hwi]; omega
  have hkle2 : ∀ k, k = min (((xs.length : Nat) : Int) - (i : Int)).toNat (((xs.length + 1 : Nat) : Int) - IntKind.wrap .i64 ((i : Int) + ((1 : Nat) : Int))).toNat → k ≤ ((A.drop (i : Int).toNat).take (((xs.length : Nat) : Int) - (i : Int)).toNat).length := fun k hk => by rw [List.length_take, List.length_drop, hA]; omega
  refine XS.go ?_
  conv => whnf
  repeat' (first | ((refine And.intro j1 ?_; conv => whnf)) | ((refine And.intro j2 ?_; conv => whnf)) | ((refine And.intro k2' ?_; conv => whnf)) | ((refine And.intro h1 ?_; conv => whnf)) | ((refine And.intro h2 ?_; conv => whnf)) | ((refine And.intro j3 ?_; conv => whnf)) | ((refine And.intro j4 ?_; conv => whnf)) | ((refine And.intro hb2 ?_; conv => whnf)) | ((refine And.intro hbare ?_; conv => whnf)) | ((refine fun k8 (hk8 : k8 = min (((xs.length : Nat) : Int) - (i : Int)).toNat (((xs.length + 1 : Nat) : Int) - IntKind.wrap .i64 ((i : Int) + ((1 : Nat) : Int))).toNat) => And.intro (hkle2 k8 hk8) ?_; conv => whnf)) | ((refine And.intro True.intro ?_; conv => whnf)) | (refine And.intro ?_ ?_; (focus exact au0); conv => whnf) | (refine g_seq ?_) | (refine g_drawn ?_) | ((first | refine d_p ?_ | refine d_e ?_ | refine d_nil ?_); conv => whnf) | fail)
  refine XS.weakenA (fs := [.any, .any, .any, .any, .any, .any, .any, .any, .any, .lsl 40 b1 (xs.length + 1) c1]) (ls := [(40, .arr 11 (A.take i ++ x.D :: A.drop i) c1)]) ⟨?_, ?_⟩ ?_
  ·repeat' (first | exact True.intro | refine And.intro rfl ?_)
  ·exact ⟨congrArg (fun l => some (D.arr 11 l c1)) (hC2 k8 hk8), True.intro⟩
  refine XS.go ?_
  conv => whnf
  repeat' (first | (refine g_op ?_; conv => whnf) | (refine And.intro ?_ ?_; (focus exact au0); conv => whnf) | (refine g_seq ?_) | (refine g_ops ?_) | (refine g_nil ?_; conv => whnf) | fail)
  refine XS.move 40 6 [6] rfl ?_
  refine XS.go ?_
  repeat' (first | (refine And.intro ?_ ?_; (focus exact au0); conv => whnf) | ((first | refine g_ret ?_ | refine r_t ?_ | refine r_nil ?_); conv => whnf) | fail)
  exact ⟨b1, c1, hc1, .inl rfl, congrArg (fun l => [(6, b1, D.arr 11 l c1)]) hmap.symm⟩
 have hw1 : IntKind.wrap .i64 ((xs.length : Int) + ((1 : Nat) : Int)) = (xs.length : Int) + 1 := wrap_ok (by omega) (by omega)
 have hcc : (xs.length : Int) + 1 ≤ (c : Int) := by
  have q := hb
  rw [hw1] at q
  simpa using q
 clear hb
 have k1 : 0 ≤ IntKind.wrap .i64 ((xs.length : Int) + ((1 : Nat) : Int)) := by rw [hw1]; omega
 have k2 : IntKind.wrap .i64 ((xs.length : Int) + ((1 : Nat) : Int)) ≤ (c : Int) := by rw [hw1]; omega
 conv => whnf
 repeat' (first | (refine g_skip ?_; conv => whnf) | fail)
 refine XS.go ?_
 conv => whnf
 repeat' (first | ((refine And.intro k1 ?_; conv => whnf)) | ((refine And.intro k2 ?_; conv => whnf)) | (refine g_op ?_; conv => whnf) | (refine And.intro ?_ ?_; (focus exact au0); conv => whnf) | (refine g_seq ?_) | (refine g_ops ?_) | (refine g_nil ?_; conv => whnf) | fail)
 have he : (IntKind.wrap .i64 ((xs.length : Int) + ((1 : Nat) : Int)) - 0).toNat = xs.length + 1 := by rw [hw1]; omega
 refine XS.weakenA (fs := [.lvw 0 b 0 0 (xs.length + 1) c, .int .i64 (i : Int), .lsl 1 b2 1 c2, .any, .any, .any, .any, .int .i64 ((1 : Nat) : Int), .int .i64 (xs.length : Int)]) (ls := [(0, .arr 11 A c), (1, .arr 11 [x.D] c2)]) ⟨?_, ?_⟩ ?_
 ·repeat' (first | exact True.intro | refine And.intro rfl ?_ | refine And.intro (congrArg (fun m => D.lvw 0 b 0 0 m c) he) ?_)
 ·exact ⟨rfl, rfl, True.intro⟩
 have hwi : IntKind.wrap .i64 ((i : Int) + ((1 : Nat) : Int)) = (i : Int) + 1 := wrap_ok (by omega) (by omega)
 have j1 : 0 ≤ IntKind.wrap .i64 ((i : Int) + ((1 : Nat) : Int)) := by rw [hwi]; omega
 have j2 : IntKind.wrap .i64 ((i : Int) + ((1 : Nat) : Int)) ≤ ((xs.length + 1 : Nat) : Int) := by rw [hwi]; omega
 have j0 : ((xs.length + 1 : Nat) : Int) ≤ (c : Int) := by omega
 have q1 : c2 ≠ 0 := by omega
 have q2 : c ≠ 0 := by omega
 have q3 : c - (IntKind.wrap .i64 ((i : Int) + ((1 : Nat) : Int))).toNat ≠ 0 := by rw [hwi]; omega
 have o1 : 0 + (IntKind.wrap .i64 ((i : Int) + ((1 : Nat) : Int))).toNat * 11 = (0 + (IntKind.wrap .i64 ((i : Int) + ((1 : Nat) : Int))).toNat) * 11 := by omega
 have o2 : 0 + (i : Int).toNat * 11 = (0 + (i : Int).toNat) * 11 := by omega
 have j3 : 0 + (IntKind.wrap .i64 ((i : Int) + ((1 : Nat) : Int))).toNat ≤ A.length := by rw [hwi]; omega
 have j4 : 0 + (IntKind.wrap .i64 ((i : Int) + ((1 : Nat) : Int))).toNat + (((xs.length + 1 : Nat) : Int) - IntKind.wrap .i64 ((i : Int) + ((1 : Nat) : Int))).toNat ≤ c := by rw [hwi]; omega
 have j5 : (i : Int) ≤ ((xs.length + 1 : Nat) : Int) := by omega
 have hkle2 : ∀ k, k = min (((xs.length + 1 : Nat) : Int) - (i : Int)).toNat (((xs.length + 1 : Nat) : Int) - IntKind.wrap .i64 ((i : Int) + ((1 : Nat) : Int))).toNat → k ≤ ((A.drop (0 + (i : Int).toNat)).take (((xs.length + 1 : Nat) : Int) - (i : Int)).toNat).length := fun k hk => by rw [hwi] at hk; rw [List.length_take, List.length_drop, hA]; omega
 have hC1 : ∀ k, k = min (((xs.length + 1 : Nat) : Int) - (i : Int)).toNat (((xs.length + 1 : Nat) : Int) - IntKind.wrap .i64 ((i : Int) + ((1 : Nat) : Int))).toNat → A.take (0 + (IntKind.wrap .i64 ((i : Int) + ((1 : Nat) : Int))).toNat) ++ ((A.drop (0 + (i : Int).toNat)).take (((xs.length + 1 : Nat) : Int) - (i : Int)).toNat).take k ++ A.drop (0 + (IntKind.wrap .i64 ((i : Int) + ((1 : Nat) : Int))).toNat + k) = A.take (i + 1) ++ A.drop i := fun k hk => by
  rw [hwi] at hk ⊢
  exact ins_r1 hA hin (by omega) (by omega) (by omega) (by omega)
 refine XS.go ?_
 conv => whnf
 repeat' (first | ((refine And.intro ovl_MateRun ?_; conv => whnf)) | ((refine And.intro q1 ?_; conv => whnf)) | ((refine And.intro q2 ?_; conv => whnf)) | ((refine And.intro q3 ?_; conv => whnf)) | ((refine And.intro j1 ?_; conv => whnf)) | ((refine And.intro j2 ?_; conv => whnf)) | ((refine And.intro j0 ?_; conv => whnf)) | (refine g_op ?_; conv => whnf) | (refine And.intro ?_ ?_; (focus exact au0); conv => whnf) | (refine g_seq ?_) | (refine g_ops ?_) | (refine g_nil ?_; conv => whnf) | fail)
 refine XS.go ?_
 conv => whnf
 repeat' (first | ((refine And.intro j1 ?_; conv => whnf)) | ((refine And.intro j2 ?_; conv => whnf)) | ((refine And.intro j0 ?_; conv => whnf)) | ((refine And.intro o1 ?_; conv => whnf)) | ((refine And.intro o2 ?_; conv => whnf)) | ((refine And.intro j3 ?_; conv => whnf)) | ((refine And.intro j4 ?_; conv => whnf)) | ((refine And.intro j5 ?_; conv => whnf)) | ((refine And.intro hbare ?_; conv => whnf)) | ((refine fun k8 (hk8 : k8 = min (((xs.length + 1 : Nat) : Int) - (i : Int)).toNat (((xs.length + 1 : Nat) : Int) - IntKind.wrap .i64 ((i : Int) + ((1 : Nat) : Int))).toNat) => And.intro (hkle2 k8 hk8) ?_; conv => whnf)) | ((refine And.intro True.intro ?_; conv => whnf)) | (refine And.intro ?_ ?_; (focus exact au0); conv => whnf) | (refine g_seq ?_) | (refine Br.t ?_ ?_; (focus (first | assumption | exact rfl)); conv => whnf) | (refine g_cond ?_; conv => whnf) | (refine g_drawn ?_) | ((first | refine d_p ?_ | refine d_e ?_ | refine d_nil ?_); conv => whnf) | fail)
 refine XS.weakenA (fs := [.lvw 0 b 0 0 (xs.length + 1) c, .int .i64 (i : Int), .lsl 1 b2 1 c2, .any, .any, .any, .any, .int .i64 ((1 : Nat) : Int), .int .i64 (xs.length : Int)]) (ls := [(0, .arr 11 (A.take (i + 1) ++ A.drop i) c), (1, .arr 11 [x.D] c2)]) ⟨?_, ?_⟩ ?_
 ·repeat' (first | exact True.intro | refine And.intro rfl ?_)
 ·exact ⟨congrArg (fun l => some (D.arr 11 l c)) (hC1 k8 hk8), rfl, True.intro⟩
 have hl2 : (A.take (i + 1) ++ A.drop i).length = xs.length + 1 := by rw [List.length_append, List.length_take, List.length_drop, hA]; omega
 have hb2 : (A.take (i + 1) ++ A.drop i).map D.bare = A.take (i + 1) ++ A.drop i := by rw [List.map_append, List.map_take, List.map_drop, hbare]
 have hkle : ∀ k : Nat, k = min 1 (((xs.length + 1 : Nat) : Int) - (i : Int)).toNat → k ≤ ([x.D].take 1).length := fun k hk => by simp only [List.take_succ_cons, List.length_cons]; omega
 have hC2 : ∀ k : Nat, k = min 1 (((xs.length + 1 : Nat) : Int) - (i : Int)).toNat → (A.take (i + 1) ++ A.drop i).take (0 + (i : Int).toNat) ++ ([x.D].take 1).take k ++ (A.take (i + 1) ++ A.drop i).drop (0 + (i : Int).toNat + k) = A.take i ++ x.D :: A.drop i := fun k hk => ins_r2 hA hin (by omega) (by omega)
 generalize A.take (i + 1) ++ A.drop i = B at *
 have j6 : 0 + (i : Int).toNat ≤ B.length := by omega
 have j7 : 0 + (i : Int).toNat + (((xs.length + 1 : Nat) : Int) - (i : Int)).toNat ≤ c := by omega
 refine XS.go ?_
 conv => whnf
 repeat' (first | ((refine And.intro j5 ?_; conv => whnf)) | ((refine And.intro j0 ?_; conv => whnf)) | ((refine And.intro o2 ?_; conv => whnf)) | ((refine And.intro j6 ?_; conv => whnf)) | ((refine And.intro j7 ?_; conv => whnf)) | ((refine And.intro hb2 ?_; conv => whnf)) | ((refine fun k9 (hk9 : k9 = min 1 (((xs.length + 1 : Nat) : Int) - (i : Int)).toNat) => And.intro (hkle k9 hk9) ?_; conv => whnf)) | (refine g_op ?_; conv => whnf) | (refine And.intro ?_ ?_; (focus exact au0); conv => whnf) | (refine g_seq ?_) | (refine g_ops ?_) | (refine g_nil ?_; conv => whnf) | fail)
 refine XS.weakenA (fs := [.lvw 0 b 0 0 (xs.length + 1) c]) (ls := [(0, .arr 11 (A.take i ++ x.D :: A.drop i) c)]) ⟨?_, ?_⟩ ?_
 ·repeat' (first | exact True.intro | refine And.intro rfl ?_)
 ·exact ⟨congrArg (fun l => some (D.arr 11 l c)) (hC2 k9 hk9), True.intro⟩
 refine XS.go ?_
 conv => whnf
 repeat' (first | (refine g_op ?_; conv => whnf) | (refine And.intro ?_ ?_; (focus exact au0); conv => whnf) | (refine g_seq ?_) | (refine g_ops ?_) | (refine g_nil ?_; conv => whnf) | fail)
 refine XS.move 0 6 [6] rfl ?_
 refine XS.go ?_
 repeat' (first | (refine And.intro ?_ ?_; (focus exact au0); conv => whnf) | ((first | refine g_ret ?_ | refine r_t ?_ | refine r_nil ?_); conv => whnf) | fail)
 exact ⟨b, c, by omega, .inr rfl, congrArg (fun l => [(6, b, D.arr 11 l c)]) hmap.symm⟩
/-- slices.Insert of one value: s, v: the names of the row and of the value's row, r: the name of what comes back. -/
theorem insF_MateRun (s v r : Nat) (x : MateRun) (xs : List MateRun) (i b c b2 c2 : Nat) (hi : i ≤ xs.length) (hl : xs.length ≤ 1048576) (hc2 : 1 ≤ c2) :
  XC Try.prog 125 [.lsl s b xs.length c, .int .i64 (i : Int), .lsl v b2 1 c2] [(s, b, .arr 11 (xs.map MateRun.D) c), (v, b2, .arr 11 [x.D] c2)] (fun d ls => ∃ b' c', d = .lsl r b' (insAt xs i x).length c' ∧ ls = [(r, b', .arr 11 ((insAt xs i x).map MateRun.D) c')]) := by
 have hil : (insAt xs i x).length = xs.length + 1 := by simp [insAt]; omega
 refine (insF0_MateRun x xs i b c b2 c2 hi hl hc2).renm (fun _ _ _ h => h) rfl (fun d ls ⟨b', c', hc', h1, h2⟩ => ?_)
 subst h2
 refine ⟨.lsl r b' (insAt xs i x).length c', _, ⟨b', c', rfl, rfl⟩, fun _ _ _ h => HolL.renm rfl h, fun U w v hv => ?_⟩
 rw [hil]
 rcases h1 with h1 | h1
 ·subst h1
  exact hv
 ·subst h1
  exact hv
end Go.Ab
