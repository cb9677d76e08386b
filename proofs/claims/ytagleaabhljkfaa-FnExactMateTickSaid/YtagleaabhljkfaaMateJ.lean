/- Steps towards the law: the machine, contracts of functions and facts of lists. -/
import Derived.Test.YtagleaabhljkfaaMateS
import Derived.Test.YtagleaabhljkfaaAb11
import Derived.Test.YtagleaabhljkfaaRows
set_option linter.unusedSimpArgs false
set_option linter.unusedVariables false
namespace Go.Ab
open Go Go.RowKit Go.Proofs
attribute [local irreducible] XC Rdr IntKind.wrap xw xos xqs xr xd
set_option maxRecDepth 100000
set_option maxHeartbeats 16000000
def cf122 : CF := ⟨33,[.t 6],(.seq (.ops [Ok 6 (.nil)]) (.seq (.ops [Om 8 0,Om 9 1,Om 10 2,Om 11 0,Og 12 11,Oo 13 (.slc3 (.t 8) (.t 9) (.t 10) (.t 12))]) (.seq (.seq (.ops [Om 14 1,Om 15 2,Ob 16 .eql 14 15]) (.cond (.t 16) (.seq (.ops [Om 17 0,Om 6 17]) .ret) .skip)) (.seq (.ops [Om 18 0,Og 19 18,Om 7 19]) (.seq (.drawn [Qm 20 0,Qm 21 1,Qo 22 (.slc 4 false (.t 20) none (some (.t 21))),Qm 23 0,Qm 24 2,Qo 25 (.slc 4 false (.t 23) (some (.t 24)) none),(Oo 26 (.app 4 48 (.t 22) (.t 25)),true,[]),Qm 0 26]) (.seq (.ops [Om 27 0,Om 28 0,Og 29 28,Om 30 7,Oo 31 (.slc 4 false (.t 27) (some (.t 29)) (some (.t 30))),⟨none,.clr 4 (.t 31),none⟩]) (.seq (.ops [Om 32 0,Om 6 32]) .ret)))))))⟩
theorem c122 : compileF Try.prog [] 122 = some cf122 := by kernel_rfl
def cutAt_MateAsk (xs : List MateAsk) (i j : Nat) : List MateAsk := xs.take i ++ xs.drop j
theorem cutF0_MateAsk (xs : List MateAsk) (i j b c : Nat) (hij : i < j) (hj : j ≤ xs.length) (hl : xs.length ≤ 1048576) :
  XC Try.prog 122 [.lsl 0 b xs.length c, .int .i64 (i : Int), .int .i64 (j : Int)] [(0, b, .arr 4 (xs.map MateAsk.D) c)] (fun d ls => (d = .lsl 26 b (i + (xs.length - j)) c ∨ d = .lvw 26 b 0 0 (i + (xs.length - j)) c) ∧ ls = [(26, b, .arr 4 ((cutAt_MateAsk xs i j).map MateAsk.D) c)]) := by
 refine XC.intro' hm [26] rfl c122 (Nat.le_of_ble_eq_true rfl) ?_
 conv => whnf
 repeat' (first | (refine g_op ?_; conv => whnf) | (refine And.intro ?_ ?_; (focus exact au0); conv => whnf) | (refine g_seq ?_) | (refine g_ops ?_) | (refine g_nil ?_; conv => whnf) | fail)
 refine XS.capLe2 0 rfl fun hcp => ?_
 rw [List.length_map] at hcp
 have hA : (xs.map MateAsk.D).length = xs.length := List.length_map ..
 have hbare : (xs.map MateAsk.D).map D.bare = xs.map MateAsk.D := by rw [List.map_map]; rfl
 have hmap : (cutAt_MateAsk xs i j).map MateAsk.D = (xs.map MateAsk.D).take i ++ (xs.map MateAsk.D).drop j := by simp only [cutAt_MateAsk, List.map_append, List.map_take, List.map_drop]
 generalize xs.map MateAsk.D = A at *
 have h0 : (0 : Int) ≤ (i : Int) := by omega
 have h1 : (i : Int) ≤ (j : Int) := by omega
 have h2 : (j : Int) ≤ ((xs.length : Nat) : Int) := by omega
 have h3 : ((xs.length : Nat) : Int) ≤ (c : Int) := by omega
 have h4 : (i : Int) ≤ (c : Int) := by omega
 refine XS.go ?_
 repeat' (first | ((refine And.intro h1 ?_; conv => whnf)) | ((refine And.intro h2 ?_; conv => whnf)) | ((refine And.intro h3 ?_; conv => whnf)) | (refine g_op ?_; conv => whnf) | (refine And.intro ?_ ?_; (focus exact au0); conv => whnf) | (refine g_seq ?_) | (refine XS.go ?_) | (refine g_ops ?_) | ((first | refine g_nil ?_ | refine g_cond ?_); conv => whnf) | fail)
 refine Br.mk (fun hb => ?_) (fun hb => ?_)
 ·exfalso
  have q := hb
  simp at q
  omega
 clear hb
 have k1 : ((i : Int) - 0).toNat ≤ A.length := by omega
 have k2 : (j : Int).toNat + (((xs.length : Nat) : Int) - (j : Int)).toNat ≤ A.length := by omega
 have hn1 : ((A.drop (j : Int).toNat).take (((xs.length : Nat) : Int) - (j : Int)).toNat).length = xs.length - j := by rw [List.length_take, List.length_drop, hA]; omega
 have k3 : ((i : Int) - 0).toNat + ((A.drop (j : Int).toNat).take (((xs.length : Nat) : Int) - (j : Int)).toNat).length ≤ 1073741824 := by rw [hn1]; omega
 have hno : ¬ (c < ((i : Int) - 0).toNat + ((A.drop (j : Int).toNat).take (((xs.length : Nat) : Int) - (j : Int)).toNat).length) := by rw [hn1]; omega
 have e0 : ((i : Int) - 0).toNat = i := by omega
 have hC : A.take ((i : Int) - 0).toNat ++ (A.drop (j : Int).toNat).take (((xs.length : Nat) : Int) - (j : Int)).toNat = A.take i ++ A.drop j := by
  have e1 : (j : Int).toNat = j := by omega
  have e2 : (A.drop j).take (((xs.length : Nat) : Int) - (j : Int)).toNat = A.drop j := List.take_of_length_le (by rw [List.length_drop, hA]; omega)
  rw [e0, e1, e2]
 have hN : ((i : Int) - 0).toNat + ((A.drop (j : Int).toNat).take (((xs.length : Nat) : Int) - (j : Int)).toNat).length = i + (xs.length - j) := by rw [hn1, e0]
 conv => whnf
 repeat' (first | (refine g_skip ?_; conv => whnf) | fail)
 refine XS.go ?_
 conv => whnf
 repeat' (first | (refine g_op ?_; conv => whnf) | (refine And.intro ?_ ?_; (focus exact au0); conv => whnf) | (refine g_seq ?_) | (refine g_ops ?_) | (refine g_nil ?_; conv => whnf) | fail)
 refine XS.go ?_
 conv => whnf
 repeat' (first | ((refine And.intro h2 ?_; conv => whnf)) | ((refine And.intro h3 ?_; conv => whnf)) | ((refine And.intro h4 ?_; conv => whnf)) | ((refine And.intro h0 ?_; conv => whnf)) | ((refine And.intro k1 ?_; conv => whnf)) | ((refine And.intro k2 ?_; conv => whnf)) | ((refine And.intro k3 ?_; conv => whnf)) | ((refine And.intro hbare ?_; conv => whnf)) | ((refine And.intro (fun _ => ?_) (fun q => absurd q hno); conv => whnf)) | ((refine And.intro True.intro ?_; conv => whnf)) | (refine And.intro ?_ ?_; (focus exact au0); conv => whnf) | (refine g_seq ?_) | (refine g_drawn ?_) | ((first | refine d_p ?_ | refine d_e ?_ | refine d_nil ?_); conv => whnf) | fail)
 have hCl : (A.take i ++ A.drop j).length = i + (xs.length - j) := by rw [List.length_append, List.length_take, List.length_drop, hA]; omega
 refine XS.weakenA (fs := [.lsl 26 b (i + (xs.length - j)) c, .any, .any, .any, .any, .any, .any, .int .i64 (xs.length : Int)]) (ls := [(26, .arr 4 (A.take i ++ A.drop j) c)]) ⟨?_, ?_⟩ ?_
 ·repeat' (first | exact True.intro | refine And.intro rfl ?_ | refine And.intro (congrArg (fun m => D.lsl 26 b m c) hN) ?_)
 ·exact ⟨congrArg (fun l => some (D.arr 4 l c)) hC, True.intro⟩
 have r1 : ((i + (xs.length - j) : Nat) : Int) ≤ ((xs.length : Nat) : Int) := by omega
 have r0 : (0 : Int) ≤ ((i + (xs.length - j) : Nat) : Int) := by omega
 have r2 : (A.take i ++ A.drop j).length ≤ (((i + (xs.length - j) : Nat) : Int)).toNat := by rw [hCl]; omega
 have r3 : (((i + (xs.length - j) : Nat) : Int)).toNat + (((xs.length : Nat) : Int) - ((i + (xs.length - j) : Nat) : Int)).toNat ≤ c := by omega
 refine XS.go ?_
 conv => whnf
 repeat' (first | ((refine And.intro r0 ?_; conv => whnf)) | ((refine And.intro r1 ?_; conv => whnf)) | ((refine And.intro r2 ?_; conv => whnf)) | ((refine And.intro r3 ?_; conv => whnf)) | ((refine And.intro h3 ?_; conv => whnf)) | (refine g_op ?_; conv => whnf) | (refine And.intro ?_ ?_; (focus exact au0); conv => whnf) | (refine g_seq ?_) | (refine XS.go ?_) | (refine g_ops ?_) | ((first | refine g_nil ?_ | refine g_ret ?_ | refine r_t ?_ | refine r_nil ?_); conv => whnf) | fail)
 exact ⟨.inl rfl, congrArg (fun l => [(26, b, D.arr 4 l c)]) hmap.symm⟩
/-- slices.Delete of the elements from i on ahead of j: s: the row's name, r: the name of what comes back. -/
theorem cutF_MateAsk (s r : Nat) (xs : List MateAsk) (i j b c : Nat) (hij : i < j) (hj : j ≤ xs.length) (hl : xs.length ≤ 1048576) :
  XC Try.prog 122 [.lsl s b xs.length c, .int .i64 (i : Int), .int .i64 (j : Int)] [(s, b, .arr 4 (xs.map MateAsk.D) c)] (fun d ls => d = .lsl r b (cutAt_MateAsk xs i j).length c ∧ ls = [(r, b, .arr 4 ((cutAt_MateAsk xs i j).map MateAsk.D) c)]) := by
 have hil : (cutAt_MateAsk xs i j).length = i + (xs.length - j) := by simp only [cutAt_MateAsk, List.length_append, List.length_take, List.length_drop]; omega
 refine (cutF0_MateAsk xs i j b c hij hj hl).renm (fun _ _ _ h => h) rfl (fun d ls ⟨h1, h2⟩ => ?_)
 subst h2
 refine ⟨.lsl r b (cutAt_MateAsk xs i j).length c, _, ⟨rfl, rfl⟩, fun _ _ _ h => HolL.renm rfl h, fun U w v hv => ?_⟩
 rw [hil]
 rcases h1 with h1 | h1
 ·subst h1
  exact hv
 ·subst h1
  exact hv
end Go.Ab
