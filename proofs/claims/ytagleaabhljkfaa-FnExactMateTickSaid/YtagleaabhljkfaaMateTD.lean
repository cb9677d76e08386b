/- Steps towards the law: the machine, contracts of functions and facts of lists. -/
import Derived.Test.YtagleaabhljkfaaMateTC
import Derived.Test.YtagleaabhljkfaaRows
set_option linter.unusedSimpArgs false
set_option linter.unusedVariables false
namespace Go.Ab
open Go Go.RowKit Go.Proofs
attribute [local irreducible] XC Rdr IntKind.wrap xw xos xqs xr xd
set_option maxRecDepth 100000
set_option maxHeartbeats 16000000
def cf102 : CF := ⟨29,[.t 4],(.seq (.ops [Ok 4 (.nil)]) (.seq (.ops [Oo 7 (.bsl (.agg [.str ⟨#[]⟩,.str ⟨#[]⟩,.int .i64 0,.int .i64 0]) 0 []),Om 5 7]) (.seq (.seq (.ops [Ok 6 (.int .i64 0)]) (.block 0 (.loop (.seq (.seq (.ops [Om 8 6,Om 9 0,Og 10 9,Ob 11 .lss 8 10]) (.cond (.t 11) .skip (.exit 0))) (.seq (.block 1 (.seq (.ops [Om 14 0,Om 15 6,Ox 16 4 14 15,Of 17 0 16,Ol 18 17,Om 19 1,Ob 20 .neq 18 19]) (.cond (.t 20) (.ops [Om 21 5,Om 22 0,Om 23 6,Ox 24 4 22 23,Od 25 4 24,Oo 26 (.bsl (.agg [.str ⟨#[]⟩,.str ⟨#[]⟩,.int .i64 0,.int .i64 0]) 1 [(0,(.t 25))]),Oo 27 (.app 4 48 (.t 21) (.t 26)),Om 5 27]) .skip))) (.ops [Om 12 6,Oi 13 12,Om 6 13])))))) (.seq (.ops [Om 28 5,Om 4 28]) .ret))))⟩
theorem c102 : compileF Try.prog [] 102 = some cf102 := by kernel_rfl
def dropQ (hold : ByteArray) (a : MateAsk) : Bool := a.fHold.toList != hold.toList
theorem spec_Drop (xs : List MateAsk) (hold : ByteArray) (hl : xs.length ≤ 1048576) : Rdr Try.prog 102 [.ro 4 (xs.map MateAsk.D), .str hold] (.ro 4 ((xs.filter (dropQ hold)).map MateAsk.D)) := by
 refine Rdr.introF hm [27] rfl c102 (Nat.le_of_ble_eq_true rfl) ?_
 conv => whnf
 repeat' (first | (refine g_op ?_; conv => whnf) | (refine And.intro ?_ ?_; (focus exact au0); conv => whnf) | (refine g_seq ?_) | (refine g_ops ?_) | (refine g_nil ?_; conv => whnf) | fail)
 refine XS.go ?_
 repeat' (first | (refine g_op ?_; conv => whnf) | (refine And.intro ?_ ?_; (focus exact au0); conv => whnf) | (refine g_seq ?_) | (refine g_ops ?_) | (refine g_nil ?_; conv => whnf) | fail)
 refine XS.own 5 27 4 rfl fun b0 => ?_
 repeat' (first | (refine g_op ?_; conv => whnf) | (refine And.intro ?_ ?_; (focus exact au0); conv => whnf) | (refine g_seq ?_) | (refine XS.go ?_) | (refine g_ops ?_) | (refine g_loop ?_) | (refine g_nil ?_; conv => whnf) | (refine g_block ?_) | fail)
 refine XLc.mkA (α := Nat × Nat) (fun i => i.1 ≤ xs.length ∧ ((xs.take i.1).filter (dropQ hold)).length ≤ i.2) (fun i => xs.length - i.1) (fun i gs => [.ro 4 (xs.map MateAsk.D), .str hold, .any, .any, .nil, .lsl 27 (gs 27) ((xs.take i.1).filter (dropQ hold)).length i.2, .int .i64 (i.1 : Int)]) (fun i gs => [(27, .arr 4 (((xs.take i.1).filter (dropQ hold)).map MateAsk.D) i.2)]) (0, 0) ⟨Nat.zero_le _, by simp⟩ ?_ ?_
 ·refine ⟨?_, ?_⟩
  ·repeat' (first | exact True.intro | refine And.intro rfl ?_)
  ·refine And.intro rfl True.intro
 intro i gs hI
 obtain ⟨i, cp⟩ := i
 obtain ⟨hi0, hi1⟩ := hI
 simp only at hi0 hi1
 dsimp only
 repeat' (first | (refine g_op ?_; conv => whnf) | (refine And.intro ?_ ?_; (focus exact au0); conv => whnf) | (refine g_seq ?_) | (refine XS.go ?_) | (refine g_ops ?_) | ((first | refine g_nil ?_ | refine g_cond ?_); conv => whnf) | fail)
 refine Br.mk (fun hb => ?_) (fun hb => ?_)
 ·have hlt : i < xs.length := by simpa using hb
  have hF := take_filter (dropQ hold) hlt
  have hFl : ((xs.take i).filter (dropQ hold)).length ≤ i := Nat.le_trans (List.length_filter_le _ _) (by rw [List.length_take]; omega)
  generalize (xs.take i).filter (dropQ hold) = A at hi1 hF hFl ⊢
  have hw : IntKind.wrap .i64 ((i : Int) + 1) = ((i + 1 : Nat) : Int) := by rw [wrap_ok (by omega) (by omega)]; rfl
  clear hb
  conv => whnf
  repeat' (first | (refine z_ld1 ?_; first | (refine z_ld rfl rfl rfl rfl au1 au2 ?_; conv => whnf) | (refine z_ld0 rfl ?_; conv => whnf)) | (refine z_ix1 ?_; first | (refine z_ix rfl rfl rfl rfl rfl ⟨by first | omega | (simp only [decide_eq_true_eq, Bool.not_eq_true', Bool.or_eq_false_iff, decide_eq_false_iff_not, Bool.and_eq_true, Bool.not_eq_false'] at *; omega), by first | omega | (simp only [decide_eq_true_eq, Bool.not_eq_true', Bool.or_eq_false_iff, decide_eq_false_iff_not, Bool.and_eq_true, Bool.not_eq_false'] at *; omega)⟩ ?_; conv => whnf) | (refine z_ix0 rfl rfl ?_; conv => whnf)) | (refine z_op ?_ ?_; (focus exact rfl); conv => whnf) | (refine zs_ops ?_ ?_; (focus exact rfl)) | (refine z_nil fun vals => ?_; conv => whnf) | (refine And.intro ?_ ?_; (focus exact au0); conv => whnf) | (refine g_seq ?_) | (refine XS.go ?_) | ((first | refine g_cond ?_ | refine g_skip ?_); conv => whnf) | (refine g_block ?_) | fail)
  refine Br.mk (fun hb => ?_) (fun hb => ?_)
  ·have he : (xs.take (i + 1)).filter (dropQ hold) = A ++ [xs.getD i default] := by rw [hF, if_pos (show dropQ hold (xs.getD i default) = true from hb)]
   clear hb hF
   conv => whnf
   repeat' (first | (refine z_ld1 ?_; first | (refine z_ld rfl rfl rfl rfl au1 au2 ?_; conv => whnf) | (refine z_ld0 rfl ?_; conv => whnf)) | (refine z_ix1 ?_; first | (refine z_ix rfl rfl rfl rfl rfl ⟨by first | omega | (simp only [decide_eq_true_eq, Bool.not_eq_true', Bool.or_eq_false_iff, decide_eq_false_iff_not, Bool.and_eq_true, Bool.not_eq_false'] at *; omega), by first | omega | (simp only [decide_eq_true_eq, Bool.not_eq_true', Bool.or_eq_false_iff, decide_eq_false_iff_not, Bool.and_eq_true, Bool.not_eq_false'] at *; omega)⟩ ?_; conv => whnf) | (refine z_ix0 rfl rfl ?_; conv => whnf)) | (refine z_op ?_ ?_; (focus exact rfl); conv => whnf) | (refine zs_ops ?_ ?_; (focus exact rfl)) | (refine z_eff ?_; conv => whnf) | (refine And.intro ?_ ?_; (focus exact au0); conv => whnf) | (refine fun _ => ?_; conv => whnf) | fail)
   refine ⟨by simp, rfl, ?_⟩
   conv => whnf
   refine ⟨rfl, ?_⟩
   conv => whnf
   refine ⟨rfl, rfl, rfl, ?_⟩
   conv => whnf
   refine ⟨?_, Nat.le_of_ble_eq_true rfl, (by decide), fun n' b' c' hn hc => ?_⟩
   ·show _ + 1 ≤ 1073741824
    rw [List.length_map]; omega
   have hn : n' = ((xs.take (i + 1)).filter (dropQ hold)).length := by
    rw [hn, he, List.length_map, List.length_append]
    rfl
   subst hn
   conv => whnf
   repeat' (first | (refine z_op ?_ ?_; (focus exact rfl); conv => whnf) | ((first | refine z_nil fun vals => ?_ | refine g_op ?_); conv => whnf) | (refine And.intro ?_ ?_; (focus exact au0); conv => whnf) | (refine XS.go ?_) | (refine g_ops ?_) | (refine g_nil ?_; conv => whnf) | fail)
   refine ⟨(i + 1, c'), ⟨hlt, hc⟩, by simp only; omega, ?_, ?_⟩
   ·repeat' (first | exact True.intro | refine And.intro (congrArg (D.int .i64) hw) ?_ | refine And.intro rfl ?_)
   ·dsimp only
    rw [he, List.map_append]
    exact ⟨rfl, True.intro⟩
  ·have he : (xs.take (i + 1)).filter (dropQ hold) = A := by
    rw [hF, if_neg (by rw [show dropQ hold (xs.getD i default) = false from hb]; exact Bool.false_ne_true), List.append_nil]
   clear hb hF
   conv => whnf
   repeat' (first | (refine g_op ?_; conv => whnf) | (refine And.intro ?_ ?_; (focus exact au0); conv => whnf) | (refine XS.go ?_) | (refine g_ops ?_) | ((first | refine g_nil ?_ | refine g_skip ?_); conv => whnf) | fail)
   refine ⟨(i + 1, cp), ⟨hlt, by rw [he]; exact hi1⟩, by simp only; omega, ?_, ?_⟩
   ·dsimp only
    rw [he]
    repeat' (first | exact True.intro | refine And.intro (congrArg (D.int .i64) hw) ?_ | refine And.intro rfl ?_)
   ·dsimp only
    rw [he]
    exact ⟨rfl, True.intro⟩
 have hi : i = xs.length := by
  have : ¬ i < xs.length := by simpa using hb
  omega
 subst hi
 rw [List.take_length]
 clear hb
 conv => whnf
 repeat' (first | (refine g_op ?_; conv => whnf) | (refine And.intro ?_ ?_; (focus exact au0); conv => whnf) | (refine g_seq ?_) | (refine XS.go ?_) | (refine g_ops ?_) | ((first | refine g_nil ?_ | refine g_ret ?_ | refine g_exit ?_ | refine r_t ?_ | refine r_nil ?_); conv => whnf) | fail)
 refine ⟨⟨rfl, Nat.le_of_eq (by simp)⟩, ?_⟩
 show D.ro 4 ((D.frozs ((xs.filter (dropQ hold)).map MateAsk.D)).take (xs.filter (dropQ hold)).length) = _
 rw [D.frozs_map (fun _ => rfl), List.take_of_length_le (by simp)]
/-! ### The lists -/
theorem bl_trans : ∀ {a b c : List UInt8}, Op.bytesLess a b = true → Op.bytesLess b c = true → Op.bytesLess a c = true
 | [], [], _, h, _ => by simp [Op.bytesLess] at h
 | [], _ :: _, [], _, h => by simp [Op.bytesLess] at h
 | [], _ :: _, _ :: _, _, _ => rfl
 | _ :: _, [], _, h, _ => by simp [Op.bytesLess] at h
 | _ :: _, _ :: _, [], _, h => by simp [Op.bytesLess] at h
 | x :: a, y :: b, z :: c, h1, h2 => by
  simp only [Op.bytesLess, Bool.or_eq_true, Bool.and_eq_true, decide_eq_true_eq, beq_iff_eq] at h1 h2 ⊢
  rcases h1 with h1 | ⟨rfl, h1⟩ <;> rcases h2 with h2 | ⟨rfl, h2⟩
  ·exact .inl (UInt8.lt_trans h1 h2)
  ·exact .inl h1
  ·exact .inl h2
  ·exact .inr ⟨rfl, bl_trans h1 h2⟩
theorem ord_less {f : Nat → List UInt8} {n : Nat} (h : ∀ i, 0 < i → i < n → Op.bytesLess (f (i - 1)) (f i) = true) : ∀ {d i : Nat}, i + d + 1 < n → Op.bytesLess (f i) (f (i + d + 1)) = true
 | 0, i, hn => by
  have := h (i + 1) (by omega) hn
  simpa using this
 | d + 1, i, hn => by
  have h1 := ord_less h (d := d) (i := i) (by omega)
  have h2 := h (i + (d + 1) + 1) (by omega) hn
  have e : i + (d + 1) + 1 - 1 = i + d + 1 := by omega
  rw [e] at h2
  exact bl_trans h1 h2
theorem asks_ord {xs : List MateAsk} {c : Int} (h : asksOk xs c = true) : ∀ i, 0 < i → i < xs.length → Op.bytesLess (xs.getD (i - 1) default).fHold.toList (xs.getD i default).fHold.toList = true := fun i h0 hi => by
 simp only [asksOk, Bool.and_eq_true, Bool.not_eq_true', decide_eq_false_iff_not] at h
 have hl : xs.length ≤ 40 := by have := h.1; omega
 have := allN_get h.2.1 (Nat.zero_le i) (by omega)
 simp only [aS, Bool.and_eq_true, Bool.not_eq_true', Bool.and_eq_false_iff, Bool.not_eq_false', decide_eq_false_iff_not] at this
 have e : pr i = i - 1 := by unfold pr; rw [wrap_ok (by omega) (by omega)]; omega
 rcases this.2 with q | q
 ·omega
 ·rw [e] at q
  exact q
end Go.Ab
