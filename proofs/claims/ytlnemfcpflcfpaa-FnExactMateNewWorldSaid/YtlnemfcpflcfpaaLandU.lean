/- Steps towards the law: contracts of functions and facts of lists. -/
import Derived.Test.YtlnemfcpflcfpaaLandS
import Derived.Test.YtlnemfcpflcfpaaRows
set_option linter.unusedSimpArgs false
set_option linter.unusedVariables false
namespace Go.Ab
open Go Go.RowKit Go.Proofs
attribute [local irreducible] XC Rdr IntKind.wrap xw xos xqs xr xd
set_option maxRecDepth 100000

theorem validM_new (n : ByteArray) : validM (newM n) = nameOk n := by
  cases h : nameOk n <;> simp [validM, c1, newM, wantsOk, runsOk, asksOk, inR, allN, h]
def eN (l : List ByteArray) (i : Nat) : Bool := nameOk (l.getD i default) && !(decide ((i : Int) > 0) && !Op.bytesLess (l.getD (pr i) default).toList (l.getD i default).toList)
theorem oS_nw {l : List ByteArray} {i : Nat} (hl : l.length ≤ 1048576) (h : i < l.length) : oS (nwW l) i = eN l i := by
  have h1 : (nwW l).fMates.getD i default = newM (l.getD i default) := by
    show (l.map newM).getD i default = _
    simp [h]
  have hp : pr i < l.length := by
    unfold pr
    rw [wrap_ok (by omega) (by omega)]
    omega
  have h2 : (nwW l).fMates.getD (pr i) default = newM (l.getD (pr i) default) := by
    show (l.map newM).getD (pr i) default = _
    simp [hp]
  unfold oS eN
  rw [h1, h2, validM_new]
  rfl
theorem nw_ok (l : List ByteArray) (hl : l.length ≤ 1048576) : worldOk (nwW l) = true ↔ (1 ≤ l.length ∧ l.length ≤ 4 ∧ ∀ i, i < l.length → eN l i = true) := by
  have hland : landOk (nwW l).fLand = true := by rfl
  have hlen : (nwW l).fMates.length = l.length := by show (l.map newM).length = _; rw [List.length_map]
  have hfl : (nwW l).fFlight.length = 0 := rfl
  simp only [worldOk, wH, hland, hlen, hfl, Bool.and_eq_true, Bool.not_eq_true', Bool.or_eq_false_iff, decide_eq_false_iff_not, allN_iff]
  constructor
  · rintro ⟨⟨⟨⟨_, h1⟩, h2⟩, _⟩, h3, _⟩
    exact ⟨by omega, by omega, fun i hi => by rw [← oS_nw hl hi]; exact h3 i (Nat.zero_le _) (by omega)⟩
  · rintro ⟨h1, h2, h3⟩
    exact ⟨⟨⟨⟨rfl, by omega⟩, by omega⟩, by omega⟩, fun j _ hj => by rw [oS_nw hl (by omega)]; exact h3 j (by omega), trivial⟩
set_option maxHeartbeats 8000000 in
theorem impl_NW (l : List ByteArray) (hl : l.length ≤ 1048576) : XC Try.prog 39 [.ro 1 (l.map D.str)] [] (fun d ls => ∃ b c, d = nwO 44 b (nwL l).length c ∧ ls = [(44, b, .arr 9 ((nwL l).map mateN) c)]) := by
  have hok := nw_ok l hl
  refine XC.intro' hm [44] rfl c39 (Nat.le_of_ble_eq_true rfl) ?_
  conv => whnf
  repeat' (first | (refine z_op ?_ ?_; (focus exact rfl); conv => whnf) | (refine z_opg0 ?_; (conv => whnf); refine And.intro ?_ ?_; (focus exact rfl); conv => whnf) | (refine z_pick ?_ ?_; (focus exact rfl); conv => whnf) | (refine zs_ops ?_ ?_; (focus exact rfl)) | (refine z_nil fun vals => ?_; conv => whnf) | (refine g_op ?_; conv => whnf) | (refine And.intro ?_ ?_; (focus (first | exact rfl | exact Nat.le_of_ble_eq_true rfl | decide | omega | fail)); conv => whnf) | (refine g_seq ?_) | (refine XS.go ?_) | (refine g_ops ?_) | (refine g_nil ?_; conv => whnf) | (refine g_cond ?_; conv => whnf) | (refine fun _ => ?_; conv => whnf) | fail)
  refine Br.mk (fun hb => ?_) (fun hb => ?_)
  · have e : nwL l = [] := if_neg (fun h => by
      obtain ⟨h1, h2, _⟩ := hok.1 h
      simp at hb
      omega)
    rw [e]
    conv => whnf
    repeat' (first | (refine g_op ?_; conv => whnf) | (refine And.intro ?_ ?_; (focus (first | exact rfl | exact Nat.le_of_ble_eq_true rfl | decide | omega | fail)); conv => whnf) | (refine g_seq ?_) | (refine g_ops ?_) | (refine g_nil ?_; conv => whnf) | fail)
    refine XS.ownB 2 44 9 [1] rfl rfl rfl rfl (fun b => rfl) fun b => ?_
    refine XS.go ?_
    repeat' (first | (refine And.intro ?_ ?_; (focus (first | exact rfl | exact Nat.le_of_ble_eq_true rfl | decide | omega | fail)); conv => whnf) | (refine g_ret ?_; conv => whnf) | (refine r_c ?_; conv => whnf) | (refine r_nil ?_; conv => whnf) | fail)
    exact ⟨b, 0, rfl, rfl⟩
  have hlen : 1 ≤ l.length ∧ l.length ≤ 4 := by
    simp at hb
    omega
  clear hb
  conv => whnf
  repeat' (first | (refine g_skip ?_; conv => whnf) | fail)
  refine XS.go ?_
  repeat' (first | (refine g_op ?_; conv => whnf) | (refine And.intro ?_ ?_; (focus (first | exact rfl | exact Nat.le_of_ble_eq_true rfl | decide | omega | fail)); conv => whnf) | (refine g_seq ?_) | (refine g_ops ?_) | (refine g_nil ?_; conv => whnf) | (refine fun _ => ?_; conv => whnf) | fail)
  refine XS.ownB 3 44 9 [1] rfl rfl rfl rfl (fun b => rfl) fun b => ?_
  refine XS.go ?_
  repeat' (first | (refine g_op ?_; conv => whnf) | (refine And.intro ?_ ?_; (focus (first | exact rfl | exact Nat.le_of_ble_eq_true rfl | decide | omega | fail)); conv => whnf) | (refine g_seq ?_) | (refine XS.go ?_) | (refine g_ops ?_) | (refine g_loop ?_) | (refine g_nil ?_; conv => whnf) | (refine g_block ?_) | fail)
  refine XLc.mkA (α := Nat × Nat) (fun i => i.1 ≤ l.length ∧ i.1 ≤ i.2 ∧ ∀ j, j < i.1 → eN l j = true) (fun i => l.length - i.1) (fun i gs => [.ro 1 (l.map D.str), .any, .lref 2 (gs 2) [] 0, .lref 3 (gs 3) [] 0, .any, .any, .any, .any, .any, .any, .any, .any, .any, .any, .any, .ro 1 (l.map D.str), .int .i64 ((l.map D.str).length : Int), .int .i64 (i.1 : Int)]) (fun i gs => [(2, .agg [.agg [.int .i64 0, .nil, .nil], .nil, .nil]), (3, nwO 44 (gs 44) i.1 i.2), (44, .arr 9 ((l.take i.1).map mateN) i.2)]) (0, 0) ⟨Nat.zero_le _, Nat.le_refl _, fun j hj => absurd hj (Nat.not_lt_zero j)⟩ ?_ ?_
  · refine ⟨?_, ?_⟩
    · repeat' (first | exact True.intro | refine And.intro rfl ?_)
    · exact ⟨rfl, rfl, rfl, True.intro⟩
  intro i gs hI
  obtain ⟨i, cp⟩ := i
  obtain ⟨hi0, hi1, hi2⟩ := hI
  simp only at hi0 hi1 hi2
  simp only [nwO]
  repeat' (first | (refine g_op ?_; conv => whnf) | (refine And.intro ?_ ?_; (focus (first | exact rfl | exact Nat.le_of_ble_eq_true rfl | decide | omega | fail)); conv => whnf) | (refine g_seq ?_) | (refine XS.go ?_) | (refine g_ops ?_) | (refine g_nil ?_; conv => whnf) | (refine g_cond ?_; conv => whnf) | fail)
  refine Br.mk (fun hb => ?_) (fun hb => ?_)
  · have hlt : i < l.length := by simpa using hb
    clear hb
    have hmp : ∀ d, d = mateN (l.getD i default) → (l.take i).map mateN ++ [d] = (l.take (i + 1)).map mateN := fun d h => by rw [h, List.take_succ_eq_append_getElem hlt, List.map_append, List.getD_eq_getElem?_getD, List.getElem?_eq_getElem hlt]; rfl
    have hln : ((l.take i).map mateN).length = i := by simp; omega
    generalize hA : (l.take i).map mateN = A at hmp hln ⊢
    have hpw : IntKind.wrap .i64 ((i : Int) - 1) = (i : Int) - 1 := wrap_ok (by omega) (by omega)
    conv => whnf
    repeat' (first | (refine z_ld1 ?_; first | (refine z_ld rfl rfl rfl rfl (by first | (simp only [List.length_set]; assumption) | assumption | omega) (by first | exact elt_set (by first | assumption | (simp only [List.length_set]; assumption)) | assumption) ?_; conv => whnf) | (refine z_ld0 rfl ?_; conv => whnf)) | (refine z_ld1g ?_; first | (refine z_ldg rfl rfl rfl rfl rfl rfl rfl (by (repeat intro _); exact ⟨(by first | (simp only [List.length_set]; assumption) | assumption | omega), (by first | exact elt_set (by first | assumption | (simp only [List.length_set]; assumption)) | assumption)⟩) rfl rfl rfl rfl ?_; conv => whnf) | (refine z_ld0g ?_; (conv => whnf); refine And.intro ?_ ?_; (focus exact rfl); conv => whnf)) | (refine z_ix1 ?_; first | (refine z_ix rfl rfl rfl rfl rfl ⟨by first | omega | (simp only [decide_eq_true_eq, Bool.not_eq_true', Bool.or_eq_false_iff, decide_eq_false_iff_not, Bool.and_eq_true, Bool.not_eq_false'] at *; omega), by first | omega | (simp only [decide_eq_true_eq, Bool.not_eq_true', Bool.or_eq_false_iff, decide_eq_false_iff_not, Bool.and_eq_true, Bool.not_eq_false'] at *; omega)⟩ ?_; conv => whnf) | (refine z_ix0 rfl rfl ?_; conv => whnf)) | (refine z_ix1g ?_; refine z_ixg rfl rfl rfl rfl rfl rfl rfl (by (repeat intro _); refine ⟨?_, ?_⟩ <;> first | omega | (simp only [decide_eq_true_eq, Bool.not_eq_true', Bool.or_eq_false_iff, decide_eq_false_iff_not, Bool.and_eq_true, Bool.not_eq_false'] at *; omega)) ?_) | (refine z_op ?_ ?_; (focus exact rfl); conv => whnf) | (refine z_opg0 ?_; (conv => whnf); refine And.intro ?_ ?_; (focus exact rfl); conv => whnf) | (refine z_pick ?_ ?_; (focus exact rfl); conv => whnf) | (refine z_pickg ?_; (conv => whnf); refine And.intro ?_ ?_; (focus exact rfl); conv => whnf) | (refine zs_ops ?_ ?_; (focus exact rfl)) | (refine z_nil fun vals => ?_; conv => whnf) | (refine z_call ?_ ?_; (focus exact rfl)) | (refine RC.of (impl_mName _) ?_ ?_; (focus exact rfl); conv => whnf) | (refine And.intro ?_ ?_; (focus (first | exact rfl | exact Nat.le_of_ble_eq_true rfl | decide | omega | fail)); conv => whnf) | (refine g_seq ?_) | (refine XS.go ?_) | (refine g_cond ?_; conv => whnf) | (refine g_skip ?_; conv => whnf) | (refine g_block ?_) | fail)
    refine Br.mk (fun hb => ?_) (fun hb => ?_)
    · have hbad : eN l i = false := by
        rcases Nat.eq_zero_or_pos i with h0 | h0
        · subst h0
          cases hq : nameOk (l.getD 0 default) <;> simp_all [eN]
        · have h1 : (i : Int) > 0 := by omega
          cases hq : nameOk (l.getD i default) <;> simp_all [eN, pr, le_eq]
      have e : nwL l = [] := if_neg (fun h => by
        have := (hok.1 h).2.2 i hlt
        rw [hbad] at this
        cases this)
      rw [e]
      clear hb
      conv => whnf
      repeat' (first | (refine g_op ?_; conv => whnf) | (refine And.intro ?_ ?_; (focus (first | exact rfl | exact Nat.le_of_ble_eq_true rfl | decide | omega | fail)); conv => whnf) | (refine g_seq ?_) | (refine g_ops ?_) | (refine g_nil ?_; conv => whnf) | fail)
      refine XS.ownB 2 44 9 [1] rfl rfl rfl rfl (fun b => rfl) fun b => ?_
      refine XS.go ?_
      repeat' (first | (refine And.intro ?_ ?_; (focus (first | exact rfl | exact Nat.le_of_ble_eq_true rfl | decide | omega | fail)); conv => whnf) | (refine g_ret ?_; conv => whnf) | (refine r_c ?_; conv => whnf) | (refine r_nil ?_; conv => whnf) | fail)
      exact ⟨b, 0, rfl, rfl⟩
    have hgood : eN l i = true := by
      rcases Nat.eq_zero_or_pos i with h0 | h0
      · subst h0
        cases hq : nameOk (l.getD 0 default) <;> simp_all [eN]
      · have h1 : (i : Int) > 0 := by omega
        cases hq : nameOk (l.getD i default) <;> simp_all [eN, pr, le_eq]
    clear hb
    conv => whnf
    repeat' (first | (refine z_ld1 ?_; first | (refine z_ld rfl rfl rfl rfl (by first | (simp only [List.length_set]; assumption) | assumption | omega) (by first | exact elt_set (by first | assumption | (simp only [List.length_set]; assumption)) | assumption) ?_; conv => whnf) | (refine z_ld0 rfl ?_; conv => whnf)) | (refine z_op ?_ ?_; (focus exact rfl); conv => whnf) | (refine zs_ops ?_ ?_; (focus exact rfl)) | (refine z_eff ?_; conv => whnf) | (refine And.intro ?_ ?_; (focus (first | exact rfl | exact Nat.le_of_ble_eq_true rfl | decide | omega | fail)); conv => whnf) | (refine XS.go ?_) | (refine g_skip ?_; conv => whnf) | (refine fun _ => ?_; conv => whnf) | fail)
    refine ⟨?_, Nat.le_of_ble_eq_true rfl, (by decide), fun n' b' c' hn hc => ?_⟩
    · show A.length + 1 ≤ 1073741824
      omega
    have hn : n' = i + 1 := by rw [hn, hln]; rfl
    subst hn
    conv => whnf
    repeat' (first | (refine z_st1 ?_; first | (refine z_st rfl rfl rfl (by first | (simp only [List.length_set]; assumption) | assumption | omega) (by first | exact elt_set (by first | assumption | (simp only [List.length_set]; assumption)) | assumption) rfl rfl ?_; conv => whnf) | (refine z_st0 ?_; conv => whnf)) | (refine z_op ?_ ?_; (focus exact rfl); conv => whnf) | (refine z_nil fun vals => ?_; conv => whnf) | (refine g_op ?_; conv => whnf) | (refine And.intro ?_ ?_; (focus (first | exact rfl | exact Nat.le_of_ble_eq_true rfl | decide | omega | fail)); conv => whnf) | (refine XS.go ?_) | (refine g_ops ?_) | (refine g_nil ?_; conv => whnf) | fail)
    refine ⟨(i + 1, c'), ⟨by simp only; omega, by simp only; omega, fun j hj => by
      simp only at hj
      rcases Nat.lt_or_ge j i with h | h
      · exact hi2 j h
      · have : j = i := by omega
        rw [this]; exact hgood⟩, by simp only; omega, ?_, ?_⟩
    · have hw : IntKind.wrap .i64 ((i : Int) + 1) = ((i + 1 : Nat) : Int) := by rw [wrap_ok (by omega) (by omega)]; rfl
      repeat' (first | exact True.intro | refine And.intro (congrArg (D.int .i64) hw) ?_ | refine And.intro rfl ?_)
    · refine ⟨rfl, rfl, ?_, True.intro⟩
      conv => lhs; whnf
      exact congrArg (fun l => some (D.arr 9 l c')) (hmp _ rfl)
  have hi : i = l.length := by
    have : ¬ i < l.length := by simpa using hb
    omega
  subst hi
  rw [List.take_length]
  have e : nwL l = l := if_pos (hok.2 ⟨hlen.1, hlen.2, hi2⟩)
  rw [e]
  conv => whnf
  repeat' (first | (refine g_op ?_; conv => whnf) | (refine And.intro ?_ ?_; (focus (first | exact rfl | exact Nat.le_of_ble_eq_true rfl | decide | omega | fail)); conv => whnf) | (refine g_seq ?_) | (refine XS.go ?_) | (refine g_ops ?_) | (refine g_nil ?_; conv => whnf) | (refine g_ret ?_; conv => whnf) | (refine g_exit ?_; conv => whnf) | (refine r_c ?_; conv => whnf) | (refine r_nil ?_; conv => whnf) | fail)
  exact ⟨gs 44, cp, rfl, rfl⟩
end Go.Ab
