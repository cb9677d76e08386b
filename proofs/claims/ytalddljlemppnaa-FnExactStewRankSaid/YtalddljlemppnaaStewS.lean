/- Steps towards the law: contracts of functions and facts of lists. -/
import Derived.Test.YtalddljlemppnaaStewT
import Derived.Test.YtalddljlemppnaaAb11
import Derived.Test.YtalddljlemppnaaRows
set_option linter.unusedSimpArgs false
set_option linter.unusedVariables false
namespace Go.Ab
open Go Go.RowKit Go.Proofs
attribute [local irreducible] XC Rdr IntKind.wrap xw xos xqs xr xd
set_option maxRecDepth 100000

/-- laws.markText -/
def cf117 : CF := ⟨20, [.t 2],
  (.seq (.ops [⟨some 2, .mv (.k (.str ⟨#[]⟩)), none⟩])
  (.seq (.seq (.ops [⟨some 4, .mv (.t 0), none⟩,
    ⟨some 5, .bin .leq (.t 4) (.k (.int .i64 0)), none⟩])
  (.cond (.t 5)
  (.seq (.ops [⟨some 2, .mv (.k (.str ⟨#[109, 48]⟩)), none⟩])
  .ret)
  .skip))
  (.seq (.ops [⟨some 3, .mv (.k (.str ⟨#[]⟩)), none⟩])
  (.seq (.block 0 (.loop (.seq (.seq (.ops [⟨some 6, .mv (.t 0), none⟩,
    ⟨some 7, .bin .gtr (.t 6) (.k (.int .i64 0)), none⟩])
  (.cond (.t 7)
  .skip
  (.exit 0)))
  (.block 1 (.seq (.ops [⟨some 8, .mv (.t 0), none⟩,
    ⟨some 9, .bin .rem (.t 8) (.k (.int .i64 10)), none⟩,
    ⟨some 10, .bin .add (.k (.int .i64 48)) (.t 9), none⟩,
    ⟨some 11, .cvi .u8 (.t 10), none⟩,
    ⟨some 12, .bsl (.int .u8 0) 1 [(0, (.t 11))], none⟩,
    ⟨some 13, .bst (.t 12), none⟩,
    ⟨some 14, .mv (.t 3), none⟩,
    ⟨some 15, .bin .add (.t 13) (.t 14), none⟩,
    ⟨some 3, .mv (.t 15), none⟩])
  (.ops [⟨some 16, .mv (.t 0), none⟩,
    ⟨some 17, .bin .quo (.t 16) (.k (.int .i64 10)), none⟩,
    ⟨some 0, .mv (.t 17), none⟩]))))))
  (.seq (.ops [⟨some 18, .mv (.t 3), none⟩,
    ⟨some 19, .bin .add (.k (.str ⟨#[109]⟩)) (.t 18), none⟩,
    ⟨some 2, .mv (.t 19), none⟩])
  .ret)))))⟩
theorem c117 : compileF Try.prog [] 117 = some cf117 := by kernel_rfl
def dg (k : Int) : ByteArray := ⟨([D.int .u8 (IntKind.wrap .u8 (IntKind.wrap .i64 (48 + k.tmod 10)))].map byteD).toArray⟩
def digs : Nat → Int → ByteArray → ByteArray
  | 0, _, o => o
  | n + 1, k, o => if k > 0 then digs n (k.tdiv 10) (dg k ++ o) else o
def mtext (k : Int) : ByteArray := ⟨#[109]⟩ ++ digs k.toNat k ⟨#[]⟩
theorem sz_cat (a b : ByteArray) : (a ++ b).size = a.size + b.size := by simp
theorem sz_dg (k : Int) : (dg k).size = 1 := rfl
theorem sz_nil : (ByteArray.mk #[]).size = 0 := rfl
theorem sz_m : (ByteArray.mk #[109]).size = 1 := rfl
set_option maxHeartbeats 4000000 in
theorem mark_text (k : Int) (h1 : 1 ≤ k) (h2 : k ≤ 100000000) : Rdr Try.prog 117 [.int .i64 k] (.str (mtext k)) := by
  refine Rdr.intro' hm c117 (Nat.le_of_ble_eq_true rfl) ?_
  conv => whnf
  repeat' (first | (refine g_op ?_; conv => whnf) | (refine And.intro ?_ ?_; (focus (first | exact rfl | exact Nat.le_of_ble_eq_true rfl | decide | omega | fail)); conv => whnf) | (refine g_seq ?_) | (refine XS.go ?_) | (refine g_ops ?_) | (refine g_nil ?_; conv => whnf) | (refine g_cond ?_; conv => whnf) | fail)
  refine Br.f ?_ ?_
  · simp; omega
  repeat' (first | (refine g_op ?_; conv => whnf) | (refine And.intro ?_ ?_; (focus (first | exact rfl | exact Nat.le_of_ble_eq_true rfl | decide | omega | fail)); conv => whnf) | (refine g_seq ?_) | (refine XS.go ?_) | (refine g_ops ?_) | (refine g_loop ?_) | (refine g_nil ?_; conv => whnf) | (refine g_skip ?_; conv => whnf) | (refine g_block ?_) | fail)
  refine XLc.mkL (α := Nat × Int × ByteArray) (fun i => 0 ≤ i.2.1 ∧ i.2.1.toNat ≤ i.1 ∧ i.2.2.size + i.1 ≤ 100000000 ∧ mtext k = ⟨#[109]⟩ ++ digs i.1 i.2.1 i.2.2) (fun i => i.1) (fun i gs => [.int .i64 i.2.1, .any, .any, .str i.2.2]) (fun i gs => []) (k.toNat, k, ⟨#[]⟩) ⟨by simp; omega, by simp, by rw [sz_nil]; omega, rfl⟩ ?_ ?_
  · refine ⟨?_, ?_⟩
    · repeat' (first | exact True.intro | refine And.intro rfl ?_)
    · repeat' (first | exact True.intro | refine And.intro rfl ?_)
  intro i gs hI
  obtain ⟨n, j, o⟩ := i
  obtain ⟨hi0, hi1, hi2, hi3⟩ := hI
  simp only at hi0 hi1 hi2 hi3
  repeat' (first | (refine g_op ?_; conv => whnf) | (refine And.intro ?_ ?_; (focus (first | exact rfl | exact Nat.le_of_ble_eq_true rfl | decide | omega | fail)); conv => whnf) | (refine g_seq ?_) | (refine XS.go ?_) | (refine g_ops ?_) | (refine g_nil ?_; conv => whnf) | (refine g_cond ?_; conv => whnf) | fail)
  refine Br.mk (fun hb => ?_) (fun hb => ?_)
  · have hb : j > 0 := by simpa using hb
    conv => whnf
    repeat' (first | (refine g_op ?_; conv => whnf) | (refine And.intro ?_ ?_; (focus (first | exact rfl | exact Nat.le_of_ble_eq_true rfl | decide | omega | fail)); conv => whnf) | (refine g_seq ?_) | (refine XS.go ?_) | (refine g_ops ?_) | (refine g_skip ?_; conv => whnf) | (refine g_block ?_) | (refine fun _ => ?_; conv => whnf) | fail)
    refine And.intro ?_ ?_
    · show ¬ (((dg j).size + o.size : Nat) : Int) > IntKind.i64.max
      have : IntKind.i64.max = 9223372036854775807 := rfl
      rw [sz_dg, this]; omega
    conv => whnf
    repeat' (first | (refine g_op ?_; conv => whnf) | (refine And.intro ?_ ?_; (focus (first | exact rfl | exact Nat.le_of_ble_eq_true rfl | decide | omega | fail)); conv => whnf) | (refine XS.go ?_) | (refine g_ops ?_) | (refine g_nil ?_; conv => whnf) | fail)
    have hq : IntKind.wrap .i64 (j.tdiv 10) = j / 10 := by
      rw [Int.tdiv_eq_ediv_of_nonneg (by omega)]
      exact wrap_ok (by omega) (by omega)
    cases n with
    | zero => omega
    | succ n =>
    refine ⟨(n, j / 10, dg j ++ o), ⟨by simp only; omega, by simp only; omega, by simp only [sz_cat, sz_dg]; omega, ?_⟩, by simp only; omega, ?_, ?_⟩
    · rw [hi3]
      simp only [digs]
      rw [if_pos (by simpa using hb), Int.tdiv_eq_ediv_of_nonneg (by omega)]
    · repeat' (first | exact True.intro | refine And.intro (congrArg (D.int .i64) hq) ?_ | refine And.intro rfl ?_)
    · repeat' (first | exact True.intro | refine And.intro rfl ?_)
  have hb : ¬ j > 0 := by simpa using hb
  conv => whnf
  repeat' (first | (refine g_op ?_; conv => whnf) | (refine And.intro ?_ ?_; (focus (first | exact rfl | exact Nat.le_of_ble_eq_true rfl | decide | omega | fail)); conv => whnf) | (refine g_seq ?_) | (refine XS.go ?_) | (refine g_ops ?_) | (refine g_exit ?_; conv => whnf) | fail)
  refine And.intro ?_ ?_
  · show ¬ (((ByteArray.mk #[109]).size + o.size : Nat) : Int) > IntKind.i64.max
    have : IntKind.i64.max = 9223372036854775807 := rfl
    rw [sz_m, this]; omega
  conv => whnf
  repeat' (first | (refine g_op ?_; conv => whnf) | (refine And.intro ?_ ?_; (focus (first | exact rfl | exact Nat.le_of_ble_eq_true rfl | decide | omega | fail)); conv => whnf) | (refine XS.go ?_) | (refine g_nil ?_; conv => whnf) | (refine g_ret ?_; conv => whnf) | (refine r_t ?_; conv => whnf) | (refine r_nil ?_; conv => whnf) | fail)
  show D.str (⟨#[109]⟩ ++ o) = _
  rw [hi3]
  cases n with
  | zero => rfl
  | succ n =>
    simp only [digs]
    rw [if_neg (by simpa using hb)]
/-- laws.markStewServiceS -/
def cf104 : CF := ⟨107, [.t 4],
  (.seq (.ops [⟨some 4, .mv (.k (.int .i64 0)), none⟩])
  (.seq (.seq (.ops [⟨some 5, .mv (.k (.int .i64 0)), none⟩])
  (.block 0 (.loop (.seq (.seq (.ops [⟨some 6, .mv (.t 5), none⟩,
    ⟨some 7, .mv (.t 0), none⟩,
    ⟨some 8, .lenl (.t 7), none⟩,
    ⟨some 9, .bin .lss (.t 6) (.t 8), none⟩])
  (.cond (.t 9)
  .skip
  (.exit 0)))
  (.seq (.block 1 (.seq (.ops [⟨some 12, .mv (.t 0), none⟩,
    ⟨some 13, .mv (.t 5), none⟩,
    ⟨some 14, .mv (.t 1), none⟩,
    ⟨some 15, .call 117 [(.t 14)], none⟩,
    ⟨some 16, .ix 13 (.t 12) (.t 13), none⟩,
    ⟨some 17, .fa 0 1 0 (.t 16), none⟩,
    ⟨none, .st 1 (.t 17) (.t 15), none⟩])
  (.seq (.ops [⟨some 18, .mv (.t 1), none⟩,
    ⟨some 19, .bin .add (.t 18) (.k (.int .i64 1)), none⟩,
    ⟨some 1, .mv (.t 19), none⟩])
  (.seq (.ops [⟨some 20, .mv (.t 0), none⟩,
    ⟨some 21, .mv (.t 5), none⟩,
    ⟨some 22, .mv (.t 1), none⟩,
    ⟨some 23, .ix 13 (.t 20) (.t 21), none⟩,
    ⟨some 24, .fa 1 1 1 (.t 23), none⟩,
    ⟨none, .st 1 (.t 24) (.t 22), none⟩])
  (.seq (.ops [⟨some 25, .mv (.t 1), none⟩,
    ⟨some 26, .bin .add (.t 25) (.k (.int .i64 1)), none⟩,
    ⟨some 1, .mv (.t 26), none⟩])
  (.seq (.ops [⟨some 27, .mv (.t 0), none⟩,
    ⟨some 28, .mv (.t 5), none⟩,
    ⟨some 29, .mv (.t 1), none⟩,
    ⟨some 30, .bin .rem (.t 29) (.k (.int .i64 3)), none⟩,
    ⟨some 31, .bin .eql (.t 30) (.k (.int .i64 0)), none⟩,
    ⟨some 32, .ix 13 (.t 27) (.t 28), none⟩,
    ⟨some 33, .fa 2 1 2 (.t 32), none⟩,
    ⟨none, .st 1 (.t 33) (.t 31), none⟩])
  (.seq (.ops [⟨some 34, .mv (.t 1), none⟩,
    ⟨some 35, .bin .add (.t 34) (.k (.int .i64 1)), none⟩,
    ⟨some 1, .mv (.t 35), none⟩])
  (.seq (.ops [⟨some 36, .mv (.t 0), none⟩,
    ⟨some 37, .mv (.t 5), none⟩,
    ⟨some 38, .mv (.t 1), none⟩,
    ⟨some 39, .ix 13 (.t 36) (.t 37), none⟩,
    ⟨some 40, .fa 3 1 3 (.t 39), none⟩,
    ⟨none, .st 1 (.t 40) (.t 38), none⟩])
  (.seq (.ops [⟨some 41, .mv (.t 1), none⟩,
    ⟨some 42, .bin .add (.t 41) (.k (.int .i64 1)), none⟩,
    ⟨some 1, .mv (.t 42), none⟩])
  (.seq (.ops [⟨some 43, .mv (.t 0), none⟩,
    ⟨some 44, .mv (.t 5), none⟩,
    ⟨some 45, .mv (.t 1), none⟩,
    ⟨some 46, .ix 13 (.t 43) (.t 44), none⟩,
    ⟨some 47, .fa 4 1 4 (.t 46), none⟩,
    ⟨none, .st 1 (.t 47) (.t 45), none⟩])
  (.seq (.ops [⟨some 48, .mv (.t 1), none⟩,
    ⟨some 49, .bin .add (.t 48) (.k (.int .i64 1)), none⟩,
    ⟨some 1, .mv (.t 49), none⟩])
  (.seq (.ops [⟨some 50, .mv (.t 0), none⟩,
    ⟨some 51, .mv (.t 5), none⟩,
    ⟨some 52, .mv (.t 1), none⟩,
    ⟨some 53, .ix 13 (.t 50) (.t 51), none⟩,
    ⟨some 54, .fa 5 1 5 (.t 53), none⟩,
    ⟨none, .st 1 (.t 54) (.t 52), none⟩])
  (.seq (.ops [⟨some 55, .mv (.t 1), none⟩,
    ⟨some 56, .bin .add (.t 55) (.k (.int .i64 1)), none⟩,
    ⟨some 1, .mv (.t 56), none⟩])
  (.seq (.ops [⟨some 57, .mv (.t 0), none⟩,
    ⟨some 58, .mv (.t 5), none⟩,
    ⟨some 59, .mv (.t 1), none⟩,
    ⟨some 60, .ix 13 (.t 57) (.t 58), none⟩,
    ⟨some 61, .fa 6 1 6 (.t 60), none⟩,
    ⟨none, .st 1 (.t 61) (.t 59), none⟩])
  (.seq (.ops [⟨some 62, .mv (.t 1), none⟩,
    ⟨some 63, .bin .add (.t 62) (.k (.int .i64 1)), none⟩,
    ⟨some 1, .mv (.t 63), none⟩])
  (.seq (.ops [⟨some 64, .mv (.t 0), none⟩,
    ⟨some 65, .mv (.t 5), none⟩,
    ⟨some 66, .mv (.t 1), none⟩,
    ⟨some 67, .ix 13 (.t 64) (.t 65), none⟩,
    ⟨some 68, .fa 7 1 7 (.t 67), none⟩,
    ⟨none, .st 1 (.t 68) (.t 66), none⟩])
  (.seq (.ops [⟨some 69, .mv (.t 1), none⟩,
    ⟨some 70, .bin .add (.t 69) (.k (.int .i64 1)), none⟩,
    ⟨some 1, .mv (.t 70), none⟩])
  (.seq (.ops [⟨some 71, .mv (.t 0), none⟩,
    ⟨some 72, .mv (.t 5), none⟩,
    ⟨some 73, .mv (.t 1), none⟩,
    ⟨some 74, .ix 13 (.t 71) (.t 72), none⟩,
    ⟨some 75, .fa 8 1 8 (.t 74), none⟩,
    ⟨none, .st 1 (.t 75) (.t 73), none⟩])
  (.seq (.ops [⟨some 76, .mv (.t 1), none⟩,
    ⟨some 77, .bin .add (.t 76) (.k (.int .i64 1)), none⟩,
    ⟨some 1, .mv (.t 77), none⟩])
  (.seq (.ops [⟨some 78, .mv (.t 0), none⟩,
    ⟨some 79, .mv (.t 5), none⟩,
    ⟨some 80, .mv (.t 1), none⟩,
    ⟨some 81, .ix 13 (.t 78) (.t 79), none⟩,
    ⟨some 82, .fa 9 1 9 (.t 81), none⟩,
    ⟨none, .st 1 (.t 82) (.t 80), none⟩])
  (.seq (.ops [⟨some 83, .mv (.t 1), none⟩,
    ⟨some 84, .bin .add (.t 83) (.k (.int .i64 1)), none⟩,
    ⟨some 1, .mv (.t 84), none⟩])
  (.seq (.ops [⟨some 85, .mv (.t 0), none⟩,
    ⟨some 86, .mv (.t 5), none⟩,
    ⟨some 87, .mv (.t 1), none⟩,
    ⟨some 88, .ix 13 (.t 85) (.t 86), none⟩,
    ⟨some 89, .fa 10 1 10 (.t 88), none⟩,
    ⟨none, .st 1 (.t 89) (.t 87), none⟩])
  (.seq (.ops [⟨some 90, .mv (.t 1), none⟩,
    ⟨some 91, .bin .add (.t 90) (.k (.int .i64 1)), none⟩,
    ⟨some 1, .mv (.t 91), none⟩])
  (.seq (.ops [⟨some 92, .mv (.t 0), none⟩,
    ⟨some 93, .mv (.t 5), none⟩,
    ⟨some 94, .mv (.t 1), none⟩,
    ⟨some 95, .ix 13 (.t 92) (.t 93), none⟩,
    ⟨some 96, .fa 11 1 11 (.t 95), none⟩,
    ⟨none, .st 1 (.t 96) (.t 94), none⟩])
  (.seq (.ops [⟨some 97, .mv (.t 1), none⟩,
    ⟨some 98, .bin .add (.t 97) (.k (.int .i64 1)), none⟩,
    ⟨some 1, .mv (.t 98), none⟩])
  (.seq (.ops [⟨some 99, .mv (.t 0), none⟩,
    ⟨some 100, .mv (.t 5), none⟩,
    ⟨some 101, .mv (.t 1), none⟩,
    ⟨some 102, .ix 13 (.t 99) (.t 100), none⟩,
    ⟨some 103, .fa 12 1 12 (.t 102), none⟩,
    ⟨none, .st 1 (.t 103) (.t 101), none⟩])
  (.ops [⟨some 104, .mv (.t 1), none⟩,
    ⟨some 105, .bin .add (.t 104) (.k (.int .i64 1)), none⟩,
    ⟨some 1, .mv (.t 105), none⟩])))))))))))))))))))))))))))
  (.ops [⟨some 10, .mv (.t 5), none⟩,
    ⟨some 11, .bin .add (.t 10) (.k (.int .i64 1)), none⟩,
    ⟨some 5, .mv (.t 11), none⟩]))))))
  (.seq (.ops [⟨some 106, .mv (.t 1), none⟩,
    ⟨some 4, .mv (.t 106), none⟩])
  .ret)))⟩
theorem c104 : compileF Try.prog [] 104 = some cf104 := by kernel_rfl
/-- laws.heldStewServiceS -/
def cf112 : CF := ⟨133, [.t 4],
  (.seq (.ops [⟨some 4, .mv (.k (.int .i64 0)), none⟩])
  (.seq (.seq (.ops [⟨some 5, .mv (.k (.int .i64 0)), none⟩])
  (.block 0 (.loop (.seq (.seq (.ops [⟨some 6, .mv (.t 5), none⟩,
    ⟨some 7, .mv (.t 0), none⟩,
    ⟨some 8, .lenl (.t 7), none⟩,
    ⟨some 9, .bin .lss (.t 6) (.t 8), none⟩])
  (.cond (.t 9)
  .skip
  (.exit 0)))
  (.seq (.block 1 (.seq (.seq (.quiet [⟨some 12, .mv (.t 0), none⟩,
    ⟨some 13, .mv (.t 5), none⟩,
    ⟨some 14, .ix 13 (.t 12) (.t 13), none⟩,
    ⟨some 15, .fa 0 1 0 (.t 14), none⟩,
    ⟨some 16, .ld 1 false (.t 15), none⟩,
    ⟨some 17, .mv (.t 1), none⟩,
    ⟨some 18, .call 117 [(.t 17)], none⟩,
    ⟨some 19, .bin .neq (.t 16) (.t 18), none⟩])
  (.cond (.t 19)
  (.seq (.ops [⟨some 4, .mv (.k (.int .i64 (-1))), none⟩])
  .ret)
  .skip))
  (.seq (.ops [⟨some 20, .mv (.t 1), none⟩,
    ⟨some 21, .bin .add (.t 20) (.k (.int .i64 1)), none⟩,
    ⟨some 1, .mv (.t 21), none⟩])
  (.seq (.seq (.ops [⟨some 22, .mv (.t 0), none⟩,
    ⟨some 23, .mv (.t 5), none⟩,
    ⟨some 24, .ix 13 (.t 22) (.t 23), none⟩,
    ⟨some 25, .fa 1 1 1 (.t 24), none⟩,
    ⟨some 26, .ld 1 false (.t 25), none⟩,
    ⟨some 27, .mv (.t 1), none⟩,
    ⟨some 28, .bin .neq (.t 26) (.t 27), none⟩])
  (.cond (.t 28)
  (.seq (.ops [⟨some 4, .mv (.k (.int .i64 (-1))), none⟩])
  .ret)
  .skip))
  (.seq (.ops [⟨some 29, .mv (.t 1), none⟩,
    ⟨some 30, .bin .add (.t 29) (.k (.int .i64 1)), none⟩,
    ⟨some 1, .mv (.t 30), none⟩])
  (.seq (.seq (.ops [⟨some 31, .mv (.t 0), none⟩,
    ⟨some 32, .mv (.t 5), none⟩,
    ⟨some 33, .ix 13 (.t 31) (.t 32), none⟩,
    ⟨some 34, .fa 2 1 2 (.t 33), none⟩,
    ⟨some 35, .ld 1 false (.t 34), none⟩,
    ⟨some 36, .mv (.t 1), none⟩,
    ⟨some 37, .bin .rem (.t 36) (.k (.int .i64 3)), none⟩,
    ⟨some 38, .bin .eql (.t 37) (.k (.int .i64 0)), none⟩,
    ⟨some 39, .binb true (.t 35) (.t 38), none⟩])
  (.cond (.t 39)
  (.seq (.ops [⟨some 4, .mv (.k (.int .i64 (-1))), none⟩])
  .ret)
  .skip))
  (.seq (.ops [⟨some 40, .mv (.t 1), none⟩,
    ⟨some 41, .bin .add (.t 40) (.k (.int .i64 1)), none⟩,
    ⟨some 1, .mv (.t 41), none⟩])
  (.seq (.seq (.ops [⟨some 42, .mv (.t 0), none⟩,
    ⟨some 43, .mv (.t 5), none⟩,
    ⟨some 44, .ix 13 (.t 42) (.t 43), none⟩,
    ⟨some 45, .fa 3 1 3 (.t 44), none⟩,
    ⟨some 46, .ld 1 false (.t 45), none⟩,
    ⟨some 47, .mv (.t 1), none⟩,
    ⟨some 48, .bin .neq (.t 46) (.t 47), none⟩])
  (.cond (.t 48)
  (.seq (.ops [⟨some 4, .mv (.k (.int .i64 (-1))), none⟩])
  .ret)
  .skip))
  (.seq (.ops [⟨some 49, .mv (.t 1), none⟩,
    ⟨some 50, .bin .add (.t 49) (.k (.int .i64 1)), none⟩,
    ⟨some 1, .mv (.t 50), none⟩])
  (.seq (.seq (.ops [⟨some 51, .mv (.t 0), none⟩,
    ⟨some 52, .mv (.t 5), none⟩,
    ⟨some 53, .ix 13 (.t 51) (.t 52), none⟩,
    ⟨some 54, .fa 4 1 4 (.t 53), none⟩,
    ⟨some 55, .ld 1 false (.t 54), none⟩,
    ⟨some 56, .mv (.t 1), none⟩,
    ⟨some 57, .bin .neq (.t 55) (.t 56), none⟩])
  (.cond (.t 57)
  (.seq (.ops [⟨some 4, .mv (.k (.int .i64 (-1))), none⟩])
  .ret)
  .skip))
  (.seq (.ops [⟨some 58, .mv (.t 1), none⟩,
    ⟨some 59, .bin .add (.t 58) (.k (.int .i64 1)), none⟩,
    ⟨some 1, .mv (.t 59), none⟩])
  (.seq (.seq (.ops [⟨some 60, .mv (.t 0), none⟩,
    ⟨some 61, .mv (.t 5), none⟩,
    ⟨some 62, .ix 13 (.t 60) (.t 61), none⟩,
    ⟨some 63, .fa 5 1 5 (.t 62), none⟩,
    ⟨some 64, .ld 1 false (.t 63), none⟩,
    ⟨some 65, .mv (.t 1), none⟩,
    ⟨some 66, .bin .neq (.t 64) (.t 65), none⟩])
  (.cond (.t 66)
  (.seq (.ops [⟨some 4, .mv (.k (.int .i64 (-1))), none⟩])
  .ret)
  .skip))
  (.seq (.ops [⟨some 67, .mv (.t 1), none⟩,
    ⟨some 68, .bin .add (.t 67) (.k (.int .i64 1)), none⟩,
    ⟨some 1, .mv (.t 68), none⟩])
  (.seq (.seq (.ops [⟨some 69, .mv (.t 0), none⟩,
    ⟨some 70, .mv (.t 5), none⟩,
    ⟨some 71, .ix 13 (.t 69) (.t 70), none⟩,
    ⟨some 72, .fa 6 1 6 (.t 71), none⟩,
    ⟨some 73, .ld 1 false (.t 72), none⟩,
    ⟨some 74, .mv (.t 1), none⟩,
    ⟨some 75, .bin .neq (.t 73) (.t 74), none⟩])
  (.cond (.t 75)
  (.seq (.ops [⟨some 4, .mv (.k (.int .i64 (-1))), none⟩])
  .ret)
  .skip))
  (.seq (.ops [⟨some 76, .mv (.t 1), none⟩,
    ⟨some 77, .bin .add (.t 76) (.k (.int .i64 1)), none⟩,
    ⟨some 1, .mv (.t 77), none⟩])
  (.seq (.seq (.ops [⟨some 78, .mv (.t 0), none⟩,
    ⟨some 79, .mv (.t 5), none⟩,
    ⟨some 80, .ix 13 (.t 78) (.t 79), none⟩,
    ⟨some 81, .fa 7 1 7 (.t 80), none⟩,
    ⟨some 82, .ld 1 false (.t 81), none⟩,
    ⟨some 83, .mv (.t 1), none⟩,
    ⟨some 84, .bin .neq (.t 82) (.t 83), none⟩])
  (.cond (.t 84)
  (.seq (.ops [⟨some 4, .mv (.k (.int .i64 (-1))), none⟩])
  .ret)
  .skip))
  (.seq (.ops [⟨some 85, .mv (.t 1), none⟩,
    ⟨some 86, .bin .add (.t 85) (.k (.int .i64 1)), none⟩,
    ⟨some 1, .mv (.t 86), none⟩])
  (.seq (.seq (.ops [⟨some 87, .mv (.t 0), none⟩,
    ⟨some 88, .mv (.t 5), none⟩,
    ⟨some 89, .ix 13 (.t 87) (.t 88), none⟩,
    ⟨some 90, .fa 8 1 8 (.t 89), none⟩,
    ⟨some 91, .ld 1 false (.t 90), none⟩,
    ⟨some 92, .mv (.t 1), none⟩,
    ⟨some 93, .bin .neq (.t 91) (.t 92), none⟩])
  (.cond (.t 93)
  (.seq (.ops [⟨some 4, .mv (.k (.int .i64 (-1))), none⟩])
  .ret)
  .skip))
  (.seq (.ops [⟨some 94, .mv (.t 1), none⟩,
    ⟨some 95, .bin .add (.t 94) (.k (.int .i64 1)), none⟩,
    ⟨some 1, .mv (.t 95), none⟩])
  (.seq (.seq (.ops [⟨some 96, .mv (.t 0), none⟩,
    ⟨some 97, .mv (.t 5), none⟩,
    ⟨some 98, .ix 13 (.t 96) (.t 97), none⟩,
    ⟨some 99, .fa 9 1 9 (.t 98), none⟩,
    ⟨some 100, .ld 1 false (.t 99), none⟩,
    ⟨some 101, .mv (.t 1), none⟩,
    ⟨some 102, .bin .neq (.t 100) (.t 101), none⟩])
  (.cond (.t 102)
  (.seq (.ops [⟨some 4, .mv (.k (.int .i64 (-1))), none⟩])
  .ret)
  .skip))
  (.seq (.ops [⟨some 103, .mv (.t 1), none⟩,
    ⟨some 104, .bin .add (.t 103) (.k (.int .i64 1)), none⟩,
    ⟨some 1, .mv (.t 104), none⟩])
  (.seq (.seq (.ops [⟨some 105, .mv (.t 0), none⟩,
    ⟨some 106, .mv (.t 5), none⟩,
    ⟨some 107, .ix 13 (.t 105) (.t 106), none⟩,
    ⟨some 108, .fa 10 1 10 (.t 107), none⟩,
    ⟨some 109, .ld 1 false (.t 108), none⟩,
    ⟨some 110, .mv (.t 1), none⟩,
    ⟨some 111, .bin .neq (.t 109) (.t 110), none⟩])
  (.cond (.t 111)
  (.seq (.ops [⟨some 4, .mv (.k (.int .i64 (-1))), none⟩])
  .ret)
  .skip))
  (.seq (.ops [⟨some 112, .mv (.t 1), none⟩,
    ⟨some 113, .bin .add (.t 112) (.k (.int .i64 1)), none⟩,
    ⟨some 1, .mv (.t 113), none⟩])
  (.seq (.seq (.ops [⟨some 114, .mv (.t 0), none⟩,
    ⟨some 115, .mv (.t 5), none⟩,
    ⟨some 116, .ix 13 (.t 114) (.t 115), none⟩,
    ⟨some 117, .fa 11 1 11 (.t 116), none⟩,
    ⟨some 118, .ld 1 false (.t 117), none⟩,
    ⟨some 119, .mv (.t 1), none⟩,
    ⟨some 120, .bin .neq (.t 118) (.t 119), none⟩])
  (.cond (.t 120)
  (.seq (.ops [⟨some 4, .mv (.k (.int .i64 (-1))), none⟩])
  .ret)
  .skip))
  (.seq (.ops [⟨some 121, .mv (.t 1), none⟩,
    ⟨some 122, .bin .add (.t 121) (.k (.int .i64 1)), none⟩,
    ⟨some 1, .mv (.t 122), none⟩])
  (.seq (.seq (.ops [⟨some 123, .mv (.t 0), none⟩,
    ⟨some 124, .mv (.t 5), none⟩,
    ⟨some 125, .ix 13 (.t 123) (.t 124), none⟩,
    ⟨some 126, .fa 12 1 12 (.t 125), none⟩,
    ⟨some 127, .ld 1 false (.t 126), none⟩,
    ⟨some 128, .mv (.t 1), none⟩,
    ⟨some 129, .bin .neq (.t 127) (.t 128), none⟩])
  (.cond (.t 129)
  (.seq (.ops [⟨some 4, .mv (.k (.int .i64 (-1))), none⟩])
  .ret)
  .skip))
  (.ops [⟨some 130, .mv (.t 1), none⟩,
    ⟨some 131, .bin .add (.t 130) (.k (.int .i64 1)), none⟩,
    ⟨some 1, .mv (.t 131), none⟩])))))))))))))))))))))))))))
  (.ops [⟨some 10, .mv (.t 5), none⟩,
    ⟨some 11, .bin .add (.t 10) (.k (.int .i64 1)), none⟩,
    ⟨some 5, .mv (.t 11), none⟩]))))))
  (.seq (.ops [⟨some 132, .mv (.t 1), none⟩,
    ⟨some 4, .mv (.t 132), none⟩])
  .ret)))⟩
theorem c112 : compileF Try.prog [] 112 = some cf112 := by kernel_rfl
/-- laws.markStewCopyS -/
def cf105 : CF := ⟨66, [.t 4],
  (.seq (.ops [⟨some 4, .mv (.k (.int .i64 0)), none⟩])
  (.seq (.seq (.ops [⟨some 5, .mv (.k (.int .i64 0)), none⟩])
  (.block 0 (.loop (.seq (.seq (.ops [⟨some 6, .mv (.t 5), none⟩,
    ⟨some 7, .mv (.t 0), none⟩,
    ⟨some 8, .lenl (.t 7), none⟩,
    ⟨some 9, .bin .lss (.t 6) (.t 8), none⟩])
  (.cond (.t 9)
  .skip
  (.exit 0)))
  (.seq (.block 1 (.seq (.ops [⟨some 12, .mv (.t 0), none⟩,
    ⟨some 13, .mv (.t 5), none⟩,
    ⟨some 14, .mv (.t 1), none⟩,
    ⟨some 15, .call 117 [(.t 14)], none⟩,
    ⟨some 16, .ix 7 (.t 12) (.t 13), none⟩,
    ⟨some 17, .fa 0 1 0 (.t 16), none⟩,
    ⟨none, .st 1 (.t 17) (.t 15), none⟩])
  (.seq (.ops [⟨some 18, .mv (.t 1), none⟩,
    ⟨some 19, .bin .add (.t 18) (.k (.int .i64 1)), none⟩,
    ⟨some 1, .mv (.t 19), none⟩])
  (.seq (.ops [⟨some 20, .mv (.t 0), none⟩,
    ⟨some 21, .mv (.t 5), none⟩,
    ⟨some 22, .mv (.t 1), none⟩,
    ⟨some 23, .ix 7 (.t 20) (.t 21), none⟩,
    ⟨some 24, .fa 1 1 1 (.t 23), none⟩,
    ⟨none, .st 1 (.t 24) (.t 22), none⟩])
  (.seq (.ops [⟨some 25, .mv (.t 1), none⟩,
    ⟨some 26, .bin .add (.t 25) (.k (.int .i64 1)), none⟩,
    ⟨some 1, .mv (.t 26), none⟩])
  (.seq (.ops [⟨some 27, .mv (.t 0), none⟩,
    ⟨some 28, .mv (.t 5), none⟩,
    ⟨some 29, .mv (.t 1), none⟩,
    ⟨some 30, .ix 7 (.t 27) (.t 28), none⟩,
    ⟨some 31, .fa 2 1 2 (.t 30), none⟩,
    ⟨none, .st 1 (.t 31) (.t 29), none⟩])
  (.seq (.ops [⟨some 32, .mv (.t 1), none⟩,
    ⟨some 33, .bin .add (.t 32) (.k (.int .i64 1)), none⟩,
    ⟨some 1, .mv (.t 33), none⟩])
  (.seq (.ops [⟨some 34, .mv (.t 0), none⟩,
    ⟨some 35, .mv (.t 5), none⟩,
    ⟨some 36, .mv (.t 1), none⟩,
    ⟨some 37, .ix 7 (.t 34) (.t 35), none⟩,
    ⟨some 38, .fa 3 1 3 (.t 37), none⟩,
    ⟨none, .st 1 (.t 38) (.t 36), none⟩])
  (.seq (.ops [⟨some 39, .mv (.t 1), none⟩,
    ⟨some 40, .bin .add (.t 39) (.k (.int .i64 1)), none⟩,
    ⟨some 1, .mv (.t 40), none⟩])
  (.seq (.ops [⟨some 41, .mv (.t 0), none⟩,
    ⟨some 42, .mv (.t 5), none⟩,
    ⟨some 43, .mv (.t 1), none⟩,
    ⟨some 44, .ix 7 (.t 41) (.t 42), none⟩,
    ⟨some 45, .fa 4 1 4 (.t 44), none⟩,
    ⟨none, .st 1 (.t 45) (.t 43), none⟩])
  (.seq (.ops [⟨some 46, .mv (.t 1), none⟩,
    ⟨some 47, .bin .add (.t 46) (.k (.int .i64 1)), none⟩,
    ⟨some 1, .mv (.t 47), none⟩])
  (.seq (.ops [⟨some 48, .mv (.t 0), none⟩,
    ⟨some 49, .mv (.t 5), none⟩,
    ⟨some 50, .mv (.t 1), none⟩,
    ⟨some 51, .bin .rem (.t 50) (.k (.int .i64 3)), none⟩,
    ⟨some 52, .bin .eql (.t 51) (.k (.int .i64 0)), none⟩,
    ⟨some 53, .ix 7 (.t 48) (.t 49), none⟩,
    ⟨some 54, .fa 5 1 5 (.t 53), none⟩,
    ⟨none, .st 1 (.t 54) (.t 52), none⟩])
  (.seq (.ops [⟨some 55, .mv (.t 1), none⟩,
    ⟨some 56, .bin .add (.t 55) (.k (.int .i64 1)), none⟩,
    ⟨some 1, .mv (.t 56), none⟩])
  (.seq (.ops [⟨some 57, .mv (.t 0), none⟩,
    ⟨some 58, .mv (.t 5), none⟩,
    ⟨some 59, .mv (.t 1), none⟩,
    ⟨some 60, .call 117 [(.t 59)], none⟩,
    ⟨some 61, .ix 7 (.t 57) (.t 58), none⟩,
    ⟨some 62, .fa 6 1 6 (.t 61), none⟩,
    ⟨none, .st 1 (.t 62) (.t 60), none⟩])
  (.ops [⟨some 63, .mv (.t 1), none⟩,
    ⟨some 64, .bin .add (.t 63) (.k (.int .i64 1)), none⟩,
    ⟨some 1, .mv (.t 64), none⟩])))))))))))))))
  (.ops [⟨some 10, .mv (.t 5), none⟩,
    ⟨some 11, .bin .add (.t 10) (.k (.int .i64 1)), none⟩,
    ⟨some 5, .mv (.t 11), none⟩]))))))
  (.seq (.ops [⟨some 65, .mv (.t 1), none⟩,
    ⟨some 4, .mv (.t 65), none⟩])
  .ret)))⟩
theorem c105 : compileF Try.prog [] 105 = some cf105 := by kernel_rfl
/-- laws.heldStewCopyS -/
def cf113 : CF := ⟨80, [.t 4],
  (.seq (.ops [⟨some 4, .mv (.k (.int .i64 0)), none⟩])
  (.seq (.seq (.ops [⟨some 5, .mv (.k (.int .i64 0)), none⟩])
  (.block 0 (.loop (.seq (.seq (.ops [⟨some 6, .mv (.t 5), none⟩,
    ⟨some 7, .mv (.t 0), none⟩,
    ⟨some 8, .lenl (.t 7), none⟩,
    ⟨some 9, .bin .lss (.t 6) (.t 8), none⟩])
  (.cond (.t 9)
  .skip
  (.exit 0)))
  (.seq (.block 1 (.seq (.seq (.quiet [⟨some 12, .mv (.t 0), none⟩,
    ⟨some 13, .mv (.t 5), none⟩,
    ⟨some 14, .ix 7 (.t 12) (.t 13), none⟩,
    ⟨some 15, .fa 0 1 0 (.t 14), none⟩,
    ⟨some 16, .ld 1 false (.t 15), none⟩,
    ⟨some 17, .mv (.t 1), none⟩,
    ⟨some 18, .call 117 [(.t 17)], none⟩,
    ⟨some 19, .bin .neq (.t 16) (.t 18), none⟩])
  (.cond (.t 19)
  (.seq (.ops [⟨some 4, .mv (.k (.int .i64 (-1))), none⟩])
  .ret)
  .skip))
  (.seq (.ops [⟨some 20, .mv (.t 1), none⟩,
    ⟨some 21, .bin .add (.t 20) (.k (.int .i64 1)), none⟩,
    ⟨some 1, .mv (.t 21), none⟩])
  (.seq (.seq (.ops [⟨some 22, .mv (.t 0), none⟩,
    ⟨some 23, .mv (.t 5), none⟩,
    ⟨some 24, .ix 7 (.t 22) (.t 23), none⟩,
    ⟨some 25, .fa 1 1 1 (.t 24), none⟩,
    ⟨some 26, .ld 1 false (.t 25), none⟩,
    ⟨some 27, .mv (.t 1), none⟩,
    ⟨some 28, .bin .neq (.t 26) (.t 27), none⟩])
  (.cond (.t 28)
  (.seq (.ops [⟨some 4, .mv (.k (.int .i64 (-1))), none⟩])
  .ret)
  .skip))
  (.seq (.ops [⟨some 29, .mv (.t 1), none⟩,
    ⟨some 30, .bin .add (.t 29) (.k (.int .i64 1)), none⟩,
    ⟨some 1, .mv (.t 30), none⟩])
  (.seq (.seq (.ops [⟨some 31, .mv (.t 0), none⟩,
    ⟨some 32, .mv (.t 5), none⟩,
    ⟨some 33, .ix 7 (.t 31) (.t 32), none⟩,
    ⟨some 34, .fa 2 1 2 (.t 33), none⟩,
    ⟨some 35, .ld 1 false (.t 34), none⟩,
    ⟨some 36, .mv (.t 1), none⟩,
    ⟨some 37, .bin .neq (.t 35) (.t 36), none⟩])
  (.cond (.t 37)
  (.seq (.ops [⟨some 4, .mv (.k (.int .i64 (-1))), none⟩])
  .ret)
  .skip))
  (.seq (.ops [⟨some 38, .mv (.t 1), none⟩,
    ⟨some 39, .bin .add (.t 38) (.k (.int .i64 1)), none⟩,
    ⟨some 1, .mv (.t 39), none⟩])
  (.seq (.seq (.ops [⟨some 40, .mv (.t 0), none⟩,
    ⟨some 41, .mv (.t 5), none⟩,
    ⟨some 42, .ix 7 (.t 40) (.t 41), none⟩,
    ⟨some 43, .fa 3 1 3 (.t 42), none⟩,
    ⟨some 44, .ld 1 false (.t 43), none⟩,
    ⟨some 45, .mv (.t 1), none⟩,
    ⟨some 46, .bin .neq (.t 44) (.t 45), none⟩])
  (.cond (.t 46)
  (.seq (.ops [⟨some 4, .mv (.k (.int .i64 (-1))), none⟩])
  .ret)
  .skip))
  (.seq (.ops [⟨some 47, .mv (.t 1), none⟩,
    ⟨some 48, .bin .add (.t 47) (.k (.int .i64 1)), none⟩,
    ⟨some 1, .mv (.t 48), none⟩])
  (.seq (.seq (.ops [⟨some 49, .mv (.t 0), none⟩,
    ⟨some 50, .mv (.t 5), none⟩,
    ⟨some 51, .ix 7 (.t 49) (.t 50), none⟩,
    ⟨some 52, .fa 4 1 4 (.t 51), none⟩,
    ⟨some 53, .ld 1 false (.t 52), none⟩,
    ⟨some 54, .mv (.t 1), none⟩,
    ⟨some 55, .bin .neq (.t 53) (.t 54), none⟩])
  (.cond (.t 55)
  (.seq (.ops [⟨some 4, .mv (.k (.int .i64 (-1))), none⟩])
  .ret)
  .skip))
  (.seq (.ops [⟨some 56, .mv (.t 1), none⟩,
    ⟨some 57, .bin .add (.t 56) (.k (.int .i64 1)), none⟩,
    ⟨some 1, .mv (.t 57), none⟩])
  (.seq (.seq (.ops [⟨some 58, .mv (.t 0), none⟩,
    ⟨some 59, .mv (.t 5), none⟩,
    ⟨some 60, .ix 7 (.t 58) (.t 59), none⟩,
    ⟨some 61, .fa 5 1 5 (.t 60), none⟩,
    ⟨some 62, .ld 1 false (.t 61), none⟩,
    ⟨some 63, .mv (.t 1), none⟩,
    ⟨some 64, .bin .rem (.t 63) (.k (.int .i64 3)), none⟩,
    ⟨some 65, .bin .eql (.t 64) (.k (.int .i64 0)), none⟩,
    ⟨some 66, .binb true (.t 62) (.t 65), none⟩])
  (.cond (.t 66)
  (.seq (.ops [⟨some 4, .mv (.k (.int .i64 (-1))), none⟩])
  .ret)
  .skip))
  (.seq (.ops [⟨some 67, .mv (.t 1), none⟩,
    ⟨some 68, .bin .add (.t 67) (.k (.int .i64 1)), none⟩,
    ⟨some 1, .mv (.t 68), none⟩])
  (.seq (.seq (.quiet [⟨some 69, .mv (.t 0), none⟩,
    ⟨some 70, .mv (.t 5), none⟩,
    ⟨some 71, .ix 7 (.t 69) (.t 70), none⟩,
    ⟨some 72, .fa 6 1 6 (.t 71), none⟩,
    ⟨some 73, .ld 1 false (.t 72), none⟩,
    ⟨some 74, .mv (.t 1), none⟩,
    ⟨some 75, .call 117 [(.t 74)], none⟩,
    ⟨some 76, .bin .neq (.t 73) (.t 75), none⟩])
  (.cond (.t 76)
  (.seq (.ops [⟨some 4, .mv (.k (.int .i64 (-1))), none⟩])
  .ret)
  .skip))
  (.ops [⟨some 77, .mv (.t 1), none⟩,
    ⟨some 78, .bin .add (.t 77) (.k (.int .i64 1)), none⟩,
    ⟨some 1, .mv (.t 78), none⟩])))))))))))))))
  (.ops [⟨some 10, .mv (.t 5), none⟩,
    ⟨some 11, .bin .add (.t 10) (.k (.int .i64 1)), none⟩,
    ⟨some 5, .mv (.t 11), none⟩]))))))
  (.seq (.ops [⟨some 79, .mv (.t 1), none⟩,
    ⟨some 4, .mv (.t 79), none⟩])
  .ret)))⟩
theorem c113 : compileF Try.prog [] 113 = some cf113 := by kernel_rfl
/-- laws.markStewBerthS -/
def cf106 : CF := ⟨30, [.t 4],
  (.seq (.ops [⟨some 4, .mv (.k (.int .i64 0)), none⟩])
  (.seq (.seq (.ops [⟨some 5, .mv (.k (.int .i64 0)), none⟩])
  (.block 0 (.loop (.seq (.seq (.ops [⟨some 6, .mv (.t 5), none⟩,
    ⟨some 7, .mv (.t 0), none⟩,
    ⟨some 8, .lenl (.t 7), none⟩,
    ⟨some 9, .bin .lss (.t 6) (.t 8), none⟩])
  (.cond (.t 9)
  .skip
  (.exit 0)))
  (.seq (.block 1 (.seq (.ops [⟨some 12, .mv (.t 0), none⟩,
    ⟨some 13, .mv (.t 5), none⟩,
    ⟨some 14, .mv (.t 1), none⟩,
    ⟨some 15, .call 117 [(.t 14)], none⟩,
    ⟨some 16, .ix 2 (.t 12) (.t 13), none⟩,
    ⟨some 17, .fa 0 1 0 (.t 16), none⟩,
    ⟨none, .st 1 (.t 17) (.t 15), none⟩])
  (.seq (.ops [⟨some 18, .mv (.t 1), none⟩,
    ⟨some 19, .bin .add (.t 18) (.k (.int .i64 1)), none⟩,
    ⟨some 1, .mv (.t 19), none⟩])
  (.seq (.ops [⟨some 20, .mv (.t 0), none⟩,
    ⟨some 21, .mv (.t 5), none⟩,
    ⟨some 22, .mv (.t 1), none⟩,
    ⟨some 23, .bin .rem (.t 22) (.k (.int .i64 3)), none⟩,
    ⟨some 24, .bin .eql (.t 23) (.k (.int .i64 0)), none⟩,
    ⟨some 25, .ix 2 (.t 20) (.t 21), none⟩,
    ⟨some 26, .fa 1 1 1 (.t 25), none⟩,
    ⟨none, .st 1 (.t 26) (.t 24), none⟩])
  (.ops [⟨some 27, .mv (.t 1), none⟩,
    ⟨some 28, .bin .add (.t 27) (.k (.int .i64 1)), none⟩,
    ⟨some 1, .mv (.t 28), none⟩])))))
  (.ops [⟨some 10, .mv (.t 5), none⟩,
    ⟨some 11, .bin .add (.t 10) (.k (.int .i64 1)), none⟩,
    ⟨some 5, .mv (.t 11), none⟩]))))))
  (.seq (.ops [⟨some 29, .mv (.t 1), none⟩,
    ⟨some 4, .mv (.t 29), none⟩])
  .ret)))⟩
theorem c106 : compileF Try.prog [] 106 = some cf106 := by kernel_rfl
/-- laws.heldStewBerthS -/
def cf114 : CF := ⟨34, [.t 4],
  (.seq (.ops [⟨some 4, .mv (.k (.int .i64 0)), none⟩])
  (.seq (.seq (.ops [⟨some 5, .mv (.k (.int .i64 0)), none⟩])
  (.block 0 (.loop (.seq (.seq (.ops [⟨some 6, .mv (.t 5), none⟩,
    ⟨some 7, .mv (.t 0), none⟩,
    ⟨some 8, .lenl (.t 7), none⟩,
    ⟨some 9, .bin .lss (.t 6) (.t 8), none⟩])
  (.cond (.t 9)
  .skip
  (.exit 0)))
  (.seq (.block 1 (.seq (.seq (.quiet [⟨some 12, .mv (.t 0), none⟩,
    ⟨some 13, .mv (.t 5), none⟩,
    ⟨some 14, .ix 2 (.t 12) (.t 13), none⟩,
    ⟨some 15, .fa 0 1 0 (.t 14), none⟩,
    ⟨some 16, .ld 1 false (.t 15), none⟩,
    ⟨some 17, .mv (.t 1), none⟩,
    ⟨some 18, .call 117 [(.t 17)], none⟩,
    ⟨some 19, .bin .neq (.t 16) (.t 18), none⟩])
  (.cond (.t 19)
  (.seq (.ops [⟨some 4, .mv (.k (.int .i64 (-1))), none⟩])
  .ret)
  .skip))
  (.seq (.ops [⟨some 20, .mv (.t 1), none⟩,
    ⟨some 21, .bin .add (.t 20) (.k (.int .i64 1)), none⟩,
    ⟨some 1, .mv (.t 21), none⟩])
  (.seq (.seq (.ops [⟨some 22, .mv (.t 0), none⟩,
    ⟨some 23, .mv (.t 5), none⟩,
    ⟨some 24, .ix 2 (.t 22) (.t 23), none⟩,
    ⟨some 25, .fa 1 1 1 (.t 24), none⟩,
    ⟨some 26, .ld 1 false (.t 25), none⟩,
    ⟨some 27, .mv (.t 1), none⟩,
    ⟨some 28, .bin .rem (.t 27) (.k (.int .i64 3)), none⟩,
    ⟨some 29, .bin .eql (.t 28) (.k (.int .i64 0)), none⟩,
    ⟨some 30, .binb true (.t 26) (.t 29), none⟩])
  (.cond (.t 30)
  (.seq (.ops [⟨some 4, .mv (.k (.int .i64 (-1))), none⟩])
  .ret)
  .skip))
  (.ops [⟨some 31, .mv (.t 1), none⟩,
    ⟨some 32, .bin .add (.t 31) (.k (.int .i64 1)), none⟩,
    ⟨some 1, .mv (.t 32), none⟩])))))
  (.ops [⟨some 10, .mv (.t 5), none⟩,
    ⟨some 11, .bin .add (.t 10) (.k (.int .i64 1)), none⟩,
    ⟨some 5, .mv (.t 11), none⟩]))))))
  (.seq (.ops [⟨some 33, .mv (.t 1), none⟩,
    ⟨some 4, .mv (.t 33), none⟩])
  .ret)))⟩
theorem c114 : compileF Try.prog [] 114 = some cf114 := by kernel_rfl
def mk_StewService (x : StewService) (k : Int) : StewService := { x with fName := mtext k, fVersion := (k + 1), fGone := (Int.tmod ((k + 1) + 1) 3 == 0), fImage := (((k + 1) + 1) + 1), fWant := ((((k + 1) + 1) + 1) + 1), fDown := (((((k + 1) + 1) + 1) + 1) + 1), fOver := ((((((k + 1) + 1) + 1) + 1) + 1) + 1), fNext := (((((((k + 1) + 1) + 1) + 1) + 1) + 1) + 1), fPer := ((((((((k + 1) + 1) + 1) + 1) + 1) + 1) + 1) + 1), fLeast := (((((((((k + 1) + 1) + 1) + 1) + 1) + 1) + 1) + 1) + 1), fMost := ((((((((((k + 1) + 1) + 1) + 1) + 1) + 1) + 1) + 1) + 1) + 1), fLoad := (((((((((((k + 1) + 1) + 1) + 1) + 1) + 1) + 1) + 1) + 1) + 1) + 1), fCool := ((((((((((((k + 1) + 1) + 1) + 1) + 1) + 1) + 1) + 1) + 1) + 1) + 1) + 1) }
set_option maxHeartbeats 8000000 in
theorem mark_StewServiceS (xs : List StewService) (b0 c0 : Nat) (k : Int) (hk : 1 ≤ k) (hl : xs.length ≤ 1048576) (hB : k + (13 * xs.length : Nat) ≤ 50000000) : XC Try.prog 104 [.lsl 0 b0 xs.length c0, .int .i64 k] [(0, b0, .arr 13 (xs.map StewService.D) c0)] (fun d ls => d = .int .i64 (k + (13 * xs.length : Nat)) ∧ ls = [(0, b0, .arr 13 ((mkS mk_StewService 13 xs k).map StewService.D) c0)]) := by
  refine XC.intro' hm [0] rfl c104 (Nat.le_of_ble_eq_true rfl) ?_
  conv => whnf
  repeat' (first | (refine g_op ?_; conv => whnf) | (refine And.intro ?_ ?_; (focus (first | exact rfl | exact Nat.le_of_ble_eq_true rfl | decide | omega | fail)); conv => whnf) | (refine g_seq ?_) | (refine XS.go ?_) | (refine g_ops ?_) | (refine g_loop ?_) | (refine g_nil ?_; conv => whnf) | (refine g_block ?_) | fail)
  refine XLc.mkG (α := Nat) (fun i gs => i ≤ xs.length ∧ gs 0 = b0) (fun i => xs.length - i) (fun i gs => [.lsl 0 (gs 0) xs.length c0, .int .i64 (k + (13 * i : Nat)), .any, .any, .any, .int .i64 (i : Int)]) (fun i gs => [(0, .arr 13 ((mkP mk_StewService 13 xs k i).map StewService.D) c0)]) 0 ⟨Nat.zero_le _, rfl⟩ ?_ ?_
  · refine ⟨?_, ?_⟩
    · repeat' (first | exact True.intro | refine And.intro rfl ?_ | refine And.intro (congrArg (D.int .i64) (by simp)) ?_)
    · exact And.intro (by rw [mkP_zero]; rfl) True.intro
  intro i gs hI
  obtain ⟨hi0, hg⟩ := hI
  subst hg
  repeat' (first | (refine g_op ?_; conv => whnf) | (refine And.intro ?_ ?_; (focus (first | exact rfl | exact Nat.le_of_ble_eq_true rfl | decide | omega | fail)); conv => whnf) | (refine g_seq ?_) | (refine XS.go ?_) | (refine g_ops ?_) | (refine g_nil ?_; conv => whnf) | (refine g_cond ?_; conv => whnf) | fail)
  refine Br.mk (fun hb => ?_) (fun hb => ?_)
  · have hlt : i < xs.length := by simpa using hb
    have hj0 : i < ((mkP mk_StewService 13 xs k i).map StewService.D).length := by rw [List.length_map, mkP_len]; exact hlt
    have he0 : ((mkP mk_StewService 13 xs k i).map StewService.D).getD i .any = (xs.getD i default).D := by
      rw [elt_map (by rw [mkP_len]; exact hlt), mkP_get _ hlt]
    have hfin : ∀ d, d = (mk_StewService (xs.getD i default) (k + (13 * i : Nat))).D → ((mkP mk_StewService 13 xs k i).map StewService.D).set i d = (mkP mk_StewService 13 xs k (i + 1)).map StewService.D := fun d h => by
      rw [h, ← mkP_set default hlt, List.map_set]
    have hKe : k + (13 * (i + 1) : Nat) = k + (13 * i : Nat) + 13 := by omega
    have hK0 : 1 ≤ k + (13 * i : Nat) := by omega
    have hK1 : k + (13 * i : Nat) + 13 ≤ 50000000 := by omega
    generalize hK : k + (13 * i : Nat) = K at hfin hK0 hK1 hKe ⊢
    have hw1 : IntKind.wrap .i64 (K + 1) = (K + 1) := wrap_ok (by omega) (by omega)
    have hw2 : IntKind.wrap .i64 ((K + 1) + 1) = ((K + 1) + 1) := wrap_ok (by omega) (by omega)
    have hw3 : IntKind.wrap .i64 (((K + 1) + 1) + 1) = (((K + 1) + 1) + 1) := wrap_ok (by omega) (by omega)
    have hw4 : IntKind.wrap .i64 ((((K + 1) + 1) + 1) + 1) = ((((K + 1) + 1) + 1) + 1) := wrap_ok (by omega) (by omega)
    have hw5 : IntKind.wrap .i64 (((((K + 1) + 1) + 1) + 1) + 1) = (((((K + 1) + 1) + 1) + 1) + 1) := wrap_ok (by omega) (by omega)
    have hw6 : IntKind.wrap .i64 ((((((K + 1) + 1) + 1) + 1) + 1) + 1) = ((((((K + 1) + 1) + 1) + 1) + 1) + 1) := wrap_ok (by omega) (by omega)
    have hw7 : IntKind.wrap .i64 (((((((K + 1) + 1) + 1) + 1) + 1) + 1) + 1) = (((((((K + 1) + 1) + 1) + 1) + 1) + 1) + 1) := wrap_ok (by omega) (by omega)
    have hw8 : IntKind.wrap .i64 ((((((((K + 1) + 1) + 1) + 1) + 1) + 1) + 1) + 1) = ((((((((K + 1) + 1) + 1) + 1) + 1) + 1) + 1) + 1) := wrap_ok (by omega) (by omega)
    have hw9 : IntKind.wrap .i64 (((((((((K + 1) + 1) + 1) + 1) + 1) + 1) + 1) + 1) + 1) = (((((((((K + 1) + 1) + 1) + 1) + 1) + 1) + 1) + 1) + 1) := wrap_ok (by omega) (by omega)
    have hw10 : IntKind.wrap .i64 ((((((((((K + 1) + 1) + 1) + 1) + 1) + 1) + 1) + 1) + 1) + 1) = ((((((((((K + 1) + 1) + 1) + 1) + 1) + 1) + 1) + 1) + 1) + 1) := wrap_ok (by omega) (by omega)
    have hw11 : IntKind.wrap .i64 (((((((((((K + 1) + 1) + 1) + 1) + 1) + 1) + 1) + 1) + 1) + 1) + 1) = (((((((((((K + 1) + 1) + 1) + 1) + 1) + 1) + 1) + 1) + 1) + 1) + 1) := wrap_ok (by omega) (by omega)
    have hw12 : IntKind.wrap .i64 ((((((((((((K + 1) + 1) + 1) + 1) + 1) + 1) + 1) + 1) + 1) + 1) + 1) + 1) = ((((((((((((K + 1) + 1) + 1) + 1) + 1) + 1) + 1) + 1) + 1) + 1) + 1) + 1) := wrap_ok (by omega) (by omega)
    have hw13 : IntKind.wrap .i64 (((((((((((((K + 1) + 1) + 1) + 1) + 1) + 1) + 1) + 1) + 1) + 1) + 1) + 1) + 1) = (((((((((((((K + 1) + 1) + 1) + 1) + 1) + 1) + 1) + 1) + 1) + 1) + 1) + 1) + 1) := wrap_ok (by omega) (by omega)
    have ht0 := mark_text K (by first | omega | (simp only [hw1, hw2, hw3, hw4, hw5, hw6, hw7, hw8, hw9, hw10, hw11, hw12, hw13]; omega)) (by first | omega | (simp only [hw1, hw2, hw3, hw4, hw5, hw6, hw7, hw8, hw9, hw10, hw11, hw12, hw13]; omega))
    conv => whnf
    repeat' (first | (refine z_st1 ?_; first | (refine z_st rfl rfl rfl (by first | (simp only [List.length_set]; assumption) | assumption | omega) (by first | exact elt_set (by first | assumption | (simp only [List.length_set]; assumption)) | assumption) rfl rfl ?_; conv => whnf) | (refine z_st0 ?_; conv => whnf)) | (refine z_ix1 ?_; first | (refine z_ix rfl rfl rfl rfl rfl ⟨by first | omega | (simp only [decide_eq_true_eq, Bool.not_eq_true', Bool.or_eq_false_iff, decide_eq_false_iff_not, Bool.and_eq_true, Bool.not_eq_false'] at *; omega), by first | omega | (simp only [decide_eq_true_eq, Bool.not_eq_true', Bool.or_eq_false_iff, decide_eq_false_iff_not, Bool.and_eq_true, Bool.not_eq_false'] at *; omega)⟩ ?_; conv => whnf) | (refine z_ix0 rfl rfl ?_; conv => whnf)) | (refine z_op ?_ ?_; (focus exact rfl); conv => whnf) | (refine zs_ops ?_ ?_; (focus exact rfl)) | (refine z_nil fun vals => ?_; conv => whnf) | (refine z_call ?_ ?_; (focus exact rfl)) | (refine RC.of (ht0) ?_ ?_; (focus exact rfl); conv => whnf) | (refine g_op ?_; conv => whnf) | (refine And.intro ?_ ?_; (focus (first | exact rfl | exact Nat.le_of_ble_eq_true rfl | decide | omega | fail)); conv => whnf) | (refine g_seq ?_) | (refine XS.go ?_) | (refine g_ops ?_) | (refine g_nil ?_; conv => whnf) | (refine g_skip ?_; conv => whnf) | (refine g_block ?_) | fail)
    have hw : IntKind.wrap .i64 ((i : Int) + 1) = ((i + 1 : Nat) : Int) := by rw [wrap_ok (by omega) (by omega)]; rfl
    refine ⟨i + 1, ⟨by omega, rfl⟩, by omega, ?_, ?_⟩
    · repeat' (first | exact True.intro | refine And.intro (congrArg (D.int .i64) hw) ?_ | refine And.intro rfl ?_ | refine And.intro (congrArg (D.int .i64) (by simp only [hw1, hw2, hw3, hw4, hw5, hw6, hw7, hw8, hw9, hw10, hw11, hw12, hw13]; omega)) ?_)
    · refine And.intro ?_ True.intro
      refine congrArg (fun l => some (D.arr 13 l c0)) ?_
      simp only [List.set_set]
      exact hfin _ (by simp only [hw1, hw2, hw3, hw4, hw5, hw6, hw7, hw8, hw9, hw10, hw11, hw12, hw13]; rfl)
  have hi : i = xs.length := by
    have : ¬ i < xs.length := by simpa using hb
    omega
  subst hi
  rw [mkP_all]
  conv => whnf
  repeat' (first | (refine g_op ?_; conv => whnf) | (refine And.intro ?_ ?_; (focus (first | exact rfl | exact Nat.le_of_ble_eq_true rfl | decide | omega | fail)); conv => whnf) | (refine g_seq ?_) | (refine XS.go ?_) | (refine g_ops ?_) | (refine g_nil ?_; conv => whnf) | (refine g_ret ?_; conv => whnf) | (refine g_exit ?_; conv => whnf) | (refine r_t ?_; conv => whnf) | (refine r_nil ?_; conv => whnf) | fail)
  first | exact ⟨rfl, rfl⟩ | exact rfl
set_option maxHeartbeats 8000000 in
theorem held_StewServiceS (xs : List StewService) (k : Int) (hk : 1 ≤ k) (hl : xs.length ≤ 1048576) (hB : k + (13 * xs.length : Nat) ≤ 50000000) : Rdr Try.prog 112 [.ro 13 ((mkS mk_StewService 13 xs k).map StewService.D), .int .i64 k] (.int .i64 (k + (13 * xs.length : Nat))) := by
  have hml : (mkS mk_StewService 13 xs k).length = xs.length := mkS_len
  refine Rdr.intro' hm c112 (Nat.le_of_ble_eq_true rfl) ?_
  conv => whnf
  repeat' (first | (refine g_op ?_; conv => whnf) | (refine And.intro ?_ ?_; (focus (first | exact rfl | exact Nat.le_of_ble_eq_true rfl | decide | omega | fail)); conv => whnf) | (refine g_seq ?_) | (refine XS.go ?_) | (refine g_ops ?_) | (refine g_loop ?_) | (refine g_nil ?_; conv => whnf) | (refine g_block ?_) | fail)
  refine XLc.mkA (α := Nat) (fun i => i ≤ xs.length) (fun i => xs.length - i) (fun i gs => [.ro 13 ((mkS mk_StewService 13 xs k).map StewService.D), .int .i64 (k + (13 * i : Nat)), .any, .any, .any, .int .i64 (i : Int)]) (fun i gs => []) 0 (Nat.zero_le _) ?_ ?_
  · refine ⟨?_, True.intro⟩
    · repeat' (first | exact True.intro | refine And.intro rfl ?_ | refine And.intro (congrArg (D.int .i64) (by simp)) ?_)
  intro i gs hi0
  repeat' (first | (refine g_op ?_; conv => whnf) | (refine And.intro ?_ ?_; (focus (first | exact rfl | exact Nat.le_of_ble_eq_true rfl | decide | omega | fail)); conv => whnf) | (refine g_seq ?_) | (refine XS.go ?_) | (refine g_ops ?_) | (refine g_nil ?_; conv => whnf) | (refine g_cond ?_; conv => whnf) | fail)
  refine Br.mk (fun hb => ?_) (fun hb => ?_)
  · have hlt : i < xs.length := by simpa [mkS_len] using hb
    have hel : (mkS mk_StewService 13 xs k).getD i default = mk_StewService (xs.getD i default) (k + (13 * i : Nat)) := mkS_get default hlt
    have hlt' : i < (mkS mk_StewService 13 xs k).length := by rw [hml]; exact hlt
    have hKe : k + (13 * (i + 1) : Nat) = k + (13 * i : Nat) + 13 := by omega
    have hK0 : 1 ≤ k + (13 * i : Nat) := by omega
    have hK1 : k + (13 * i : Nat) + 13 ≤ 50000000 := by omega
    generalize hK : k + (13 * i : Nat) = K at hel hK0 hK1 hKe ⊢
    have hw1 : IntKind.wrap .i64 (K + 1) = (K + 1) := wrap_ok (by omega) (by omega)
    have hw2 : IntKind.wrap .i64 ((K + 1) + 1) = ((K + 1) + 1) := wrap_ok (by omega) (by omega)
    have hw3 : IntKind.wrap .i64 (((K + 1) + 1) + 1) = (((K + 1) + 1) + 1) := wrap_ok (by omega) (by omega)
    have hw4 : IntKind.wrap .i64 ((((K + 1) + 1) + 1) + 1) = ((((K + 1) + 1) + 1) + 1) := wrap_ok (by omega) (by omega)
    have hw5 : IntKind.wrap .i64 (((((K + 1) + 1) + 1) + 1) + 1) = (((((K + 1) + 1) + 1) + 1) + 1) := wrap_ok (by omega) (by omega)
    have hw6 : IntKind.wrap .i64 ((((((K + 1) + 1) + 1) + 1) + 1) + 1) = ((((((K + 1) + 1) + 1) + 1) + 1) + 1) := wrap_ok (by omega) (by omega)
    have hw7 : IntKind.wrap .i64 (((((((K + 1) + 1) + 1) + 1) + 1) + 1) + 1) = (((((((K + 1) + 1) + 1) + 1) + 1) + 1) + 1) := wrap_ok (by omega) (by omega)
    have hw8 : IntKind.wrap .i64 ((((((((K + 1) + 1) + 1) + 1) + 1) + 1) + 1) + 1) = ((((((((K + 1) + 1) + 1) + 1) + 1) + 1) + 1) + 1) := wrap_ok (by omega) (by omega)
    have hw9 : IntKind.wrap .i64 (((((((((K + 1) + 1) + 1) + 1) + 1) + 1) + 1) + 1) + 1) = (((((((((K + 1) + 1) + 1) + 1) + 1) + 1) + 1) + 1) + 1) := wrap_ok (by omega) (by omega)
    have hw10 : IntKind.wrap .i64 ((((((((((K + 1) + 1) + 1) + 1) + 1) + 1) + 1) + 1) + 1) + 1) = ((((((((((K + 1) + 1) + 1) + 1) + 1) + 1) + 1) + 1) + 1) + 1) := wrap_ok (by omega) (by omega)
    have hw11 : IntKind.wrap .i64 (((((((((((K + 1) + 1) + 1) + 1) + 1) + 1) + 1) + 1) + 1) + 1) + 1) = (((((((((((K + 1) + 1) + 1) + 1) + 1) + 1) + 1) + 1) + 1) + 1) + 1) := wrap_ok (by omega) (by omega)
    have hw12 : IntKind.wrap .i64 ((((((((((((K + 1) + 1) + 1) + 1) + 1) + 1) + 1) + 1) + 1) + 1) + 1) + 1) = ((((((((((((K + 1) + 1) + 1) + 1) + 1) + 1) + 1) + 1) + 1) + 1) + 1) + 1) := wrap_ok (by omega) (by omega)
    have hw13 : IntKind.wrap .i64 (((((((((((((K + 1) + 1) + 1) + 1) + 1) + 1) + 1) + 1) + 1) + 1) + 1) + 1) + 1) = (((((((((((((K + 1) + 1) + 1) + 1) + 1) + 1) + 1) + 1) + 1) + 1) + 1) + 1) + 1) := wrap_ok (by omega) (by omega)
    have ht0 := mark_text K (by first | omega | (simp only [hw1, hw2, hw3, hw4, hw5, hw6, hw7, hw8, hw9, hw10, hw11, hw12, hw13]; omega)) (by first | omega | (simp only [hw1, hw2, hw3, hw4, hw5, hw6, hw7, hw8, hw9, hw10, hw11, hw12, hw13]; omega))
    conv => whnf
    repeat' (first | (refine z_ld1 ?_; first | (refine z_ld rfl rfl rfl rfl (by first | (simp only [List.length_set]; assumption) | assumption | omega) (by first | exact elt_set (by first | assumption | (simp only [List.length_set]; assumption)) | assumption) ?_; conv => whnf) | (refine z_ld0 rfl ?_; conv => whnf)) | (refine z_ix1 ?_; first | (refine z_ix rfl rfl rfl rfl rfl ⟨by first | omega | (simp only [decide_eq_true_eq, Bool.not_eq_true', Bool.or_eq_false_iff, decide_eq_false_iff_not, Bool.and_eq_true, Bool.not_eq_false'] at *; omega), by first | omega | (simp only [decide_eq_true_eq, Bool.not_eq_true', Bool.or_eq_false_iff, decide_eq_false_iff_not, Bool.and_eq_true, Bool.not_eq_false'] at *; omega)⟩ ?_; conv => whnf) | (refine z_ix0 rfl rfl ?_; conv => whnf)) | (refine z_op ?_ ?_; (focus exact rfl); conv => whnf) | (refine zs_ops ?_ ?_; (focus exact rfl)) | (refine zs_quiet ?_ ?_; (focus exact rfl)) | (refine z_nil fun vals => ?_; conv => whnf) | (refine z_call ?_ ?_; (focus exact rfl)) | (refine RC.of (ht0) ?_ ?_; (focus exact rfl); conv => whnf) | (refine g_op ?_; conv => whnf) | (refine And.intro ?_ ?_; (focus (first | exact rfl | exact Nat.le_of_ble_eq_true rfl | decide | omega | fail)); conv => whnf) | (refine g_seq ?_) | (refine XS.go ?_) | (refine g_ops ?_) | (refine g_nil ?_; conv => whnf) | (refine g_cond ?_; conv => whnf) | (refine g_skip ?_; conv => whnf) | (refine g_block ?_) | (refine Br.f (by simp only [Int.toNat_natCast, hel, hw1, hw2, hw3, hw4, hw5, hw6, hw7, hw8, hw9, hw10, hw11, hw12, hw13, mk_StewService] <;> simp) ?_; conv => whnf) | fail)
    have hw : IntKind.wrap .i64 ((i : Int) + 1) = ((i + 1 : Nat) : Int) := by rw [wrap_ok (by omega) (by omega)]; rfl
    refine ⟨i + 1, by omega, by omega, ?_, True.intro⟩
    · repeat' (first | exact True.intro | refine And.intro (congrArg (D.int .i64) hw) ?_ | refine And.intro rfl ?_ | refine And.intro (congrArg (D.int .i64) (by simp only [hw1, hw2, hw3, hw4, hw5, hw6, hw7, hw8, hw9, hw10, hw11, hw12, hw13]; omega)) ?_)
  have hi : i = xs.length := by
    have : ¬ i < xs.length := by simpa [mkS_len] using hb
    omega
  subst hi
  conv => whnf
  repeat' (first | (refine g_op ?_; conv => whnf) | (refine And.intro ?_ ?_; (focus (first | exact rfl | exact Nat.le_of_ble_eq_true rfl | decide | omega | fail)); conv => whnf) | (refine g_seq ?_) | (refine XS.go ?_) | (refine g_ops ?_) | (refine g_nil ?_; conv => whnf) | (refine g_ret ?_; conv => whnf) | (refine g_exit ?_; conv => whnf) | (refine r_t ?_; conv => whnf) | (refine r_nil ?_; conv => whnf) | fail)
  rfl
def mk_StewCopy (x : StewCopy) (k : Int) : StewCopy := { x with fService := mtext k, fNumber := (k + 1), fVersion := ((k + 1) + 1), fImage := (((k + 1) + 1) + 1), fState := ((((k + 1) + 1) + 1) + 1), fEnding := (Int.tmod (((((k + 1) + 1) + 1) + 1) + 1) 3 == 0), fBerth := mtext ((((((k + 1) + 1) + 1) + 1) + 1) + 1) }
set_option maxHeartbeats 8000000 in
theorem mark_StewCopyS (xs : List StewCopy) (b0 c0 : Nat) (k : Int) (hk : 1 ≤ k) (hl : xs.length ≤ 1048576) (hB : k + (7 * xs.length : Nat) ≤ 50000000) : XC Try.prog 105 [.lsl 0 b0 xs.length c0, .int .i64 k] [(0, b0, .arr 7 (xs.map StewCopy.D) c0)] (fun d ls => d = .int .i64 (k + (7 * xs.length : Nat)) ∧ ls = [(0, b0, .arr 7 ((mkS mk_StewCopy 7 xs k).map StewCopy.D) c0)]) := by
  refine XC.intro' hm [0] rfl c105 (Nat.le_of_ble_eq_true rfl) ?_
  conv => whnf
  repeat' (first | (refine g_op ?_; conv => whnf) | (refine And.intro ?_ ?_; (focus (first | exact rfl | exact Nat.le_of_ble_eq_true rfl | decide | omega | fail)); conv => whnf) | (refine g_seq ?_) | (refine XS.go ?_) | (refine g_ops ?_) | (refine g_loop ?_) | (refine g_nil ?_; conv => whnf) | (refine g_block ?_) | fail)
  refine XLc.mkG (α := Nat) (fun i gs => i ≤ xs.length ∧ gs 0 = b0) (fun i => xs.length - i) (fun i gs => [.lsl 0 (gs 0) xs.length c0, .int .i64 (k + (7 * i : Nat)), .any, .any, .any, .int .i64 (i : Int)]) (fun i gs => [(0, .arr 7 ((mkP mk_StewCopy 7 xs k i).map StewCopy.D) c0)]) 0 ⟨Nat.zero_le _, rfl⟩ ?_ ?_
  · refine ⟨?_, ?_⟩
    · repeat' (first | exact True.intro | refine And.intro rfl ?_ | refine And.intro (congrArg (D.int .i64) (by simp)) ?_)
    · exact And.intro (by rw [mkP_zero]; rfl) True.intro
  intro i gs hI
  obtain ⟨hi0, hg⟩ := hI
  subst hg
  repeat' (first | (refine g_op ?_; conv => whnf) | (refine And.intro ?_ ?_; (focus (first | exact rfl | exact Nat.le_of_ble_eq_true rfl | decide | omega | fail)); conv => whnf) | (refine g_seq ?_) | (refine XS.go ?_) | (refine g_ops ?_) | (refine g_nil ?_; conv => whnf) | (refine g_cond ?_; conv => whnf) | fail)
  refine Br.mk (fun hb => ?_) (fun hb => ?_)
  · have hlt : i < xs.length := by simpa using hb
    have hj0 : i < ((mkP mk_StewCopy 7 xs k i).map StewCopy.D).length := by rw [List.length_map, mkP_len]; exact hlt
    have he0 : ((mkP mk_StewCopy 7 xs k i).map StewCopy.D).getD i .any = (xs.getD i default).D := by
      rw [elt_map (by rw [mkP_len]; exact hlt), mkP_get _ hlt]
    have hfin : ∀ d, d = (mk_StewCopy (xs.getD i default) (k + (7 * i : Nat))).D → ((mkP mk_StewCopy 7 xs k i).map StewCopy.D).set i d = (mkP mk_StewCopy 7 xs k (i + 1)).map StewCopy.D := fun d h => by
      rw [h, ← mkP_set default hlt, List.map_set]
    have hKe : k + (7 * (i + 1) : Nat) = k + (7 * i : Nat) + 7 := by omega
    have hK0 : 1 ≤ k + (7 * i : Nat) := by omega
    have hK1 : k + (7 * i : Nat) + 7 ≤ 50000000 := by omega
    generalize hK : k + (7 * i : Nat) = K at hfin hK0 hK1 hKe ⊢
    have hw1 : IntKind.wrap .i64 (K + 1) = (K + 1) := wrap_ok (by omega) (by omega)
    have hw2 : IntKind.wrap .i64 ((K + 1) + 1) = ((K + 1) + 1) := wrap_ok (by omega) (by omega)
    have hw3 : IntKind.wrap .i64 (((K + 1) + 1) + 1) = (((K + 1) + 1) + 1) := wrap_ok (by omega) (by omega)
    have hw4 : IntKind.wrap .i64 ((((K + 1) + 1) + 1) + 1) = ((((K + 1) + 1) + 1) + 1) := wrap_ok (by omega) (by omega)
    have hw5 : IntKind.wrap .i64 (((((K + 1) + 1) + 1) + 1) + 1) = (((((K + 1) + 1) + 1) + 1) + 1) := wrap_ok (by omega) (by omega)
    have hw6 : IntKind.wrap .i64 ((((((K + 1) + 1) + 1) + 1) + 1) + 1) = ((((((K + 1) + 1) + 1) + 1) + 1) + 1) := wrap_ok (by omega) (by omega)
    have hw7 : IntKind.wrap .i64 (((((((K + 1) + 1) + 1) + 1) + 1) + 1) + 1) = (((((((K + 1) + 1) + 1) + 1) + 1) + 1) + 1) := wrap_ok (by omega) (by omega)
    have ht0 := mark_text K (by first | omega | (simp only [hw1, hw2, hw3, hw4, hw5, hw6, hw7]; omega)) (by first | omega | (simp only [hw1, hw2, hw3, hw4, hw5, hw6, hw7]; omega))
    have ht6 := mark_text (IntKind.wrap .i64 ((IntKind.wrap .i64 ((IntKind.wrap .i64 ((IntKind.wrap .i64 ((IntKind.wrap .i64 ((IntKind.wrap .i64 (K + 1)) + 1)) + 1)) + 1)) + 1)) + 1)) (by first | omega | (simp only [hw1, hw2, hw3, hw4, hw5, hw6, hw7]; omega)) (by first | omega | (simp only [hw1, hw2, hw3, hw4, hw5, hw6, hw7]; omega))
    conv => whnf
    repeat' (first | (refine z_st1 ?_; first | (refine z_st rfl rfl rfl (by first | (simp only [List.length_set]; assumption) | assumption | omega) (by first | exact elt_set (by first | assumption | (simp only [List.length_set]; assumption)) | assumption) rfl rfl ?_; conv => whnf) | (refine z_st0 ?_; conv => whnf)) | (refine z_ix1 ?_; first | (refine z_ix rfl rfl rfl rfl rfl ⟨by first | omega | (simp only [decide_eq_true_eq, Bool.not_eq_true', Bool.or_eq_false_iff, decide_eq_false_iff_not, Bool.and_eq_true, Bool.not_eq_false'] at *; omega), by first | omega | (simp only [decide_eq_true_eq, Bool.not_eq_true', Bool.or_eq_false_iff, decide_eq_false_iff_not, Bool.and_eq_true, Bool.not_eq_false'] at *; omega)⟩ ?_; conv => whnf) | (refine z_ix0 rfl rfl ?_; conv => whnf)) | (refine z_op ?_ ?_; (focus exact rfl); conv => whnf) | (refine zs_ops ?_ ?_; (focus exact rfl)) | (refine z_nil fun vals => ?_; conv => whnf) | (refine z_call ?_ ?_; (focus exact rfl)) | (refine RC.of (ht0) ?_ ?_; (focus exact rfl); conv => whnf) | (refine RC.of (ht6) ?_ ?_; (focus exact rfl); conv => whnf) | (refine g_op ?_; conv => whnf) | (refine And.intro ?_ ?_; (focus (first | exact rfl | exact Nat.le_of_ble_eq_true rfl | decide | omega | fail)); conv => whnf) | (refine g_seq ?_) | (refine XS.go ?_) | (refine g_ops ?_) | (refine g_nil ?_; conv => whnf) | (refine g_skip ?_; conv => whnf) | (refine g_block ?_) | fail)
    have hw : IntKind.wrap .i64 ((i : Int) + 1) = ((i + 1 : Nat) : Int) := by rw [wrap_ok (by omega) (by omega)]; rfl
    refine ⟨i + 1, ⟨by omega, rfl⟩, by omega, ?_, ?_⟩
    · repeat' (first | exact True.intro | refine And.intro (congrArg (D.int .i64) hw) ?_ | refine And.intro rfl ?_ | refine And.intro (congrArg (D.int .i64) (by simp only [hw1, hw2, hw3, hw4, hw5, hw6, hw7]; omega)) ?_)
    · refine And.intro ?_ True.intro
      refine congrArg (fun l => some (D.arr 7 l c0)) ?_
      simp only [List.set_set]
      exact hfin _ (by simp only [hw1, hw2, hw3, hw4, hw5, hw6, hw7]; rfl)
  have hi : i = xs.length := by
    have : ¬ i < xs.length := by simpa using hb
    omega
  subst hi
  rw [mkP_all]
  conv => whnf
  repeat' (first | (refine g_op ?_; conv => whnf) | (refine And.intro ?_ ?_; (focus (first | exact rfl | exact Nat.le_of_ble_eq_true rfl | decide | omega | fail)); conv => whnf) | (refine g_seq ?_) | (refine XS.go ?_) | (refine g_ops ?_) | (refine g_nil ?_; conv => whnf) | (refine g_ret ?_; conv => whnf) | (refine g_exit ?_; conv => whnf) | (refine r_t ?_; conv => whnf) | (refine r_nil ?_; conv => whnf) | fail)
  first | exact ⟨rfl, rfl⟩ | exact rfl
set_option maxHeartbeats 8000000 in
theorem held_StewCopyS (xs : List StewCopy) (k : Int) (hk : 1 ≤ k) (hl : xs.length ≤ 1048576) (hB : k + (7 * xs.length : Nat) ≤ 50000000) : Rdr Try.prog 113 [.ro 7 ((mkS mk_StewCopy 7 xs k).map StewCopy.D), .int .i64 k] (.int .i64 (k + (7 * xs.length : Nat))) := by
  have hml : (mkS mk_StewCopy 7 xs k).length = xs.length := mkS_len
  refine Rdr.intro' hm c113 (Nat.le_of_ble_eq_true rfl) ?_
  conv => whnf
  repeat' (first | (refine g_op ?_; conv => whnf) | (refine And.intro ?_ ?_; (focus (first | exact rfl | exact Nat.le_of_ble_eq_true rfl | decide | omega | fail)); conv => whnf) | (refine g_seq ?_) | (refine XS.go ?_) | (refine g_ops ?_) | (refine g_loop ?_) | (refine g_nil ?_; conv => whnf) | (refine g_block ?_) | fail)
  refine XLc.mkA (α := Nat) (fun i => i ≤ xs.length) (fun i => xs.length - i) (fun i gs => [.ro 7 ((mkS mk_StewCopy 7 xs k).map StewCopy.D), .int .i64 (k + (7 * i : Nat)), .any, .any, .any, .int .i64 (i : Int)]) (fun i gs => []) 0 (Nat.zero_le _) ?_ ?_
  · refine ⟨?_, True.intro⟩
    · repeat' (first | exact True.intro | refine And.intro rfl ?_ | refine And.intro (congrArg (D.int .i64) (by simp)) ?_)
  intro i gs hi0
  repeat' (first | (refine g_op ?_; conv => whnf) | (refine And.intro ?_ ?_; (focus (first | exact rfl | exact Nat.le_of_ble_eq_true rfl | decide | omega | fail)); conv => whnf) | (refine g_seq ?_) | (refine XS.go ?_) | (refine g_ops ?_) | (refine g_nil ?_; conv => whnf) | (refine g_cond ?_; conv => whnf) | fail)
  refine Br.mk (fun hb => ?_) (fun hb => ?_)
  · have hlt : i < xs.length := by simpa [mkS_len] using hb
    have hel : (mkS mk_StewCopy 7 xs k).getD i default = mk_StewCopy (xs.getD i default) (k + (7 * i : Nat)) := mkS_get default hlt
    have hlt' : i < (mkS mk_StewCopy 7 xs k).length := by rw [hml]; exact hlt
    have hKe : k + (7 * (i + 1) : Nat) = k + (7 * i : Nat) + 7 := by omega
    have hK0 : 1 ≤ k + (7 * i : Nat) := by omega
    have hK1 : k + (7 * i : Nat) + 7 ≤ 50000000 := by omega
    generalize hK : k + (7 * i : Nat) = K at hel hK0 hK1 hKe ⊢
    have hw1 : IntKind.wrap .i64 (K + 1) = (K + 1) := wrap_ok (by omega) (by omega)
    have hw2 : IntKind.wrap .i64 ((K + 1) + 1) = ((K + 1) + 1) := wrap_ok (by omega) (by omega)
    have hw3 : IntKind.wrap .i64 (((K + 1) + 1) + 1) = (((K + 1) + 1) + 1) := wrap_ok (by omega) (by omega)
    have hw4 : IntKind.wrap .i64 ((((K + 1) + 1) + 1) + 1) = ((((K + 1) + 1) + 1) + 1) := wrap_ok (by omega) (by omega)
    have hw5 : IntKind.wrap .i64 (((((K + 1) + 1) + 1) + 1) + 1) = (((((K + 1) + 1) + 1) + 1) + 1) := wrap_ok (by omega) (by omega)
    have hw6 : IntKind.wrap .i64 ((((((K + 1) + 1) + 1) + 1) + 1) + 1) = ((((((K + 1) + 1) + 1) + 1) + 1) + 1) := wrap_ok (by omega) (by omega)
    have hw7 : IntKind.wrap .i64 (((((((K + 1) + 1) + 1) + 1) + 1) + 1) + 1) = (((((((K + 1) + 1) + 1) + 1) + 1) + 1) + 1) := wrap_ok (by omega) (by omega)
    have ht0 := mark_text K (by first | omega | (simp only [hw1, hw2, hw3, hw4, hw5, hw6, hw7]; omega)) (by first | omega | (simp only [hw1, hw2, hw3, hw4, hw5, hw6, hw7]; omega))
    have ht6 := mark_text (IntKind.wrap .i64 ((IntKind.wrap .i64 ((IntKind.wrap .i64 ((IntKind.wrap .i64 ((IntKind.wrap .i64 ((IntKind.wrap .i64 (K + 1)) + 1)) + 1)) + 1)) + 1)) + 1)) (by first | omega | (simp only [hw1, hw2, hw3, hw4, hw5, hw6, hw7]; omega)) (by first | omega | (simp only [hw1, hw2, hw3, hw4, hw5, hw6, hw7]; omega))
    conv => whnf
    repeat' (first | (refine z_ld1 ?_; first | (refine z_ld rfl rfl rfl rfl (by first | (simp only [List.length_set]; assumption) | assumption | omega) (by first | exact elt_set (by first | assumption | (simp only [List.length_set]; assumption)) | assumption) ?_; conv => whnf) | (refine z_ld0 rfl ?_; conv => whnf)) | (refine z_ix1 ?_; first | (refine z_ix rfl rfl rfl rfl rfl ⟨by first | omega | (simp only [decide_eq_true_eq, Bool.not_eq_true', Bool.or_eq_false_iff, decide_eq_false_iff_not, Bool.and_eq_true, Bool.not_eq_false'] at *; omega), by first | omega | (simp only [decide_eq_true_eq, Bool.not_eq_true', Bool.or_eq_false_iff, decide_eq_false_iff_not, Bool.and_eq_true, Bool.not_eq_false'] at *; omega)⟩ ?_; conv => whnf) | (refine z_ix0 rfl rfl ?_; conv => whnf)) | (refine z_op ?_ ?_; (focus exact rfl); conv => whnf) | (refine zs_ops ?_ ?_; (focus exact rfl)) | (refine zs_quiet ?_ ?_; (focus exact rfl)) | (refine z_nil fun vals => ?_; conv => whnf) | (refine z_call ?_ ?_; (focus exact rfl)) | (refine RC.of (ht0) ?_ ?_; (focus exact rfl); conv => whnf) | (refine RC.of (ht6) ?_ ?_; (focus exact rfl); conv => whnf) | (refine g_op ?_; conv => whnf) | (refine And.intro ?_ ?_; (focus (first | exact rfl | exact Nat.le_of_ble_eq_true rfl | decide | omega | fail)); conv => whnf) | (refine g_seq ?_) | (refine XS.go ?_) | (refine g_ops ?_) | (refine g_nil ?_; conv => whnf) | (refine g_cond ?_; conv => whnf) | (refine g_skip ?_; conv => whnf) | (refine g_block ?_) | (refine Br.f (by simp only [Int.toNat_natCast, hel, hw1, hw2, hw3, hw4, hw5, hw6, hw7, mk_StewCopy] <;> simp) ?_; conv => whnf) | fail)
    have hw : IntKind.wrap .i64 ((i : Int) + 1) = ((i + 1 : Nat) : Int) := by rw [wrap_ok (by omega) (by omega)]; rfl
    refine ⟨i + 1, by omega, by omega, ?_, True.intro⟩
    · repeat' (first | exact True.intro | refine And.intro (congrArg (D.int .i64) hw) ?_ | refine And.intro rfl ?_ | refine And.intro (congrArg (D.int .i64) (by simp only [hw1, hw2, hw3, hw4, hw5, hw6, hw7]; omega)) ?_)
  have hi : i = xs.length := by
    have : ¬ i < xs.length := by simpa [mkS_len] using hb
    omega
  subst hi
  conv => whnf
  repeat' (first | (refine g_op ?_; conv => whnf) | (refine And.intro ?_ ?_; (focus (first | exact rfl | exact Nat.le_of_ble_eq_true rfl | decide | omega | fail)); conv => whnf) | (refine g_seq ?_) | (refine XS.go ?_) | (refine g_ops ?_) | (refine g_nil ?_; conv => whnf) | (refine g_ret ?_; conv => whnf) | (refine g_exit ?_; conv => whnf) | (refine r_t ?_; conv => whnf) | (refine r_nil ?_; conv => whnf) | fail)
  rfl
def mk_StewBerth (x : StewBerth) (k : Int) : StewBerth := { x with fName := mtext k, fDrain := (Int.tmod (k + 1) 3 == 0) }
set_option maxHeartbeats 8000000 in
theorem mark_StewBerthS (xs : List StewBerth) (b0 c0 : Nat) (k : Int) (hk : 1 ≤ k) (hl : xs.length ≤ 1048576) (hB : k + (2 * xs.length : Nat) ≤ 50000000) : XC Try.prog 106 [.lsl 0 b0 xs.length c0, .int .i64 k] [(0, b0, .arr 2 (xs.map StewBerth.D) c0)] (fun d ls => d = .int .i64 (k + (2 * xs.length : Nat)) ∧ ls = [(0, b0, .arr 2 ((mkS mk_StewBerth 2 xs k).map StewBerth.D) c0)]) := by
  refine XC.intro' hm [0] rfl c106 (Nat.le_of_ble_eq_true rfl) ?_
  conv => whnf
  repeat' (first | (refine g_op ?_; conv => whnf) | (refine And.intro ?_ ?_; (focus (first | exact rfl | exact Nat.le_of_ble_eq_true rfl | decide | omega | fail)); conv => whnf) | (refine g_seq ?_) | (refine XS.go ?_) | (refine g_ops ?_) | (refine g_loop ?_) | (refine g_nil ?_; conv => whnf) | (refine g_block ?_) | fail)
  refine XLc.mkG (α := Nat) (fun i gs => i ≤ xs.length ∧ gs 0 = b0) (fun i => xs.length - i) (fun i gs => [.lsl 0 (gs 0) xs.length c0, .int .i64 (k + (2 * i : Nat)), .any, .any, .any, .int .i64 (i : Int)]) (fun i gs => [(0, .arr 2 ((mkP mk_StewBerth 2 xs k i).map StewBerth.D) c0)]) 0 ⟨Nat.zero_le _, rfl⟩ ?_ ?_
  · refine ⟨?_, ?_⟩
    · repeat' (first | exact True.intro | refine And.intro rfl ?_ | refine And.intro (congrArg (D.int .i64) (by simp)) ?_)
    · exact And.intro (by rw [mkP_zero]; rfl) True.intro
  intro i gs hI
  obtain ⟨hi0, hg⟩ := hI
  subst hg
  repeat' (first | (refine g_op ?_; conv => whnf) | (refine And.intro ?_ ?_; (focus (first | exact rfl | exact Nat.le_of_ble_eq_true rfl | decide | omega | fail)); conv => whnf) | (refine g_seq ?_) | (refine XS.go ?_) | (refine g_ops ?_) | (refine g_nil ?_; conv => whnf) | (refine g_cond ?_; conv => whnf) | fail)
  refine Br.mk (fun hb => ?_) (fun hb => ?_)
  · have hlt : i < xs.length := by simpa using hb
    have hj0 : i < ((mkP mk_StewBerth 2 xs k i).map StewBerth.D).length := by rw [List.length_map, mkP_len]; exact hlt
    have he0 : ((mkP mk_StewBerth 2 xs k i).map StewBerth.D).getD i .any = (xs.getD i default).D := by
      rw [elt_map (by rw [mkP_len]; exact hlt), mkP_get _ hlt]
    have hfin : ∀ d, d = (mk_StewBerth (xs.getD i default) (k + (2 * i : Nat))).D → ((mkP mk_StewBerth 2 xs k i).map StewBerth.D).set i d = (mkP mk_StewBerth 2 xs k (i + 1)).map StewBerth.D := fun d h => by
      rw [h, ← mkP_set default hlt, List.map_set]
    have hKe : k + (2 * (i + 1) : Nat) = k + (2 * i : Nat) + 2 := by omega
    have hK0 : 1 ≤ k + (2 * i : Nat) := by omega
    have hK1 : k + (2 * i : Nat) + 2 ≤ 50000000 := by omega
    generalize hK : k + (2 * i : Nat) = K at hfin hK0 hK1 hKe ⊢
    have hw1 : IntKind.wrap .i64 (K + 1) = (K + 1) := wrap_ok (by omega) (by omega)
    have hw2 : IntKind.wrap .i64 ((K + 1) + 1) = ((K + 1) + 1) := wrap_ok (by omega) (by omega)
    have ht0 := mark_text K (by first | omega | (simp only [hw1, hw2]; omega)) (by first | omega | (simp only [hw1, hw2]; omega))
    conv => whnf
    repeat' (first | (refine z_st1 ?_; first | (refine z_st rfl rfl rfl (by first | (simp only [List.length_set]; assumption) | assumption | omega) (by first | exact elt_set (by first | assumption | (simp only [List.length_set]; assumption)) | assumption) rfl rfl ?_; conv => whnf) | (refine z_st0 ?_; conv => whnf)) | (refine z_ix1 ?_; first | (refine z_ix rfl rfl rfl rfl rfl ⟨by first | omega | (simp only [decide_eq_true_eq, Bool.not_eq_true', Bool.or_eq_false_iff, decide_eq_false_iff_not, Bool.and_eq_true, Bool.not_eq_false'] at *; omega), by first | omega | (simp only [decide_eq_true_eq, Bool.not_eq_true', Bool.or_eq_false_iff, decide_eq_false_iff_not, Bool.and_eq_true, Bool.not_eq_false'] at *; omega)⟩ ?_; conv => whnf) | (refine z_ix0 rfl rfl ?_; conv => whnf)) | (refine z_op ?_ ?_; (focus exact rfl); conv => whnf) | (refine zs_ops ?_ ?_; (focus exact rfl)) | (refine z_nil fun vals => ?_; conv => whnf) | (refine z_call ?_ ?_; (focus exact rfl)) | (refine RC.of (ht0) ?_ ?_; (focus exact rfl); conv => whnf) | (refine g_op ?_; conv => whnf) | (refine And.intro ?_ ?_; (focus (first | exact rfl | exact Nat.le_of_ble_eq_true rfl | decide | omega | fail)); conv => whnf) | (refine g_seq ?_) | (refine XS.go ?_) | (refine g_ops ?_) | (refine g_nil ?_; conv => whnf) | (refine g_skip ?_; conv => whnf) | (refine g_block ?_) | fail)
    have hw : IntKind.wrap .i64 ((i : Int) + 1) = ((i + 1 : Nat) : Int) := by rw [wrap_ok (by omega) (by omega)]; rfl
    refine ⟨i + 1, ⟨by omega, rfl⟩, by omega, ?_, ?_⟩
    · repeat' (first | exact True.intro | refine And.intro (congrArg (D.int .i64) hw) ?_ | refine And.intro rfl ?_ | refine And.intro (congrArg (D.int .i64) (by simp only [hw1, hw2]; omega)) ?_)
    · refine And.intro ?_ True.intro
      refine congrArg (fun l => some (D.arr 2 l c0)) ?_
      simp only [List.set_set]
      exact hfin _ (by simp only [hw1, hw2]; rfl)
  have hi : i = xs.length := by
    have : ¬ i < xs.length := by simpa using hb
    omega
  subst hi
  rw [mkP_all]
  conv => whnf
  repeat' (first | (refine g_op ?_; conv => whnf) | (refine And.intro ?_ ?_; (focus (first | exact rfl | exact Nat.le_of_ble_eq_true rfl | decide | omega | fail)); conv => whnf) | (refine g_seq ?_) | (refine XS.go ?_) | (refine g_ops ?_) | (refine g_nil ?_; conv => whnf) | (refine g_ret ?_; conv => whnf) | (refine g_exit ?_; conv => whnf) | (refine r_t ?_; conv => whnf) | (refine r_nil ?_; conv => whnf) | fail)
  first | exact ⟨rfl, rfl⟩ | exact rfl
set_option maxHeartbeats 8000000 in
theorem held_StewBerthS (xs : List StewBerth) (k : Int) (hk : 1 ≤ k) (hl : xs.length ≤ 1048576) (hB : k + (2 * xs.length : Nat) ≤ 50000000) : Rdr Try.prog 114 [.ro 2 ((mkS mk_StewBerth 2 xs k).map StewBerth.D), .int .i64 k] (.int .i64 (k + (2 * xs.length : Nat))) := by
  have hml : (mkS mk_StewBerth 2 xs k).length = xs.length := mkS_len
  refine Rdr.intro' hm c114 (Nat.le_of_ble_eq_true rfl) ?_
  conv => whnf
  repeat' (first | (refine g_op ?_; conv => whnf) | (refine And.intro ?_ ?_; (focus (first | exact rfl | exact Nat.le_of_ble_eq_true rfl | decide | omega | fail)); conv => whnf) | (refine g_seq ?_) | (refine XS.go ?_) | (refine g_ops ?_) | (refine g_loop ?_) | (refine g_nil ?_; conv => whnf) | (refine g_block ?_) | fail)
  refine XLc.mkA (α := Nat) (fun i => i ≤ xs.length) (fun i => xs.length - i) (fun i gs => [.ro 2 ((mkS mk_StewBerth 2 xs k).map StewBerth.D), .int .i64 (k + (2 * i : Nat)), .any, .any, .any, .int .i64 (i : Int)]) (fun i gs => []) 0 (Nat.zero_le _) ?_ ?_
  · refine ⟨?_, True.intro⟩
    · repeat' (first | exact True.intro | refine And.intro rfl ?_ | refine And.intro (congrArg (D.int .i64) (by simp)) ?_)
  intro i gs hi0
  repeat' (first | (refine g_op ?_; conv => whnf) | (refine And.intro ?_ ?_; (focus (first | exact rfl | exact Nat.le_of_ble_eq_true rfl | decide | omega | fail)); conv => whnf) | (refine g_seq ?_) | (refine XS.go ?_) | (refine g_ops ?_) | (refine g_nil ?_; conv => whnf) | (refine g_cond ?_; conv => whnf) | fail)
  refine Br.mk (fun hb => ?_) (fun hb => ?_)
  · have hlt : i < xs.length := by simpa [mkS_len] using hb
    have hel : (mkS mk_StewBerth 2 xs k).getD i default = mk_StewBerth (xs.getD i default) (k + (2 * i : Nat)) := mkS_get default hlt
    have hlt' : i < (mkS mk_StewBerth 2 xs k).length := by rw [hml]; exact hlt
    have hKe : k + (2 * (i + 1) : Nat) = k + (2 * i : Nat) + 2 := by omega
    have hK0 : 1 ≤ k + (2 * i : Nat) := by omega
    have hK1 : k + (2 * i : Nat) + 2 ≤ 50000000 := by omega
    generalize hK : k + (2 * i : Nat) = K at hel hK0 hK1 hKe ⊢
    have hw1 : IntKind.wrap .i64 (K + 1) = (K + 1) := wrap_ok (by omega) (by omega)
    have hw2 : IntKind.wrap .i64 ((K + 1) + 1) = ((K + 1) + 1) := wrap_ok (by omega) (by omega)
    have ht0 := mark_text K (by first | omega | (simp only [hw1, hw2]; omega)) (by first | omega | (simp only [hw1, hw2]; omega))
    conv => whnf
    repeat' (first | (refine z_ld1 ?_; first | (refine z_ld rfl rfl rfl rfl (by first | (simp only [List.length_set]; assumption) | assumption | omega) (by first | exact elt_set (by first | assumption | (simp only [List.length_set]; assumption)) | assumption) ?_; conv => whnf) | (refine z_ld0 rfl ?_; conv => whnf)) | (refine z_ix1 ?_; first | (refine z_ix rfl rfl rfl rfl rfl ⟨by first | omega | (simp only [decide_eq_true_eq, Bool.not_eq_true', Bool.or_eq_false_iff, decide_eq_false_iff_not, Bool.and_eq_true, Bool.not_eq_false'] at *; omega), by first | omega | (simp only [decide_eq_true_eq, Bool.not_eq_true', Bool.or_eq_false_iff, decide_eq_false_iff_not, Bool.and_eq_true, Bool.not_eq_false'] at *; omega)⟩ ?_; conv => whnf) | (refine z_ix0 rfl rfl ?_; conv => whnf)) | (refine z_op ?_ ?_; (focus exact rfl); conv => whnf) | (refine zs_ops ?_ ?_; (focus exact rfl)) | (refine zs_quiet ?_ ?_; (focus exact rfl)) | (refine z_nil fun vals => ?_; conv => whnf) | (refine z_call ?_ ?_; (focus exact rfl)) | (refine RC.of (ht0) ?_ ?_; (focus exact rfl); conv => whnf) | (refine g_op ?_; conv => whnf) | (refine And.intro ?_ ?_; (focus (first | exact rfl | exact Nat.le_of_ble_eq_true rfl | decide | omega | fail)); conv => whnf) | (refine g_seq ?_) | (refine XS.go ?_) | (refine g_ops ?_) | (refine g_nil ?_; conv => whnf) | (refine g_cond ?_; conv => whnf) | (refine g_skip ?_; conv => whnf) | (refine g_block ?_) | (refine Br.f (by simp only [Int.toNat_natCast, hel, hw1, hw2, mk_StewBerth] <;> simp) ?_; conv => whnf) | fail)
    have hw : IntKind.wrap .i64 ((i : Int) + 1) = ((i + 1 : Nat) : Int) := by rw [wrap_ok (by omega) (by omega)]; rfl
    refine ⟨i + 1, by omega, by omega, ?_, True.intro⟩
    · repeat' (first | exact True.intro | refine And.intro (congrArg (D.int .i64) hw) ?_ | refine And.intro rfl ?_ | refine And.intro (congrArg (D.int .i64) (by simp only [hw1, hw2]; omega)) ?_)
  have hi : i = xs.length := by
    have : ¬ i < xs.length := by simpa [mkS_len] using hb
    omega
  subst hi
  conv => whnf
  repeat' (first | (refine g_op ?_; conv => whnf) | (refine And.intro ?_ ?_; (focus (first | exact rfl | exact Nat.le_of_ble_eq_true rfl | decide | omega | fail)); conv => whnf) | (refine g_seq ?_) | (refine XS.go ?_) | (refine g_ops ?_) | (refine g_nil ?_; conv => whnf) | (refine g_ret ?_; conv => whnf) | (refine g_exit ?_; conv => whnf) | (refine r_t ?_; conv => whnf) | (refine r_nil ?_; conv => whnf) | fail)
  rfl
theorem Bor.rowM {α : Type} {st : St} {s b n c es : Nat} {F : α → D} {xs : List α} {cp : Nat} (hl : st.lc s = some (.arr es (xs.map F) cp)) (hb : st.gen s = b) (hn : n = xs.length) (hf : ∀ x, (F x).froz = F x) : Bor st (.lsl s b n c) (.ro es (xs.map F)) := by
  have hn' : n = (xs.map F).length := by rw [List.length_map]; exact hn
  have h := Bor.row (c := c) hl hb hn'
  rw [D.frozs_map hf] at h
  exact h
theorem HolL.ren {U : Nat → Prop} {w : World} : ∀ {ls ls2 : List Loan} {F : List Nat}, ls2.map (·.2) = ls.map (·.2) → HolL U w ls F → HolL U w ls2 F
  | [], [], F, _, h => h
  | l :: ls, l2 :: ls2, F, e, h => by
    simp only [List.map_cons, List.cons.injEq] at e
    obtain ⟨F1, F2, h1, h2, h3⟩ := h
    exact ⟨F1, F2, h1, by rw [e.1]; exact h2, HolL.ren e.2 h3⟩
  | [], _ :: _, _, e, _ => by simp at e
  | _ :: _, [], _, e, _ => by simp at e
theorem HolL.snil {U : Nat → Prop} {w : World} (s b es : Nat) : ∀ {ls : List Loan} {F : List Nat}, HolL U w ls F → HolL U w ((s, b, .arr es [] 0) :: ls) F
  | _, F, h => ⟨[], F, rfl, .inl ⟨rfl, rfl, rfl⟩, h⟩
theorem z_close {P : Program} {q : Bool} {n : Nat} {st : St} {e : List En} {K : St → Prop} {os : List COp} (h : ∀ vals : Nat → D, LZ P q n os (fillS st e vals) [] K) : LZ P q n os st e K := by
  refine ⟨fun fr hI => ?_⟩
  have e1 : fillS st e fr = { st with fr := fr } := by
    unfold fillS
    congr 1
    funext i
    cases hf : En.find e i with
    | none => exact (hI.no i hf).symm
    | some r => rfl
  have := (h fr).start
  rw [e1] at this
  exact this
/-- A contract under other names. -/
theorem XC.ren {P : Program} {f : FuncId} {ds ds2 : List D} {ls ls2 : List Loan} {K K2 : D → List Loan → Prop} (h : XC P f ds ls K)
    (hd : ∀ U w vs, RelT U w ds2 vs → RelT U w ds vs) (hl : ls.map (·.2) = ls2.map (·.2))
    (hk : ∀ d l, K d l → ∃ d2 l2, K2 d2 l2 ∧ (∀ U w F, HolL U w l F → HolL U w l2 F) ∧ ∀ U w v, RelV U w d v → RelV U w d2 v) : XC P f ds2 ls2 K2 := by
  unfold XC at h ⊢
  refine ⟨h.1, fun U w vs F hU hH hn hF hT => (h.2 U w vs F hU (hH.ren hl) hn hF (hd _ _ _ hT)).mono fun e w' ⟨v, d, l, U', F', h1, h2, h3, h4, h5, h6, h7, h8, h9⟩ => ?_⟩
  obtain ⟨d2, l2, k1, k2, k3⟩ := hk d l h9
  exact ⟨v, d2, l2, U', F', h1, k2 _ _ _ h2, h3, h4, k3 _ _ _ h5, h6, h7, h8, k1⟩
theorem nil_ro {U : Nat → Prop} {w : World} {es : Nat} {cs : List Value} (h : RelC U w .nil cs) : RelC U w (.ro es []) cs := by
  simp only [RelC] at h ⊢
  obtain ⟨a, rfl⟩ := h
  exact ⟨a, 0, rfl, Nat.le_refl _, .inl trivial⟩
theorem nil_lsl {U : Nat → Prop} {w : World} {s b : Nat} {cs : List Value} (h : RelC U w .nil cs) : RelC U w (.lsl s b 0 0) cs := by
  simp only [RelC] at h ⊢
  obtain ⟨a, rfl⟩ := h
  exact ⟨a, rfl, Nat.le_refl _, fun h => absurd rfl h⟩
theorem RelF.imp {U : Nat → Prop} {w : World} {d d' : D} {ds ds' : List D} (h1 : ∀ cs, RelC U w d cs → RelC U w d' cs) (h2 : ∀ cs, RelF U w ds cs → RelF U w ds' cs) (cs : List Value) (h : RelF U w (d :: ds) cs) : RelF U w (d' :: ds') cs := by
  simp only [RelF] at h ⊢
  obtain ⟨c1, c2, e, q1, q2⟩ := h
  exact ⟨c1, c2, e, h1 _ q1, h2 _ q2⟩
theorem RelV.aggImp {U : Nat → Prop} {w : World} {fs fs' : List D} (h : ∀ cs, RelF U w fs cs → RelF U w fs' cs) (v : Value) (hv : RelV U w (.agg fs) v) : RelV U w (.agg fs') v := by
  obtain ⟨cs, e, q⟩ := hv
  exact ⟨cs, e, h _ q⟩
/-- An answer under a wider reading. -/
theorem Rdr.imp {P : Program} {f : FuncId} {ds : List D} {d d2 : D} (h : Rdr P f ds d) (hd : ∀ U w v, RelV U w d v → RelV U w d2 v) : Rdr P f ds d2 := by
  unfold Rdr at h ⊢
  exact ⟨h.1, fun U w vs hU hT => (h.2 U w vs hU hT).mono fun e w' ⟨v, h1, h2, h3⟩ => ⟨v, h1, hd _ _ _ h2, h3⟩⟩
theorem HolL.app {U : Nat → Prop} {w : World} {ls2 : List Loan} (h2 : HolL U w ls2 []) : ∀ {ls : List Loan} {F : List Nat}, HolL U w ls F → HolL U w (ls ++ ls2) F
  | [], F, h => by
    have h : F = [] := h
    subst h
    exact h2
  | l :: ls, F, ⟨F1, F2, e, h, hs⟩ => ⟨F1, F2, e, h, HolL.app h2 hs⟩
theorem tox_StewServiceS (t : Nat) (l : List StewService) (hs : l.length ≤ 1048576 ∧ ∀ y ∈ l, y.small) : XC Try.prog 84 [.ro 13 (l.map StewService.D)] [] (fun d ls => ∃ b, d = .lsl t b l.length l.length ∧ ls = [(t, b, .arr 13 (l.map StewService.D) l.length)]) := by
  have h := toS_xc hm c84 (zs := [.str ⟨#[]⟩, .int .i64 0, .bool false, .int .i64 0, .int .i64 0, .int .i64 0, .int .i64 0, .int .i64 0, .int .i64 0, .int .i64 0, .int .i64 0, .int .i64 0, .int .i64 0]) (ds := l.map StewService.D) rfl (by decide) (by decide) (by simpa using hs.1) (fun d hd => by obtain ⟨x, hx, rfl⟩ := List.mem_map.1 hd; exact ⟨_, rfl, rfl, to_StewService x (hs.2 x hx)⟩)
  rw [List.length_map] at h
  refine h.ren (fun _ _ _ h => h) rfl (fun d ls ⟨b, h1, h2⟩ => ?_)
  subst h1 h2
  exact ⟨_, _, ⟨b, rfl, rfl⟩, fun _ _ _ h => HolL.ren rfl h, fun _ _ _ h => h⟩
theorem markx_StewServiceS (s : Nat) (xs : List StewService) (b0 c0 : Nat) (k : Int) (hk : 1 ≤ k) (hl : xs.length ≤ 1048576) (hB : k + (13 * xs.length : Nat) ≤ 50000000) : XC Try.prog 104 [.lsl s b0 xs.length c0, .int .i64 k] [(s, b0, .arr 13 (xs.map StewService.D) c0)] (fun d ls => d = .int .i64 (k + (13 * xs.length : Nat)) ∧ ls = [(s, b0, .arr 13 ((mkS mk_StewService 13 xs k).map StewService.D) c0)]) := by
  refine (mark_StewServiceS xs b0 c0 k hk hl hB).ren (fun _ _ _ h => h) rfl (fun d ls ⟨h1, h2⟩ => ?_)
  subst h1 h2
  exact ⟨_, _, ⟨rfl, rfl⟩, fun _ _ _ h => HolL.ren rfl h, fun _ _ _ h => h⟩
theorem tox_StewCopyS (t : Nat) (l : List StewCopy) (hs : l.length ≤ 1048576 ∧ ∀ y ∈ l, y.small) : XC Try.prog 85 [.ro 7 (l.map StewCopy.D)] [] (fun d ls => ∃ b, d = .lsl t b l.length l.length ∧ ls = [(t, b, .arr 7 (l.map StewCopy.D) l.length)]) := by
  have h := toS_xc hm c85 (zs := [.str ⟨#[]⟩, .int .i64 0, .int .i64 0, .int .i64 0, .int .i64 0, .bool false, .str ⟨#[]⟩]) (ds := l.map StewCopy.D) rfl (by decide) (by decide) (by simpa using hs.1) (fun d hd => by obtain ⟨x, hx, rfl⟩ := List.mem_map.1 hd; exact ⟨_, rfl, rfl, to_StewCopy x (hs.2 x hx)⟩)
  rw [List.length_map] at h
  refine h.ren (fun _ _ _ h => h) rfl (fun d ls ⟨b, h1, h2⟩ => ?_)
  subst h1 h2
  exact ⟨_, _, ⟨b, rfl, rfl⟩, fun _ _ _ h => HolL.ren rfl h, fun _ _ _ h => h⟩
theorem markx_StewCopyS (s : Nat) (xs : List StewCopy) (b0 c0 : Nat) (k : Int) (hk : 1 ≤ k) (hl : xs.length ≤ 1048576) (hB : k + (7 * xs.length : Nat) ≤ 50000000) : XC Try.prog 105 [.lsl s b0 xs.length c0, .int .i64 k] [(s, b0, .arr 7 (xs.map StewCopy.D) c0)] (fun d ls => d = .int .i64 (k + (7 * xs.length : Nat)) ∧ ls = [(s, b0, .arr 7 ((mkS mk_StewCopy 7 xs k).map StewCopy.D) c0)]) := by
  refine (mark_StewCopyS xs b0 c0 k hk hl hB).ren (fun _ _ _ h => h) rfl (fun d ls ⟨h1, h2⟩ => ?_)
  subst h1 h2
  exact ⟨_, _, ⟨rfl, rfl⟩, fun _ _ _ h => HolL.ren rfl h, fun _ _ _ h => h⟩
theorem tox_StewBerthS (t : Nat) (l : List StewBerth) (hs : l.length ≤ 1048576 ∧ ∀ y ∈ l, y.small) : XC Try.prog 86 [.ro 2 (l.map StewBerth.D)] [] (fun d ls => ∃ b, d = .lsl t b l.length l.length ∧ ls = [(t, b, .arr 2 (l.map StewBerth.D) l.length)]) := by
  have h := toS_xc hm c86 (zs := [.str ⟨#[]⟩, .bool false]) (ds := l.map StewBerth.D) rfl (by decide) (by decide) (by simpa using hs.1) (fun d hd => by obtain ⟨x, hx, rfl⟩ := List.mem_map.1 hd; exact ⟨_, rfl, rfl, to_StewBerth x (hs.2 x hx)⟩)
  rw [List.length_map] at h
  refine h.ren (fun _ _ _ h => h) rfl (fun d ls ⟨b, h1, h2⟩ => ?_)
  subst h1 h2
  exact ⟨_, _, ⟨b, rfl, rfl⟩, fun _ _ _ h => HolL.ren rfl h, fun _ _ _ h => h⟩
theorem markx_StewBerthS (s : Nat) (xs : List StewBerth) (b0 c0 : Nat) (k : Int) (hk : 1 ≤ k) (hl : xs.length ≤ 1048576) (hB : k + (2 * xs.length : Nat) ≤ 50000000) : XC Try.prog 106 [.lsl s b0 xs.length c0, .int .i64 k] [(s, b0, .arr 2 (xs.map StewBerth.D) c0)] (fun d ls => d = .int .i64 (k + (2 * xs.length : Nat)) ∧ ls = [(s, b0, .arr 2 ((mkS mk_StewBerth 2 xs k).map StewBerth.D) c0)]) := by
  refine (mark_StewBerthS xs b0 c0 k hk hl hB).ren (fun _ _ _ h => h) rfl (fun d ls ⟨h1, h2⟩ => ?_)
  subst h1 h2
  exact ⟨_, _, ⟨rfl, rfl⟩, fun _ _ _ h => HolL.ren rfl h, fun _ _ _ h => h⟩

end Go.Ab
