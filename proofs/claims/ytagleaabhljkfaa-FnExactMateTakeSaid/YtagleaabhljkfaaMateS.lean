/- Steps towards the law: contracts of functions and facts of lists. -/
import Derived.Test.YtagleaabhljkfaaMateR
import Derived.Test.YtagleaabhljkfaaMateE
import Derived.Test.YtagleaabhljkfaaRows
set_option linter.unusedSimpArgs false
set_option linter.unusedVariables false
namespace Go.Ab
open Go Go.RowKit Go.Proofs
attribute [local irreducible] XC Rdr IntKind.wrap xw xos xqs xr xd
set_option maxRecDepth 100000

/-- impl.mClone -/
def cf84 : CF := ⟨20, [.c 2 9 true],
  (.seq (.ops [⟨some 1, .bx (.t 0), none⟩,
    ⟨some 2, .al (.agg [.str ⟨#[]⟩, .bool false, .int .i64 0, .bool false, .int .i64 0, .nil, .nil, .nil, .nil]), none⟩])
  (.seq (.ops [⟨some 3, .fa 5 1 5 (.t 1), none⟩,
    ⟨some 4, .ld 1 false (.t 3), none⟩,
    ⟨some 5, .app 7 72 (.k (.nil)) (.t 4), none⟩,
    ⟨some 6, .fa 5 1 5 (.t 1), none⟩,
    ⟨none, .st 1 (.t 6) (.t 5), none⟩])
  (.seq (.ops [⟨some 7, .fa 6 1 6 (.t 1), none⟩,
    ⟨some 8, .ld 1 false (.t 7), none⟩,
    ⟨some 9, .app 11 104 (.k (.nil)) (.t 8), none⟩,
    ⟨some 10, .fa 6 1 6 (.t 1), none⟩,
    ⟨none, .st 1 (.t 10) (.t 9), none⟩])
  (.seq (.ops [⟨some 11, .fa 7 1 7 (.t 1), none⟩,
    ⟨some 12, .ld 1 false (.t 11), none⟩,
    ⟨some 13, .app 4 48 (.k (.nil)) (.t 12), none⟩,
    ⟨some 14, .fa 7 1 7 (.t 1), none⟩,
    ⟨none, .st 1 (.t 14) (.t 13), none⟩])
  (.seq (.ops [⟨some 15, .fa 8 1 8 (.t 1), none⟩,
    ⟨some 16, .ld 1 false (.t 15), none⟩,
    ⟨some 17, .app 4 48 (.k (.nil)) (.t 16), none⟩,
    ⟨some 18, .fa 8 1 8 (.t 1), none⟩,
    ⟨none, .st 1 (.t 18) (.t 17), none⟩])
  (.seq (.ops [⟨some 19, .ld 9 true (.t 1), none⟩,
    ⟨none, .st 9 (.t 2) (.t 19), none⟩])
  .ret))))))⟩
theorem c84 : compileF Try.prog [] 84 = some cf84 := by kernel_rfl
/-- impl.MateRise -/
def cf49 : CF := ⟨12, [.c 2 9 true],
  (.seq (.ops [⟨some 1, .bx (.t 0), none⟩,
    ⟨some 2, .al (.agg [.str ⟨#[]⟩, .bool false, .int .i64 0, .bool false, .int .i64 0, .nil, .nil, .nil, .nil]), none⟩])
  (.seq (.seq (.ops [⟨some 4, .ld 9 true (.t 1), none⟩,
    ⟨some 5, .call 46 [(.t 4)], none⟩,
    ⟨some 6, .not (.t 5), none⟩])
  (.cond (.t 6)
  (.seq (.ops [⟨some 7, .bld (.agg [.str ⟨#[]⟩, .bool false, .int .i64 0, .bool false, .int .i64 0, .nil, .nil, .nil, .nil]) [], none⟩,
    ⟨none, .st 9 (.t 2) (.t 7), none⟩])
  .ret)
  .skip))
  (.seq (.ops [⟨some 8, .ld 9 true (.t 1), none⟩,
    ⟨some 9, .call 84 [(.t 8)], none⟩,
    ⟨some 3, .al (.agg [.str ⟨#[]⟩, .bool false, .int .i64 0, .bool false, .int .i64 0, .nil, .nil, .nil, .nil]), none⟩,
    ⟨none, .st 9 (.t 3) (.t 9), none⟩])
  (.seq (.ops [⟨some 10, .call 99 [(.t 3)], none⟩])
  (.seq (.ops [⟨some 11, .ld 9 true (.t 3), none⟩,
    ⟨none, .st 9 (.t 2) (.t 11), none⟩])
  .ret)))))⟩
theorem c49 : compileF Try.prog [] 49 = some cf49 := by kernel_rfl
/-- (*impl.Mate).rise -/
def cf99 : CF := ⟨16, [],
  (.ops [⟨some 2, .mv (.t 0), none⟩,
    ⟨some 3, .mv (.t 0), none⟩,
    ⟨some 4, .nilc (.t 3), none⟩,
    ⟨some 5, .fa 1 1 1 (.t 4), none⟩,
    ⟨some 6, .ld 1 false (.t 5), none⟩,
    ⟨some 7, .mv (.t 6), none⟩,
    ⟨some 8, .mv (.t 0), some (7, false)⟩,
    ⟨some 9, .nilc (.t 8), some (7, false)⟩,
    ⟨some 10, .fa 2 1 2 (.t 9), some (7, false)⟩,
    ⟨some 11, .ld 1 false (.t 10), some (7, false)⟩,
    ⟨some 12, .bin .lss (.t 11) (.k (.int .i64 1000000)), some (7, false)⟩,
    ⟨some 13, .pick (.t 7) (.k (.bool true)) (.t 12), none⟩,
    ⟨some 14, .nilc (.t 2), none⟩,
    ⟨some 15, .fa 1 1 1 (.t 14), none⟩,
    ⟨none, .st 1 (.t 15) (.t 13), none⟩])⟩
theorem c99 : compileF Try.prog [] 99 = some cf99 := by kernel_rfl
/-- spec.l13Copy -/
def cf79 : CF := ⟨24, [.c 2 9 true],
  (.seq (.ops [⟨some 1, .bx (.t 0), none⟩,
    ⟨some 2, .al (.agg [.str ⟨#[]⟩, .bool false, .int .i64 0, .bool false, .int .i64 0, .nil, .nil, .nil, .nil]), none⟩])
  (.seq (.ops [⟨some 3, .bsl (.agg [.str ⟨#[]⟩, .int .i64 0, .str ⟨#[]⟩, .int .i64 0, .int .i64 0, .int .i64 0, .int .i64 0]) 0 [], none⟩,
    ⟨some 4, .fa 5 1 5 (.t 1), none⟩,
    ⟨some 5, .ld 1 false (.t 4), none⟩,
    ⟨some 6, .app 7 72 (.t 3) (.t 5), none⟩,
    ⟨some 7, .fa 5 1 5 (.t 1), none⟩,
    ⟨none, .st 1 (.t 7) (.t 6), none⟩])
  (.seq (.ops [⟨some 8, .bsl (.agg [.agg [.str ⟨#[]⟩, .int .i64 0, .str ⟨#[]⟩, .int .i64 0, .int .i64 0, .int .i64 0, .int .i64 0], .int .i64 0, .int .i64 0, .int .i64 0, .int .i64 0]) 0 [], none⟩,
    ⟨some 9, .fa 6 1 6 (.t 1), none⟩,
    ⟨some 10, .ld 1 false (.t 9), none⟩,
    ⟨some 11, .app 11 104 (.t 8) (.t 10), none⟩,
    ⟨some 12, .fa 6 1 6 (.t 1), none⟩,
    ⟨none, .st 1 (.t 12) (.t 11), none⟩])
  (.seq (.ops [⟨some 13, .bsl (.agg [.str ⟨#[]⟩, .str ⟨#[]⟩, .int .i64 0, .int .i64 0]) 0 [], none⟩,
    ⟨some 14, .fa 7 1 7 (.t 1), none⟩,
    ⟨some 15, .ld 1 false (.t 14), none⟩,
    ⟨some 16, .app 4 48 (.t 13) (.t 15), none⟩,
    ⟨some 17, .fa 7 1 7 (.t 1), none⟩,
    ⟨none, .st 1 (.t 17) (.t 16), none⟩])
  (.seq (.ops [⟨some 18, .bsl (.agg [.str ⟨#[]⟩, .str ⟨#[]⟩, .int .i64 0, .int .i64 0]) 0 [], none⟩,
    ⟨some 19, .fa 8 1 8 (.t 1), none⟩,
    ⟨some 20, .ld 1 false (.t 19), none⟩,
    ⟨some 21, .app 4 48 (.t 18) (.t 20), none⟩,
    ⟨some 22, .fa 8 1 8 (.t 1), none⟩,
    ⟨none, .st 1 (.t 22) (.t 21), none⟩])
  (.seq (.ops [⟨some 23, .ld 9 true (.t 1), none⟩,
    ⟨none, .st 9 (.t 2) (.t 23), none⟩])
  .ret))))))⟩
theorem c79 : compileF Try.prog [] 79 = some cf79 := by kernel_rfl
/-- spec.MateRise -/
def cf52 : CF := ⟨15, [.c 2 9 true],
  (.seq (.ops [⟨some 1, .bx (.t 0), none⟩,
    ⟨some 2, .al (.agg [.str ⟨#[]⟩, .bool false, .int .i64 0, .bool false, .int .i64 0, .nil, .nil, .nil, .nil]), none⟩])
  (.seq (.seq (.ops [⟨some 4, .ld 9 true (.t 1), none⟩,
    ⟨some 5, .call 45 [(.t 4)], none⟩,
    ⟨some 6, .not (.t 5), none⟩])
  (.cond (.t 6)
  (.seq (.ops [⟨some 7, .bld (.agg [.str ⟨#[]⟩, .bool false, .int .i64 0, .bool false, .int .i64 0, .nil, .nil, .nil, .nil]) [], none⟩,
    ⟨none, .st 9 (.t 2) (.t 7), none⟩])
  .ret)
  .skip))
  (.seq (.ops [⟨some 8, .ld 9 true (.t 1), none⟩,
    ⟨some 9, .call 79 [(.t 8)], none⟩,
    ⟨some 3, .al (.agg [.str ⟨#[]⟩, .bool false, .int .i64 0, .bool false, .int .i64 0, .nil, .nil, .nil, .nil]), none⟩,
    ⟨none, .st 9 (.t 3) (.t 9), none⟩])
  (.seq (.seq (.ops [⟨some 10, .fa 2 1 2 (.t 1), none⟩,
    ⟨some 11, .ld 1 false (.t 10), none⟩,
    ⟨some 12, .bin .lss (.t 11) (.k (.int .i64 1000000)), none⟩])
  (.cond (.t 12)
  (.ops [⟨some 13, .fa 1 1 1 (.t 3), none⟩,
    ⟨none, .st 1 (.t 13) (.k (.bool true)), none⟩])
  .skip))
  (.seq (.ops [⟨some 14, .ld 9 true (.t 3), none⟩,
    ⟨none, .st 9 (.t 2) (.t 14), none⟩])
  .ret)))))⟩
theorem c52 : compileF Try.prog [] 52 = some cf52 := by kernel_rfl
/-- laws.markMate -/
def cf41 : CF := ⟨22, [.t 4],
  (.seq (.ops [⟨some 2, .bx (.t 0), none⟩,
    ⟨some 4, .mv (.k (.int .i64 0)), none⟩])
  (.seq (.ops [⟨some 5, .fa 5 1 5 (.t 2), none⟩,
    ⟨some 6, .ld 1 false (.t 5), none⟩,
    ⟨some 7, .mv (.t 1), none⟩,
    ⟨some 8, .call 87 [(.t 6), (.t 7)], none⟩,
    ⟨some 1, .mv (.t 8), none⟩])
  (.seq (.ops [⟨some 9, .fa 6 1 6 (.t 2), none⟩,
    ⟨some 10, .ld 1 false (.t 9), none⟩,
    ⟨some 11, .mv (.t 1), none⟩,
    ⟨some 12, .call 33 [(.t 10), (.t 11)], none⟩,
    ⟨some 1, .mv (.t 12), none⟩])
  (.seq (.ops [⟨some 13, .fa 7 1 7 (.t 2), none⟩,
    ⟨some 14, .ld 1 false (.t 13), none⟩,
    ⟨some 15, .mv (.t 1), none⟩,
    ⟨some 16, .call 88 [(.t 14), (.t 15)], none⟩,
    ⟨some 1, .mv (.t 16), none⟩])
  (.seq (.ops [⟨some 17, .fa 8 1 8 (.t 2), none⟩,
    ⟨some 18, .ld 1 false (.t 17), none⟩,
    ⟨some 19, .mv (.t 1), none⟩,
    ⟨some 20, .call 88 [(.t 18), (.t 19)], none⟩,
    ⟨some 1, .mv (.t 20), none⟩])
  (.seq (.ops [⟨some 21, .mv (.t 1), none⟩,
    ⟨some 4, .mv (.t 21), none⟩])
  .ret))))))⟩
theorem c41 : compileF Try.prog [] 41 = some cf41 := by kernel_rfl
/-- laws.heldMate -/
def cf43 : CF := ⟨30, [.t 4],
  (.seq (.ops [⟨some 2, .bx (.t 0), none⟩,
    ⟨some 4, .mv (.k (.int .i64 0)), none⟩])
  (.seq (.ops [⟨some 5, .fa 5 1 5 (.t 2), none⟩,
    ⟨some 6, .ld 1 false (.t 5), none⟩,
    ⟨some 7, .mv (.t 1), none⟩,
    ⟨some 8, .call 89 [(.t 6), (.t 7)], none⟩,
    ⟨some 1, .mv (.t 8), none⟩])
  (.seq (.seq (.ops [⟨some 9, .mv (.t 1), none⟩,
    ⟨some 10, .bin .lss (.t 9) (.k (.int .i64 0)), none⟩])
  (.cond (.t 10)
  (.seq (.ops [⟨some 4, .mv (.k (.int .i64 (-1))), none⟩])
  .ret)
  .skip))
  (.seq (.ops [⟨some 11, .fa 6 1 6 (.t 2), none⟩,
    ⟨some 12, .ld 1 false (.t 11), none⟩,
    ⟨some 13, .mv (.t 1), none⟩,
    ⟨some 14, .call 34 [(.t 12), (.t 13)], none⟩,
    ⟨some 1, .mv (.t 14), none⟩])
  (.seq (.seq (.ops [⟨some 15, .mv (.t 1), none⟩,
    ⟨some 16, .bin .lss (.t 15) (.k (.int .i64 0)), none⟩])
  (.cond (.t 16)
  (.seq (.ops [⟨some 4, .mv (.k (.int .i64 (-1))), none⟩])
  .ret)
  .skip))
  (.seq (.ops [⟨some 17, .fa 7 1 7 (.t 2), none⟩,
    ⟨some 18, .ld 1 false (.t 17), none⟩,
    ⟨some 19, .mv (.t 1), none⟩,
    ⟨some 20, .call 90 [(.t 18), (.t 19)], none⟩,
    ⟨some 1, .mv (.t 20), none⟩])
  (.seq (.seq (.ops [⟨some 21, .mv (.t 1), none⟩,
    ⟨some 22, .bin .lss (.t 21) (.k (.int .i64 0)), none⟩])
  (.cond (.t 22)
  (.seq (.ops [⟨some 4, .mv (.k (.int .i64 (-1))), none⟩])
  .ret)
  .skip))
  (.seq (.ops [⟨some 23, .fa 8 1 8 (.t 2), none⟩,
    ⟨some 24, .ld 1 false (.t 23), none⟩,
    ⟨some 25, .mv (.t 1), none⟩,
    ⟨some 26, .call 90 [(.t 24), (.t 25)], none⟩,
    ⟨some 1, .mv (.t 26), none⟩])
  (.seq (.seq (.ops [⟨some 27, .mv (.t 1), none⟩,
    ⟨some 28, .bin .lss (.t 27) (.k (.int .i64 0)), none⟩])
  (.cond (.t 28)
  (.seq (.ops [⟨some 4, .mv (.k (.int .i64 (-1))), none⟩])
  .ret)
  .skip))
  (.seq (.ops [⟨some 29, .mv (.t 1), none⟩,
    ⟨some 4, .mv (.t 29), none⟩])
  .ret))))))))))⟩
theorem c43 : compileF Try.prog [] 43 = some cf43 := by kernel_rfl
theorem tox_MateWantS (t : Nat) (l : List MateWant) (hs : l.length ≤ 1048576 ∧ ∀ y ∈ l, y.small) : XC Try.prog 20 [.ro 7 (l.map MateWant.D)] [] (fun d ls => ∃ b, d = .lsl t b l.length l.length ∧ ls = [(t, b, .arr 7 (l.map MateWant.D) l.length)]) := by
  have h := toS_xc hm c20 (zs := [.str ⟨#[]⟩, .int .i64 0, .str ⟨#[]⟩, .int .i64 0, .int .i64 0, .int .i64 0, .int .i64 0]) (ds := l.map MateWant.D) rfl (by decide) (by decide) (by simpa using hs.1) (fun d hd => by obtain ⟨x, hx, rfl⟩ := List.mem_map.1 hd; exact ⟨_, rfl, rfl, to_MateWant x (hs.2 x hx)⟩)
  rw [List.length_map] at h
  refine h.ren (fun _ _ _ h => h) rfl (fun d ls ⟨b, h1, h2⟩ => ?_)
  subst h1 h2
  exact ⟨_, _, ⟨b, rfl, rfl⟩, fun _ _ _ h => HolL.ren rfl h, fun _ _ _ h => h⟩
theorem markx_MateWantS (s : Nat) (xs : List MateWant) (b0 c0 : Nat) (k : Int) (hk : 1 ≤ k) (hl : xs.length ≤ 1048576) (hB : k + (7 * xs.length : Nat) ≤ 50000000) : XC Try.prog 87 [.lsl s b0 xs.length c0, .int .i64 k] [(s, b0, .arr 7 (xs.map MateWant.D) c0)] (fun d ls => d = .int .i64 (k + (7 * xs.length : Nat)) ∧ ls = [(s, b0, .arr 7 ((mkS mk_MateWant 7 xs k).map MateWant.D) c0)]) := by
  refine (mark_MateWantS xs b0 c0 k hk hl hB).ren (fun _ _ _ h => h) rfl (fun d ls ⟨h1, h2⟩ => ?_)
  subst h1 h2
  exact ⟨_, _, ⟨rfl, rfl⟩, fun _ _ _ h => HolL.ren rfl h, fun _ _ _ h => h⟩
theorem tox_MateRunS (t : Nat) (l : List MateRun) (hs : l.length ≤ 1048576 ∧ ∀ y ∈ l, y.small) : XC Try.prog 25 [.ro 11 (l.map MateRun.D)] [] (fun d ls => ∃ b, d = .lsl t b l.length l.length ∧ ls = [(t, b, .arr 11 (l.map MateRun.D) l.length)]) := by
  have h := toS_xc hm c25 (zs := [.agg [.str ⟨#[]⟩, .int .i64 0, .str ⟨#[]⟩, .int .i64 0, .int .i64 0, .int .i64 0, .int .i64 0], .int .i64 0, .int .i64 0, .int .i64 0, .int .i64 0]) (ds := l.map MateRun.D) rfl (by decide) (by decide) (by simpa using hs.1) (fun d hd => by obtain ⟨x, hx, rfl⟩ := List.mem_map.1 hd; exact ⟨_, rfl, rfl, to_MateRun x (hs.2 x hx)⟩)
  rw [List.length_map] at h
  refine h.ren (fun _ _ _ h => h) rfl (fun d ls ⟨b, h1, h2⟩ => ?_)
  subst h1 h2
  exact ⟨_, _, ⟨b, rfl, rfl⟩, fun _ _ _ h => HolL.ren rfl h, fun _ _ _ h => h⟩
theorem markx_MateRunS (s : Nat) (xs : List MateRun) (b0 c0 : Nat) (k : Int) (hk : 1 ≤ k) (hl : xs.length ≤ 1048576) (hB : k + (11 * xs.length : Nat) ≤ 50000000) : XC Try.prog 33 [.lsl s b0 xs.length c0, .int .i64 k] [(s, b0, .arr 11 (xs.map MateRun.D) c0)] (fun d ls => d = .int .i64 (k + (11 * xs.length : Nat)) ∧ ls = [(s, b0, .arr 11 ((mkS mk_MateRun 11 xs k).map MateRun.D) c0)]) := by
  refine (mark_MateRunS xs b0 c0 k hk hl hB).ren (fun _ _ _ h => h) rfl (fun d ls ⟨h1, h2⟩ => ?_)
  subst h1 h2
  exact ⟨_, _, ⟨rfl, rfl⟩, fun _ _ _ h => HolL.ren rfl h, fun _ _ _ h => h⟩
theorem tox_MateAskS (t : Nat) (l : List MateAsk) (hs : l.length ≤ 1048576 ∧ ∀ y ∈ l, y.small) : XC Try.prog 83 [.ro 4 (l.map MateAsk.D)] [] (fun d ls => ∃ b, d = .lsl t b l.length l.length ∧ ls = [(t, b, .arr 4 (l.map MateAsk.D) l.length)]) := by
  have h := toS_xc hm c83 (zs := [.str ⟨#[]⟩, .str ⟨#[]⟩, .int .i64 0, .int .i64 0]) (ds := l.map MateAsk.D) rfl (by decide) (by decide) (by simpa using hs.1) (fun d hd => by obtain ⟨x, hx, rfl⟩ := List.mem_map.1 hd; exact ⟨_, rfl, rfl, to_MateAsk x (hs.2 x hx)⟩)
  rw [List.length_map] at h
  refine h.ren (fun _ _ _ h => h) rfl (fun d ls ⟨b, h1, h2⟩ => ?_)
  subst h1 h2
  exact ⟨_, _, ⟨b, rfl, rfl⟩, fun _ _ _ h => HolL.ren rfl h, fun _ _ _ h => h⟩
theorem markx_MateAskS (s : Nat) (xs : List MateAsk) (b0 c0 : Nat) (k : Int) (hk : 1 ≤ k) (hl : xs.length ≤ 1048576) (hB : k + (4 * xs.length : Nat) ≤ 50000000) : XC Try.prog 88 [.lsl s b0 xs.length c0, .int .i64 k] [(s, b0, .arr 4 (xs.map MateAsk.D) c0)] (fun d ls => d = .int .i64 (k + (4 * xs.length : Nat)) ∧ ls = [(s, b0, .arr 4 ((mkS mk_MateAsk 4 xs k).map MateAsk.D) c0)]) := by
  refine (mark_MateAskS xs b0 c0 k hk hl hB).ren (fun _ _ _ h => h) rfl (fun d ls ⟨h1, h2⟩ => ?_)
  subst h1 h2
  exact ⟨_, _, ⟨rfl, rfl⟩, fun _ _ _ h => HolL.ren rfl h, fun _ _ _ h => h⟩
def Mate.O (x : Mate) (s1 s2 s3 s4 b1 b2 b3 b4 c1 c2 c3 c4 : Nat) : Go.Ab.D := .agg [.str x.fName, .bool x.fUp, .int .i64 x.fClock, .bool x.fKnown, .int .i64 x.fSeen, .lsl s1 b1 x.fWants.length c1, .lsl s2 b2 x.fRuns.length c2, .lsl s3 b3 x.fAsks.length c3, .lsl s4 b4 x.fGives.length c4]
def Mate.L (x : Mate) (s1 s2 s3 s4 b1 b2 b3 b4 c1 c2 c3 c4 : Nat) : List Go.Ab.Loan := [(s1, b1, .arr 7 (x.fWants.map MateWant.D) c1), (s2, b2, .arr 11 (x.fRuns.map MateRun.D) c2), (s3, b3, .arr 4 (x.fAsks.map MateAsk.D) c3), (s4, b4, .arr 4 (x.fGives.map MateAsk.D) c4)]
set_option maxHeartbeats 4000000 in
theorem tox_Mate0 (x : Mate) (hs : x.small) : XC Try.prog 37 [x.D] [] (fun d ls => ∃ b1 b2 b3 b4, d = x.O 31 32 33 34 b1 b2 b3 b4 x.fWants.length x.fRuns.length x.fAsks.length x.fGives.length ∧ ls = x.L 31 32 33 34 b1 b2 b3 b4 x.fWants.length x.fRuns.length x.fAsks.length x.fGives.length) := by
  refine XC.intro' hm [31, 32, 33, 34] rfl c37 (Nat.le_of_ble_eq_true rfl) ?_
  conv => whnf
  repeat' (first | (refine g_op ?_; conv => whnf) | (refine And.intro ?_ ?_; (focus (first | exact rfl | exact Nat.le_of_ble_eq_true rfl | decide | omega | fail)); conv => whnf) | (refine g_seq ?_) | (refine XS.go ?_) | (refine g_ops ?_) | (refine g_nil ?_; conv => whnf) | (refine fun _ => ?_; conv => whnf) | fail)
  refine XCL.of_XC (ls := []) True.intro ((tox_MateWantS 31 x.fWants hs.fWants).mono fun d ls h => ?_)
  obtain ⟨b1, rfl, rfl⟩ := h
  conv => whnf
  repeat' (first | (refine g_op ?_; conv => whnf) | (refine And.intro ?_ ?_; (focus (first | exact rfl | exact Nat.le_of_ble_eq_true rfl | decide | omega | fail)); conv => whnf) | (refine g_seq ?_) | (refine XS.go ?_) | (refine g_ops ?_) | (refine g_nil ?_; conv => whnf) | fail)
  refine XCL.of_XC (ls := []) True.intro ((tox_MateRunS 32 x.fRuns hs.fRuns).mono fun d ls h => ?_)
  obtain ⟨b2, rfl, rfl⟩ := h
  conv => whnf
  repeat' (first | (refine g_op ?_; conv => whnf) | (refine And.intro ?_ ?_; (focus (first | exact rfl | exact Nat.le_of_ble_eq_true rfl | decide | omega | fail)); conv => whnf) | (refine g_seq ?_) | (refine XS.go ?_) | (refine g_ops ?_) | (refine g_nil ?_; conv => whnf) | fail)
  refine XCL.of_XC (ls := []) True.intro ((tox_MateAskS 33 x.fAsks hs.fAsks).mono fun d ls h => ?_)
  obtain ⟨b3, rfl, rfl⟩ := h
  conv => whnf
  repeat' (first | (refine g_op ?_; conv => whnf) | (refine And.intro ?_ ?_; (focus (first | exact rfl | exact Nat.le_of_ble_eq_true rfl | decide | omega | fail)); conv => whnf) | (refine g_seq ?_) | (refine XS.go ?_) | (refine g_ops ?_) | (refine g_nil ?_; conv => whnf) | fail)
  refine XCL.of_XC (ls := []) True.intro ((tox_MateAskS 34 x.fGives hs.fGives).mono fun d ls h => ?_)
  obtain ⟨b4, rfl, rfl⟩ := h
  conv => whnf
  repeat' (first | (refine g_op ?_; conv => whnf) | (refine And.intro ?_ ?_; (focus (first | exact rfl | exact Nat.le_of_ble_eq_true rfl | decide | omega | fail)); conv => whnf) | (refine g_seq ?_) | (refine XS.go ?_) | (refine g_ops ?_) | (refine g_nil ?_; conv => whnf) | (refine g_ret ?_; conv => whnf) | (refine r_c ?_; conv => whnf) | (refine r_nil ?_; conv => whnf) | fail)
  exact ⟨b1, b2, b3, b4, rfl, rfl⟩
theorem Bor.mateO {st : St} {x : Mate} {s1 s2 s3 s4 b1 b2 b3 b4 c1 c2 c3 c4 k1 k2 k3 k4 : Nat} (h1 : st.lc s1 = some (.arr 7 (x.fWants.map MateWant.D) k1)) (h2 : st.lc s2 = some (.arr 11 (x.fRuns.map MateRun.D) k2)) (h3 : st.lc s3 = some (.arr 4 (x.fAsks.map MateAsk.D) k3)) (h4 : st.lc s4 = some (.arr 4 (x.fGives.map MateAsk.D) k4))
    (g1 : st.gen s1 = b1) (g2 : st.gen s2 = b2) (g3 : st.gen s3 = b3) (g4 : st.gen s4 = b4) : Bor st (x.O s1 s2 s3 s4 b1 b2 b3 b4 c1 c2 c3 c4) x.D :=
  Bor.agg (.cons (Bor.refl _ _) (.cons (Bor.refl _ _) (.cons (Bor.refl _ _) (.cons (Bor.refl _ _) (.cons (Bor.refl _ _) (.cons (Bor.rowM h1 g1 rfl (fun _ => rfl)) (.cons (Bor.rowM h2 g2 rfl (fun _ => rfl)) (.cons (Bor.rowM h3 g3 rfl (fun _ => rfl)) (.cons (Bor.rowM h4 g4 rfl (fun _ => rfl)) .nil))))))))) rfl rfl rfl
set_option maxHeartbeats 4000000 in
theorem impl_Clone (x : Mate) (b1 b2 b3 b4 c1 c2 c3 c4 : Nat) (hs : x.small) : XC Try.prog 84 [x.O 31 32 33 34 b1 b2 b3 b4 c1 c2 c3 c4] (x.L 31 32 33 34 b1 b2 b3 b4 c1 c2 c3 c4) (fun d ls => ∃ d1 d2 d3 d4 e1 e2 e3 e4, d = x.O 5 9 13 17 d1 d2 d3 d4 e1 e2 e3 e4 ∧ ls = x.L 31 32 33 34 b1 b2 b3 b4 c1 c2 c3 c4 ++ x.L 5 9 13 17 d1 d2 d3 d4 e1 e2 e3 e4) := by
  refine XC.intro' hm [31, 32, 33, 34, 5, 9, 13, 17] rfl c84 (Nat.le_of_ble_eq_true rfl) ?_
  conv => whnf
  have l1 := hs.fWants.1
  have l2 := hs.fRuns.1
  have l3 := hs.fAsks.1
  have l4 := hs.fGives.1
  repeat' (first | (refine g_op ?_; conv => whnf) | (refine And.intro ?_ ?_; (focus (first | exact rfl | exact Nat.le_of_ble_eq_true rfl | decide | omega | fail)); conv => whnf) | (refine g_seq ?_) | (refine XS.go ?_) | (refine g_ops ?_) | (refine g_nil ?_; conv => whnf) | (refine fun _ => ?_; conv => whnf) | fail)
  refine ⟨by simp, by rw [List.map_map]; rfl, ?_⟩
  conv => whnf
  refine ⟨by show 0 + _ ≤ _; rw [List.length_map]; omega, Nat.le_of_ble_eq_true rfl, by decide, fun n1 d1 e1 hn1 hc1 => ?_⟩
  have hm1 : n1 = x.fWants.length := by rw [hn1]; show 0 + _ = _; simp
  clear hn1
  subst hm1
  conv => whnf
  repeat' (first | (refine g_op ?_; conv => whnf) | (refine And.intro ?_ ?_; (focus (first | exact rfl | exact Nat.le_of_ble_eq_true rfl | decide | omega | fail)); conv => whnf) | (refine g_seq ?_) | (refine XS.go ?_) | (refine g_ops ?_) | (refine g_nil ?_; conv => whnf) | fail)
  refine ⟨by simp, by rw [List.map_map]; rfl, ?_⟩
  conv => whnf
  refine ⟨by show 0 + _ ≤ _; rw [List.length_map]; omega, Nat.le_of_ble_eq_true rfl, by decide, fun n2 d2 e2 hn2 hc2 => ?_⟩
  have hm2 : n2 = x.fRuns.length := by rw [hn2]; show 0 + _ = _; simp
  clear hn2
  subst hm2
  conv => whnf
  repeat' (first | (refine g_op ?_; conv => whnf) | (refine And.intro ?_ ?_; (focus (first | exact rfl | exact Nat.le_of_ble_eq_true rfl | decide | omega | fail)); conv => whnf) | (refine g_seq ?_) | (refine XS.go ?_) | (refine g_ops ?_) | (refine g_nil ?_; conv => whnf) | fail)
  refine ⟨by simp, by rw [List.map_map]; rfl, ?_⟩
  conv => whnf
  refine ⟨by show 0 + _ ≤ _; rw [List.length_map]; omega, Nat.le_of_ble_eq_true rfl, by decide, fun n3 d3 e3 hn3 hc3 => ?_⟩
  have hm3 : n3 = x.fAsks.length := by rw [hn3]; show 0 + _ = _; simp
  clear hn3
  subst hm3
  conv => whnf
  repeat' (first | (refine g_op ?_; conv => whnf) | (refine And.intro ?_ ?_; (focus (first | exact rfl | exact Nat.le_of_ble_eq_true rfl | decide | omega | fail)); conv => whnf) | (refine g_seq ?_) | (refine XS.go ?_) | (refine g_ops ?_) | (refine g_nil ?_; conv => whnf) | fail)
  refine ⟨by simp, by rw [List.map_map]; rfl, ?_⟩
  conv => whnf
  refine ⟨by show 0 + _ ≤ _; rw [List.length_map]; omega, Nat.le_of_ble_eq_true rfl, by decide, fun n4 d4 e4 hn4 hc4 => ?_⟩
  have hm4 : n4 = x.fGives.length := by rw [hn4]; show 0 + _ = _; simp
  clear hn4
  subst hm4
  conv => whnf
  repeat' (first | (refine g_op ?_; conv => whnf) | (refine And.intro ?_ ?_; (focus (first | exact rfl | exact Nat.le_of_ble_eq_true rfl | decide | omega | fail)); conv => whnf) | (refine g_seq ?_) | (refine XS.go ?_) | (refine g_ops ?_) | (refine g_nil ?_; conv => whnf) | (refine g_ret ?_; conv => whnf) | (refine r_c ?_; conv => whnf) | (refine r_nil ?_; conv => whnf) | fail)
  exact ⟨d1, d2, d3, d4, e1, e2, e3, e4, rfl, rfl⟩
def riseM (x : Mate) : Mate := { x with fUp := x.fUp || decide (x.fClock < 1000000) }
set_option maxHeartbeats 4000000 in
theorem impl_rise (x : Mate) (b : Nat) (s1 s2 s3 s4 b1 b2 b3 b4 c1 c2 c3 c4 : Nat) : XC Try.prog 99 [.lref 3 b [] 0] [(3, b, x.O s1 s2 s3 s4 b1 b2 b3 b4 c1 c2 c3 c4)] (fun d ls => d = .tup [] ∧ ls = [(3, b, (riseM x).O s1 s2 s3 s4 b1 b2 b3 b4 c1 c2 c3 c4)]) := by
  refine XC.intro' hm [3] rfl c99 (Nat.le_of_ble_eq_true rfl) ?_
  conv => whnf
  repeat' (first | (refine z_ld1 ?_; first | (refine z_ld rfl rfl rfl rfl (by first | (simp only [List.length_set]; assumption) | assumption | omega) (by first | exact elt_set (by first | assumption | (simp only [List.length_set]; assumption)) | assumption) ?_; conv => whnf) | (refine z_ld0 rfl ?_; conv => whnf)) | (refine z_ld1g ?_; first | (refine z_ldg rfl rfl rfl rfl rfl rfl rfl (by (repeat intro _); exact ⟨(by first | (simp only [List.length_set]; assumption) | assumption | omega), (by first | exact elt_set (by first | assumption | (simp only [List.length_set]; assumption)) | assumption)⟩) rfl rfl rfl rfl ?_; conv => whnf) | (refine z_ld0g ?_; (conv => whnf); refine And.intro ?_ ?_; (focus exact rfl); conv => whnf)) | (refine z_op ?_ ?_; (focus exact rfl); conv => whnf) | (refine z_opg0 ?_; (conv => whnf); refine And.intro ?_ ?_; (focus exact rfl); conv => whnf) | (refine z_pick ?_ ?_; (focus exact rfl); conv => whnf) | (refine zs_ops ?_ ?_; (focus exact rfl)) | (refine And.intro ?_ ?_; (focus (first | exact rfl | exact Nat.le_of_ble_eq_true rfl | decide | omega | fail)); conv => whnf) | fail)
  refine z_close fun vals => ?_
  conv => whnf
  repeat' (first | (refine z_st1 ?_; first | (refine z_st rfl rfl rfl (by first | (simp only [List.length_set]; assumption) | assumption | omega) (by first | exact elt_set (by first | assumption | (simp only [List.length_set]; assumption)) | assumption) rfl rfl ?_; conv => whnf) | (refine z_st0 ?_; conv => whnf)) | (refine z_nil fun vals => ?_; conv => whnf) | (refine And.intro ?_ ?_; (focus (first | exact rfl | exact Nat.le_of_ble_eq_true rfl | decide | omega | fail)); conv => whnf) | (refine r_nil ?_; conv => whnf) | fail)
  first | exact ⟨rfl, rfl⟩ | exact rfl
set_option maxHeartbeats 4000000 in
theorem spec_Copy (x : Mate) (hs : x.small) : Rdr Try.prog 79 [x.D] x.D := by
  refine Rdr.introF hm [6, 11, 16, 21] rfl c79 (Nat.le_of_ble_eq_true rfl) ?_
  have l1 := hs.fWants.1
  have l2 := hs.fRuns.1
  have l3 := hs.fAsks.1
  have l4 := hs.fGives.1
  conv => whnf
  repeat' (first | (refine g_op ?_; conv => whnf) | (refine And.intro ?_ ?_; (focus (first | exact rfl | exact Nat.le_of_ble_eq_true rfl | decide | omega | fail)); conv => whnf) | (refine g_seq ?_) | (refine XS.go ?_) | (refine g_ops ?_) | (refine g_nil ?_; conv => whnf) | (refine fun _ => ?_; conv => whnf) | fail)
  refine ⟨by show 0 + _ ≤ _; rw [List.length_map]; omega, Nat.le_of_ble_eq_true rfl, by decide, fun n1 d1 e1 hn1 hc1 => ?_⟩
  have hm1 : n1 = x.fWants.length := by rw [hn1]; show 0 + _ = _; simp
  clear hn1
  subst hm1
  conv => whnf
  repeat' (first | (refine g_op ?_; conv => whnf) | (refine And.intro ?_ ?_; (focus (first | exact rfl | exact Nat.le_of_ble_eq_true rfl | decide | omega | fail)); conv => whnf) | (refine g_seq ?_) | (refine XS.go ?_) | (refine g_ops ?_) | (refine g_nil ?_; conv => whnf) | fail)
  refine ⟨by show 0 + _ ≤ _; rw [List.length_map]; omega, Nat.le_of_ble_eq_true rfl, by decide, fun n2 d2 e2 hn2 hc2 => ?_⟩
  have hm2 : n2 = x.fRuns.length := by rw [hn2]; show 0 + _ = _; simp
  clear hn2
  subst hm2
  conv => whnf
  repeat' (first | (refine g_op ?_; conv => whnf) | (refine And.intro ?_ ?_; (focus (first | exact rfl | exact Nat.le_of_ble_eq_true rfl | decide | omega | fail)); conv => whnf) | (refine g_seq ?_) | (refine XS.go ?_) | (refine g_ops ?_) | (refine g_nil ?_; conv => whnf) | fail)
  refine ⟨by show 0 + _ ≤ _; rw [List.length_map]; omega, Nat.le_of_ble_eq_true rfl, by decide, fun n3 d3 e3 hn3 hc3 => ?_⟩
  have hm3 : n3 = x.fAsks.length := by rw [hn3]; show 0 + _ = _; simp
  clear hn3
  subst hm3
  conv => whnf
  repeat' (first | (refine g_op ?_; conv => whnf) | (refine And.intro ?_ ?_; (focus (first | exact rfl | exact Nat.le_of_ble_eq_true rfl | decide | omega | fail)); conv => whnf) | (refine g_seq ?_) | (refine XS.go ?_) | (refine g_ops ?_) | (refine g_nil ?_; conv => whnf) | fail)
  refine ⟨by show 0 + _ ≤ _; rw [List.length_map]; omega, Nat.le_of_ble_eq_true rfl, by decide, fun n4 d4 e4 hn4 hc4 => ?_⟩
  have hm4 : n4 = x.fGives.length := by rw [hn4]; show 0 + _ = _; simp
  clear hn4
  subst hm4
  conv => whnf
  repeat' (first | (refine g_op ?_; conv => whnf) | (refine And.intro ?_ ?_; (focus (first | exact rfl | exact Nat.le_of_ble_eq_true rfl | decide | omega | fail)); conv => whnf) | (refine g_seq ?_) | (refine XS.go ?_) | (refine g_ops ?_) | (refine g_nil ?_; conv => whnf) | (refine g_ret ?_; conv => whnf) | (refine r_c ?_; conv => whnf) | (refine r_nil ?_; conv => whnf) | fail)
  have t1 : (D.frozs (x.fWants.map MateWant.D)).take x.fWants.length = x.fWants.map MateWant.D := by rw [D.frozs_map (fun _ => rfl), List.take_of_length_le (by simp)]
  have t2 : (D.frozs (x.fRuns.map MateRun.D)).take x.fRuns.length = x.fRuns.map MateRun.D := by rw [D.frozs_map (fun _ => rfl), List.take_of_length_le (by simp)]
  have t3 : (D.frozs (x.fAsks.map MateAsk.D)).take x.fAsks.length = x.fAsks.map MateAsk.D := by rw [D.frozs_map (fun _ => rfl), List.take_of_length_le (by simp)]
  have t4 : (D.frozs (x.fGives.map MateAsk.D)).take x.fGives.length = x.fGives.map MateAsk.D := by rw [D.frozs_map (fun _ => rfl), List.take_of_length_le (by simp)]
  refine ⟨⟨True.intro, True.intro, True.intro, True.intro, True.intro, ⟨rfl, Nat.le_of_eq (by simp)⟩, ⟨rfl, Nat.le_of_eq (by simp)⟩, ⟨rfl, Nat.le_of_eq (by simp)⟩, ⟨rfl, Nat.le_of_eq (by simp)⟩, True.intro⟩, ?_⟩
  show D.agg [.str x.fName, .bool x.fUp, .int .i64 x.fClock, .bool x.fKnown, .int .i64 x.fSeen, .ro 7 ((D.frozs (x.fWants.map MateWant.D)).take x.fWants.length), .ro 11 ((D.frozs (x.fRuns.map MateRun.D)).take x.fRuns.length), .ro 4 ((D.frozs (x.fAsks.map MateAsk.D)).take x.fAsks.length), .ro 4 ((D.frozs (x.fGives.map MateAsk.D)).take x.fGives.length)] = x.D
  rw [t1, t2, t3, t4]
  rfl
def riseR (x : Mate) : Mate := if validM x then riseM x else default
def mateZ : D := .agg [.str ⟨#[]⟩, .bool false, .int .i64 0, .bool false, .int .i64 0, .nil, .nil, .nil, .nil]
theorem mateZ_ro (U : Nat → Prop) (w : World) (v : Value) (h : RelV U w mateZ v) : RelV U w (default : Mate).D v :=
  RelV.aggImp (RelF.imp (fun _ h => h) (RelF.imp (fun _ h => h) (RelF.imp (fun _ h => h) (RelF.imp (fun _ h => h) (RelF.imp (fun _ h => h) (RelF.imp (fun _ h => nil_ro h) (RelF.imp (fun _ h => nil_ro h) (RelF.imp (fun _ h => nil_ro h) (RelF.imp (fun _ h => nil_ro h) (fun _ h => h)))))))))) v h
theorem mateZ_own (s1 s2 s3 s4 : Nat) (U : Nat → Prop) (w : World) (v : Value) (h : RelV U w mateZ v) : RelV U w ((default : Mate).O s1 s2 s3 s4 0 0 0 0 0 0 0 0) v :=
  RelV.aggImp (RelF.imp (fun _ h => h) (RelF.imp (fun _ h => h) (RelF.imp (fun _ h => h) (RelF.imp (fun _ h => h) (RelF.imp (fun _ h => h) (RelF.imp (fun _ h => nil_lsl h) (RelF.imp (fun _ h => nil_lsl h) (RelF.imp (fun _ h => nil_lsl h) (RelF.imp (fun _ h => nil_lsl h) (fun _ h => h)))))))))) v h
theorem mateZ_hol (s1 s2 s3 s4 : Nat) (U : Nat → Prop) (w : World) : HolL U w ((default : Mate).L s1 s2 s3 s4 0 0 0 0 0 0 0 0) [] :=
  .snil _ _ _ (.snil _ _ _ (.snil _ _ _ (.snil _ _ _ rfl)))
set_option maxHeartbeats 4000000 in
theorem spec_Rise (x : Mate) (hs : x.small) : Rdr Try.prog 52 [x.D] (riseR x).D := by
  cases hv : validM x with
  | false =>
    have e : riseR x = default := by simp [riseR, hv]
    rw [e]
    refine Rdr.imp (d := mateZ) ?_ mateZ_ro
    have hq := spec_MateValid x
    rw [hv] at hq
    refine Rdr.intro' hm c52 (Nat.le_of_ble_eq_true rfl) ?_
    conv => whnf
    repeat' (first | (refine g_op ?_; conv => whnf) | (refine And.intro ?_ ?_; (focus (first | exact rfl | exact Nat.le_of_ble_eq_true rfl | decide | omega | fail)); conv => whnf) | (refine g_seq ?_) | (refine XS.go ?_) | (refine g_ops ?_) | (refine g_nil ?_; conv => whnf) | (refine Br.t ?_ ?_; (focus (first | assumption | exact rfl)); conv => whnf) | (refine g_cond ?_; conv => whnf) | (refine g_ret ?_; conv => whnf) | (refine r_c ?_; conv => whnf) | (refine r_nil ?_; conv => whnf) | (refine fun _ => ?_; conv => whnf) | (refine XCL.of_rdr (hq) ?_; conv => whnf) | fail)
    rfl
  | true =>
    have e : riseR x = riseM x := by simp [riseR, hv]
    rw [e]
    have hq := spec_MateValid x
    rw [hv] at hq
    refine Rdr.intro' hm c52 (Nat.le_of_ble_eq_true rfl) ?_
    conv => whnf
    repeat' (first | (refine g_op ?_; conv => whnf) | (refine And.intro ?_ ?_; (focus (first | exact rfl | exact Nat.le_of_ble_eq_true rfl | decide | omega | fail)); conv => whnf) | (refine g_seq ?_) | (refine XS.go ?_) | (refine g_ops ?_) | (refine g_nil ?_; conv => whnf) | (refine Br.f ?_ ?_; (focus (first | assumption | exact rfl)); conv => whnf) | (refine g_cond ?_; conv => whnf) | (refine g_skip ?_; conv => whnf) | (refine fun _ => ?_; conv => whnf) | (refine XCL.of_rdr (hq) ?_; conv => whnf) | (refine XCL.of_rdr (spec_Copy x hs) ?_; conv => whnf) | fail)
    refine Br.mk (fun hb => ?_) (fun hb => ?_)
    · have hr : riseM x = { x with fUp := true } := by simp only [riseM]; rw [hb]; simp
      rw [hr]
      conv => whnf
      repeat' (first | (refine g_op ?_; conv => whnf) | (refine And.intro ?_ ?_; (focus (first | exact rfl | exact Nat.le_of_ble_eq_true rfl | decide | omega | fail)); conv => whnf) | (refine g_seq ?_) | (refine XS.go ?_) | (refine g_ops ?_) | (refine g_nil ?_; conv => whnf) | (refine g_ret ?_; conv => whnf) | (refine r_c ?_; conv => whnf) | (refine r_nil ?_; conv => whnf) | fail)
      rfl
    have hr : riseM x = x := by simp only [riseM]; rw [hb]; simp
    rw [hr]
    conv => whnf
    repeat' (first | (refine g_op ?_; conv => whnf) | (refine And.intro ?_ ?_; (focus (first | exact rfl | exact Nat.le_of_ble_eq_true rfl | decide | omega | fail)); conv => whnf) | (refine g_seq ?_) | (refine XS.go ?_) | (refine g_ops ?_) | (refine g_nil ?_; conv => whnf) | (refine g_skip ?_; conv => whnf) | (refine g_ret ?_; conv => whnf) | (refine r_c ?_; conv => whnf) | (refine r_nil ?_; conv => whnf) | fail)
    rfl
set_option maxHeartbeats 4000000 in
theorem impl_Rise (x : Mate) (b1 b2 b3 b4 c1 c2 c3 c4 : Nat) (hs : x.small) : XC Try.prog 49 [x.O 31 32 33 34 b1 b2 b3 b4 c1 c2 c3 c4] (x.L 31 32 33 34 b1 b2 b3 b4 c1 c2 c3 c4) (fun d ls => ∃ d1 d2 d3 d4 e1 e2 e3 e4, d = (riseR x).O 5 9 13 17 d1 d2 d3 d4 e1 e2 e3 e4 ∧ ls = x.L 31 32 33 34 b1 b2 b3 b4 c1 c2 c3 c4 ++ (riseR x).L 5 9 13 17 d1 d2 d3 d4 e1 e2 e3 e4) := by
  cases hv : validM x with
  | false =>
    have e : riseR x = default := by simp [riseR, hv]
    rw [e]
    have hq := impl_MateValid x
    rw [hv] at hq
    have h : XC Try.prog 49 [x.O 31 32 33 34 b1 b2 b3 b4 c1 c2 c3 c4] (x.L 31 32 33 34 b1 b2 b3 b4 c1 c2 c3 c4) (fun d ls => d = mateZ ∧ ls = x.L 31 32 33 34 b1 b2 b3 b4 c1 c2 c3 c4) := by
      refine XC.intro' hm [31, 32, 33, 34] rfl c49 (Nat.le_of_ble_eq_true rfl) ?_
      conv => whnf
      repeat' (first | (refine g_op ?_; conv => whnf) | (refine And.intro ?_ ?_; (focus (first | exact rfl | exact Nat.le_of_ble_eq_true rfl | decide | omega | fail)); conv => whnf) | (refine g_seq ?_) | (refine XS.go ?_) | (refine g_ops ?_) | (refine g_nil ?_; conv => whnf) | (refine fun _ => ?_; conv => whnf) | fail)
      refine XCL.of_rdrB hq (.cons (Bor.mateO rfl rfl rfl rfl rfl rfl rfl rfl) .nil) rfl ?_
      conv => whnf
      repeat' (first | (refine g_op ?_; conv => whnf) | (refine And.intro ?_ ?_; (focus (first | exact rfl | exact Nat.le_of_ble_eq_true rfl | decide | omega | fail)); conv => whnf) | (refine g_seq ?_) | (refine XS.go ?_) | (refine g_ops ?_) | (refine g_nil ?_; conv => whnf) | (refine Br.t ?_ ?_; (focus (first | assumption | exact rfl)); conv => whnf) | (refine g_cond ?_; conv => whnf) | (refine g_ret ?_; conv => whnf) | (refine r_c ?_; conv => whnf) | (refine r_nil ?_; conv => whnf) | fail)
      first | exact ⟨rfl, rfl⟩ | exact rfl
    refine h.ren (fun _ _ _ h => h) rfl (fun d l ⟨h1, h2⟩ => ?_)
    subst h1 h2
    exact ⟨_, _, ⟨0, 0, 0, 0, 0, 0, 0, 0, rfl, rfl⟩, fun U w F h => HolL.app (mateZ_hol _ _ _ _ U w) h, mateZ_own _ _ _ _⟩
  | true =>
    have e : riseR x = riseM x := by simp [riseR, hv]
    rw [e]
    have hq := impl_MateValid x
    rw [hv] at hq
    refine XC.intro' hm [31, 32, 33, 34, 5, 9, 13, 17] rfl c49 (Nat.le_of_ble_eq_true rfl) ?_
    conv => whnf
    repeat' (first | (refine g_op ?_; conv => whnf) | (refine And.intro ?_ ?_; (focus (first | exact rfl | exact Nat.le_of_ble_eq_true rfl | decide | omega | fail)); conv => whnf) | (refine g_seq ?_) | (refine XS.go ?_) | (refine g_ops ?_) | (refine g_nil ?_; conv => whnf) | (refine fun _ => ?_; conv => whnf) | fail)
    refine XCL.of_rdrB hq (.cons (Bor.mateO rfl rfl rfl rfl rfl rfl rfl rfl) .nil) rfl ?_
    conv => whnf
    repeat' (first | (refine g_op ?_; conv => whnf) | (refine And.intro ?_ ?_; (focus (first | exact rfl | exact Nat.le_of_ble_eq_true rfl | decide | omega | fail)); conv => whnf) | (refine g_seq ?_) | (refine XS.go ?_) | (refine g_ops ?_) | (refine g_nil ?_; conv => whnf) | (refine Br.f ?_ ?_; (focus (first | assumption | exact rfl)); conv => whnf) | (refine g_cond ?_; conv => whnf) | (refine g_skip ?_; conv => whnf) | fail)
    refine XCL.of_XC (ls := x.L 31 32 33 34 b1 b2 b3 b4 c1 c2 c3 c4) ⟨rfl, rfl, rfl, rfl, rfl, rfl, rfl, rfl, rfl, rfl, rfl, rfl, True.intro⟩ ((impl_Clone x b1 b2 b3 b4 c1 c2 c3 c4 hs).mono fun d ls h => ?_)
    obtain ⟨d1, d2, d3, d4, e1, e2, e3, e4, rfl, rfl⟩ := h
    conv => whnf
    repeat' (first | (refine g_op ?_; conv => whnf) | (refine And.intro ?_ ?_; (focus (first | exact rfl | exact Nat.le_of_ble_eq_true rfl | decide | omega | fail)); conv => whnf) | (refine g_seq ?_) | (refine XS.go ?_) | (refine g_ops ?_) | (refine g_nil ?_; conv => whnf) | (refine fun _ => ?_; conv => whnf) | fail)
    refine XCL.of_XC (ls := [(3, _, x.O 5 9 13 17 d1 d2 d3 d4 e1 e2 e3 e4)]) ⟨rfl, rfl, rfl, True.intro⟩ ((impl_rise x _ 5 9 13 17 d1 d2 d3 d4 e1 e2 e3 e4).mono fun d ls h => ?_)
    obtain ⟨rfl, rfl⟩ := h
    conv => whnf
    repeat' (first | (refine g_op ?_; conv => whnf) | (refine And.intro ?_ ?_; (focus (first | exact rfl | exact Nat.le_of_ble_eq_true rfl | decide | omega | fail)); conv => whnf) | (refine g_seq ?_) | (refine XS.go ?_) | (refine g_ops ?_) | (refine g_nil ?_; conv => whnf) | (refine g_ret ?_; conv => whnf) | (refine r_c ?_; conv => whnf) | (refine r_nil ?_; conv => whnf) | fail)
    exact ⟨d1, d2, d3, d4, e1, e2, e3, e4, rfl, rfl⟩
end Go.Ab
