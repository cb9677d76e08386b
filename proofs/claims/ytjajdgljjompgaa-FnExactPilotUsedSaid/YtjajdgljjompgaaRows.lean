/-
  No cell of these rows narrows 'for every input' (looked for: loops, veiled, ifaces, maps, wideKeys, modest, calm, conditions, laid).
  DERIVED. THE GIVEN ROWS OF THIS SEAT. 5 by the template 'for every input the law returns true; each argument reads behind the call as it read before'; 0 by the template 'total and deterministic' (their statements: YtjajdgljjompgaaTotals.lean).
  GIVEN WITH THE SEED: the statements are not yours to turn. If you find one false, say at which input.
  Laid BY PROGRAM, IN A SANDBOX (cutbox-rows.mjs): the forced cells as the released guide's own fill.sh prints them over the translation f2a3aa202ddc6334… (all of the seat's roots in one cut). By AI agents, Wed Nov 11 2026. No macro, syntax, notation, axiom, sorry.
-/
import Derived.Test.YtjajdgljjompgaaChecked
import GoSem.Claim
import GoSem.ClaimJoined
import GoSem.ClaimMapViews
import Derived.JoinedTies
import Derived.KernelRfl
namespace Go.Proofs.Ytjajdgljjompgaa
/- THE CELL 'sum', in the pinned program and in every row, IS THE sha256 OF THE DUMP (.gsa) THAT YtjajdgljjompgaaProg.lean LOADS. Nothing in Lean hashes anything: it is a label: what it is worth is what the hold of that sum in a sandbox is worth. -/
noncomputable def Try.pinned : Pinned := { name := "ytjajdgljjompgaa", sum := "f2a3aa202ddc63346bbf7b716d97a77804afa5d228ba7b47265e036c9d388a58", checked := Try.checked }
namespace Rows
def none {H : Type} : Left H := { results := [], args := [] }

/-- 'laws.FnExactConstants': WHATEVER THE INPUT: true; the input reads as it did. -/
def fnExactConstantsSpec : ChangeSpec := { name := "fnExactConstants", fn := fun _ => fun
  | [] => { results := [.lit (.bool true)], args := [] }
  | _ => none }
def fnExactConstantsRow : OpenClaim := { program := "ytjajdgljjompgaa", sum := "f2a3aa202ddc63346bbf7b716d97a77804afa5d228ba7b47265e036c9d388a58", func := "loop.example/wharffleet/laws.FnExactConstants", spec := "fnExactConstants", apart := false }
def FnExactConstantsSaid : Prop := fnExactConstantsRow.holds Try.pinned (OpenSpec.ofChange fnExactConstantsSpec)

/-- ITS FALSE NEIGHBOUR: 'it returns false'. Refute it at one input. -/
def fnExactConstantsWrong : ChangeSpec := { name := "fnExactConstants", fn := fun _ => fun
  | [] => { results := [.lit (.bool false)], args := [] }
  | _ => none }
def FnExactConstantsWrongFalsely : Prop := fnExactConstantsRow.holds Try.pinned (OpenSpec.ofChange fnExactConstantsWrong)

/-- 'laws.FnExactPilotBetter': WHATEVER THE INPUT: true; the input reads as it did. -/
def fnExactPilotBetterSpec : ChangeSpec := { name := "fnExactPilotBetter", fn := fun _ => fun
  | [d1, d2, d3] => { results := [.lit (.bool true)], args := [d1, d2, d3] }
  | _ => none }
def fnExactPilotBetterRow : OpenClaim := { program := "ytjajdgljjompgaa", sum := "f2a3aa202ddc63346bbf7b716d97a77804afa5d228ba7b47265e036c9d388a58", func := "loop.example/wharffleet/laws.FnExactPilotBetter", spec := "fnExactPilotBetter", apart := false }
def FnExactPilotBetterSaid : Prop := fnExactPilotBetterRow.holds Try.pinned (OpenSpec.ofChange fnExactPilotBetterSpec)

/-- ITS FALSE NEIGHBOUR: 'it returns false'. Refute it at one input. -/
def fnExactPilotBetterWrong : ChangeSpec := { name := "fnExactPilotBetter", fn := fun _ => fun
  | [d1, d2, d3] => { results := [.lit (.bool false)], args := [d1, d2, d3] }
  | _ => none }
def FnExactPilotBetterWrongFalsely : Prop := fnExactPilotBetterRow.holds Try.pinned (OpenSpec.ofChange fnExactPilotBetterWrong)

/-- 'laws.FnExactPilotLess': WHATEVER THE INPUT: true; the input reads as it did. -/
def fnExactPilotLessSpec : ChangeSpec := { name := "fnExactPilotLess", fn := fun _ => fun
  | [d1, d2] => { results := [.lit (.bool true)], args := [d1, d2] }
  | _ => none }
def fnExactPilotLessRow : OpenClaim := { program := "ytjajdgljjompgaa", sum := "f2a3aa202ddc63346bbf7b716d97a77804afa5d228ba7b47265e036c9d388a58", func := "loop.example/wharffleet/laws.FnExactPilotLess", spec := "fnExactPilotLess", apart := false }
def FnExactPilotLessSaid : Prop := fnExactPilotLessRow.holds Try.pinned (OpenSpec.ofChange fnExactPilotLessSpec)

/-- ITS FALSE NEIGHBOUR: 'it returns false'. Refute it at one input. -/
def fnExactPilotLessWrong : ChangeSpec := { name := "fnExactPilotLess", fn := fun _ => fun
  | [d1, d2] => { results := [.lit (.bool false)], args := [d1, d2] }
  | _ => none }
def FnExactPilotLessWrongFalsely : Prop := fnExactPilotLessRow.holds Try.pinned (OpenSpec.ofChange fnExactPilotLessWrong)

/-- 'laws.FnExactPilotUsed': WHATEVER THE INPUT: true; the input reads as it did. -/
def fnExactPilotUsedSpec : ChangeSpec := { name := "fnExactPilotUsed", fn := fun _ => fun
  | [d1, d2] => { results := [.lit (.bool true)], args := [d1, d2] }
  | _ => none }
def fnExactPilotUsedRow : OpenClaim := { program := "ytjajdgljjompgaa", sum := "f2a3aa202ddc63346bbf7b716d97a77804afa5d228ba7b47265e036c9d388a58", func := "loop.example/wharffleet/laws.FnExactPilotUsed", spec := "fnExactPilotUsed", unfollowed := true, recurses := true, apart := false }
def FnExactPilotUsedSaid : Prop := fnExactPilotUsedRow.holds Try.pinned (OpenSpec.ofChange fnExactPilotUsedSpec)

/-- ITS FALSE NEIGHBOUR: 'it returns false'. Refute it at one input. -/
def fnExactPilotUsedWrong : ChangeSpec := { name := "fnExactPilotUsed", fn := fun _ => fun
  | [d1, d2] => { results := [.lit (.bool false)], args := [d1, d2] }
  | _ => none }
def FnExactPilotUsedWrongFalsely : Prop := fnExactPilotUsedRow.holds Try.pinned (OpenSpec.ofChange fnExactPilotUsedWrong)

/-- 'laws.FnExactFleetReportOf': WHATEVER THE INPUT: true; the input reads as it did. -/
def fnExactFleetReportOfSpec : ChangeSpec := { name := "fnExactFleetReportOf", fn := fun _ => fun
  | [d] => { results := [.lit (.bool true)], args := [d] }
  | _ => none }
def fnExactFleetReportOfRow : OpenClaim := { program := "ytjajdgljjompgaa", sum := "f2a3aa202ddc63346bbf7b716d97a77804afa5d228ba7b47265e036c9d388a58", func := "loop.example/wharffleet/laws.FnExactFleetReportOf", spec := "fnExactFleetReportOf", unfollowed := true, recurses := true, apart := false }
def FnExactFleetReportOfSaid : Prop := fnExactFleetReportOfRow.holds Try.pinned (OpenSpec.ofChange fnExactFleetReportOfSpec)

/-- ITS FALSE NEIGHBOUR: 'it returns false'. Refute it at one input. -/
def fnExactFleetReportOfWrong : ChangeSpec := { name := "fnExactFleetReportOf", fn := fun _ => fun
  | [d] => { results := [.lit (.bool false)], args := [d] }
  | _ => none }
def FnExactFleetReportOfWrongFalsely : Prop := fnExactFleetReportOfRow.holds Try.pinned (OpenSpec.ofChange fnExactFleetReportOfWrong)

/- THE SECOND FORM. 'bulk': how many values and letters a reading holds, each counted each time it is reached (what is shared counts as often as it is met; a slice's spare places count too). A statement '..UptoSaid' is the law's where the arguments, and the package variables that the reading takes, are together of bulk at most 1048576: NARROWER than '..Said'. Prove '..Said' where nothing that the law and all that it calls make is longer than what came in: it says more and counts as full. Else prove '..UptoSaid'. A law counts once. -/
mutual
def uptoBulk {H : Type} : DataW H → Nat
  | .lit (.string bytes) => bytes.length + 1
  | .lit _ => 1
  | .nil => 1
  | .ptr d => uptoBulk d + 1
  | .slice elems spare => uptoBulkAll elems + uptoBulkAll spare + 1
  | .agg parts => uptoBulkAll parts + 1
  | .iface _ d => uptoBulk d + 1
  | .map entries => uptoBulkEntries entries + 1
  | .held _ => 1
def uptoBulkAll {H : Type} : List (DataW H) → Nat
  | [] => 0
  | d :: r => uptoBulk d + uptoBulkAll r
def uptoBulkEntries {H : Type} : List (Lit × DataW H) → Nat
  | [] => 0
  | x :: r => uptoBulkEntry x + uptoBulkEntries r
def uptoBulkEntry {H : Type} : Lit × DataW H → Nat
  | (.string bytes, d) => bytes.length + uptoBulk d + 1
  | (_, d) => uptoBulk d + 1
 end
def uptoSmall : (H : Type) → List (DataW H) → Bool := fun _ ds => decide (uptoBulkAll ds ≤ 1048576)
def OpenSpec.upto (s : _root_.Go.ChangeSpec) : _root_.Go.OpenSpec := { _root_.Go.OpenSpec.ofChange s with cond := some uptoSmall }

/-- 'laws.FnExactConstants', WHERE WHAT IT READS IS OF BULK AT MOST 1048576: true; the input reads as it did. -/
def fnExactConstantsUptoRow : OpenClaim := { program := "ytjajdgljjompgaa", sum := "f2a3aa202ddc63346bbf7b716d97a77804afa5d228ba7b47265e036c9d388a58", func := "loop.example/wharffleet/laws.FnExactConstants", spec := "fnExactConstants", apart := false, narrowed := true }
def FnExactConstantsUptoSaid : Prop := fnExactConstantsUptoRow.holds Try.pinned (OpenSpec.upto fnExactConstantsSpec)

/-- 'laws.FnExactPilotBetter', WHERE WHAT IT READS IS OF BULK AT MOST 1048576: true; the input reads as it did. -/
def fnExactPilotBetterUptoRow : OpenClaim := { program := "ytjajdgljjompgaa", sum := "f2a3aa202ddc63346bbf7b716d97a77804afa5d228ba7b47265e036c9d388a58", func := "loop.example/wharffleet/laws.FnExactPilotBetter", spec := "fnExactPilotBetter", apart := false, narrowed := true }
def FnExactPilotBetterUptoSaid : Prop := fnExactPilotBetterUptoRow.holds Try.pinned (OpenSpec.upto fnExactPilotBetterSpec)

/-- 'laws.FnExactPilotLess', WHERE WHAT IT READS IS OF BULK AT MOST 1048576: true; the input reads as it did. -/
def fnExactPilotLessUptoRow : OpenClaim := { program := "ytjajdgljjompgaa", sum := "f2a3aa202ddc63346bbf7b716d97a77804afa5d228ba7b47265e036c9d388a58", func := "loop.example/wharffleet/laws.FnExactPilotLess", spec := "fnExactPilotLess", apart := false, narrowed := true }
def FnExactPilotLessUptoSaid : Prop := fnExactPilotLessUptoRow.holds Try.pinned (OpenSpec.upto fnExactPilotLessSpec)

/-- 'laws.FnExactPilotUsed', WHERE WHAT IT READS IS OF BULK AT MOST 1048576: true; the input reads as it did. -/
def fnExactPilotUsedUptoRow : OpenClaim := { program := "ytjajdgljjompgaa", sum := "f2a3aa202ddc63346bbf7b716d97a77804afa5d228ba7b47265e036c9d388a58", func := "loop.example/wharffleet/laws.FnExactPilotUsed", spec := "fnExactPilotUsed", unfollowed := true, recurses := true, apart := false, narrowed := true }
def FnExactPilotUsedUptoSaid : Prop := fnExactPilotUsedUptoRow.holds Try.pinned (OpenSpec.upto fnExactPilotUsedSpec)

/-- 'laws.FnExactFleetReportOf', WHERE WHAT IT READS IS OF BULK AT MOST 1048576: true; the input reads as it did. -/
def fnExactFleetReportOfUptoRow : OpenClaim := { program := "ytjajdgljjompgaa", sum := "f2a3aa202ddc63346bbf7b716d97a77804afa5d228ba7b47265e036c9d388a58", func := "loop.example/wharffleet/laws.FnExactFleetReportOf", spec := "fnExactFleetReportOf", unfollowed := true, recurses := true, apart := false, narrowed := true }
def FnExactFleetReportOfUptoSaid : Prop := fnExactFleetReportOfUptoRow.holds Try.pinned (OpenSpec.upto fnExactFleetReportOfSpec)

end Rows
end Go.Proofs.Ytjajdgljjompgaa
