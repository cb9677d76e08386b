/-
  No cell of these rows narrows 'for every input' (looked for: loops, veiled, ifaces, maps, wideKeys, modest, calm, conditions, laid).
  DERIVED. THE GIVEN ROWS OF THIS SEAT. 12 by the template 'for every input the law returns true; each argument reads behind the call as it read before'; 0 by the template 'total and deterministic' (their statements: YtalddljlemppnaaTotals.lean).
  GIVEN WITH THE SEED: the statements are not yours to turn. If you find one false, say at which input.
  Laid BY PROGRAM, IN A SANDBOX (cutbox-rows.mjs): the forced cells as the released guide's own fill.sh prints them over the translation 9d2257735e7daeb7… (all of the seat's roots in one cut). By AI agents, Wed Nov 11 2026. No macro, syntax, notation, axiom, sorry.
-/
import Derived.Test.YtalddljlemppnaaChecked
import GoSem.Claim
import GoSem.ClaimJoined
import GoSem.ClaimMapViews
import Derived.JoinedTies
import Derived.KernelRfl
namespace Go.Proofs.Ytalddljlemppnaa
/- THE CELL 'sum', in the pinned program and in every row, IS THE sha256 OF THE DUMP (.gsa) THAT YtalddljlemppnaaProg.lean LOADS. Nothing in Lean hashes anything: it is a label: what it is worth is what the hold of that sum in a sandbox is worth. -/
noncomputable def Try.pinned : Pinned := { name := "ytalddljlemppnaa", sum := "9d2257735e7daeb755a657b7a03aaff6e0d04e7d1115281e370ab92d71a9bdaf", checked := Try.checked }
namespace Rows
def none {H : Type} : Left H := { results := [], args := [] }

/-- 'laws.FnStewActs': WHATEVER THE INPUT: true; the input reads as it did. -/
def fnStewActsSpec : ChangeSpec := { name := "fnStewActs", fn := fun _ => fun
  | [d] => { results := [.lit (.bool true)], args := [d] }
  | _ => none }
def fnStewActsRow : OpenClaim := { program := "ytalddljlemppnaa", sum := "9d2257735e7daeb755a657b7a03aaff6e0d04e7d1115281e370ab92d71a9bdaf", func := "loop.example/wharffleet/laws.FnStewActs", spec := "fnStewActs", inPlace := ["slices.overlaps[loop.example/wharffleet/impl.StewCopy]"], unfollowed := true, recurses := true, apart := false }
def FnStewActsSaid : Prop := fnStewActsRow.holds Try.pinned (OpenSpec.ofChange fnStewActsSpec)

/-- ITS FALSE NEIGHBOUR: 'it returns false'. Refute it at one input. -/
def fnStewActsWrong : ChangeSpec := { name := "fnStewActs", fn := fun _ => fun
  | [d] => { results := [.lit (.bool false)], args := [d] }
  | _ => none }
def FnStewActsWrongFalsely : Prop := fnStewActsRow.holds Try.pinned (OpenSpec.ofChange fnStewActsWrong)

/-- 'laws.FnExactStewValid': WHATEVER THE INPUT: true; the input reads as it did. -/
def fnExactStewValidSpec : ChangeSpec := { name := "fnExactStewValid", fn := fun _ => fun
  | [d] => { results := [.lit (.bool true)], args := [d] }
  | _ => none }
def fnExactStewValidRow : OpenClaim := { program := "ytalddljlemppnaa", sum := "9d2257735e7daeb755a657b7a03aaff6e0d04e7d1115281e370ab92d71a9bdaf", func := "loop.example/wharffleet/laws.FnExactStewValid", spec := "fnExactStewValid", apart := false }
def FnExactStewValidSaid : Prop := fnExactStewValidRow.holds Try.pinned (OpenSpec.ofChange fnExactStewValidSpec)

/-- ITS FALSE NEIGHBOUR: 'it returns false'. Refute it at one input. -/
def fnExactStewValidWrong : ChangeSpec := { name := "fnExactStewValid", fn := fun _ => fun
  | [d] => { results := [.lit (.bool false)], args := [d] }
  | _ => none }
def FnExactStewValidWrongFalsely : Prop := fnExactStewValidRow.holds Try.pinned (OpenSpec.ofChange fnExactStewValidWrong)

/-- 'laws.FnExactStewWorldOk': WHATEVER THE INPUT: true; the input reads as it did. -/
def fnExactStewWorldOkSpec : ChangeSpec := { name := "fnExactStewWorldOk", fn := fun _ => fun
  | [d] => { results := [.lit (.bool true)], args := [d] }
  | _ => none }
def fnExactStewWorldOkRow : OpenClaim := { program := "ytalddljlemppnaa", sum := "9d2257735e7daeb755a657b7a03aaff6e0d04e7d1115281e370ab92d71a9bdaf", func := "loop.example/wharffleet/laws.FnExactStewWorldOk", spec := "fnExactStewWorldOk", apart := false }
def FnExactStewWorldOkSaid : Prop := fnExactStewWorldOkRow.holds Try.pinned (OpenSpec.ofChange fnExactStewWorldOkSpec)

/-- ITS FALSE NEIGHBOUR: 'it returns false'. Refute it at one input. -/
def fnExactStewWorldOkWrong : ChangeSpec := { name := "fnExactStewWorldOk", fn := fun _ => fun
  | [d] => { results := [.lit (.bool false)], args := [d] }
  | _ => none }
def FnExactStewWorldOkWrongFalsely : Prop := fnExactStewWorldOkRow.holds Try.pinned (OpenSpec.ofChange fnExactStewWorldOkWrong)

/-- 'laws.FnExactStewCountOf': WHATEVER THE INPUT: true; the input reads as it did. -/
def fnExactStewCountOfSpec : ChangeSpec := { name := "fnExactStewCountOf", fn := fun _ => fun
  | [d1, d2] => { results := [.lit (.bool true)], args := [d1, d2] }
  | _ => none }
def fnExactStewCountOfRow : OpenClaim := { program := "ytalddljlemppnaa", sum := "9d2257735e7daeb755a657b7a03aaff6e0d04e7d1115281e370ab92d71a9bdaf", func := "loop.example/wharffleet/laws.FnExactStewCountOf", spec := "fnExactStewCountOf", apart := false }
def FnExactStewCountOfSaid : Prop := fnExactStewCountOfRow.holds Try.pinned (OpenSpec.ofChange fnExactStewCountOfSpec)

/-- ITS FALSE NEIGHBOUR: 'it returns false'. Refute it at one input. -/
def fnExactStewCountOfWrong : ChangeSpec := { name := "fnExactStewCountOf", fn := fun _ => fun
  | [d1, d2] => { results := [.lit (.bool false)], args := [d1, d2] }
  | _ => none }
def FnExactStewCountOfWrongFalsely : Prop := fnExactStewCountOfRow.holds Try.pinned (OpenSpec.ofChange fnExactStewCountOfWrong)

/-- 'laws.FnExactStewMayEnd': WHATEVER THE INPUT: true; the input reads as it did. -/
def fnExactStewMayEndSpec : ChangeSpec := { name := "fnExactStewMayEnd", fn := fun _ => fun
  | [d1, d2, d3] => { results := [.lit (.bool true)], args := [d1, d2, d3] }
  | _ => none }
def fnExactStewMayEndRow : OpenClaim := { program := "ytalddljlemppnaa", sum := "9d2257735e7daeb755a657b7a03aaff6e0d04e7d1115281e370ab92d71a9bdaf", func := "loop.example/wharffleet/laws.FnExactStewMayEnd", spec := "fnExactStewMayEnd", apart := false }
def FnExactStewMayEndSaid : Prop := fnExactStewMayEndRow.holds Try.pinned (OpenSpec.ofChange fnExactStewMayEndSpec)

/-- ITS FALSE NEIGHBOUR: 'it returns false'. Refute it at one input. -/
def fnExactStewMayEndWrong : ChangeSpec := { name := "fnExactStewMayEnd", fn := fun _ => fun
  | [d1, d2, d3] => { results := [.lit (.bool false)], args := [d1, d2, d3] }
  | _ => none }
def FnExactStewMayEndWrongFalsely : Prop := fnExactStewMayEndRow.holds Try.pinned (OpenSpec.ofChange fnExactStewMayEndWrong)

/-- 'laws.FnExactStewDone': WHATEVER THE INPUT: true; the input reads as it did. -/
def fnExactStewDoneSpec : ChangeSpec := { name := "fnExactStewDone", fn := fun _ => fun
  | [d] => { results := [.lit (.bool true)], args := [d] }
  | _ => none }
def fnExactStewDoneRow : OpenClaim := { program := "ytalddljlemppnaa", sum := "9d2257735e7daeb755a657b7a03aaff6e0d04e7d1115281e370ab92d71a9bdaf", func := "loop.example/wharffleet/laws.FnExactStewDone", spec := "fnExactStewDone", apart := false }
def FnExactStewDoneSaid : Prop := fnExactStewDoneRow.holds Try.pinned (OpenSpec.ofChange fnExactStewDoneSpec)

/-- ITS FALSE NEIGHBOUR: 'it returns false'. Refute it at one input. -/
def fnExactStewDoneWrong : ChangeSpec := { name := "fnExactStewDone", fn := fun _ => fun
  | [d] => { results := [.lit (.bool false)], args := [d] }
  | _ => none }
def FnExactStewDoneWrongFalsely : Prop := fnExactStewDoneRow.holds Try.pinned (OpenSpec.ofChange fnExactStewDoneWrong)

/-- 'laws.FnExactStewRank': WHATEVER THE INPUT: true; the input reads as it did. -/
def fnExactStewRankSpec : ChangeSpec := { name := "fnExactStewRank", fn := fun _ => fun
  | [d] => { results := [.lit (.bool true)], args := [d] }
  | _ => none }
def fnExactStewRankRow : OpenClaim := { program := "ytalddljlemppnaa", sum := "9d2257735e7daeb755a657b7a03aaff6e0d04e7d1115281e370ab92d71a9bdaf", func := "loop.example/wharffleet/laws.FnExactStewRank", spec := "fnExactStewRank", apart := false }
def FnExactStewRankSaid : Prop := fnExactStewRankRow.holds Try.pinned (OpenSpec.ofChange fnExactStewRankSpec)

/-- ITS FALSE NEIGHBOUR: 'it returns false'. Refute it at one input. -/
def fnExactStewRankWrong : ChangeSpec := { name := "fnExactStewRank", fn := fun _ => fun
  | [d] => { results := [.lit (.bool false)], args := [d] }
  | _ => none }
def FnExactStewRankWrongFalsely : Prop := fnExactStewRankRow.holds Try.pinned (OpenSpec.ofChange fnExactStewRankWrong)

/-- 'laws.FnStewGate': WHATEVER THE INPUT: true; the input reads as it did. -/
def fnStewGateSpec : ChangeSpec := { name := "fnStewGate", fn := fun _ => fun
  | [d] => { results := [.lit (.bool true)], args := [d] }
  | _ => none }
def fnStewGateRow : OpenClaim := { program := "ytalddljlemppnaa", sum := "9d2257735e7daeb755a657b7a03aaff6e0d04e7d1115281e370ab92d71a9bdaf", func := "loop.example/wharffleet/laws.FnStewGate", spec := "fnStewGate", apart := false }
def FnStewGateSaid : Prop := fnStewGateRow.holds Try.pinned (OpenSpec.ofChange fnStewGateSpec)

/-- ITS FALSE NEIGHBOUR: 'it returns false'. Refute it at one input. -/
def fnStewGateWrong : ChangeSpec := { name := "fnStewGate", fn := fun _ => fun
  | [d] => { results := [.lit (.bool false)], args := [d] }
  | _ => none }
def FnStewGateWrongFalsely : Prop := fnStewGateRow.holds Try.pinned (OpenSpec.ofChange fnStewGateWrong)

/-- 'laws.FnExactStewSea': WHATEVER THE INPUT: true; the input reads as it did. -/
def fnExactStewSeaSpec : ChangeSpec := { name := "fnExactStewSea", fn := fun _ => fun
  | [d1, d2] => { results := [.lit (.bool true)], args := [d1, d2] }
  | _ => none }
def fnExactStewSeaRow : OpenClaim := { program := "ytalddljlemppnaa", sum := "9d2257735e7daeb755a657b7a03aaff6e0d04e7d1115281e370ab92d71a9bdaf", func := "loop.example/wharffleet/laws.FnExactStewSea", spec := "fnExactStewSea", inPlace := ["slices.overlaps[loop.example/wharffleet/impl.StewService]", "slices.overlaps[loop.example/wharffleet/impl.StewBerth]"], unfollowed := true, recurses := true, apart := false }
def FnExactStewSeaSaid : Prop := fnExactStewSeaRow.holds Try.pinned (OpenSpec.ofChange fnExactStewSeaSpec)

/-- ITS FALSE NEIGHBOUR: 'it returns false'. Refute it at one input. -/
def fnExactStewSeaWrong : ChangeSpec := { name := "fnExactStewSea", fn := fun _ => fun
  | [d1, d2] => { results := [.lit (.bool false)], args := [d1, d2] }
  | _ => none }
def FnExactStewSeaWrongFalsely : Prop := fnExactStewSeaRow.holds Try.pinned (OpenSpec.ofChange fnExactStewSeaWrong)

/-- 'laws.FnExactStewAsk': WHATEVER THE INPUT: true; the input reads as it did. -/
def fnExactStewAskSpec : ChangeSpec := { name := "fnExactStewAsk", fn := fun _ => fun
  | [d1, d2] => { results := [.lit (.bool true)], args := [d1, d2] }
  | _ => none }
def fnExactStewAskRow : OpenClaim := { program := "ytalddljlemppnaa", sum := "9d2257735e7daeb755a657b7a03aaff6e0d04e7d1115281e370ab92d71a9bdaf", func := "loop.example/wharffleet/laws.FnExactStewAsk", spec := "fnExactStewAsk", unfollowed := true, recurses := true, apart := false }
def FnExactStewAskSaid : Prop := fnExactStewAskRow.holds Try.pinned (OpenSpec.ofChange fnExactStewAskSpec)

/-- ITS FALSE NEIGHBOUR: 'it returns false'. Refute it at one input. -/
def fnExactStewAskWrong : ChangeSpec := { name := "fnExactStewAsk", fn := fun _ => fun
  | [d1, d2] => { results := [.lit (.bool false)], args := [d1, d2] }
  | _ => none }
def FnExactStewAskWrongFalsely : Prop := fnExactStewAskRow.holds Try.pinned (OpenSpec.ofChange fnExactStewAskWrong)

/-- 'laws.FnExactStewApply': WHATEVER THE INPUT: true; the input reads as it did. -/
def fnExactStewApplySpec : ChangeSpec := { name := "fnExactStewApply", fn := fun _ => fun
  | [d1, d2] => { results := [.lit (.bool true)], args := [d1, d2] }
  | _ => none }
def fnExactStewApplyRow : OpenClaim := { program := "ytalddljlemppnaa", sum := "9d2257735e7daeb755a657b7a03aaff6e0d04e7d1115281e370ab92d71a9bdaf", func := "loop.example/wharffleet/laws.FnExactStewApply", spec := "fnExactStewApply", inPlace := ["slices.overlaps[loop.example/wharffleet/impl.StewCopy]"], unfollowed := true, recurses := true, apart := false }
def FnExactStewApplySaid : Prop := fnExactStewApplyRow.holds Try.pinned (OpenSpec.ofChange fnExactStewApplySpec)

/-- ITS FALSE NEIGHBOUR: 'it returns false'. Refute it at one input. -/
def fnExactStewApplyWrong : ChangeSpec := { name := "fnExactStewApply", fn := fun _ => fun
  | [d1, d2] => { results := [.lit (.bool false)], args := [d1, d2] }
  | _ => none }
def FnExactStewApplyWrongFalsely : Prop := fnExactStewApplyRow.holds Try.pinned (OpenSpec.ofChange fnExactStewApplyWrong)

/-- 'laws.FnStewSea': WHATEVER THE INPUT: true; the input reads as it did. -/
def fnStewSeaSpec : ChangeSpec := { name := "fnStewSea", fn := fun _ => fun
  | [d] => { results := [.lit (.bool true)], args := [d] }
  | _ => none }
def fnStewSeaRow : OpenClaim := { program := "ytalddljlemppnaa", sum := "9d2257735e7daeb755a657b7a03aaff6e0d04e7d1115281e370ab92d71a9bdaf", func := "loop.example/wharffleet/laws.FnStewSea", spec := "fnStewSea", inPlace := ["slices.overlaps[loop.example/wharffleet/impl.StewService]", "slices.overlaps[loop.example/wharffleet/impl.StewBerth]"], unfollowed := true, recurses := true, apart := false }
def FnStewSeaSaid : Prop := fnStewSeaRow.holds Try.pinned (OpenSpec.ofChange fnStewSeaSpec)

/-- ITS FALSE NEIGHBOUR: 'it returns false'. Refute it at one input. -/
def fnStewSeaWrong : ChangeSpec := { name := "fnStewSea", fn := fun _ => fun
  | [d] => { results := [.lit (.bool false)], args := [d] }
  | _ => none }
def FnStewSeaWrongFalsely : Prop := fnStewSeaRow.holds Try.pinned (OpenSpec.ofChange fnStewSeaWrong)

/- THE SECOND FORM. 'bulk': how many values and letters a reading holds, each counted each time it is reached (what is shared counts as often as it is met; a slice's spare places count too). A statement '..UptoSaid' is the law's where the arguments, and the package variables that the reading takes, are together of bulk at most 1048576: NARROWER than '..Said'. Prove '..Said' where nothing that the law and all that it calls make is longer than what came in: it says more and counts as full. Else prove '..UptoSaid'. A law counts once. -/
mutual
def uptoBulk {H : Type} : DataW H → Nat
  | .lit (.string bytes) => bytes.length + 1
  | .lit _ => 1
  | .nil => 1
  | .ptr d => uptoBulk d + 1
  | .slice elems spare => uptoBulkAll elems + uptoBulkAll spare + 1
  | .agg parts => uptoBulkAll parts + 1
  | .iface _ d => uptoBulk d + 1
  | .map entries => uptoBulkEntries entries + 1
  | .held _ => 1
def uptoBulkAll {H : Type} : List (DataW H) → Nat
  | [] => 0
  | d :: r => uptoBulk d + uptoBulkAll r
def uptoBulkEntries {H : Type} : List (Lit × DataW H) → Nat
  | [] => 0
  | x :: r => uptoBulkEntry x + uptoBulkEntries r
def uptoBulkEntry {H : Type} : Lit × DataW H → Nat
  | (.string bytes, d) => bytes.length + uptoBulk d + 1
  | (_, d) => uptoBulk d + 1
 end
def uptoSmall : (H : Type) → List (DataW H) → Bool := fun _ ds => decide (uptoBulkAll ds ≤ 1048576)
def OpenSpec.upto (s : _root_.Go.ChangeSpec) : _root_.Go.OpenSpec := { _root_.Go.OpenSpec.ofChange s with cond := some uptoSmall }

/-- 'laws.FnStewActs', WHERE WHAT IT READS IS OF BULK AT MOST 1048576: true; the input reads as it did. -/
def fnStewActsUptoRow : OpenClaim := { program := "ytalddljlemppnaa", sum := "9d2257735e7daeb755a657b7a03aaff6e0d04e7d1115281e370ab92d71a9bdaf", func := "loop.example/wharffleet/laws.FnStewActs", spec := "fnStewActs", inPlace := ["slices.overlaps[loop.example/wharffleet/impl.StewCopy]"], unfollowed := true, recurses := true, apart := false, narrowed := true }
def FnStewActsUptoSaid : Prop := fnStewActsUptoRow.holds Try.pinned (OpenSpec.upto fnStewActsSpec)

/-- 'laws.FnExactStewValid', WHERE WHAT IT READS IS OF BULK AT MOST 1048576: true; the input reads as it did. -/
def fnExactStewValidUptoRow : OpenClaim := { program := "ytalddljlemppnaa", sum := "9d2257735e7daeb755a657b7a03aaff6e0d04e7d1115281e370ab92d71a9bdaf", func := "loop.example/wharffleet/laws.FnExactStewValid", spec := "fnExactStewValid", apart := false, narrowed := true }
def FnExactStewValidUptoSaid : Prop := fnExactStewValidUptoRow.holds Try.pinned (OpenSpec.upto fnExactStewValidSpec)

/-- 'laws.FnExactStewWorldOk', WHERE WHAT IT READS IS OF BULK AT MOST 1048576: true; the input reads as it did. -/
def fnExactStewWorldOkUptoRow : OpenClaim := { program := "ytalddljlemppnaa", sum := "9d2257735e7daeb755a657b7a03aaff6e0d04e7d1115281e370ab92d71a9bdaf", func := "loop.example/wharffleet/laws.FnExactStewWorldOk", spec := "fnExactStewWorldOk", apart := false, narrowed := true }
def FnExactStewWorldOkUptoSaid : Prop := fnExactStewWorldOkUptoRow.holds Try.pinned (OpenSpec.upto fnExactStewWorldOkSpec)

/-- 'laws.FnExactStewCountOf', WHERE WHAT IT READS IS OF BULK AT MOST 1048576: true; the input reads as it did. -/
def fnExactStewCountOfUptoRow : OpenClaim := { program := "ytalddljlemppnaa", sum := "9d2257735e7daeb755a657b7a03aaff6e0d04e7d1115281e370ab92d71a9bdaf", func := "loop.example/wharffleet/laws.FnExactStewCountOf", spec := "fnExactStewCountOf", apart := false, narrowed := true }
def FnExactStewCountOfUptoSaid : Prop := fnExactStewCountOfUptoRow.holds Try.pinned (OpenSpec.upto fnExactStewCountOfSpec)

/-- 'laws.FnExactStewMayEnd', WHERE WHAT IT READS IS OF BULK AT MOST 1048576: true; the input reads as it did. -/
def fnExactStewMayEndUptoRow : OpenClaim := { program := "ytalddljlemppnaa", sum := "9d2257735e7daeb755a657b7a03aaff6e0d04e7d1115281e370ab92d71a9bdaf", func := "loop.example/wharffleet/laws.FnExactStewMayEnd", spec := "fnExactStewMayEnd", apart := false, narrowed := true }
def FnExactStewMayEndUptoSaid : Prop := fnExactStewMayEndUptoRow.holds Try.pinned (OpenSpec.upto fnExactStewMayEndSpec)

/-- 'laws.FnExactStewDone', WHERE WHAT IT READS IS OF BULK AT MOST 1048576: true; the input reads as it did. -/
def fnExactStewDoneUptoRow : OpenClaim := { program := "ytalddljlemppnaa", sum := "9d2257735e7daeb755a657b7a03aaff6e0d04e7d1115281e370ab92d71a9bdaf", func := "loop.example/wharffleet/laws.FnExactStewDone", spec := "fnExactStewDone", apart := false, narrowed := true }
def FnExactStewDoneUptoSaid : Prop := fnExactStewDoneUptoRow.holds Try.pinned (OpenSpec.upto fnExactStewDoneSpec)

/-- 'laws.FnExactStewRank', WHERE WHAT IT READS IS OF BULK AT MOST 1048576: true; the input reads as it did. -/
def fnExactStewRankUptoRow : OpenClaim := { program := "ytalddljlemppnaa", sum := "9d2257735e7daeb755a657b7a03aaff6e0d04e7d1115281e370ab92d71a9bdaf", func := "loop.example/wharffleet/laws.FnExactStewRank", spec := "fnExactStewRank", apart := false, narrowed := true }
def FnExactStewRankUptoSaid : Prop := fnExactStewRankUptoRow.holds Try.pinned (OpenSpec.upto fnExactStewRankSpec)

/-- 'laws.FnStewGate', WHERE WHAT IT READS IS OF BULK AT MOST 1048576: true; the input reads as it did. -/
def fnStewGateUptoRow : OpenClaim := { program := "ytalddljlemppnaa", sum := "9d2257735e7daeb755a657b7a03aaff6e0d04e7d1115281e370ab92d71a9bdaf", func := "loop.example/wharffleet/laws.FnStewGate", spec := "fnStewGate", apart := false, narrowed := true }
def FnStewGateUptoSaid : Prop := fnStewGateUptoRow.holds Try.pinned (OpenSpec.upto fnStewGateSpec)

/-- 'laws.FnExactStewSea', WHERE WHAT IT READS IS OF BULK AT MOST 1048576: true; the input reads as it did. -/
def fnExactStewSeaUptoRow : OpenClaim := { program := "ytalddljlemppnaa", sum := "9d2257735e7daeb755a657b7a03aaff6e0d04e7d1115281e370ab92d71a9bdaf", func := "loop.example/wharffleet/laws.FnExactStewSea", spec := "fnExactStewSea", inPlace := ["slices.overlaps[loop.example/wharffleet/impl.StewService]", "slices.overlaps[loop.example/wharffleet/impl.StewBerth]"], unfollowed := true, recurses := true, apart := false, narrowed := true }
def FnExactStewSeaUptoSaid : Prop := fnExactStewSeaUptoRow.holds Try.pinned (OpenSpec.upto fnExactStewSeaSpec)

/-- 'laws.FnExactStewAsk', WHERE WHAT IT READS IS OF BULK AT MOST 1048576: true; the input reads as it did. -/
def fnExactStewAskUptoRow : OpenClaim := { program := "ytalddljlemppnaa", sum := "9d2257735e7daeb755a657b7a03aaff6e0d04e7d1115281e370ab92d71a9bdaf", func := "loop.example/wharffleet/laws.FnExactStewAsk", spec := "fnExactStewAsk", unfollowed := true, recurses := true, apart := false, narrowed := true }
def FnExactStewAskUptoSaid : Prop := fnExactStewAskUptoRow.holds Try.pinned (OpenSpec.upto fnExactStewAskSpec)

/-- 'laws.FnExactStewApply', WHERE WHAT IT READS IS OF BULK AT MOST 1048576: true; the input reads as it did. -/
def fnExactStewApplyUptoRow : OpenClaim := { program := "ytalddljlemppnaa", sum := "9d2257735e7daeb755a657b7a03aaff6e0d04e7d1115281e370ab92d71a9bdaf", func := "loop.example/wharffleet/laws.FnExactStewApply", spec := "fnExactStewApply", inPlace := ["slices.overlaps[loop.example/wharffleet/impl.StewCopy]"], unfollowed := true, recurses := true, apart := false, narrowed := true }
def FnExactStewApplyUptoSaid : Prop := fnExactStewApplyUptoRow.holds Try.pinned (OpenSpec.upto fnExactStewApplySpec)

/-- 'laws.FnStewSea', WHERE WHAT IT READS IS OF BULK AT MOST 1048576: true; the input reads as it did. -/
def fnStewSeaUptoRow : OpenClaim := { program := "ytalddljlemppnaa", sum := "9d2257735e7daeb755a657b7a03aaff6e0d04e7d1115281e370ab92d71a9bdaf", func := "loop.example/wharffleet/laws.FnStewSea", spec := "fnStewSea", inPlace := ["slices.overlaps[loop.example/wharffleet/impl.StewService]", "slices.overlaps[loop.example/wharffleet/impl.StewBerth]"], unfollowed := true, recurses := true, apart := false, narrowed := true }
def FnStewSeaUptoSaid : Prop := fnStewSeaUptoRow.holds Try.pinned (OpenSpec.upto fnStewSeaSpec)

end Rows
end Go.Proofs.Ytalddljlemppnaa
