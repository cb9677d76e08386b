/-
  No cell of these rows narrows 'for every input' (looked for: loops, veiled, ifaces, maps, wideKeys, modest, calm, conditions, laid).
  DERIVED. THE GIVEN ROWS OF THIS SEAT. 11 by the template 'for every input the law returns true; each argument reads behind the call as it read before'; 0 by the template 'total and deterministic' (their statements: YtagleaabhljkfaaTotals.lean).
  GIVEN WITH THE SEED: the statements are not yours to turn. If you find one false, say at which input.
  Laid BY PROGRAM, IN A SANDBOX (cutbox-rows.mjs): the forced cells as the released guide's own fill.sh prints them over the translation 863c562443dcaee5… (all of the seat's roots in one cut). By AI agents, Wed Nov 11 2026. No macro, syntax, notation, axiom, sorry.
-/
import Derived.Test.YtagleaabhljkfaaChecked
import GoSem.Claim
import GoSem.ClaimJoined
import GoSem.ClaimMapViews
import Derived.JoinedTies
import Derived.KernelRfl
namespace Go.Proofs.Ytagleaabhljkfaa
/- THE CELL 'sum', in the pinned program and in every row, IS THE sha256 OF THE DUMP (.gsa) THAT YtagleaabhljkfaaProg.lean LOADS. Nothing in Lean hashes anything: it is a label: what it is worth is what the hold of that sum in a sandbox is worth. -/
noncomputable def Try.pinned : Pinned := { name := "ytagleaabhljkfaa", sum := "863c562443dcaee5a9504da2be4aaaf7a417fa43f438a932b72926b07c129ac7", checked := Try.checked }
namespace Rows
def none {H : Type} : Left H := { results := [], args := [] }

/-- 'laws.FnExactMateAlive': WHATEVER THE INPUT: true; the input reads as it did. -/
def fnExactMateAliveSpec : ChangeSpec := { name := "fnExactMateAlive", fn := fun _ => fun
  | [d] => { results := [.lit (.bool true)], args := [d] }
  | _ => none }
def fnExactMateAliveRow : OpenClaim := { program := "ytagleaabhljkfaa", sum := "863c562443dcaee5a9504da2be4aaaf7a417fa43f438a932b72926b07c129ac7", func := "loop.example/wharffleet/laws.FnExactMateAlive", spec := "fnExactMateAlive", apart := false }
def FnExactMateAliveSaid : Prop := fnExactMateAliveRow.holds Try.pinned (OpenSpec.ofChange fnExactMateAliveSpec)

/-- ITS FALSE NEIGHBOUR: 'it returns false'. Refute it at one input. -/
def fnExactMateAliveWrong : ChangeSpec := { name := "fnExactMateAlive", fn := fun _ => fun
  | [d] => { results := [.lit (.bool false)], args := [d] }
  | _ => none }
def FnExactMateAliveWrongFalsely : Prop := fnExactMateAliveRow.holds Try.pinned (OpenSpec.ofChange fnExactMateAliveWrong)

/-- 'laws.FnExactMateWantsOk': WHATEVER THE INPUT: true; the input reads as it did. -/
def fnExactMateWantsOkSpec : ChangeSpec := { name := "fnExactMateWantsOk", fn := fun _ => fun
  | [d] => { results := [.lit (.bool true)], args := [d] }
  | _ => none }
def fnExactMateWantsOkRow : OpenClaim := { program := "ytagleaabhljkfaa", sum := "863c562443dcaee5a9504da2be4aaaf7a417fa43f438a932b72926b07c129ac7", func := "loop.example/wharffleet/laws.FnExactMateWantsOk", spec := "fnExactMateWantsOk", apart := false }
def FnExactMateWantsOkSaid : Prop := fnExactMateWantsOkRow.holds Try.pinned (OpenSpec.ofChange fnExactMateWantsOkSpec)

/-- ITS FALSE NEIGHBOUR: 'it returns false'. Refute it at one input. -/
def fnExactMateWantsOkWrong : ChangeSpec := { name := "fnExactMateWantsOk", fn := fun _ => fun
  | [d] => { results := [.lit (.bool false)], args := [d] }
  | _ => none }
def FnExactMateWantsOkWrongFalsely : Prop := fnExactMateWantsOkRow.holds Try.pinned (OpenSpec.ofChange fnExactMateWantsOkWrong)

/-- 'laws.FnExactMateRunsOk': WHATEVER THE INPUT: true; the input reads as it did. -/
def fnExactMateRunsOkSpec : ChangeSpec := { name := "fnExactMateRunsOk", fn := fun _ => fun
  | [d1, d2] => { results := [.lit (.bool true)], args := [d1, d2] }
  | _ => none }
def fnExactMateRunsOkRow : OpenClaim := { program := "ytagleaabhljkfaa", sum := "863c562443dcaee5a9504da2be4aaaf7a417fa43f438a932b72926b07c129ac7", func := "loop.example/wharffleet/laws.FnExactMateRunsOk", spec := "fnExactMateRunsOk", apart := false }
def FnExactMateRunsOkSaid : Prop := fnExactMateRunsOkRow.holds Try.pinned (OpenSpec.ofChange fnExactMateRunsOkSpec)

/-- ITS FALSE NEIGHBOUR: 'it returns false'. Refute it at one input. -/
def fnExactMateRunsOkWrong : ChangeSpec := { name := "fnExactMateRunsOk", fn := fun _ => fun
  | [d1, d2] => { results := [.lit (.bool false)], args := [d1, d2] }
  | _ => none }
def FnExactMateRunsOkWrongFalsely : Prop := fnExactMateRunsOkRow.holds Try.pinned (OpenSpec.ofChange fnExactMateRunsOkWrong)

/-- 'laws.FnMateStops': WHATEVER THE INPUT: true; the input reads as it did. -/
def fnMateStopsSpec : ChangeSpec := { name := "fnMateStops", fn := fun _ => fun
  | [d] => { results := [.lit (.bool true)], args := [d] }
  | _ => none }
def fnMateStopsRow : OpenClaim := { program := "ytagleaabhljkfaa", sum := "863c562443dcaee5a9504da2be4aaaf7a417fa43f438a932b72926b07c129ac7", func := "loop.example/wharffleet/laws.FnMateStops", spec := "fnMateStops", apart := false }
def FnMateStopsSaid : Prop := fnMateStopsRow.holds Try.pinned (OpenSpec.ofChange fnMateStopsSpec)

/-- ITS FALSE NEIGHBOUR: 'it returns false'. Refute it at one input. -/
def fnMateStopsWrong : ChangeSpec := { name := "fnMateStops", fn := fun _ => fun
  | [d] => { results := [.lit (.bool false)], args := [d] }
  | _ => none }
def FnMateStopsWrongFalsely : Prop := fnMateStopsRow.holds Try.pinned (OpenSpec.ofChange fnMateStopsWrong)

/-- 'laws.FnExactMateWatchdog': WHATEVER THE INPUT: true; the input reads as it did. -/
def fnExactMateWatchdogSpec : ChangeSpec := { name := "fnExactMateWatchdog", fn := fun _ => fun
  | [d1, d2] => { results := [.lit (.bool true)], args := [d1, d2] }
  | _ => none }
def fnExactMateWatchdogRow : OpenClaim := { program := "ytagleaabhljkfaa", sum := "863c562443dcaee5a9504da2be4aaaf7a417fa43f438a932b72926b07c129ac7", func := "loop.example/wharffleet/laws.FnExactMateWatchdog", spec := "fnExactMateWatchdog", apart := false }
def FnExactMateWatchdogSaid : Prop := fnExactMateWatchdogRow.holds Try.pinned (OpenSpec.ofChange fnExactMateWatchdogSpec)

/-- ITS FALSE NEIGHBOUR: 'it returns false'. Refute it at one input. -/
def fnExactMateWatchdogWrong : ChangeSpec := { name := "fnExactMateWatchdog", fn := fun _ => fun
  | [d1, d2] => { results := [.lit (.bool false)], args := [d1, d2] }
  | _ => none }
def FnExactMateWatchdogWrongFalsely : Prop := fnExactMateWatchdogRow.holds Try.pinned (OpenSpec.ofChange fnExactMateWatchdogWrong)

/-- 'laws.FnExactMateTick': WHATEVER THE INPUT: true; the input reads as it did. -/
def fnExactMateTickSpec : ChangeSpec := { name := "fnExactMateTick", fn := fun _ => fun
  | [d1, d2] => { results := [.lit (.bool true)], args := [d1, d2] }
  | _ => none }
def fnExactMateTickRow : OpenClaim := { program := "ytagleaabhljkfaa", sum := "863c562443dcaee5a9504da2be4aaaf7a417fa43f438a932b72926b07c129ac7", func := "loop.example/wharffleet/laws.FnExactMateTick", spec := "fnExactMateTick", inPlace := ["slices.overlaps[loop.example/wharffleet/impl.MateAsk]", "slices.overlaps[loop.example/wharffleet/impl.MateRun]"], unfollowed := true, recurses := true, apart := false }
def FnExactMateTickSaid : Prop := fnExactMateTickRow.holds Try.pinned (OpenSpec.ofChange fnExactMateTickSpec)

/-- ITS FALSE NEIGHBOUR: 'it returns false'. Refute it at one input. -/
def fnExactMateTickWrong : ChangeSpec := { name := "fnExactMateTick", fn := fun _ => fun
  | [d1, d2] => { results := [.lit (.bool false)], args := [d1, d2] }
  | _ => none }
def FnExactMateTickWrongFalsely : Prop := fnExactMateTickRow.holds Try.pinned (OpenSpec.ofChange fnExactMateTickWrong)

/-- 'laws.FnExactMateValid': WHATEVER THE INPUT: true; the input reads as it did. -/
def fnExactMateValidSpec : ChangeSpec := { name := "fnExactMateValid", fn := fun _ => fun
  | [d] => { results := [.lit (.bool true)], args := [d] }
  | _ => none }
def fnExactMateValidRow : OpenClaim := { program := "ytagleaabhljkfaa", sum := "863c562443dcaee5a9504da2be4aaaf7a417fa43f438a932b72926b07c129ac7", func := "loop.example/wharffleet/laws.FnExactMateValid", spec := "fnExactMateValid", unfollowed := true, recurses := true, apart := false }
def FnExactMateValidSaid : Prop := fnExactMateValidRow.holds Try.pinned (OpenSpec.ofChange fnExactMateValidSpec)

/-- ITS FALSE NEIGHBOUR: 'it returns false'. Refute it at one input. -/
def fnExactMateValidWrong : ChangeSpec := { name := "fnExactMateValid", fn := fun _ => fun
  | [d] => { results := [.lit (.bool false)], args := [d] }
  | _ => none }
def FnExactMateValidWrongFalsely : Prop := fnExactMateValidRow.holds Try.pinned (OpenSpec.ofChange fnExactMateValidWrong)

/-- 'laws.FnMateFalls': WHATEVER THE INPUT: true; the input reads as it did. -/
def fnMateFallsSpec : ChangeSpec := { name := "fnMateFalls", fn := fun _ => fun
  | [d] => { results := [.lit (.bool true)], args := [d] }
  | _ => none }
def fnMateFallsRow : OpenClaim := { program := "ytagleaabhljkfaa", sum := "863c562443dcaee5a9504da2be4aaaf7a417fa43f438a932b72926b07c129ac7", func := "loop.example/wharffleet/laws.FnMateFalls", spec := "fnMateFalls", unfollowed := true, recurses := true, apart := false }
def FnMateFallsSaid : Prop := fnMateFallsRow.holds Try.pinned (OpenSpec.ofChange fnMateFallsSpec)

/-- ITS FALSE NEIGHBOUR: 'it returns false'. Refute it at one input. -/
def fnMateFallsWrong : ChangeSpec := { name := "fnMateFalls", fn := fun _ => fun
  | [d] => { results := [.lit (.bool false)], args := [d] }
  | _ => none }
def FnMateFallsWrongFalsely : Prop := fnMateFallsRow.holds Try.pinned (OpenSpec.ofChange fnMateFallsWrong)

/-- 'laws.FnExactMateRise': WHATEVER THE INPUT: true; the input reads as it did. -/
def fnExactMateRiseSpec : ChangeSpec := { name := "fnExactMateRise", fn := fun _ => fun
  | [d] => { results := [.lit (.bool true)], args := [d] }
  | _ => none }
def fnExactMateRiseRow : OpenClaim := { program := "ytagleaabhljkfaa", sum := "863c562443dcaee5a9504da2be4aaaf7a417fa43f438a932b72926b07c129ac7", func := "loop.example/wharffleet/laws.FnExactMateRise", spec := "fnExactMateRise", unfollowed := true, recurses := true, apart := false }
def FnExactMateRiseSaid : Prop := fnExactMateRiseRow.holds Try.pinned (OpenSpec.ofChange fnExactMateRiseSpec)

/-- ITS FALSE NEIGHBOUR: 'it returns false'. Refute it at one input. -/
def fnExactMateRiseWrong : ChangeSpec := { name := "fnExactMateRise", fn := fun _ => fun
  | [d] => { results := [.lit (.bool false)], args := [d] }
  | _ => none }
def FnExactMateRiseWrongFalsely : Prop := fnExactMateRiseRow.holds Try.pinned (OpenSpec.ofChange fnExactMateRiseWrong)

/-- 'laws.FnExactMateFall': WHATEVER THE INPUT: true; the input reads as it did. -/
def fnExactMateFallSpec : ChangeSpec := { name := "fnExactMateFall", fn := fun _ => fun
  | [d1, d2] => { results := [.lit (.bool true)], args := [d1, d2] }
  | _ => none }
def fnExactMateFallRow : OpenClaim := { program := "ytagleaabhljkfaa", sum := "863c562443dcaee5a9504da2be4aaaf7a417fa43f438a932b72926b07c129ac7", func := "loop.example/wharffleet/laws.FnExactMateFall", spec := "fnExactMateFall", unfollowed := true, recurses := true, apart := false }
def FnExactMateFallSaid : Prop := fnExactMateFallRow.holds Try.pinned (OpenSpec.ofChange fnExactMateFallSpec)

/-- ITS FALSE NEIGHBOUR: 'it returns false'. Refute it at one input. -/
def fnExactMateFallWrong : ChangeSpec := { name := "fnExactMateFall", fn := fun _ => fun
  | [d1, d2] => { results := [.lit (.bool false)], args := [d1, d2] }
  | _ => none }
def FnExactMateFallWrongFalsely : Prop := fnExactMateFallRow.holds Try.pinned (OpenSpec.ofChange fnExactMateFallWrong)

/-- 'laws.FnExactMateTake': WHATEVER THE INPUT: true; the input reads as it did. -/
def fnExactMateTakeSpec : ChangeSpec := { name := "fnExactMateTake", fn := fun _ => fun
  | [d1, d2] => { results := [.lit (.bool true)], args := [d1, d2] }
  | _ => none }
def fnExactMateTakeRow : OpenClaim := { program := "ytagleaabhljkfaa", sum := "863c562443dcaee5a9504da2be4aaaf7a417fa43f438a932b72926b07c129ac7", func := "loop.example/wharffleet/laws.FnExactMateTake", spec := "fnExactMateTake", unfollowed := true, recurses := true, apart := false }
def FnExactMateTakeSaid : Prop := fnExactMateTakeRow.holds Try.pinned (OpenSpec.ofChange fnExactMateTakeSpec)

/-- ITS FALSE NEIGHBOUR: 'it returns false'. Refute it at one input. -/
def fnExactMateTakeWrong : ChangeSpec := { name := "fnExactMateTake", fn := fun _ => fun
  | [d1, d2] => { results := [.lit (.bool false)], args := [d1, d2] }
  | _ => none }
def FnExactMateTakeWrongFalsely : Prop := fnExactMateTakeRow.holds Try.pinned (OpenSpec.ofChange fnExactMateTakeWrong)

/- THE SECOND FORM. 'bulk': how many values and letters a reading holds, each counted each time it is reached (what is shared counts as often as it is met; a slice's spare places count too). A statement '..UptoSaid' is the law's where the arguments, and the package variables that the reading takes, are together of bulk at most 1048576: NARROWER than '..Said'. Prove '..Said' where nothing that the law and all that it calls make is longer than what came in: it says more and counts as full. Else prove '..UptoSaid'. A law counts once. -/
mutual
def uptoBulk {H : Type} : DataW H → Nat
  | .lit (.string bytes) => bytes.length + 1
  | .lit _ => 1
  | .nil => 1
  | .ptr d => uptoBulk d + 1
  | .slice elems spare => uptoBulkAll elems + uptoBulkAll spare + 1
  | .agg parts => uptoBulkAll parts + 1
  | .iface _ d => uptoBulk d + 1
  | .map entries => uptoBulkEntries entries + 1
  | .held _ => 1
def uptoBulkAll {H : Type} : List (DataW H) → Nat
  | [] => 0
  | d :: r => uptoBulk d + uptoBulkAll r
def uptoBulkEntries {H : Type} : List (Lit × DataW H) → Nat
  | [] => 0
  | x :: r => uptoBulkEntry x + uptoBulkEntries r
def uptoBulkEntry {H : Type} : Lit × DataW H → Nat
  | (.string bytes, d) => bytes.length + uptoBulk d + 1
  | (_, d) => uptoBulk d + 1
 end
def uptoSmall : (H : Type) → List (DataW H) → Bool := fun _ ds => decide (uptoBulkAll ds ≤ 1048576)
def OpenSpec.upto (s : _root_.Go.ChangeSpec) : _root_.Go.OpenSpec := { _root_.Go.OpenSpec.ofChange s with cond := some uptoSmall }

/-- 'laws.FnExactMateAlive', WHERE WHAT IT READS IS OF BULK AT MOST 1048576: true; the input reads as it did. -/
def fnExactMateAliveUptoRow : OpenClaim := { program := "ytagleaabhljkfaa", sum := "863c562443dcaee5a9504da2be4aaaf7a417fa43f438a932b72926b07c129ac7", func := "loop.example/wharffleet/laws.FnExactMateAlive", spec := "fnExactMateAlive", apart := false, narrowed := true }
def FnExactMateAliveUptoSaid : Prop := fnExactMateAliveUptoRow.holds Try.pinned (OpenSpec.upto fnExactMateAliveSpec)

/-- 'laws.FnExactMateWantsOk', WHERE WHAT IT READS IS OF BULK AT MOST 1048576: true; the input reads as it did. -/
def fnExactMateWantsOkUptoRow : OpenClaim := { program := "ytagleaabhljkfaa", sum := "863c562443dcaee5a9504da2be4aaaf7a417fa43f438a932b72926b07c129ac7", func := "loop.example/wharffleet/laws.FnExactMateWantsOk", spec := "fnExactMateWantsOk", apart := false, narrowed := true }
def FnExactMateWantsOkUptoSaid : Prop := fnExactMateWantsOkUptoRow.holds Try.pinned (OpenSpec.upto fnExactMateWantsOkSpec)

/-- 'laws.FnExactMateRunsOk', WHERE WHAT IT READS IS OF BULK AT MOST 1048576: true; the input reads as it did. -/
def fnExactMateRunsOkUptoRow : OpenClaim := { program := "ytagleaabhljkfaa", sum := "863c562443dcaee5a9504da2be4aaaf7a417fa43f438a932b72926b07c129ac7", func := "loop.example/wharffleet/laws.FnExactMateRunsOk", spec := "fnExactMateRunsOk", apart := false, narrowed := true }
def FnExactMateRunsOkUptoSaid : Prop := fnExactMateRunsOkUptoRow.holds Try.pinned (OpenSpec.upto fnExactMateRunsOkSpec)

/-- 'laws.FnMateStops', WHERE WHAT IT READS IS OF BULK AT MOST 1048576: true; the input reads as it did. -/
def fnMateStopsUptoRow : OpenClaim := { program := "ytagleaabhljkfaa", sum := "863c562443dcaee5a9504da2be4aaaf7a417fa43f438a932b72926b07c129ac7", func := "loop.example/wharffleet/laws.FnMateStops", spec := "fnMateStops", apart := false, narrowed := true }
def FnMateStopsUptoSaid : Prop := fnMateStopsUptoRow.holds Try.pinned (OpenSpec.upto fnMateStopsSpec)

/-- 'laws.FnExactMateWatchdog', WHERE WHAT IT READS IS OF BULK AT MOST 1048576: true; the input reads as it did. -/
def fnExactMateWatchdogUptoRow : OpenClaim := { program := "ytagleaabhljkfaa", sum := "863c562443dcaee5a9504da2be4aaaf7a417fa43f438a932b72926b07c129ac7", func := "loop.example/wharffleet/laws.FnExactMateWatchdog", spec := "fnExactMateWatchdog", apart := false, narrowed := true }
def FnExactMateWatchdogUptoSaid : Prop := fnExactMateWatchdogUptoRow.holds Try.pinned (OpenSpec.upto fnExactMateWatchdogSpec)

/-- 'laws.FnExactMateTick', WHERE WHAT IT READS IS OF BULK AT MOST 1048576: true; the input reads as it did. -/
def fnExactMateTickUptoRow : OpenClaim := { program := "ytagleaabhljkfaa", sum := "863c562443dcaee5a9504da2be4aaaf7a417fa43f438a932b72926b07c129ac7", func := "loop.example/wharffleet/laws.FnExactMateTick", spec := "fnExactMateTick", inPlace := ["slices.overlaps[loop.example/wharffleet/impl.MateAsk]", "slices.overlaps[loop.example/wharffleet/impl.MateRun]"], unfollowed := true, recurses := true, apart := false, narrowed := true }
def FnExactMateTickUptoSaid : Prop := fnExactMateTickUptoRow.holds Try.pinned (OpenSpec.upto fnExactMateTickSpec)

/-- 'laws.FnExactMateValid', WHERE WHAT IT READS IS OF BULK AT MOST 1048576: true; the input reads as it did. -/
def fnExactMateValidUptoRow : OpenClaim := { program := "ytagleaabhljkfaa", sum := "863c562443dcaee5a9504da2be4aaaf7a417fa43f438a932b72926b07c129ac7", func := "loop.example/wharffleet/laws.FnExactMateValid", spec := "fnExactMateValid", unfollowed := true, recurses := true, apart := false, narrowed := true }
def FnExactMateValidUptoSaid : Prop := fnExactMateValidUptoRow.holds Try.pinned (OpenSpec.upto fnExactMateValidSpec)

/-- 'laws.FnMateFalls', WHERE WHAT IT READS IS OF BULK AT MOST 1048576: true; the input reads as it did. -/
def fnMateFallsUptoRow : OpenClaim := { program := "ytagleaabhljkfaa", sum := "863c562443dcaee5a9504da2be4aaaf7a417fa43f438a932b72926b07c129ac7", func := "loop.example/wharffleet/laws.FnMateFalls", spec := "fnMateFalls", unfollowed := true, recurses := true, apart := false, narrowed := true }
def FnMateFallsUptoSaid : Prop := fnMateFallsUptoRow.holds Try.pinned (OpenSpec.upto fnMateFallsSpec)

/-- 'laws.FnExactMateRise', WHERE WHAT IT READS IS OF BULK AT MOST 1048576: true; the input reads as it did. -/
def fnExactMateRiseUptoRow : OpenClaim := { program := "ytagleaabhljkfaa", sum := "863c562443dcaee5a9504da2be4aaaf7a417fa43f438a932b72926b07c129ac7", func := "loop.example/wharffleet/laws.FnExactMateRise", spec := "fnExactMateRise", unfollowed := true, recurses := true, apart := false, narrowed := true }
def FnExactMateRiseUptoSaid : Prop := fnExactMateRiseUptoRow.holds Try.pinned (OpenSpec.upto fnExactMateRiseSpec)

/-- 'laws.FnExactMateFall', WHERE WHAT IT READS IS OF BULK AT MOST 1048576: true; the input reads as it did. -/
def fnExactMateFallUptoRow : OpenClaim := { program := "ytagleaabhljkfaa", sum := "863c562443dcaee5a9504da2be4aaaf7a417fa43f438a932b72926b07c129ac7", func := "loop.example/wharffleet/laws.FnExactMateFall", spec := "fnExactMateFall", unfollowed := true, recurses := true, apart := false, narrowed := true }
def FnExactMateFallUptoSaid : Prop := fnExactMateFallUptoRow.holds Try.pinned (OpenSpec.upto fnExactMateFallSpec)

/-- 'laws.FnExactMateTake', WHERE WHAT IT READS IS OF BULK AT MOST 1048576: true; the input reads as it did. -/
def fnExactMateTakeUptoRow : OpenClaim := { program := "ytagleaabhljkfaa", sum := "863c562443dcaee5a9504da2be4aaaf7a417fa43f438a932b72926b07c129ac7", func := "loop.example/wharffleet/laws.FnExactMateTake", spec := "fnExactMateTake", unfollowed := true, recurses := true, apart := false, narrowed := true }
def FnExactMateTakeUptoSaid : Prop := fnExactMateTakeUptoRow.holds Try.pinned (OpenSpec.upto fnExactMateTakeSpec)

end Rows
end Go.Proofs.Ytagleaabhljkfaa
