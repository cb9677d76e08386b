/-
  No cell of these rows narrows 'for every input' (looked for: loops, veiled, ifaces, maps, wideKeys, modest, calm, conditions, laid).
  DERIVED. THE GIVEN ROWS OF THIS SEAT. 9 by the template 'for every input the law returns true; each argument reads behind the call as it read before'; 0 by the template 'total and deterministic' (their statements: YtlnemfcpflcfpaaTotals.lean).
  GIVEN WITH THE SEED: the statements are not yours to turn. If you find one false, say at which input.
  Laid BY PROGRAM, IN A SANDBOX (cutbox-rows.mjs): the forced cells as the released guide's own fill.sh prints them over the translation 6a25cc99f6a17144… (all of the seat's roots in one cut). By AI agents, Wed Nov 11 2026. No macro, syntax, notation, axiom, sorry.
-/
import Derived.Test.YtlnemfcpflcfpaaChecked
import GoSem.Claim
import GoSem.ClaimJoined
import GoSem.ClaimMapViews
import Derived.JoinedTies
import Derived.KernelRfl
namespace Go.Proofs.Ytlnemfcpflcfpaa
/- THE CELL 'sum', in the pinned program and in every row, IS THE sha256 OF THE DUMP (.gsa) THAT YtlnemfcpflcfpaaProg.lean LOADS. Nothing in Lean hashes anything: it is a label: what it is worth is what the hold of that sum in a sandbox is worth. -/
noncomputable def Try.pinned : Pinned := { name := "ytlnemfcpflcfpaa", sum := "6a25cc99f6a1714446470ce2fda0265c6edad98856ca78e23d405af3a5e8ec7b", checked := Try.checked }
namespace Rows
def none {H : Type} : Left H := { results := [], args := [] }

/-- 'laws.FnExactMateLandOk': WHATEVER THE INPUT: true; the input reads as it did. -/
def fnExactMateLandOkSpec : ChangeSpec := { name := "fnExactMateLandOk", fn := fun _ => fun
  | [d] => { results := [.lit (.bool true)], args := [d] }
  | _ => none }
def fnExactMateLandOkRow : OpenClaim := { program := "ytlnemfcpflcfpaa", sum := "6a25cc99f6a1714446470ce2fda0265c6edad98856ca78e23d405af3a5e8ec7b", func := "loop.example/wharffleet/laws.FnExactMateLandOk", spec := "fnExactMateLandOk", apart := false }
def FnExactMateLandOkSaid : Prop := fnExactMateLandOkRow.holds Try.pinned (OpenSpec.ofChange fnExactMateLandOkSpec)

/-- ITS FALSE NEIGHBOUR: 'it returns false'. Refute it at one input. -/
def fnExactMateLandOkWrong : ChangeSpec := { name := "fnExactMateLandOk", fn := fun _ => fun
  | [d] => { results := [.lit (.bool false)], args := [d] }
  | _ => none }
def FnExactMateLandOkWrongFalsely : Prop := fnExactMateLandOkRow.holds Try.pinned (OpenSpec.ofChange fnExactMateLandOkWrong)

/-- 'laws.FnExactMateLandTick': WHATEVER THE INPUT: true; the input reads as it did. -/
def fnExactMateLandTickSpec : ChangeSpec := { name := "fnExactMateLandTick", fn := fun _ => fun
  | [d] => { results := [.lit (.bool true)], args := [d] }
  | _ => none }
def fnExactMateLandTickRow : OpenClaim := { program := "ytlnemfcpflcfpaa", sum := "6a25cc99f6a1714446470ce2fda0265c6edad98856ca78e23d405af3a5e8ec7b", func := "loop.example/wharffleet/laws.FnExactMateLandTick", spec := "fnExactMateLandTick", apart := false }
def FnExactMateLandTickSaid : Prop := fnExactMateLandTickRow.holds Try.pinned (OpenSpec.ofChange fnExactMateLandTickSpec)

/-- ITS FALSE NEIGHBOUR: 'it returns false'. Refute it at one input. -/
def fnExactMateLandTickWrong : ChangeSpec := { name := "fnExactMateLandTick", fn := fun _ => fun
  | [d] => { results := [.lit (.bool false)], args := [d] }
  | _ => none }
def FnExactMateLandTickWrongFalsely : Prop := fnExactMateLandTickRow.holds Try.pinned (OpenSpec.ofChange fnExactMateLandTickWrong)

/-- 'laws.FnExactMatePut': WHATEVER THE INPUT: true; the input reads as it did. -/
def fnExactMatePutSpec : ChangeSpec := { name := "fnExactMatePut", fn := fun _ => fun
  | [d1, d2, d3] => { results := [.lit (.bool true)], args := [d1, d2, d3] }
  | _ => none }
def fnExactMatePutRow : OpenClaim := { program := "ytlnemfcpflcfpaa", sum := "6a25cc99f6a1714446470ce2fda0265c6edad98856ca78e23d405af3a5e8ec7b", func := "loop.example/wharffleet/laws.FnExactMatePut", spec := "fnExactMatePut", inPlace := ["slices.overlaps[loop.example/wharffleet/impl.MatePlace]"], unfollowed := true, recurses := true, apart := false }
def FnExactMatePutSaid : Prop := fnExactMatePutRow.holds Try.pinned (OpenSpec.ofChange fnExactMatePutSpec)

/-- ITS FALSE NEIGHBOUR: 'it returns false'. Refute it at one input. -/
def fnExactMatePutWrong : ChangeSpec := { name := "fnExactMatePut", fn := fun _ => fun
  | [d1, d2, d3] => { results := [.lit (.bool false)], args := [d1, d2, d3] }
  | _ => none }
def FnExactMatePutWrongFalsely : Prop := fnExactMatePutRow.holds Try.pinned (OpenSpec.ofChange fnExactMatePutWrong)

/-- 'laws.FnMateLand': WHATEVER THE INPUT: true; the input reads as it did. -/
def fnMateLandSpec : ChangeSpec := { name := "fnMateLand", fn := fun _ => fun
  | [d] => { results := [.lit (.bool true)], args := [d] }
  | _ => none }
def fnMateLandRow : OpenClaim := { program := "ytlnemfcpflcfpaa", sum := "6a25cc99f6a1714446470ce2fda0265c6edad98856ca78e23d405af3a5e8ec7b", func := "loop.example/wharffleet/laws.FnMateLand", spec := "fnMateLand", inPlace := ["slices.overlaps[loop.example/wharffleet/impl.MateGrant]", "slices.overlaps[loop.example/wharffleet/impl.MatePlace]"], unfollowed := true, recurses := true, apart := false }
def FnMateLandSaid : Prop := fnMateLandRow.holds Try.pinned (OpenSpec.ofChange fnMateLandSpec)

/-- ITS FALSE NEIGHBOUR: 'it returns false'. Refute it at one input. -/
def fnMateLandWrong : ChangeSpec := { name := "fnMateLand", fn := fun _ => fun
  | [d] => { results := [.lit (.bool false)], args := [d] }
  | _ => none }
def FnMateLandWrongFalsely : Prop := fnMateLandRow.holds Try.pinned (OpenSpec.ofChange fnMateLandWrong)

/-- 'laws.FnExactMateNewWorld': WHATEVER THE INPUT: true; the input reads as it did. -/
def fnExactMateNewWorldSpec : ChangeSpec := { name := "fnExactMateNewWorld", fn := fun _ => fun
  | [d] => { results := [.lit (.bool true)], args := [d] }
  | _ => none }
def fnExactMateNewWorldRow : OpenClaim := { program := "ytlnemfcpflcfpaa", sum := "6a25cc99f6a1714446470ce2fda0265c6edad98856ca78e23d405af3a5e8ec7b", func := "loop.example/wharffleet/laws.FnExactMateNewWorld", spec := "fnExactMateNewWorld", apart := false }
def FnExactMateNewWorldSaid : Prop := fnExactMateNewWorldRow.holds Try.pinned (OpenSpec.ofChange fnExactMateNewWorldSpec)

/-- ITS FALSE NEIGHBOUR: 'it returns false'. Refute it at one input. -/
def fnExactMateNewWorldWrong : ChangeSpec := { name := "fnExactMateNewWorld", fn := fun _ => fun
  | [d] => { results := [.lit (.bool false)], args := [d] }
  | _ => none }
def FnExactMateNewWorldWrongFalsely : Prop := fnExactMateNewWorldRow.holds Try.pinned (OpenSpec.ofChange fnExactMateNewWorldWrong)

/-- 'laws.FnExactMateWorldOk': WHATEVER THE INPUT: true; the input reads as it did. -/
def fnExactMateWorldOkSpec : ChangeSpec := { name := "fnExactMateWorldOk", fn := fun _ => fun
  | [d] => { results := [.lit (.bool true)], args := [d] }
  | _ => none }
def fnExactMateWorldOkRow : OpenClaim := { program := "ytlnemfcpflcfpaa", sum := "6a25cc99f6a1714446470ce2fda0265c6edad98856ca78e23d405af3a5e8ec7b", func := "loop.example/wharffleet/laws.FnExactMateWorldOk", spec := "fnExactMateWorldOk", unfollowed := true, recurses := true, apart := false }
def FnExactMateWorldOkSaid : Prop := fnExactMateWorldOkRow.holds Try.pinned (OpenSpec.ofChange fnExactMateWorldOkSpec)

/-- ITS FALSE NEIGHBOUR: 'it returns false'. Refute it at one input. -/
def fnExactMateWorldOkWrong : ChangeSpec := { name := "fnExactMateWorldOk", fn := fun _ => fun
  | [d] => { results := [.lit (.bool false)], args := [d] }
  | _ => none }
def FnExactMateWorldOkWrongFalsely : Prop := fnExactMateWorldOkRow.holds Try.pinned (OpenSpec.ofChange fnExactMateWorldOkWrong)

/-- 'laws.FnExactMateSafe': WHATEVER THE INPUT: true; the input reads as it did. -/
def fnExactMateSafeSpec : ChangeSpec := { name := "fnExactMateSafe", fn := fun _ => fun
  | [d] => { results := [.lit (.bool true)], args := [d] }
  | _ => none }
def fnExactMateSafeRow : OpenClaim := { program := "ytlnemfcpflcfpaa", sum := "6a25cc99f6a1714446470ce2fda0265c6edad98856ca78e23d405af3a5e8ec7b", func := "loop.example/wharffleet/laws.FnExactMateSafe", spec := "fnExactMateSafe", unfollowed := true, recurses := true, apart := false }
def FnExactMateSafeSaid : Prop := fnExactMateSafeRow.holds Try.pinned (OpenSpec.ofChange fnExactMateSafeSpec)

/-- ITS FALSE NEIGHBOUR: 'it returns false'. Refute it at one input. -/
def fnExactMateSafeWrong : ChangeSpec := { name := "fnExactMateSafe", fn := fun _ => fun
  | [d] => { results := [.lit (.bool false)], args := [d] }
  | _ => none }
def FnExactMateSafeWrongFalsely : Prop := fnExactMateSafeRow.holds Try.pinned (OpenSpec.ofChange fnExactMateSafeWrong)

/-- 'laws.FnExactMateSettled': WHATEVER THE INPUT: true; the input reads as it did. -/
def fnExactMateSettledSpec : ChangeSpec := { name := "fnExactMateSettled", fn := fun _ => fun
  | [d] => { results := [.lit (.bool true)], args := [d] }
  | _ => none }
def fnExactMateSettledRow : OpenClaim := { program := "ytlnemfcpflcfpaa", sum := "6a25cc99f6a1714446470ce2fda0265c6edad98856ca78e23d405af3a5e8ec7b", func := "loop.example/wharffleet/laws.FnExactMateSettled", spec := "fnExactMateSettled", unfollowed := true, recurses := true, apart := false }
def FnExactMateSettledSaid : Prop := fnExactMateSettledRow.holds Try.pinned (OpenSpec.ofChange fnExactMateSettledSpec)

/-- ITS FALSE NEIGHBOUR: 'it returns false'. Refute it at one input. -/
def fnExactMateSettledWrong : ChangeSpec := { name := "fnExactMateSettled", fn := fun _ => fun
  | [d] => { results := [.lit (.bool false)], args := [d] }
  | _ => none }
def FnExactMateSettledWrongFalsely : Prop := fnExactMateSettledRow.holds Try.pinned (OpenSpec.ofChange fnExactMateSettledWrong)

/-- 'laws.FnExactMateLandTake': WHATEVER THE INPUT: true; the input reads as it did. -/
def fnExactMateLandTakeSpec : ChangeSpec := { name := "fnExactMateLandTake", fn := fun _ => fun
  | [d1, d2] => { results := [.lit (.bool true)], args := [d1, d2] }
  | _ => none }
def fnExactMateLandTakeRow : OpenClaim := { program := "ytlnemfcpflcfpaa", sum := "6a25cc99f6a1714446470ce2fda0265c6edad98856ca78e23d405af3a5e8ec7b", func := "loop.example/wharffleet/laws.FnExactMateLandTake", spec := "fnExactMateLandTake", inPlace := ["slices.overlaps[loop.example/wharffleet/impl.MateGrant]"], unfollowed := true, recurses := true, apart := false }
def FnExactMateLandTakeSaid : Prop := fnExactMateLandTakeRow.holds Try.pinned (OpenSpec.ofChange fnExactMateLandTakeSpec)

/-- ITS FALSE NEIGHBOUR: 'it returns false'. Refute it at one input. -/
def fnExactMateLandTakeWrong : ChangeSpec := { name := "fnExactMateLandTake", fn := fun _ => fun
  | [d1, d2] => { results := [.lit (.bool false)], args := [d1, d2] }
  | _ => none }
def FnExactMateLandTakeWrongFalsely : Prop := fnExactMateLandTakeRow.holds Try.pinned (OpenSpec.ofChange fnExactMateLandTakeWrong)

/- THE SECOND FORM. 'bulk': how many values and letters a reading holds, each counted each time it is reached (what is shared counts as often as it is met; a slice's spare places count too). A statement '..UptoSaid' is the law's where the arguments, and the package variables that the reading takes, are together of bulk at most 1048576: NARROWER than '..Said'. Prove '..Said' where nothing that the law and all that it calls make is longer than what came in: it says more and counts as full. Else prove '..UptoSaid'. A law counts once. -/
mutual
def uptoBulk {H : Type} : DataW H → Nat
  | .lit (.string bytes) => bytes.length + 1
  | .lit _ => 1
  | .nil => 1
  | .ptr d => uptoBulk d + 1
  | .slice elems spare => uptoBulkAll elems + uptoBulkAll spare + 1
  | .agg parts => uptoBulkAll parts + 1
  | .iface _ d => uptoBulk d + 1
  | .map entries => uptoBulkEntries entries + 1
  | .held _ => 1
def uptoBulkAll {H : Type} : List (DataW H) → Nat
  | [] => 0
  | d :: r => uptoBulk d + uptoBulkAll r
def uptoBulkEntries {H : Type} : List (Lit × DataW H) → Nat
  | [] => 0
  | x :: r => uptoBulkEntry x + uptoBulkEntries r
def uptoBulkEntry {H : Type} : Lit × DataW H → Nat
  | (.string bytes, d) => bytes.length + uptoBulk d + 1
  | (_, d) => uptoBulk d + 1
 end
def uptoSmall : (H : Type) → List (DataW H) → Bool := fun _ ds => decide (uptoBulkAll ds ≤ 1048576)
def OpenSpec.upto (s : _root_.Go.ChangeSpec) : _root_.Go.OpenSpec := { _root_.Go.OpenSpec.ofChange s with cond := some uptoSmall }

/-- 'laws.FnExactMateLandOk', WHERE WHAT IT READS IS OF BULK AT MOST 1048576: true; the input reads as it did. -/
def fnExactMateLandOkUptoRow : OpenClaim := { program := "ytlnemfcpflcfpaa", sum := "6a25cc99f6a1714446470ce2fda0265c6edad98856ca78e23d405af3a5e8ec7b", func := "loop.example/wharffleet/laws.FnExactMateLandOk", spec := "fnExactMateLandOk", apart := false, narrowed := true }
def FnExactMateLandOkUptoSaid : Prop := fnExactMateLandOkUptoRow.holds Try.pinned (OpenSpec.upto fnExactMateLandOkSpec)

/-- 'laws.FnExactMateLandTick', WHERE WHAT IT READS IS OF BULK AT MOST 1048576: true; the input reads as it did. -/
def fnExactMateLandTickUptoRow : OpenClaim := { program := "ytlnemfcpflcfpaa", sum := "6a25cc99f6a1714446470ce2fda0265c6edad98856ca78e23d405af3a5e8ec7b", func := "loop.example/wharffleet/laws.FnExactMateLandTick", spec := "fnExactMateLandTick", apart := false, narrowed := true }
def FnExactMateLandTickUptoSaid : Prop := fnExactMateLandTickUptoRow.holds Try.pinned (OpenSpec.upto fnExactMateLandTickSpec)

/-- 'laws.FnExactMatePut', WHERE WHAT IT READS IS OF BULK AT MOST 1048576: true; the input reads as it did. -/
def fnExactMatePutUptoRow : OpenClaim := { program := "ytlnemfcpflcfpaa", sum := "6a25cc99f6a1714446470ce2fda0265c6edad98856ca78e23d405af3a5e8ec7b", func := "loop.example/wharffleet/laws.FnExactMatePut", spec := "fnExactMatePut", inPlace := ["slices.overlaps[loop.example/wharffleet/impl.MatePlace]"], unfollowed := true, recurses := true, apart := false, narrowed := true }
def FnExactMatePutUptoSaid : Prop := fnExactMatePutUptoRow.holds Try.pinned (OpenSpec.upto fnExactMatePutSpec)

/-- 'laws.FnMateLand', WHERE WHAT IT READS IS OF BULK AT MOST 1048576: true; the input reads as it did. -/
def fnMateLandUptoRow : OpenClaim := { program := "ytlnemfcpflcfpaa", sum := "6a25cc99f6a1714446470ce2fda0265c6edad98856ca78e23d405af3a5e8ec7b", func := "loop.example/wharffleet/laws.FnMateLand", spec := "fnMateLand", inPlace := ["slices.overlaps[loop.example/wharffleet/impl.MateGrant]", "slices.overlaps[loop.example/wharffleet/impl.MatePlace]"], unfollowed := true, recurses := true, apart := false, narrowed := true }
def FnMateLandUptoSaid : Prop := fnMateLandUptoRow.holds Try.pinned (OpenSpec.upto fnMateLandSpec)

/-- 'laws.FnExactMateNewWorld', WHERE WHAT IT READS IS OF BULK AT MOST 1048576: true; the input reads as it did. -/
def fnExactMateNewWorldUptoRow : OpenClaim := { program := "ytlnemfcpflcfpaa", sum := "6a25cc99f6a1714446470ce2fda0265c6edad98856ca78e23d405af3a5e8ec7b", func := "loop.example/wharffleet/laws.FnExactMateNewWorld", spec := "fnExactMateNewWorld", apart := false, narrowed := true }
def FnExactMateNewWorldUptoSaid : Prop := fnExactMateNewWorldUptoRow.holds Try.pinned (OpenSpec.upto fnExactMateNewWorldSpec)

/-- 'laws.FnExactMateWorldOk', WHERE WHAT IT READS IS OF BULK AT MOST 1048576: true; the input reads as it did. -/
def fnExactMateWorldOkUptoRow : OpenClaim := { program := "ytlnemfcpflcfpaa", sum := "6a25cc99f6a1714446470ce2fda0265c6edad98856ca78e23d405af3a5e8ec7b", func := "loop.example/wharffleet/laws.FnExactMateWorldOk", spec := "fnExactMateWorldOk", unfollowed := true, recurses := true, apart := false, narrowed := true }
def FnExactMateWorldOkUptoSaid : Prop := fnExactMateWorldOkUptoRow.holds Try.pinned (OpenSpec.upto fnExactMateWorldOkSpec)

/-- 'laws.FnExactMateSafe', WHERE WHAT IT READS IS OF BULK AT MOST 1048576: true; the input reads as it did. -/
def fnExactMateSafeUptoRow : OpenClaim := { program := "ytlnemfcpflcfpaa", sum := "6a25cc99f6a1714446470ce2fda0265c6edad98856ca78e23d405af3a5e8ec7b", func := "loop.example/wharffleet/laws.FnExactMateSafe", spec := "fnExactMateSafe", unfollowed := true, recurses := true, apart := false, narrowed := true }
def FnExactMateSafeUptoSaid : Prop := fnExactMateSafeUptoRow.holds Try.pinned (OpenSpec.upto fnExactMateSafeSpec)

/-- 'laws.FnExactMateSettled', WHERE WHAT IT READS IS OF BULK AT MOST 1048576: true; the input reads as it did. -/
def fnExactMateSettledUptoRow : OpenClaim := { program := "ytlnemfcpflcfpaa", sum := "6a25cc99f6a1714446470ce2fda0265c6edad98856ca78e23d405af3a5e8ec7b", func := "loop.example/wharffleet/laws.FnExactMateSettled", spec := "fnExactMateSettled", unfollowed := true, recurses := true, apart := false, narrowed := true }
def FnExactMateSettledUptoSaid : Prop := fnExactMateSettledUptoRow.holds Try.pinned (OpenSpec.upto fnExactMateSettledSpec)

/-- 'laws.FnExactMateLandTake', WHERE WHAT IT READS IS OF BULK AT MOST 1048576: true; the input reads as it did. -/
def fnExactMateLandTakeUptoRow : OpenClaim := { program := "ytlnemfcpflcfpaa", sum := "6a25cc99f6a1714446470ce2fda0265c6edad98856ca78e23d405af3a5e8ec7b", func := "loop.example/wharffleet/laws.FnExactMateLandTake", spec := "fnExactMateLandTake", inPlace := ["slices.overlaps[loop.example/wharffleet/impl.MateGrant]"], unfollowed := true, recurses := true, apart := false, narrowed := true }
def FnExactMateLandTakeUptoSaid : Prop := fnExactMateLandTakeUptoRow.holds Try.pinned (OpenSpec.upto fnExactMateLandTakeSpec)

end Rows
end Go.Proofs.Ytlnemfcpflcfpaa
