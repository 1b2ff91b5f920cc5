/-
  No cell of these rows narrows 'for every input' (looked for: loops, veiled, ifaces, maps, wideKeys, modest, calm, conditions, laid).
  DERIVED. THE GIVEN ROWS OF THIS SEAT. 12 by the template 'for every input the law returns true; each argument reads behind the call as it read before'; 0 by the template 'total and deterministic' (their statements: YtfoaihjkmfhaoaaTotals.lean).
  GIVEN WITH THE SEED: the statements are not yours to turn. If you find one false, say at which input.
  Laid BY PROGRAM, IN A SANDBOX (cutbox-rows.mjs): the forced cells as the released guide's own fill.sh prints them over the translation 31faec9b9cf80025… (all of the seat's roots in one cut). By AI agents, Wed Nov 11 2026. No macro, syntax, notation, axiom, sorry.
-/
import Derived.Test.YtfoaihjkmfhaoaaChecked
import GoSem.Claim
import GoSem.ClaimJoined
import GoSem.ClaimMapViews
import Derived.JoinedTies
import Derived.KernelRfl
namespace Go.Proofs.Ytfoaihjkmfhaoaa
/- THE CELL 'sum', in the pinned program and in every row, IS THE sha256 OF THE DUMP (.gsa) THAT YtfoaihjkmfhaoaaProg.lean LOADS. Nothing in Lean hashes anything: it is a label: what it is worth is what the hold of that sum in a sandbox is worth. -/
noncomputable def Try.pinned : Pinned := { name := "ytfoaihjkmfhaoaa", sum := "31faec9b9cf800254bd8df7d116ebeea6254fe45c185cbed5e471e4ead0b374e", checked := Try.checked }
namespace Rows
def none {H : Type} : Left H := { results := [], args := [] }

/-- 'spinnakerlaw6.PlainRising': WHATEVER THE INPUT: true; the input reads as it did. -/
def plainRisingSpec : ChangeSpec := { name := "plainRising", fn := fun _ => fun
  | [d1, d2] => { results := [.lit (.bool true)], args := [d1, d2] }
  | _ => none }
def plainRisingRow : OpenClaim := { program := "ytfoaihjkmfhaoaa", sum := "31faec9b9cf800254bd8df7d116ebeea6254fe45c185cbed5e471e4ead0b374e", func := "spinnaker/spinnakerlaw6.PlainRising", spec := "plainRising", apart := false }
def PlainRisingSaid : Prop := plainRisingRow.holds Try.pinned (OpenSpec.ofChange plainRisingSpec)

/-- ITS FALSE NEIGHBOUR: 'it returns false'. Refute it at one input. -/
def plainRisingWrong : ChangeSpec := { name := "plainRising", fn := fun _ => fun
  | [d1, d2] => { results := [.lit (.bool false)], args := [d1, d2] }
  | _ => none }
def PlainRisingWrongFalsely : Prop := plainRisingRow.holds Try.pinned (OpenSpec.ofChange plainRisingWrong)

/-- 'spinnakerlaw6.PlainAsks': WHATEVER THE INPUT: true; the input reads as it did. -/
def plainAsksSpec : ChangeSpec := { name := "plainAsks", fn := fun _ => fun
  | [d1, d2, d3, d4, d5] => { results := [.lit (.bool true)], args := [d1, d2, d3, d4, d5] }
  | _ => none }
def plainAsksRow : OpenClaim := { program := "ytfoaihjkmfhaoaa", sum := "31faec9b9cf800254bd8df7d116ebeea6254fe45c185cbed5e471e4ead0b374e", func := "spinnaker/spinnakerlaw6.PlainAsks", spec := "plainAsks", apart := false }
def PlainAsksSaid : Prop := plainAsksRow.holds Try.pinned (OpenSpec.ofChange plainAsksSpec)

/-- ITS FALSE NEIGHBOUR: 'it returns false'. Refute it at one input. -/
def plainAsksWrong : ChangeSpec := { name := "plainAsks", fn := fun _ => fun
  | [d1, d2, d3, d4, d5] => { results := [.lit (.bool false)], args := [d1, d2, d3, d4, d5] }
  | _ => none }
def PlainAsksWrongFalsely : Prop := plainAsksRow.holds Try.pinned (OpenSpec.ofChange plainAsksWrong)

/-- 'spinnakerlaw6.PlainParts': WHATEVER THE INPUT: true; the input reads as it did. -/
def plainPartsSpec : ChangeSpec := { name := "plainParts", fn := fun _ => fun
  | [d1, d2] => { results := [.lit (.bool true)], args := [d1, d2] }
  | _ => none }
def plainPartsRow : OpenClaim := { program := "ytfoaihjkmfhaoaa", sum := "31faec9b9cf800254bd8df7d116ebeea6254fe45c185cbed5e471e4ead0b374e", func := "spinnaker/spinnakerlaw6.PlainParts", spec := "plainParts", apart := false }
def PlainPartsSaid : Prop := plainPartsRow.holds Try.pinned (OpenSpec.ofChange plainPartsSpec)

/-- ITS FALSE NEIGHBOUR: 'it returns false'. Refute it at one input. -/
def plainPartsWrong : ChangeSpec := { name := "plainParts", fn := fun _ => fun
  | [d1, d2] => { results := [.lit (.bool false)], args := [d1, d2] }
  | _ => none }
def PlainPartsWrongFalsely : Prop := plainPartsRow.holds Try.pinned (OpenSpec.ofChange plainPartsWrong)

/-- 'spinnakerlaw6.PlainRings': WHATEVER THE INPUT: true; the input reads as it did. -/
def plainRingsSpec : ChangeSpec := { name := "plainRings", fn := fun _ => fun
  | [d1, d2, d3, d4] => { results := [.lit (.bool true)], args := [d1, d2, d3, d4] }
  | _ => none }
def plainRingsRow : OpenClaim := { program := "ytfoaihjkmfhaoaa", sum := "31faec9b9cf800254bd8df7d116ebeea6254fe45c185cbed5e471e4ead0b374e", func := "spinnaker/spinnakerlaw6.PlainRings", spec := "plainRings", unfollowed := true, recurses := true, apart := false }
def PlainRingsSaid : Prop := plainRingsRow.holds Try.pinned (OpenSpec.ofChange plainRingsSpec)

/-- ITS FALSE NEIGHBOUR: 'it returns false'. Refute it at one input. -/
def plainRingsWrong : ChangeSpec := { name := "plainRings", fn := fun _ => fun
  | [d1, d2, d3, d4] => { results := [.lit (.bool false)], args := [d1, d2, d3, d4] }
  | _ => none }
def PlainRingsWrongFalsely : Prop := plainRingsRow.holds Try.pinned (OpenSpec.ofChange plainRingsWrong)

/-- 'spinnakerlaw15.DelaySpans': WHATEVER THE INPUT: true; the input reads as it did. -/
def delaySpansSpec : ChangeSpec := { name := "delaySpans", fn := fun _ => fun
  | [d1, d2, d3] => { results := [.lit (.bool true)], args := [d1, d2, d3] }
  | _ => none }
def delaySpansRow : OpenClaim := { program := "ytfoaihjkmfhaoaa", sum := "31faec9b9cf800254bd8df7d116ebeea6254fe45c185cbed5e471e4ead0b374e", func := "spinnaker/spinnakerlaw15.DelaySpans", spec := "delaySpans", unfollowed := true, recurses := true, apart := false }
def DelaySpansSaid : Prop := delaySpansRow.holds Try.pinned (OpenSpec.ofChange delaySpansSpec)

/-- ITS FALSE NEIGHBOUR: 'it returns false'. Refute it at one input. -/
def delaySpansWrong : ChangeSpec := { name := "delaySpans", fn := fun _ => fun
  | [d1, d2, d3] => { results := [.lit (.bool false)], args := [d1, d2, d3] }
  | _ => none }
def DelaySpansWrongFalsely : Prop := delaySpansRow.holds Try.pinned (OpenSpec.ofChange delaySpansWrong)

/-- 'spinnakerlaw15.DelayPlays': WHATEVER THE INPUT: true; the input reads as it did. -/
def delayPlaysSpec : ChangeSpec := { name := "delayPlays", fn := fun _ => fun
  | [d1, d2] => { results := [.lit (.bool true)], args := [d1, d2] }
  | _ => none }
def delayPlaysRow : OpenClaim := { program := "ytfoaihjkmfhaoaa", sum := "31faec9b9cf800254bd8df7d116ebeea6254fe45c185cbed5e471e4ead0b374e", func := "spinnaker/spinnakerlaw15.DelayPlays", spec := "delayPlays", unfollowed := true, recurses := true, apart := false }
def DelayPlaysSaid : Prop := delayPlaysRow.holds Try.pinned (OpenSpec.ofChange delayPlaysSpec)

/-- ITS FALSE NEIGHBOUR: 'it returns false'. Refute it at one input. -/
def delayPlaysWrong : ChangeSpec := { name := "delayPlays", fn := fun _ => fun
  | [d1, d2] => { results := [.lit (.bool false)], args := [d1, d2] }
  | _ => none }
def DelayPlaysWrongFalsely : Prop := delayPlaysRow.holds Try.pinned (OpenSpec.ofChange delayPlaysWrong)

/-- 'spinnakerlaw15.DelayHolds': WHATEVER THE INPUT: true; the input reads as it did. -/
def delayHoldsSpec : ChangeSpec := { name := "delayHolds", fn := fun _ => fun
  | [d1, d2] => { results := [.lit (.bool true)], args := [d1, d2] }
  | _ => none }
def delayHoldsRow : OpenClaim := { program := "ytfoaihjkmfhaoaa", sum := "31faec9b9cf800254bd8df7d116ebeea6254fe45c185cbed5e471e4ead0b374e", func := "spinnaker/spinnakerlaw15.DelayHolds", spec := "delayHolds", unfollowed := true, recurses := true, apart := false }
def DelayHoldsSaid : Prop := delayHoldsRow.holds Try.pinned (OpenSpec.ofChange delayHoldsSpec)

/-- ITS FALSE NEIGHBOUR: 'it returns false'. Refute it at one input. -/
def delayHoldsWrong : ChangeSpec := { name := "delayHolds", fn := fun _ => fun
  | [d1, d2] => { results := [.lit (.bool false)], args := [d1, d2] }
  | _ => none }
def DelayHoldsWrongFalsely : Prop := delayHoldsRow.holds Try.pinned (OpenSpec.ofChange delayHoldsWrong)

/-- 'spinnakerlaw15.DelayBounds': WHATEVER THE INPUT: true; the input reads as it did. -/
def delayBoundsSpec : ChangeSpec := { name := "delayBounds", fn := fun _ => fun
  | [d1, d2, d3] => { results := [.lit (.bool true)], args := [d1, d2, d3] }
  | _ => none }
def delayBoundsRow : OpenClaim := { program := "ytfoaihjkmfhaoaa", sum := "31faec9b9cf800254bd8df7d116ebeea6254fe45c185cbed5e471e4ead0b374e", func := "spinnaker/spinnakerlaw15.DelayBounds", spec := "delayBounds", unfollowed := true, recurses := true, apart := false }
def DelayBoundsSaid : Prop := delayBoundsRow.holds Try.pinned (OpenSpec.ofChange delayBoundsSpec)

/-- ITS FALSE NEIGHBOUR: 'it returns false'. Refute it at one input. -/
def delayBoundsWrong : ChangeSpec := { name := "delayBounds", fn := fun _ => fun
  | [d1, d2, d3] => { results := [.lit (.bool false)], args := [d1, d2, d3] }
  | _ => none }
def DelayBoundsWrongFalsely : Prop := delayBoundsRow.holds Try.pinned (OpenSpec.ofChange delayBoundsWrong)

/-- 'spinnakerlaw14.AlarmAsks': WHATEVER THE INPUT: true; the input reads as it did. -/
def alarmAsksSpec : ChangeSpec := { name := "alarmAsks", fn := fun _ => fun
  | [d1, d2, d3, d4, d5] => { results := [.lit (.bool true)], args := [d1, d2, d3, d4, d5] }
  | _ => none }
def alarmAsksRow : OpenClaim := { program := "ytfoaihjkmfhaoaa", sum := "31faec9b9cf800254bd8df7d116ebeea6254fe45c185cbed5e471e4ead0b374e", func := "spinnaker/spinnakerlaw14.AlarmAsks", spec := "alarmAsks", apart := false }
def AlarmAsksSaid : Prop := alarmAsksRow.holds Try.pinned (OpenSpec.ofChange alarmAsksSpec)

/-- ITS FALSE NEIGHBOUR: 'it returns false'. Refute it at one input. -/
def alarmAsksWrong : ChangeSpec := { name := "alarmAsks", fn := fun _ => fun
  | [d1, d2, d3, d4, d5] => { results := [.lit (.bool false)], args := [d1, d2, d3, d4, d5] }
  | _ => none }
def AlarmAsksWrongFalsely : Prop := alarmAsksRow.holds Try.pinned (OpenSpec.ofChange alarmAsksWrong)

/-- 'spinnakerlaw14.AlarmPlays': WHATEVER THE INPUT: true; the input reads as it did. -/
def alarmPlaysSpec : ChangeSpec := { name := "alarmPlays", fn := fun _ => fun
  | [d1, d2] => { results := [.lit (.bool true)], args := [d1, d2] }
  | _ => none }
def alarmPlaysRow : OpenClaim := { program := "ytfoaihjkmfhaoaa", sum := "31faec9b9cf800254bd8df7d116ebeea6254fe45c185cbed5e471e4ead0b374e", func := "spinnaker/spinnakerlaw14.AlarmPlays", spec := "alarmPlays", apart := false }
def AlarmPlaysSaid : Prop := alarmPlaysRow.holds Try.pinned (OpenSpec.ofChange alarmPlaysSpec)

/-- ITS FALSE NEIGHBOUR: 'it returns false'. Refute it at one input. -/
def alarmPlaysWrong : ChangeSpec := { name := "alarmPlays", fn := fun _ => fun
  | [d1, d2] => { results := [.lit (.bool false)], args := [d1, d2] }
  | _ => none }
def AlarmPlaysWrongFalsely : Prop := alarmPlaysRow.holds Try.pinned (OpenSpec.ofChange alarmPlaysWrong)

/-- 'spinnakerlaw14.AlarmEnds': WHATEVER THE INPUT: true; the input reads as it did. -/
def alarmEndsSpec : ChangeSpec := { name := "alarmEnds", fn := fun _ => fun
  | [d1, d2, d3] => { results := [.lit (.bool true)], args := [d1, d2, d3] }
  | _ => none }
def alarmEndsRow : OpenClaim := { program := "ytfoaihjkmfhaoaa", sum := "31faec9b9cf800254bd8df7d116ebeea6254fe45c185cbed5e471e4ead0b374e", func := "spinnaker/spinnakerlaw14.AlarmEnds", spec := "alarmEnds", apart := false }
def AlarmEndsSaid : Prop := alarmEndsRow.holds Try.pinned (OpenSpec.ofChange alarmEndsSpec)

/-- ITS FALSE NEIGHBOUR: 'it returns false'. Refute it at one input. -/
def alarmEndsWrong : ChangeSpec := { name := "alarmEnds", fn := fun _ => fun
  | [d1, d2, d3] => { results := [.lit (.bool false)], args := [d1, d2, d3] }
  | _ => none }
def AlarmEndsWrongFalsely : Prop := alarmEndsRow.holds Try.pinned (OpenSpec.ofChange alarmEndsWrong)

/-- 'spinnakerlaw14.AlarmMost': WHATEVER THE INPUT: true; the input reads as it did. -/
def alarmMostSpec : ChangeSpec := { name := "alarmMost", fn := fun _ => fun
  | [d1, d2] => { results := [.lit (.bool true)], args := [d1, d2] }
  | _ => none }
def alarmMostRow : OpenClaim := { program := "ytfoaihjkmfhaoaa", sum := "31faec9b9cf800254bd8df7d116ebeea6254fe45c185cbed5e471e4ead0b374e", func := "spinnaker/spinnakerlaw14.AlarmMost", spec := "alarmMost", apart := false }
def AlarmMostSaid : Prop := alarmMostRow.holds Try.pinned (OpenSpec.ofChange alarmMostSpec)

/-- ITS FALSE NEIGHBOUR: 'it returns false'. Refute it at one input. -/
def alarmMostWrong : ChangeSpec := { name := "alarmMost", fn := fun _ => fun
  | [d1, d2] => { results := [.lit (.bool false)], args := [d1, d2] }
  | _ => none }
def AlarmMostWrongFalsely : Prop := alarmMostRow.holds Try.pinned (OpenSpec.ofChange alarmMostWrong)

/- THE SECOND FORM. 'bulk': how many values and letters a reading holds, each counted each time it is reached (what is shared counts as often as it is met; a slice's spare places count too). A statement '..UptoSaid' is the law's where the arguments, and the package variables that the reading takes, are together of bulk at most 1048576: NARROWER than '..Said'. Prove '..Said' where nothing that the law and all that it calls make is longer than what came in: it says more and counts as full. Else prove '..UptoSaid'. A law counts once. -/
mutual
def uptoBulk {H : Type} : DataW H → Nat
  | .lit (.string bytes) => bytes.length + 1
  | .lit _ => 1
  | .nil => 1
  | .ptr d => uptoBulk d + 1
  | .slice elems spare => uptoBulkAll elems + uptoBulkAll spare + 1
  | .agg parts => uptoBulkAll parts + 1
  | .iface _ d => uptoBulk d + 1
  | .map entries => uptoBulkEntries entries + 1
  | .held _ => 1
def uptoBulkAll {H : Type} : List (DataW H) → Nat
  | [] => 0
  | d :: r => uptoBulk d + uptoBulkAll r
def uptoBulkEntries {H : Type} : List (Lit × DataW H) → Nat
  | [] => 0
  | x :: r => uptoBulkEntry x + uptoBulkEntries r
def uptoBulkEntry {H : Type} : Lit × DataW H → Nat
  | (.string bytes, d) => bytes.length + uptoBulk d + 1
  | (_, d) => uptoBulk d + 1
 end
def uptoSmall : (H : Type) → List (DataW H) → Bool := fun _ ds => decide (uptoBulkAll ds ≤ 1048576)
def OpenSpec.upto (s : _root_.Go.ChangeSpec) : _root_.Go.OpenSpec := { _root_.Go.OpenSpec.ofChange s with cond := some uptoSmall }

/-- 'spinnakerlaw6.PlainRising', WHERE WHAT IT READS IS OF BULK AT MOST 1048576: true; the input reads as it did. -/
def plainRisingUptoRow : OpenClaim := { program := "ytfoaihjkmfhaoaa", sum := "31faec9b9cf800254bd8df7d116ebeea6254fe45c185cbed5e471e4ead0b374e", func := "spinnaker/spinnakerlaw6.PlainRising", spec := "plainRising", apart := false, narrowed := true }
def PlainRisingUptoSaid : Prop := plainRisingUptoRow.holds Try.pinned (OpenSpec.upto plainRisingSpec)

/-- 'spinnakerlaw6.PlainAsks', WHERE WHAT IT READS IS OF BULK AT MOST 1048576: true; the input reads as it did. -/
def plainAsksUptoRow : OpenClaim := { program := "ytfoaihjkmfhaoaa", sum := "31faec9b9cf800254bd8df7d116ebeea6254fe45c185cbed5e471e4ead0b374e", func := "spinnaker/spinnakerlaw6.PlainAsks", spec := "plainAsks", apart := false, narrowed := true }
def PlainAsksUptoSaid : Prop := plainAsksUptoRow.holds Try.pinned (OpenSpec.upto plainAsksSpec)

/-- 'spinnakerlaw6.PlainParts', WHERE WHAT IT READS IS OF BULK AT MOST 1048576: true; the input reads as it did. -/
def plainPartsUptoRow : OpenClaim := { program := "ytfoaihjkmfhaoaa", sum := "31faec9b9cf800254bd8df7d116ebeea6254fe45c185cbed5e471e4ead0b374e", func := "spinnaker/spinnakerlaw6.PlainParts", spec := "plainParts", apart := false, narrowed := true }
def PlainPartsUptoSaid : Prop := plainPartsUptoRow.holds Try.pinned (OpenSpec.upto plainPartsSpec)

/-- 'spinnakerlaw6.PlainRings', WHERE WHAT IT READS IS OF BULK AT MOST 1048576: true; the input reads as it did. -/
def plainRingsUptoRow : OpenClaim := { program := "ytfoaihjkmfhaoaa", sum := "31faec9b9cf800254bd8df7d116ebeea6254fe45c185cbed5e471e4ead0b374e", func := "spinnaker/spinnakerlaw6.PlainRings", spec := "plainRings", unfollowed := true, recurses := true, apart := false, narrowed := true }
def PlainRingsUptoSaid : Prop := plainRingsUptoRow.holds Try.pinned (OpenSpec.upto plainRingsSpec)

/-- 'spinnakerlaw15.DelaySpans', WHERE WHAT IT READS IS OF BULK AT MOST 1048576: true; the input reads as it did. -/
def delaySpansUptoRow : OpenClaim := { program := "ytfoaihjkmfhaoaa", sum := "31faec9b9cf800254bd8df7d116ebeea6254fe45c185cbed5e471e4ead0b374e", func := "spinnaker/spinnakerlaw15.DelaySpans", spec := "delaySpans", unfollowed := true, recurses := true, apart := false, narrowed := true }
def DelaySpansUptoSaid : Prop := delaySpansUptoRow.holds Try.pinned (OpenSpec.upto delaySpansSpec)

/-- 'spinnakerlaw15.DelayPlays', WHERE WHAT IT READS IS OF BULK AT MOST 1048576: true; the input reads as it did. -/
def delayPlaysUptoRow : OpenClaim := { program := "ytfoaihjkmfhaoaa", sum := "31faec9b9cf800254bd8df7d116ebeea6254fe45c185cbed5e471e4ead0b374e", func := "spinnaker/spinnakerlaw15.DelayPlays", spec := "delayPlays", unfollowed := true, recurses := true, apart := false, narrowed := true }
def DelayPlaysUptoSaid : Prop := delayPlaysUptoRow.holds Try.pinned (OpenSpec.upto delayPlaysSpec)

/-- 'spinnakerlaw15.DelayHolds', WHERE WHAT IT READS IS OF BULK AT MOST 1048576: true; the input reads as it did. -/
def delayHoldsUptoRow : OpenClaim := { program := "ytfoaihjkmfhaoaa", sum := "31faec9b9cf800254bd8df7d116ebeea6254fe45c185cbed5e471e4ead0b374e", func := "spinnaker/spinnakerlaw15.DelayHolds", spec := "delayHolds", unfollowed := true, recurses := true, apart := false, narrowed := true }
def DelayHoldsUptoSaid : Prop := delayHoldsUptoRow.holds Try.pinned (OpenSpec.upto delayHoldsSpec)

/-- 'spinnakerlaw15.DelayBounds', WHERE WHAT IT READS IS OF BULK AT MOST 1048576: true; the input reads as it did. -/
def delayBoundsUptoRow : OpenClaim := { program := "ytfoaihjkmfhaoaa", sum := "31faec9b9cf800254bd8df7d116ebeea6254fe45c185cbed5e471e4ead0b374e", func := "spinnaker/spinnakerlaw15.DelayBounds", spec := "delayBounds", unfollowed := true, recurses := true, apart := false, narrowed := true }
def DelayBoundsUptoSaid : Prop := delayBoundsUptoRow.holds Try.pinned (OpenSpec.upto delayBoundsSpec)

/-- 'spinnakerlaw14.AlarmAsks', WHERE WHAT IT READS IS OF BULK AT MOST 1048576: true; the input reads as it did. -/
def alarmAsksUptoRow : OpenClaim := { program := "ytfoaihjkmfhaoaa", sum := "31faec9b9cf800254bd8df7d116ebeea6254fe45c185cbed5e471e4ead0b374e", func := "spinnaker/spinnakerlaw14.AlarmAsks", spec := "alarmAsks", apart := false, narrowed := true }
def AlarmAsksUptoSaid : Prop := alarmAsksUptoRow.holds Try.pinned (OpenSpec.upto alarmAsksSpec)

/-- 'spinnakerlaw14.AlarmPlays', WHERE WHAT IT READS IS OF BULK AT MOST 1048576: true; the input reads as it did. -/
def alarmPlaysUptoRow : OpenClaim := { program := "ytfoaihjkmfhaoaa", sum := "31faec9b9cf800254bd8df7d116ebeea6254fe45c185cbed5e471e4ead0b374e", func := "spinnaker/spinnakerlaw14.AlarmPlays", spec := "alarmPlays", apart := false, narrowed := true }
def AlarmPlaysUptoSaid : Prop := alarmPlaysUptoRow.holds Try.pinned (OpenSpec.upto alarmPlaysSpec)

/-- 'spinnakerlaw14.AlarmEnds', WHERE WHAT IT READS IS OF BULK AT MOST 1048576: true; the input reads as it did. -/
def alarmEndsUptoRow : OpenClaim := { program := "ytfoaihjkmfhaoaa", sum := "31faec9b9cf800254bd8df7d116ebeea6254fe45c185cbed5e471e4ead0b374e", func := "spinnaker/spinnakerlaw14.AlarmEnds", spec := "alarmEnds", apart := false, narrowed := true }
def AlarmEndsUptoSaid : Prop := alarmEndsUptoRow.holds Try.pinned (OpenSpec.upto alarmEndsSpec)

/-- 'spinnakerlaw14.AlarmMost', WHERE WHAT IT READS IS OF BULK AT MOST 1048576: true; the input reads as it did. -/
def alarmMostUptoRow : OpenClaim := { program := "ytfoaihjkmfhaoaa", sum := "31faec9b9cf800254bd8df7d116ebeea6254fe45c185cbed5e471e4ead0b374e", func := "spinnaker/spinnakerlaw14.AlarmMost", spec := "alarmMost", apart := false, narrowed := true }
def AlarmMostUptoSaid : Prop := alarmMostUptoRow.holds Try.pinned (OpenSpec.upto alarmMostSpec)

end Rows
end Go.Proofs.Ytfoaihjkmfhaoaa
