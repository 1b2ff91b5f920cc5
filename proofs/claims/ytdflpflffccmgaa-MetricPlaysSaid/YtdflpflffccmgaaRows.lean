/-
  No cell of these rows narrows 'for every input' (looked for: loops, veiled, ifaces, maps, wideKeys, modest, calm, conditions, laid).
  DERIVED. THE GIVEN ROWS OF THIS SEAT. 8 by the template 'for every input the law returns true; each argument reads behind the call as it read before'; 0 by the template 'total and deterministic' (their statements: YtdflpflffccmgaaTotals.lean).
  GIVEN WITH THE SEED: the statements are not yours to turn. If you find one false, say at which input.
  Laid BY PROGRAM, IN A SANDBOX (cutbox-rows.mjs): the forced cells as the released guide's own fill.sh prints them over the translation 0f443bf51b279cdd… (all of the seat's roots in one cut). By AI agents, Wed Nov 11 2026. No macro, syntax, notation, axiom, sorry.
-/
import Derived.Test.YtdflpflffccmgaaChecked
import GoSem.Claim
import GoSem.ClaimJoined
import GoSem.ClaimMapViews
import Derived.JoinedTies
import Derived.KernelRfl
namespace Go.Proofs.Ytdflpflffccmgaa
/- THE CELL 'sum', in the pinned program and in every row, IS THE sha256 OF THE DUMP (.gsa) THAT YtdflpflffccmgaaProg.lean LOADS. Nothing in Lean hashes anything: it is a label: what it is worth is what the hold of that sum in a sandbox is worth. -/
noncomputable def Try.pinned : Pinned := { name := "ytdflpflffccmgaa", sum := "0f443bf51b279cdd6a5c07df0aa21b7a2279df4b9aa2932ff97315ee14e8ba1c", checked := Try.checked }
namespace Rows
def none {H : Type} : Left H := { results := [], args := [] }

/-- 'spinnakerlaw11.MetricPlays': WHATEVER THE INPUT: true; the input reads as it did. -/
def metricPlaysSpec : ChangeSpec := { name := "metricPlays", fn := fun _ => fun
  | [d1, d2] => { results := [.lit (.bool true)], args := [d1, d2] }
  | _ => none }
def metricPlaysRow : OpenClaim := { program := "ytdflpflffccmgaa", sum := "0f443bf51b279cdd6a5c07df0aa21b7a2279df4b9aa2932ff97315ee14e8ba1c", func := "spinnaker/spinnakerlaw11.MetricPlays", spec := "metricPlays", unfollowed := true, recurses := true, apart := false }
def MetricPlaysSaid : Prop := metricPlaysRow.holds Try.pinned (OpenSpec.ofChange metricPlaysSpec)

/-- ITS FALSE NEIGHBOUR: 'it returns false'. Refute it at one input. -/
def metricPlaysWrong : ChangeSpec := { name := "metricPlays", fn := fun _ => fun
  | [d1, d2] => { results := [.lit (.bool false)], args := [d1, d2] }
  | _ => none }
def MetricPlaysWrongFalsely : Prop := metricPlaysRow.holds Try.pinned (OpenSpec.ofChange metricPlaysWrong)

/-- 'spinnakerlaw11.MetricSudden': WHATEVER THE INPUT: true; the input reads as it did. -/
def metricSuddenSpec : ChangeSpec := { name := "metricSudden", fn := fun _ => fun
  | [d1, d2] => { results := [.lit (.bool true)], args := [d1, d2] }
  | _ => none }
def metricSuddenRow : OpenClaim := { program := "ytdflpflffccmgaa", sum := "0f443bf51b279cdd6a5c07df0aa21b7a2279df4b9aa2932ff97315ee14e8ba1c", func := "spinnaker/spinnakerlaw11.MetricSudden", spec := "metricSudden", unfollowed := true, recurses := true, apart := false }
def MetricSuddenSaid : Prop := metricSuddenRow.holds Try.pinned (OpenSpec.ofChange metricSuddenSpec)

/-- ITS FALSE NEIGHBOUR: 'it returns false'. Refute it at one input. -/
def metricSuddenWrong : ChangeSpec := { name := "metricSudden", fn := fun _ => fun
  | [d1, d2] => { results := [.lit (.bool false)], args := [d1, d2] }
  | _ => none }
def MetricSuddenWrongFalsely : Prop := metricSuddenRow.holds Try.pinned (OpenSpec.ofChange metricSuddenWrong)

/-- 'spinnakerlaw11.MetricKeeps': WHATEVER THE INPUT: true; the input reads as it did. -/
def metricKeepsSpec : ChangeSpec := { name := "metricKeeps", fn := fun _ => fun
  | [d1, d2, d3] => { results := [.lit (.bool true)], args := [d1, d2, d3] }
  | _ => none }
def metricKeepsRow : OpenClaim := { program := "ytdflpflffccmgaa", sum := "0f443bf51b279cdd6a5c07df0aa21b7a2279df4b9aa2932ff97315ee14e8ba1c", func := "spinnaker/spinnakerlaw11.MetricKeeps", spec := "metricKeeps", unfollowed := true, recurses := true, apart := false }
def MetricKeepsSaid : Prop := metricKeepsRow.holds Try.pinned (OpenSpec.ofChange metricKeepsSpec)

/-- ITS FALSE NEIGHBOUR: 'it returns false'. Refute it at one input. -/
def metricKeepsWrong : ChangeSpec := { name := "metricKeeps", fn := fun _ => fun
  | [d1, d2, d3] => { results := [.lit (.bool false)], args := [d1, d2, d3] }
  | _ => none }
def MetricKeepsWrongFalsely : Prop := metricKeepsRow.holds Try.pinned (OpenSpec.ofChange metricKeepsWrong)

/-- 'spinnakerlaw12.WantAsks': WHATEVER THE INPUT: true; the input reads as it did. -/
def wantAsksSpec : ChangeSpec := { name := "wantAsks", fn := fun _ => fun
  | [d1, d2, d3, d4] => { results := [.lit (.bool true)], args := [d1, d2, d3, d4] }
  | _ => none }
def wantAsksRow : OpenClaim := { program := "ytdflpflffccmgaa", sum := "0f443bf51b279cdd6a5c07df0aa21b7a2279df4b9aa2932ff97315ee14e8ba1c", func := "spinnaker/spinnakerlaw12.WantAsks", spec := "wantAsks", named := ["math/bits.divideError", "math/bits.overflowError"], apart := false }
def WantAsksSaid : Prop := wantAsksRow.holds Try.pinned (OpenSpec.ofChange wantAsksSpec)

/-- ITS FALSE NEIGHBOUR: 'it returns false'. Refute it at one input. -/
def wantAsksWrong : ChangeSpec := { name := "wantAsks", fn := fun _ => fun
  | [d1, d2, d3, d4] => { results := [.lit (.bool false)], args := [d1, d2, d3, d4] }
  | _ => none }
def WantAsksWrongFalsely : Prop := wantAsksRow.holds Try.pinned (OpenSpec.ofChange wantAsksWrong)

/-- 'spinnakerlaw12.WantFits': WHATEVER THE INPUT: true; the input reads as it did. -/
def wantFitsSpec : ChangeSpec := { name := "wantFits", fn := fun _ => fun
  | [d1, d2] => { results := [.lit (.bool true)], args := [d1, d2] }
  | _ => none }
def wantFitsRow : OpenClaim := { program := "ytdflpflffccmgaa", sum := "0f443bf51b279cdd6a5c07df0aa21b7a2279df4b9aa2932ff97315ee14e8ba1c", func := "spinnaker/spinnakerlaw12.WantFits", spec := "wantFits", named := ["math/bits.divideError", "math/bits.overflowError"], apart := false }
def WantFitsSaid : Prop := wantFitsRow.holds Try.pinned (OpenSpec.ofChange wantFitsSpec)

/-- ITS FALSE NEIGHBOUR: 'it returns false'. Refute it at one input. -/
def wantFitsWrong : ChangeSpec := { name := "wantFits", fn := fun _ => fun
  | [d1, d2] => { results := [.lit (.bool false)], args := [d1, d2] }
  | _ => none }
def WantFitsWrongFalsely : Prop := wantFitsRow.holds Try.pinned (OpenSpec.ofChange wantFitsWrong)

/-- 'spinnakerlaw12.WantMore': WHATEVER THE INPUT: true; the input reads as it did. -/
def wantMoreSpec : ChangeSpec := { name := "wantMore", fn := fun _ => fun
  | [d1, d2, d3, d4, d5, d6] => { results := [.lit (.bool true)], args := [d1, d2, d3, d4, d5, d6] }
  | _ => none }
def wantMoreRow : OpenClaim := { program := "ytdflpflffccmgaa", sum := "0f443bf51b279cdd6a5c07df0aa21b7a2279df4b9aa2932ff97315ee14e8ba1c", func := "spinnaker/spinnakerlaw12.WantMore", spec := "wantMore", named := ["math/bits.divideError", "math/bits.overflowError"], apart := false }
def WantMoreSaid : Prop := wantMoreRow.holds Try.pinned (OpenSpec.ofChange wantMoreSpec)

/-- ITS FALSE NEIGHBOUR: 'it returns false'. Refute it at one input. -/
def wantMoreWrong : ChangeSpec := { name := "wantMore", fn := fun _ => fun
  | [d1, d2, d3, d4, d5, d6] => { results := [.lit (.bool false)], args := [d1, d2, d3, d4, d5, d6] }
  | _ => none }
def WantMoreWrongFalsely : Prop := wantMoreRow.holds Try.pinned (OpenSpec.ofChange wantMoreWrong)

/-- 'spinnakerlaw12.WantSteps': WHATEVER THE INPUT: true; the input reads as it did. -/
def wantStepsSpec : ChangeSpec := { name := "wantSteps", fn := fun _ => fun
  | [d1, d2, d3] => { results := [.lit (.bool true)], args := [d1, d2, d3] }
  | _ => none }
def wantStepsRow : OpenClaim := { program := "ytdflpflffccmgaa", sum := "0f443bf51b279cdd6a5c07df0aa21b7a2279df4b9aa2932ff97315ee14e8ba1c", func := "spinnaker/spinnakerlaw12.WantSteps", spec := "wantSteps", named := ["math/bits.divideError", "math/bits.overflowError"], apart := false }
def WantStepsSaid : Prop := wantStepsRow.holds Try.pinned (OpenSpec.ofChange wantStepsSpec)

/-- ITS FALSE NEIGHBOUR: 'it returns false'. Refute it at one input. -/
def wantStepsWrong : ChangeSpec := { name := "wantSteps", fn := fun _ => fun
  | [d1, d2, d3] => { results := [.lit (.bool false)], args := [d1, d2, d3] }
  | _ => none }
def WantStepsWrongFalsely : Prop := wantStepsRow.holds Try.pinned (OpenSpec.ofChange wantStepsWrong)

/-- 'spinnakerlaw12.WantSudden': WHATEVER THE INPUT: true; the input reads as it did. -/
def wantSuddenSpec : ChangeSpec := { name := "wantSudden", fn := fun _ => fun
  | [d] => { results := [.lit (.bool true)], args := [d] }
  | _ => none }
def wantSuddenRow : OpenClaim := { program := "ytdflpflffccmgaa", sum := "0f443bf51b279cdd6a5c07df0aa21b7a2279df4b9aa2932ff97315ee14e8ba1c", func := "spinnaker/spinnakerlaw12.WantSudden", spec := "wantSudden", named := ["math/bits.divideError", "math/bits.overflowError"], apart := false }
def WantSuddenSaid : Prop := wantSuddenRow.holds Try.pinned (OpenSpec.ofChange wantSuddenSpec)

/-- ITS FALSE NEIGHBOUR: 'it returns false'. Refute it at one input. -/
def wantSuddenWrong : ChangeSpec := { name := "wantSudden", fn := fun _ => fun
  | [d] => { results := [.lit (.bool false)], args := [d] }
  | _ => none }
def WantSuddenWrongFalsely : Prop := wantSuddenRow.holds Try.pinned (OpenSpec.ofChange wantSuddenWrong)

/- THE SECOND FORM. 'bulk': how many values and letters a reading holds, each counted each time it is reached (what is shared counts as often as it is met; a slice's spare places count too). A statement '..UptoSaid' is the law's where the arguments, and the package variables that the reading takes, are together of bulk at most 1048576: NARROWER than '..Said'. Prove '..Said' where nothing that the law and all that it calls make is longer than what came in: it says more and counts as full. Else prove '..UptoSaid'. A law counts once. -/
mutual
def uptoBulk {H : Type} : DataW H → Nat
  | .lit (.string bytes) => bytes.length + 1
  | .lit _ => 1
  | .nil => 1
  | .ptr d => uptoBulk d + 1
  | .slice elems spare => uptoBulkAll elems + uptoBulkAll spare + 1
  | .agg parts => uptoBulkAll parts + 1
  | .iface _ d => uptoBulk d + 1
  | .map entries => uptoBulkEntries entries + 1
  | .held _ => 1
def uptoBulkAll {H : Type} : List (DataW H) → Nat
  | [] => 0
  | d :: r => uptoBulk d + uptoBulkAll r
def uptoBulkEntries {H : Type} : List (Lit × DataW H) → Nat
  | [] => 0
  | x :: r => uptoBulkEntry x + uptoBulkEntries r
def uptoBulkEntry {H : Type} : Lit × DataW H → Nat
  | (.string bytes, d) => bytes.length + uptoBulk d + 1
  | (_, d) => uptoBulk d + 1
 end
def uptoSmall : (H : Type) → List (DataW H) → Bool := fun _ ds => decide (uptoBulkAll ds ≤ 1048576)
def OpenSpec.upto (s : _root_.Go.ChangeSpec) : _root_.Go.OpenSpec := { _root_.Go.OpenSpec.ofChange s with cond := some uptoSmall }

/-- 'spinnakerlaw11.MetricPlays', WHERE WHAT IT READS IS OF BULK AT MOST 1048576: true; the input reads as it did. -/
def metricPlaysUptoRow : OpenClaim := { program := "ytdflpflffccmgaa", sum := "0f443bf51b279cdd6a5c07df0aa21b7a2279df4b9aa2932ff97315ee14e8ba1c", func := "spinnaker/spinnakerlaw11.MetricPlays", spec := "metricPlays", unfollowed := true, recurses := true, apart := false, narrowed := true }
def MetricPlaysUptoSaid : Prop := metricPlaysUptoRow.holds Try.pinned (OpenSpec.upto metricPlaysSpec)

/-- 'spinnakerlaw11.MetricSudden', WHERE WHAT IT READS IS OF BULK AT MOST 1048576: true; the input reads as it did. -/
def metricSuddenUptoRow : OpenClaim := { program := "ytdflpflffccmgaa", sum := "0f443bf51b279cdd6a5c07df0aa21b7a2279df4b9aa2932ff97315ee14e8ba1c", func := "spinnaker/spinnakerlaw11.MetricSudden", spec := "metricSudden", unfollowed := true, recurses := true, apart := false, narrowed := true }
def MetricSuddenUptoSaid : Prop := metricSuddenUptoRow.holds Try.pinned (OpenSpec.upto metricSuddenSpec)

/-- 'spinnakerlaw11.MetricKeeps', WHERE WHAT IT READS IS OF BULK AT MOST 1048576: true; the input reads as it did. -/
def metricKeepsUptoRow : OpenClaim := { program := "ytdflpflffccmgaa", sum := "0f443bf51b279cdd6a5c07df0aa21b7a2279df4b9aa2932ff97315ee14e8ba1c", func := "spinnaker/spinnakerlaw11.MetricKeeps", spec := "metricKeeps", unfollowed := true, recurses := true, apart := false, narrowed := true }
def MetricKeepsUptoSaid : Prop := metricKeepsUptoRow.holds Try.pinned (OpenSpec.upto metricKeepsSpec)

/-- 'spinnakerlaw12.WantAsks', WHERE WHAT IT READS IS OF BULK AT MOST 1048576: true; the input reads as it did. -/
def wantAsksUptoRow : OpenClaim := { program := "ytdflpflffccmgaa", sum := "0f443bf51b279cdd6a5c07df0aa21b7a2279df4b9aa2932ff97315ee14e8ba1c", func := "spinnaker/spinnakerlaw12.WantAsks", spec := "wantAsks", named := ["math/bits.divideError", "math/bits.overflowError"], apart := false, narrowed := true }
def WantAsksUptoSaid : Prop := wantAsksUptoRow.holds Try.pinned (OpenSpec.upto wantAsksSpec)

/-- 'spinnakerlaw12.WantFits', WHERE WHAT IT READS IS OF BULK AT MOST 1048576: true; the input reads as it did. -/
def wantFitsUptoRow : OpenClaim := { program := "ytdflpflffccmgaa", sum := "0f443bf51b279cdd6a5c07df0aa21b7a2279df4b9aa2932ff97315ee14e8ba1c", func := "spinnaker/spinnakerlaw12.WantFits", spec := "wantFits", named := ["math/bits.divideError", "math/bits.overflowError"], apart := false, narrowed := true }
def WantFitsUptoSaid : Prop := wantFitsUptoRow.holds Try.pinned (OpenSpec.upto wantFitsSpec)

/-- 'spinnakerlaw12.WantMore', WHERE WHAT IT READS IS OF BULK AT MOST 1048576: true; the input reads as it did. -/
def wantMoreUptoRow : OpenClaim := { program := "ytdflpflffccmgaa", sum := "0f443bf51b279cdd6a5c07df0aa21b7a2279df4b9aa2932ff97315ee14e8ba1c", func := "spinnaker/spinnakerlaw12.WantMore", spec := "wantMore", named := ["math/bits.divideError", "math/bits.overflowError"], apart := false, narrowed := true }
def WantMoreUptoSaid : Prop := wantMoreUptoRow.holds Try.pinned (OpenSpec.upto wantMoreSpec)

/-- 'spinnakerlaw12.WantSteps', WHERE WHAT IT READS IS OF BULK AT MOST 1048576: true; the input reads as it did. -/
def wantStepsUptoRow : OpenClaim := { program := "ytdflpflffccmgaa", sum := "0f443bf51b279cdd6a5c07df0aa21b7a2279df4b9aa2932ff97315ee14e8ba1c", func := "spinnaker/spinnakerlaw12.WantSteps", spec := "wantSteps", named := ["math/bits.divideError", "math/bits.overflowError"], apart := false, narrowed := true }
def WantStepsUptoSaid : Prop := wantStepsUptoRow.holds Try.pinned (OpenSpec.upto wantStepsSpec)

/-- 'spinnakerlaw12.WantSudden', WHERE WHAT IT READS IS OF BULK AT MOST 1048576: true; the input reads as it did. -/
def wantSuddenUptoRow : OpenClaim := { program := "ytdflpflffccmgaa", sum := "0f443bf51b279cdd6a5c07df0aa21b7a2279df4b9aa2932ff97315ee14e8ba1c", func := "spinnaker/spinnakerlaw12.WantSudden", spec := "wantSudden", named := ["math/bits.divideError", "math/bits.overflowError"], apart := false, narrowed := true }
def WantSuddenUptoSaid : Prop := wantSuddenUptoRow.holds Try.pinned (OpenSpec.upto wantSuddenSpec)

end Rows
end Go.Proofs.Ytdflpflffccmgaa
