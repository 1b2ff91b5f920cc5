/-
  No cell of these rows narrows 'for every input' (looked for: loops, veiled, ifaces, maps, wideKeys, modest, calm, conditions, laid).
  DERIVED. THE GIVEN ROWS OF THIS SEAT. 8 by the template 'for every input the law returns true; each argument reads behind the call as it read before'; 0 by the template 'total and deterministic' (their statements: YtdgipcjigbagfaaTotals.lean).
  GIVEN WITH THE SEED: the statements are not yours to turn. If you find one false, say at which input.
  Laid BY PROGRAM, IN A SANDBOX (cutbox-rows.mjs): the forced cells as the released guide's own fill.sh prints them over the translation 1cf321c82888dd83… (all of the seat's roots in one cut). By AI agents, Wed Nov 11 2026. No macro, syntax, notation, axiom, sorry.
-/
import Derived.Test.YtdgipcjigbagfaaChecked
import GoSem.Claim
import GoSem.ClaimJoined
import GoSem.ClaimMapViews
import Derived.JoinedTies
import Derived.KernelRfl
namespace Go.Proofs.Ytdgipcjigbagfaa
/- THE CELL 'sum', in the pinned program and in every row, IS THE sha256 OF THE DUMP (.gsa) THAT YtdgipcjigbagfaaProg.lean LOADS. Nothing in Lean hashes anything: it is a label: what it is worth is what the hold of that sum in a sandbox is worth. -/
noncomputable def Try.pinned : Pinned := { name := "ytdgipcjigbagfaa", sum := "1cf321c82888dd8370ce23ebb62f4bfa4b855fc932c0c427c23f8a124610e9a9", checked := Try.checked }
namespace Rows
def none {H : Type} : Left H := { results := [], args := [] }

/-- 'spinnakerlaw26.SteadyComes': WHATEVER THE INPUT: true; the input reads as it did. -/
def steadyComesSpec : ChangeSpec := { name := "steadyComes", fn := fun _ => fun
  | [d1, d2, d3] => { results := [.lit (.bool true)], args := [d1, d2, d3] }
  | _ => none }
def steadyComesRow : OpenClaim := { program := "ytdgipcjigbagfaa", sum := "1cf321c82888dd8370ce23ebb62f4bfa4b855fc932c0c427c23f8a124610e9a9", func := "spinnaker/spinnakerlaw26.SteadyComes", spec := "steadyComes", unfollowed := true, recurses := true, named := ["math/bits.divideError", "math/bits.overflowError"], apart := false }
def SteadyComesSaid : Prop := steadyComesRow.holds Try.pinned (OpenSpec.ofChange steadyComesSpec)

/-- ITS FALSE NEIGHBOUR: 'it returns false'. Refute it at one input. -/
def steadyComesWrong : ChangeSpec := { name := "steadyComes", fn := fun _ => fun
  | [d1, d2, d3] => { results := [.lit (.bool false)], args := [d1, d2, d3] }
  | _ => none }
def SteadyComesWrongFalsely : Prop := steadyComesRow.holds Try.pinned (OpenSpec.ofChange steadyComesWrong)

/-- 'spinnakerlaw26.SteadyRises': WHATEVER THE INPUT: true; the input reads as it did. -/
def steadyRisesSpec : ChangeSpec := { name := "steadyRises", fn := fun _ => fun
  | [d] => { results := [.lit (.bool true)], args := [d] }
  | _ => none }
def steadyRisesRow : OpenClaim := { program := "ytdgipcjigbagfaa", sum := "1cf321c82888dd8370ce23ebb62f4bfa4b855fc932c0c427c23f8a124610e9a9", func := "spinnaker/spinnakerlaw26.SteadyRises", spec := "steadyRises", unfollowed := true, recurses := true, named := ["math/bits.divideError", "math/bits.overflowError"], apart := false }
def SteadyRisesSaid : Prop := steadyRisesRow.holds Try.pinned (OpenSpec.ofChange steadyRisesSpec)

/-- ITS FALSE NEIGHBOUR: 'it returns false'. Refute it at one input. -/
def steadyRisesWrong : ChangeSpec := { name := "steadyRises", fn := fun _ => fun
  | [d] => { results := [.lit (.bool false)], args := [d] }
  | _ => none }
def SteadyRisesWrongFalsely : Prop := steadyRisesRow.holds Try.pinned (OpenSpec.ofChange steadyRisesWrong)

/-- 'spinnakerlaw26.SteadyAims': WHATEVER THE INPUT: true; the input reads as it did. -/
def steadyAimsSpec : ChangeSpec := { name := "steadyAims", fn := fun _ => fun
  | [d1, d2, d3] => { results := [.lit (.bool true)], args := [d1, d2, d3] }
  | _ => none }
def steadyAimsRow : OpenClaim := { program := "ytdgipcjigbagfaa", sum := "1cf321c82888dd8370ce23ebb62f4bfa4b855fc932c0c427c23f8a124610e9a9", func := "spinnaker/spinnakerlaw26.SteadyAims", spec := "steadyAims", unfollowed := true, recurses := true, named := ["math/bits.divideError", "math/bits.overflowError"], apart := false }
def SteadyAimsSaid : Prop := steadyAimsRow.holds Try.pinned (OpenSpec.ofChange steadyAimsSpec)

/-- ITS FALSE NEIGHBOUR: 'it returns false'. Refute it at one input. -/
def steadyAimsWrong : ChangeSpec := { name := "steadyAims", fn := fun _ => fun
  | [d1, d2, d3] => { results := [.lit (.bool false)], args := [d1, d2, d3] }
  | _ => none }
def SteadyAimsWrongFalsely : Prop := steadyAimsRow.holds Try.pinned (OpenSpec.ofChange steadyAimsWrong)

/-- 'spinnakerlaw26.SteadyFalls': WHATEVER THE INPUT: true; the input reads as it did. -/
def steadyFallsSpec : ChangeSpec := { name := "steadyFalls", fn := fun _ => fun
  | [d1, d2] => { results := [.lit (.bool true)], args := [d1, d2] }
  | _ => none }
def steadyFallsRow : OpenClaim := { program := "ytdgipcjigbagfaa", sum := "1cf321c82888dd8370ce23ebb62f4bfa4b855fc932c0c427c23f8a124610e9a9", func := "spinnaker/spinnakerlaw26.SteadyFalls", spec := "steadyFalls", unfollowed := true, recurses := true, named := ["math/bits.divideError", "math/bits.overflowError"], apart := false }
def SteadyFallsSaid : Prop := steadyFallsRow.holds Try.pinned (OpenSpec.ofChange steadyFallsSpec)

/-- ITS FALSE NEIGHBOUR: 'it returns false'. Refute it at one input. -/
def steadyFallsWrong : ChangeSpec := { name := "steadyFalls", fn := fun _ => fun
  | [d1, d2] => { results := [.lit (.bool false)], args := [d1, d2] }
  | _ => none }
def SteadyFallsWrongFalsely : Prop := steadyFallsRow.holds Try.pinned (OpenSpec.ofChange steadyFallsWrong)

/-- 'spinnakerlaw17.DecideChanges': WHATEVER THE INPUT: true; the input reads as it did. -/
def decideChangesSpec : ChangeSpec := { name := "decideChanges", fn := fun _ => fun
  | [d1, d2, d3, d4] => { results := [.lit (.bool true)], args := [d1, d2, d3, d4] }
  | _ => none }
def decideChangesRow : OpenClaim := { program := "ytdgipcjigbagfaa", sum := "1cf321c82888dd8370ce23ebb62f4bfa4b855fc932c0c427c23f8a124610e9a9", func := "spinnaker/spinnakerlaw17.DecideChanges", spec := "decideChanges", unfollowed := true, recurses := true, named := ["math/bits.divideError", "math/bits.overflowError"], apart := false }
def DecideChangesSaid : Prop := decideChangesRow.holds Try.pinned (OpenSpec.ofChange decideChangesSpec)

/-- ITS FALSE NEIGHBOUR: 'it returns false'. Refute it at one input. -/
def decideChangesWrong : ChangeSpec := { name := "decideChanges", fn := fun _ => fun
  | [d1, d2, d3, d4] => { results := [.lit (.bool false)], args := [d1, d2, d3, d4] }
  | _ => none }
def DecideChangesWrongFalsely : Prop := decideChangesRow.holds Try.pinned (OpenSpec.ofChange decideChangesWrong)

/-- 'spinnakerlaw17.DecideBounds': WHATEVER THE INPUT: true; the input reads as it did. -/
def decideBoundsSpec : ChangeSpec := { name := "decideBounds", fn := fun _ => fun
  | [d1, d2, d3] => { results := [.lit (.bool true)], args := [d1, d2, d3] }
  | _ => none }
def decideBoundsRow : OpenClaim := { program := "ytdgipcjigbagfaa", sum := "1cf321c82888dd8370ce23ebb62f4bfa4b855fc932c0c427c23f8a124610e9a9", func := "spinnaker/spinnakerlaw17.DecideBounds", spec := "decideBounds", unfollowed := true, recurses := true, named := ["math/bits.divideError", "math/bits.overflowError"], apart := false }
def DecideBoundsSaid : Prop := decideBoundsRow.holds Try.pinned (OpenSpec.ofChange decideBoundsSpec)

/-- ITS FALSE NEIGHBOUR: 'it returns false'. Refute it at one input. -/
def decideBoundsWrong : ChangeSpec := { name := "decideBounds", fn := fun _ => fun
  | [d1, d2, d3] => { results := [.lit (.bool false)], args := [d1, d2, d3] }
  | _ => none }
def DecideBoundsWrongFalsely : Prop := decideBoundsRow.holds Try.pinned (OpenSpec.ofChange decideBoundsWrong)

/-- 'spinnakerlaw17.DecideTwice': WHATEVER THE INPUT: true; the input reads as it did. -/
def decideTwiceSpec : ChangeSpec := { name := "decideTwice", fn := fun _ => fun
  | [d1, d2, d3] => { results := [.lit (.bool true)], args := [d1, d2, d3] }
  | _ => none }
def decideTwiceRow : OpenClaim := { program := "ytdgipcjigbagfaa", sum := "1cf321c82888dd8370ce23ebb62f4bfa4b855fc932c0c427c23f8a124610e9a9", func := "spinnaker/spinnakerlaw17.DecideTwice", spec := "decideTwice", unfollowed := true, recurses := true, named := ["math/bits.divideError", "math/bits.overflowError"], apart := false }
def DecideTwiceSaid : Prop := decideTwiceRow.holds Try.pinned (OpenSpec.ofChange decideTwiceSpec)

/-- ITS FALSE NEIGHBOUR: 'it returns false'. Refute it at one input. -/
def decideTwiceWrong : ChangeSpec := { name := "decideTwice", fn := fun _ => fun
  | [d1, d2, d3] => { results := [.lit (.bool false)], args := [d1, d2, d3] }
  | _ => none }
def DecideTwiceWrongFalsely : Prop := decideTwiceRow.holds Try.pinned (OpenSpec.ofChange decideTwiceWrong)

/-- 'spinnakerlaw17.DecideQuiet': WHATEVER THE INPUT: true; the input reads as it did. -/
def decideQuietSpec : ChangeSpec := { name := "decideQuiet", fn := fun _ => fun
  | [d1, d2] => { results := [.lit (.bool true)], args := [d1, d2] }
  | _ => none }
def decideQuietRow : OpenClaim := { program := "ytdgipcjigbagfaa", sum := "1cf321c82888dd8370ce23ebb62f4bfa4b855fc932c0c427c23f8a124610e9a9", func := "spinnaker/spinnakerlaw17.DecideQuiet", spec := "decideQuiet", unfollowed := true, recurses := true, named := ["math/bits.divideError", "math/bits.overflowError"], apart := false }
def DecideQuietSaid : Prop := decideQuietRow.holds Try.pinned (OpenSpec.ofChange decideQuietSpec)

/-- ITS FALSE NEIGHBOUR: 'it returns false'. Refute it at one input. -/
def decideQuietWrong : ChangeSpec := { name := "decideQuiet", fn := fun _ => fun
  | [d1, d2] => { results := [.lit (.bool false)], args := [d1, d2] }
  | _ => none }
def DecideQuietWrongFalsely : Prop := decideQuietRow.holds Try.pinned (OpenSpec.ofChange decideQuietWrong)

/- THE SECOND FORM. 'bulk': how many values and letters a reading holds, each counted each time it is reached (what is shared counts as often as it is met; a slice's spare places count too). A statement '..UptoSaid' is the law's where the arguments, and the package variables that the reading takes, are together of bulk at most 1048576: NARROWER than '..Said'. Prove '..Said' where nothing that the law and all that it calls make is longer than what came in: it says more and counts as full. Else prove '..UptoSaid'. A law counts once. -/
mutual
def uptoBulk {H : Type} : DataW H → Nat
  | .lit (.string bytes) => bytes.length + 1
  | .lit _ => 1
  | .nil => 1
  | .ptr d => uptoBulk d + 1
  | .slice elems spare => uptoBulkAll elems + uptoBulkAll spare + 1
  | .agg parts => uptoBulkAll parts + 1
  | .iface _ d => uptoBulk d + 1
  | .map entries => uptoBulkEntries entries + 1
  | .held _ => 1
def uptoBulkAll {H : Type} : List (DataW H) → Nat
  | [] => 0
  | d :: r => uptoBulk d + uptoBulkAll r
def uptoBulkEntries {H : Type} : List (Lit × DataW H) → Nat
  | [] => 0
  | x :: r => uptoBulkEntry x + uptoBulkEntries r
def uptoBulkEntry {H : Type} : Lit × DataW H → Nat
  | (.string bytes, d) => bytes.length + uptoBulk d + 1
  | (_, d) => uptoBulk d + 1
 end
def uptoSmall : (H : Type) → List (DataW H) → Bool := fun _ ds => decide (uptoBulkAll ds ≤ 1048576)
def OpenSpec.upto (s : _root_.Go.ChangeSpec) : _root_.Go.OpenSpec := { _root_.Go.OpenSpec.ofChange s with cond := some uptoSmall }

/-- 'spinnakerlaw26.SteadyComes', WHERE WHAT IT READS IS OF BULK AT MOST 1048576: true; the input reads as it did. -/
def steadyComesUptoRow : OpenClaim := { program := "ytdgipcjigbagfaa", sum := "1cf321c82888dd8370ce23ebb62f4bfa4b855fc932c0c427c23f8a124610e9a9", func := "spinnaker/spinnakerlaw26.SteadyComes", spec := "steadyComes", unfollowed := true, recurses := true, named := ["math/bits.divideError", "math/bits.overflowError"], apart := false, narrowed := true }
def SteadyComesUptoSaid : Prop := steadyComesUptoRow.holds Try.pinned (OpenSpec.upto steadyComesSpec)

/-- 'spinnakerlaw26.SteadyRises', WHERE WHAT IT READS IS OF BULK AT MOST 1048576: true; the input reads as it did. -/
def steadyRisesUptoRow : OpenClaim := { program := "ytdgipcjigbagfaa", sum := "1cf321c82888dd8370ce23ebb62f4bfa4b855fc932c0c427c23f8a124610e9a9", func := "spinnaker/spinnakerlaw26.SteadyRises", spec := "steadyRises", unfollowed := true, recurses := true, named := ["math/bits.divideError", "math/bits.overflowError"], apart := false, narrowed := true }
def SteadyRisesUptoSaid : Prop := steadyRisesUptoRow.holds Try.pinned (OpenSpec.upto steadyRisesSpec)

/-- 'spinnakerlaw26.SteadyAims', WHERE WHAT IT READS IS OF BULK AT MOST 1048576: true; the input reads as it did. -/
def steadyAimsUptoRow : OpenClaim := { program := "ytdgipcjigbagfaa", sum := "1cf321c82888dd8370ce23ebb62f4bfa4b855fc932c0c427c23f8a124610e9a9", func := "spinnaker/spinnakerlaw26.SteadyAims", spec := "steadyAims", unfollowed := true, recurses := true, named := ["math/bits.divideError", "math/bits.overflowError"], apart := false, narrowed := true }
def SteadyAimsUptoSaid : Prop := steadyAimsUptoRow.holds Try.pinned (OpenSpec.upto steadyAimsSpec)

/-- 'spinnakerlaw26.SteadyFalls', WHERE WHAT IT READS IS OF BULK AT MOST 1048576: true; the input reads as it did. -/
def steadyFallsUptoRow : OpenClaim := { program := "ytdgipcjigbagfaa", sum := "1cf321c82888dd8370ce23ebb62f4bfa4b855fc932c0c427c23f8a124610e9a9", func := "spinnaker/spinnakerlaw26.SteadyFalls", spec := "steadyFalls", unfollowed := true, recurses := true, named := ["math/bits.divideError", "math/bits.overflowError"], apart := false, narrowed := true }
def SteadyFallsUptoSaid : Prop := steadyFallsUptoRow.holds Try.pinned (OpenSpec.upto steadyFallsSpec)

/-- 'spinnakerlaw17.DecideChanges', WHERE WHAT IT READS IS OF BULK AT MOST 1048576: true; the input reads as it did. -/
def decideChangesUptoRow : OpenClaim := { program := "ytdgipcjigbagfaa", sum := "1cf321c82888dd8370ce23ebb62f4bfa4b855fc932c0c427c23f8a124610e9a9", func := "spinnaker/spinnakerlaw17.DecideChanges", spec := "decideChanges", unfollowed := true, recurses := true, named := ["math/bits.divideError", "math/bits.overflowError"], apart := false, narrowed := true }
def DecideChangesUptoSaid : Prop := decideChangesUptoRow.holds Try.pinned (OpenSpec.upto decideChangesSpec)

/-- 'spinnakerlaw17.DecideBounds', WHERE WHAT IT READS IS OF BULK AT MOST 1048576: true; the input reads as it did. -/
def decideBoundsUptoRow : OpenClaim := { program := "ytdgipcjigbagfaa", sum := "1cf321c82888dd8370ce23ebb62f4bfa4b855fc932c0c427c23f8a124610e9a9", func := "spinnaker/spinnakerlaw17.DecideBounds", spec := "decideBounds", unfollowed := true, recurses := true, named := ["math/bits.divideError", "math/bits.overflowError"], apart := false, narrowed := true }
def DecideBoundsUptoSaid : Prop := decideBoundsUptoRow.holds Try.pinned (OpenSpec.upto decideBoundsSpec)

/-- 'spinnakerlaw17.DecideTwice', WHERE WHAT IT READS IS OF BULK AT MOST 1048576: true; the input reads as it did. -/
def decideTwiceUptoRow : OpenClaim := { program := "ytdgipcjigbagfaa", sum := "1cf321c82888dd8370ce23ebb62f4bfa4b855fc932c0c427c23f8a124610e9a9", func := "spinnaker/spinnakerlaw17.DecideTwice", spec := "decideTwice", unfollowed := true, recurses := true, named := ["math/bits.divideError", "math/bits.overflowError"], apart := false, narrowed := true }
def DecideTwiceUptoSaid : Prop := decideTwiceUptoRow.holds Try.pinned (OpenSpec.upto decideTwiceSpec)

/-- 'spinnakerlaw17.DecideQuiet', WHERE WHAT IT READS IS OF BULK AT MOST 1048576: true; the input reads as it did. -/
def decideQuietUptoRow : OpenClaim := { program := "ytdgipcjigbagfaa", sum := "1cf321c82888dd8370ce23ebb62f4bfa4b855fc932c0c427c23f8a124610e9a9", func := "spinnaker/spinnakerlaw17.DecideQuiet", spec := "decideQuiet", unfollowed := true, recurses := true, named := ["math/bits.divideError", "math/bits.overflowError"], apart := false, narrowed := true }
def DecideQuietUptoSaid : Prop := decideQuietUptoRow.holds Try.pinned (OpenSpec.upto decideQuietSpec)

end Rows
end Go.Proofs.Ytdgipcjigbagfaa
