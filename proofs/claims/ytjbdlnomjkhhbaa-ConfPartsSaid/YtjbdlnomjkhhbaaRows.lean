/-
  No cell of these rows narrows 'for every input' (looked for: loops, veiled, ifaces, maps, wideKeys, modest, calm, conditions, laid).
  DERIVED. THE GIVEN ROWS OF THIS SEAT. 12 by the template 'for every input the law returns true; each argument reads behind the call as it read before'; 0 by the template 'total and deterministic' (their statements: YtjbdlnomjkhhbaaTotals.lean).
  GIVEN WITH THE SEED: the statements are not yours to turn. If you find one false, say at which input.
  Laid BY PROGRAM, IN A SANDBOX (cutbox-rows.mjs): the forced cells as the released guide's own fill.sh prints them over the translation 647c4f88ded5bc8c… (all of the seat's roots in one cut). By AI agents, Wed Nov 11 2026. No macro, syntax, notation, axiom, sorry.
-/
import Derived.Test.YtjbdlnomjkhhbaaChecked
import GoSem.Claim
import GoSem.ClaimJoined
import GoSem.ClaimMapViews
import Derived.JoinedTies
import Derived.KernelRfl
namespace Go.Proofs.Ytjbdlnomjkhhbaa
/- THE CELL 'sum', in the pinned program and in every row, IS THE sha256 OF THE DUMP (.gsa) THAT YtjbdlnomjkhhbaaProg.lean LOADS. Nothing in Lean hashes anything: it is a label: what it is worth is what the hold of that sum in a sandbox is worth. -/
noncomputable def Try.pinned : Pinned := { name := "ytjbdlnomjkhhbaa", sum := "647c4f88ded5bc8c6b3cc82f9a4f7c04b37c9395385add2a9e347906c0aab921", checked := Try.checked }
namespace Rows
def none {H : Type} : Left H := { results := [], args := [] }

/-- 'spinnakerlaw1.MilliParts': WHATEVER THE INPUT: true; the input reads as it did. -/
def milliPartsSpec : ChangeSpec := { name := "milliParts", fn := fun _ => fun
  | [d1, d2, d3] => { results := [.lit (.bool true)], args := [d1, d2, d3] }
  | _ => none }
def milliPartsRow : OpenClaim := { program := "ytjbdlnomjkhhbaa", sum := "647c4f88ded5bc8c6b3cc82f9a4f7c04b37c9395385add2a9e347906c0aab921", func := "spinnaker/spinnakerlaw1.MilliParts", spec := "milliParts", named := ["math/bits.divideError", "math/bits.overflowError"], apart := false }
def MilliPartsSaid : Prop := milliPartsRow.holds Try.pinned (OpenSpec.ofChange milliPartsSpec)

/-- ITS FALSE NEIGHBOUR: 'it returns false'. Refute it at one input. -/
def milliPartsWrong : ChangeSpec := { name := "milliParts", fn := fun _ => fun
  | [d1, d2, d3] => { results := [.lit (.bool false)], args := [d1, d2, d3] }
  | _ => none }
def MilliPartsWrongFalsely : Prop := milliPartsRow.holds Try.pinned (OpenSpec.ofChange milliPartsWrong)

/-- 'spinnakerlaw1.MilliAsks': WHATEVER THE INPUT: true; the input reads as it did. -/
def milliAsksSpec : ChangeSpec := { name := "milliAsks", fn := fun _ => fun
  | [d1, d2, d3, d4] => { results := [.lit (.bool true)], args := [d1, d2, d3, d4] }
  | _ => none }
def milliAsksRow : OpenClaim := { program := "ytjbdlnomjkhhbaa", sum := "647c4f88ded5bc8c6b3cc82f9a4f7c04b37c9395385add2a9e347906c0aab921", func := "spinnaker/spinnakerlaw1.MilliAsks", spec := "milliAsks", named := ["math/bits.divideError", "math/bits.overflowError"], apart := false }
def MilliAsksSaid : Prop := milliAsksRow.holds Try.pinned (OpenSpec.ofChange milliAsksSpec)

/-- ITS FALSE NEIGHBOUR: 'it returns false'. Refute it at one input. -/
def milliAsksWrong : ChangeSpec := { name := "milliAsks", fn := fun _ => fun
  | [d1, d2, d3, d4] => { results := [.lit (.bool false)], args := [d1, d2, d3, d4] }
  | _ => none }
def MilliAsksWrongFalsely : Prop := milliAsksRow.holds Try.pinned (OpenSpec.ofChange milliAsksWrong)

/-- 'spinnakerlaw1.MilliSmall': WHATEVER THE INPUT: true; the input reads as it did. -/
def milliSmallSpec : ChangeSpec := { name := "milliSmall", fn := fun _ => fun
  | [d1, d2] => { results := [.lit (.bool true)], args := [d1, d2] }
  | _ => none }
def milliSmallRow : OpenClaim := { program := "ytjbdlnomjkhhbaa", sum := "647c4f88ded5bc8c6b3cc82f9a4f7c04b37c9395385add2a9e347906c0aab921", func := "spinnaker/spinnakerlaw1.MilliSmall", spec := "milliSmall", named := ["math/bits.divideError", "math/bits.overflowError"], apart := false }
def MilliSmallSaid : Prop := milliSmallRow.holds Try.pinned (OpenSpec.ofChange milliSmallSpec)

/-- ITS FALSE NEIGHBOUR: 'it returns false'. Refute it at one input. -/
def milliSmallWrong : ChangeSpec := { name := "milliSmall", fn := fun _ => fun
  | [d1, d2] => { results := [.lit (.bool false)], args := [d1, d2] }
  | _ => none }
def MilliSmallWrongFalsely : Prop := milliSmallRow.holds Try.pinned (OpenSpec.ofChange milliSmallWrong)

/-- 'spinnakerlaw1.MilliOrders': WHATEVER THE INPUT: true; the input reads as it did. -/
def milliOrdersSpec : ChangeSpec := { name := "milliOrders", fn := fun _ => fun
  | [d1, d2] => { results := [.lit (.bool true)], args := [d1, d2] }
  | _ => none }
def milliOrdersRow : OpenClaim := { program := "ytjbdlnomjkhhbaa", sum := "647c4f88ded5bc8c6b3cc82f9a4f7c04b37c9395385add2a9e347906c0aab921", func := "spinnaker/spinnakerlaw1.MilliOrders", spec := "milliOrders", named := ["math/bits.divideError", "math/bits.overflowError"], apart := false }
def MilliOrdersSaid : Prop := milliOrdersRow.holds Try.pinned (OpenSpec.ofChange milliOrdersSpec)

/-- ITS FALSE NEIGHBOUR: 'it returns false'. Refute it at one input. -/
def milliOrdersWrong : ChangeSpec := { name := "milliOrders", fn := fun _ => fun
  | [d1, d2] => { results := [.lit (.bool false)], args := [d1, d2] }
  | _ => none }
def MilliOrdersWrongFalsely : Prop := milliOrdersRow.holds Try.pinned (OpenSpec.ofChange milliOrdersWrong)

/-- 'spinnakerlaw1.MilliBack': WHATEVER THE INPUT: true; the input reads as it did. -/
def milliBackSpec : ChangeSpec := { name := "milliBack", fn := fun _ => fun
  | [d1, d2] => { results := [.lit (.bool true)], args := [d1, d2] }
  | _ => none }
def milliBackRow : OpenClaim := { program := "ytjbdlnomjkhhbaa", sum := "647c4f88ded5bc8c6b3cc82f9a4f7c04b37c9395385add2a9e347906c0aab921", func := "spinnaker/spinnakerlaw1.MilliBack", spec := "milliBack", named := ["math/bits.divideError", "math/bits.overflowError"], apart := false }
def MilliBackSaid : Prop := milliBackRow.holds Try.pinned (OpenSpec.ofChange milliBackSpec)

/-- ITS FALSE NEIGHBOUR: 'it returns false'. Refute it at one input. -/
def milliBackWrong : ChangeSpec := { name := "milliBack", fn := fun _ => fun
  | [d1, d2] => { results := [.lit (.bool false)], args := [d1, d2] }
  | _ => none }
def MilliBackWrongFalsely : Prop := milliBackRow.holds Try.pinned (OpenSpec.ofChange milliBackWrong)

/-- 'spinnakerlaw1.MilliClamps': WHATEVER THE INPUT: true; the input reads as it did. -/
def milliClampsSpec : ChangeSpec := { name := "milliClamps", fn := fun _ => fun
  | [d1, d2, d3] => { results := [.lit (.bool true)], args := [d1, d2, d3] }
  | _ => none }
def milliClampsRow : OpenClaim := { program := "ytjbdlnomjkhhbaa", sum := "647c4f88ded5bc8c6b3cc82f9a4f7c04b37c9395385add2a9e347906c0aab921", func := "spinnaker/spinnakerlaw1.MilliClamps", spec := "milliClamps", named := ["math/bits.divideError", "math/bits.overflowError"], apart := false }
def MilliClampsSaid : Prop := milliClampsRow.holds Try.pinned (OpenSpec.ofChange milliClampsSpec)

/-- ITS FALSE NEIGHBOUR: 'it returns false'. Refute it at one input. -/
def milliClampsWrong : ChangeSpec := { name := "milliClamps", fn := fun _ => fun
  | [d1, d2, d3] => { results := [.lit (.bool false)], args := [d1, d2, d3] }
  | _ => none }
def MilliClampsWrongFalsely : Prop := milliClampsRow.holds Try.pinned (OpenSpec.ofChange milliClampsWrong)

/-- 'spinnakerlaw3.ConfEdges': WHATEVER THE INPUT: true; the input reads as it did. -/
def confEdgesSpec : ChangeSpec := { name := "confEdges", fn := fun _ => fun
  | [d1, d2] => { results := [.lit (.bool true)], args := [d1, d2] }
  | _ => none }
def confEdgesRow : OpenClaim := { program := "ytjbdlnomjkhhbaa", sum := "647c4f88ded5bc8c6b3cc82f9a4f7c04b37c9395385add2a9e347906c0aab921", func := "spinnaker/spinnakerlaw3.ConfEdges", spec := "confEdges", named := ["math/bits.divideError", "math/bits.overflowError"], apart := false }
def ConfEdgesSaid : Prop := confEdgesRow.holds Try.pinned (OpenSpec.ofChange confEdgesSpec)

/-- ITS FALSE NEIGHBOUR: 'it returns false'. Refute it at one input. -/
def confEdgesWrong : ChangeSpec := { name := "confEdges", fn := fun _ => fun
  | [d1, d2] => { results := [.lit (.bool false)], args := [d1, d2] }
  | _ => none }
def ConfEdgesWrongFalsely : Prop := confEdgesRow.holds Try.pinned (OpenSpec.ofChange confEdgesWrong)

/-- 'spinnakerlaw3.ConfPer': WHATEVER THE INPUT: true; the input reads as it did. -/
def confPerSpec : ChangeSpec := { name := "confPer", fn := fun _ => fun
  | [d1, d2, d3, d4] => { results := [.lit (.bool true)], args := [d1, d2, d3, d4] }
  | _ => none }
def confPerRow : OpenClaim := { program := "ytjbdlnomjkhhbaa", sum := "647c4f88ded5bc8c6b3cc82f9a4f7c04b37c9395385add2a9e347906c0aab921", func := "spinnaker/spinnakerlaw3.ConfPer", spec := "confPer", named := ["math/bits.divideError", "math/bits.overflowError"], apart := false }
def ConfPerSaid : Prop := confPerRow.holds Try.pinned (OpenSpec.ofChange confPerSpec)

/-- ITS FALSE NEIGHBOUR: 'it returns false'. Refute it at one input. -/
def confPerWrong : ChangeSpec := { name := "confPer", fn := fun _ => fun
  | [d1, d2, d3, d4] => { results := [.lit (.bool false)], args := [d1, d2, d3, d4] }
  | _ => none }
def ConfPerWrongFalsely : Prop := confPerRow.holds Try.pinned (OpenSpec.ofChange confPerWrong)

/-- 'spinnakerlaw3.ConfAsks': WHATEVER THE INPUT: true; the input reads as it did. -/
def confAsksSpec : ChangeSpec := { name := "confAsks", fn := fun _ => fun
  | [d] => { results := [.lit (.bool true)], args := [d] }
  | _ => none }
def confAsksRow : OpenClaim := { program := "ytjbdlnomjkhhbaa", sum := "647c4f88ded5bc8c6b3cc82f9a4f7c04b37c9395385add2a9e347906c0aab921", func := "spinnaker/spinnakerlaw3.ConfAsks", spec := "confAsks", named := ["math/bits.divideError", "math/bits.overflowError"], apart := false }
def ConfAsksSaid : Prop := confAsksRow.holds Try.pinned (OpenSpec.ofChange confAsksSpec)

/-- ITS FALSE NEIGHBOUR: 'it returns false'. Refute it at one input. -/
def confAsksWrong : ChangeSpec := { name := "confAsks", fn := fun _ => fun
  | [d] => { results := [.lit (.bool false)], args := [d] }
  | _ => none }
def ConfAsksWrongFalsely : Prop := confAsksRow.holds Try.pinned (OpenSpec.ofChange confAsksWrong)

/-- 'spinnakerlaw3.ConfParts': WHATEVER THE INPUT: true; the input reads as it did. -/
def confPartsSpec : ChangeSpec := { name := "confParts", fn := fun _ => fun
  | [d1, d2, d3] => { results := [.lit (.bool true)], args := [d1, d2, d3] }
  | _ => none }
def confPartsRow : OpenClaim := { program := "ytjbdlnomjkhhbaa", sum := "647c4f88ded5bc8c6b3cc82f9a4f7c04b37c9395385add2a9e347906c0aab921", func := "spinnaker/spinnakerlaw3.ConfParts", spec := "confParts", named := ["math/bits.divideError", "math/bits.overflowError"], apart := false }
def ConfPartsSaid : Prop := confPartsRow.holds Try.pinned (OpenSpec.ofChange confPartsSpec)

/-- ITS FALSE NEIGHBOUR: 'it returns false'. Refute it at one input. -/
def confPartsWrong : ChangeSpec := { name := "confParts", fn := fun _ => fun
  | [d1, d2, d3] => { results := [.lit (.bool false)], args := [d1, d2, d3] }
  | _ => none }
def ConfPartsWrongFalsely : Prop := confPartsRow.holds Try.pinned (OpenSpec.ofChange confPartsWrong)

/-- 'spinnakerlaw3.ConfBounds': WHATEVER THE INPUT: true; the input reads as it did. -/
def confBoundsSpec : ChangeSpec := { name := "confBounds", fn := fun _ => fun
  | [d] => { results := [.lit (.bool true)], args := [d] }
  | _ => none }
def confBoundsRow : OpenClaim := { program := "ytjbdlnomjkhhbaa", sum := "647c4f88ded5bc8c6b3cc82f9a4f7c04b37c9395385add2a9e347906c0aab921", func := "spinnaker/spinnakerlaw3.ConfBounds", spec := "confBounds", named := ["math/bits.divideError", "math/bits.overflowError"], apart := false }
def ConfBoundsSaid : Prop := confBoundsRow.holds Try.pinned (OpenSpec.ofChange confBoundsSpec)

/-- ITS FALSE NEIGHBOUR: 'it returns false'. Refute it at one input. -/
def confBoundsWrong : ChangeSpec := { name := "confBounds", fn := fun _ => fun
  | [d] => { results := [.lit (.bool false)], args := [d] }
  | _ => none }
def ConfBoundsWrongFalsely : Prop := confBoundsRow.holds Try.pinned (OpenSpec.ofChange confBoundsWrong)

/-- 'spinnakerlaw3.ConfMost': WHATEVER THE INPUT: true; the input reads as it did. -/
def confMostSpec : ChangeSpec := { name := "confMost", fn := fun _ => fun
  | [d1, d2, d3] => { results := [.lit (.bool true)], args := [d1, d2, d3] }
  | _ => none }
def confMostRow : OpenClaim := { program := "ytjbdlnomjkhhbaa", sum := "647c4f88ded5bc8c6b3cc82f9a4f7c04b37c9395385add2a9e347906c0aab921", func := "spinnaker/spinnakerlaw3.ConfMost", spec := "confMost", named := ["math/bits.divideError", "math/bits.overflowError"], apart := false }
def ConfMostSaid : Prop := confMostRow.holds Try.pinned (OpenSpec.ofChange confMostSpec)

/-- ITS FALSE NEIGHBOUR: 'it returns false'. Refute it at one input. -/
def confMostWrong : ChangeSpec := { name := "confMost", fn := fun _ => fun
  | [d1, d2, d3] => { results := [.lit (.bool false)], args := [d1, d2, d3] }
  | _ => none }
def ConfMostWrongFalsely : Prop := confMostRow.holds Try.pinned (OpenSpec.ofChange confMostWrong)

/- THE SECOND FORM. 'bulk': how many values and letters a reading holds, each counted each time it is reached (what is shared counts as often as it is met; a slice's spare places count too). A statement '..UptoSaid' is the law's where the arguments, and the package variables that the reading takes, are together of bulk at most 1048576: NARROWER than '..Said'. Prove '..Said' where nothing that the law and all that it calls make is longer than what came in: it says more and counts as full. Else prove '..UptoSaid'. A law counts once. -/
mutual
def uptoBulk {H : Type} : DataW H → Nat
  | .lit (.string bytes) => bytes.length + 1
  | .lit _ => 1
  | .nil => 1
  | .ptr d => uptoBulk d + 1
  | .slice elems spare => uptoBulkAll elems + uptoBulkAll spare + 1
  | .agg parts => uptoBulkAll parts + 1
  | .iface _ d => uptoBulk d + 1
  | .map entries => uptoBulkEntries entries + 1
  | .held _ => 1
def uptoBulkAll {H : Type} : List (DataW H) → Nat
  | [] => 0
  | d :: r => uptoBulk d + uptoBulkAll r
def uptoBulkEntries {H : Type} : List (Lit × DataW H) → Nat
  | [] => 0
  | x :: r => uptoBulkEntry x + uptoBulkEntries r
def uptoBulkEntry {H : Type} : Lit × DataW H → Nat
  | (.string bytes, d) => bytes.length + uptoBulk d + 1
  | (_, d) => uptoBulk d + 1
 end
def uptoSmall : (H : Type) → List (DataW H) → Bool := fun _ ds => decide (uptoBulkAll ds ≤ 1048576)
def OpenSpec.upto (s : _root_.Go.ChangeSpec) : _root_.Go.OpenSpec := { _root_.Go.OpenSpec.ofChange s with cond := some uptoSmall }

/-- 'spinnakerlaw1.MilliParts', WHERE WHAT IT READS IS OF BULK AT MOST 1048576: true; the input reads as it did. -/
def milliPartsUptoRow : OpenClaim := { program := "ytjbdlnomjkhhbaa", sum := "647c4f88ded5bc8c6b3cc82f9a4f7c04b37c9395385add2a9e347906c0aab921", func := "spinnaker/spinnakerlaw1.MilliParts", spec := "milliParts", named := ["math/bits.divideError", "math/bits.overflowError"], apart := false, narrowed := true }
def MilliPartsUptoSaid : Prop := milliPartsUptoRow.holds Try.pinned (OpenSpec.upto milliPartsSpec)

/-- 'spinnakerlaw1.MilliAsks', WHERE WHAT IT READS IS OF BULK AT MOST 1048576: true; the input reads as it did. -/
def milliAsksUptoRow : OpenClaim := { program := "ytjbdlnomjkhhbaa", sum := "647c4f88ded5bc8c6b3cc82f9a4f7c04b37c9395385add2a9e347906c0aab921", func := "spinnaker/spinnakerlaw1.MilliAsks", spec := "milliAsks", named := ["math/bits.divideError", "math/bits.overflowError"], apart := false, narrowed := true }
def MilliAsksUptoSaid : Prop := milliAsksUptoRow.holds Try.pinned (OpenSpec.upto milliAsksSpec)

/-- 'spinnakerlaw1.MilliSmall', WHERE WHAT IT READS IS OF BULK AT MOST 1048576: true; the input reads as it did. -/
def milliSmallUptoRow : OpenClaim := { program := "ytjbdlnomjkhhbaa", sum := "647c4f88ded5bc8c6b3cc82f9a4f7c04b37c9395385add2a9e347906c0aab921", func := "spinnaker/spinnakerlaw1.MilliSmall", spec := "milliSmall", named := ["math/bits.divideError", "math/bits.overflowError"], apart := false, narrowed := true }
def MilliSmallUptoSaid : Prop := milliSmallUptoRow.holds Try.pinned (OpenSpec.upto milliSmallSpec)

/-- 'spinnakerlaw1.MilliOrders', WHERE WHAT IT READS IS OF BULK AT MOST 1048576: true; the input reads as it did. -/
def milliOrdersUptoRow : OpenClaim := { program := "ytjbdlnomjkhhbaa", sum := "647c4f88ded5bc8c6b3cc82f9a4f7c04b37c9395385add2a9e347906c0aab921", func := "spinnaker/spinnakerlaw1.MilliOrders", spec := "milliOrders", named := ["math/bits.divideError", "math/bits.overflowError"], apart := false, narrowed := true }
def MilliOrdersUptoSaid : Prop := milliOrdersUptoRow.holds Try.pinned (OpenSpec.upto milliOrdersSpec)

/-- 'spinnakerlaw1.MilliBack', WHERE WHAT IT READS IS OF BULK AT MOST 1048576: true; the input reads as it did. -/
def milliBackUptoRow : OpenClaim := { program := "ytjbdlnomjkhhbaa", sum := "647c4f88ded5bc8c6b3cc82f9a4f7c04b37c9395385add2a9e347906c0aab921", func := "spinnaker/spinnakerlaw1.MilliBack", spec := "milliBack", named := ["math/bits.divideError", "math/bits.overflowError"], apart := false, narrowed := true }
def MilliBackUptoSaid : Prop := milliBackUptoRow.holds Try.pinned (OpenSpec.upto milliBackSpec)

/-- 'spinnakerlaw1.MilliClamps', WHERE WHAT IT READS IS OF BULK AT MOST 1048576: true; the input reads as it did. -/
def milliClampsUptoRow : OpenClaim := { program := "ytjbdlnomjkhhbaa", sum := "647c4f88ded5bc8c6b3cc82f9a4f7c04b37c9395385add2a9e347906c0aab921", func := "spinnaker/spinnakerlaw1.MilliClamps", spec := "milliClamps", named := ["math/bits.divideError", "math/bits.overflowError"], apart := false, narrowed := true }
def MilliClampsUptoSaid : Prop := milliClampsUptoRow.holds Try.pinned (OpenSpec.upto milliClampsSpec)

/-- 'spinnakerlaw3.ConfEdges', WHERE WHAT IT READS IS OF BULK AT MOST 1048576: true; the input reads as it did. -/
def confEdgesUptoRow : OpenClaim := { program := "ytjbdlnomjkhhbaa", sum := "647c4f88ded5bc8c6b3cc82f9a4f7c04b37c9395385add2a9e347906c0aab921", func := "spinnaker/spinnakerlaw3.ConfEdges", spec := "confEdges", named := ["math/bits.divideError", "math/bits.overflowError"], apart := false, narrowed := true }
def ConfEdgesUptoSaid : Prop := confEdgesUptoRow.holds Try.pinned (OpenSpec.upto confEdgesSpec)

/-- 'spinnakerlaw3.ConfPer', WHERE WHAT IT READS IS OF BULK AT MOST 1048576: true; the input reads as it did. -/
def confPerUptoRow : OpenClaim := { program := "ytjbdlnomjkhhbaa", sum := "647c4f88ded5bc8c6b3cc82f9a4f7c04b37c9395385add2a9e347906c0aab921", func := "spinnaker/spinnakerlaw3.ConfPer", spec := "confPer", named := ["math/bits.divideError", "math/bits.overflowError"], apart := false, narrowed := true }
def ConfPerUptoSaid : Prop := confPerUptoRow.holds Try.pinned (OpenSpec.upto confPerSpec)

/-- 'spinnakerlaw3.ConfAsks', WHERE WHAT IT READS IS OF BULK AT MOST 1048576: true; the input reads as it did. -/
def confAsksUptoRow : OpenClaim := { program := "ytjbdlnomjkhhbaa", sum := "647c4f88ded5bc8c6b3cc82f9a4f7c04b37c9395385add2a9e347906c0aab921", func := "spinnaker/spinnakerlaw3.ConfAsks", spec := "confAsks", named := ["math/bits.divideError", "math/bits.overflowError"], apart := false, narrowed := true }
def ConfAsksUptoSaid : Prop := confAsksUptoRow.holds Try.pinned (OpenSpec.upto confAsksSpec)

/-- 'spinnakerlaw3.ConfParts', WHERE WHAT IT READS IS OF BULK AT MOST 1048576: true; the input reads as it did. -/
def confPartsUptoRow : OpenClaim := { program := "ytjbdlnomjkhhbaa", sum := "647c4f88ded5bc8c6b3cc82f9a4f7c04b37c9395385add2a9e347906c0aab921", func := "spinnaker/spinnakerlaw3.ConfParts", spec := "confParts", named := ["math/bits.divideError", "math/bits.overflowError"], apart := false, narrowed := true }
def ConfPartsUptoSaid : Prop := confPartsUptoRow.holds Try.pinned (OpenSpec.upto confPartsSpec)

/-- 'spinnakerlaw3.ConfBounds', WHERE WHAT IT READS IS OF BULK AT MOST 1048576: true; the input reads as it did. -/
def confBoundsUptoRow : OpenClaim := { program := "ytjbdlnomjkhhbaa", sum := "647c4f88ded5bc8c6b3cc82f9a4f7c04b37c9395385add2a9e347906c0aab921", func := "spinnaker/spinnakerlaw3.ConfBounds", spec := "confBounds", named := ["math/bits.divideError", "math/bits.overflowError"], apart := false, narrowed := true }
def ConfBoundsUptoSaid : Prop := confBoundsUptoRow.holds Try.pinned (OpenSpec.upto confBoundsSpec)

/-- 'spinnakerlaw3.ConfMost', WHERE WHAT IT READS IS OF BULK AT MOST 1048576: true; the input reads as it did. -/
def confMostUptoRow : OpenClaim := { program := "ytjbdlnomjkhhbaa", sum := "647c4f88ded5bc8c6b3cc82f9a4f7c04b37c9395385add2a9e347906c0aab921", func := "spinnaker/spinnakerlaw3.ConfMost", spec := "confMost", named := ["math/bits.divideError", "math/bits.overflowError"], apart := false, narrowed := true }
def ConfMostUptoSaid : Prop := confMostUptoRow.holds Try.pinned (OpenSpec.upto confMostSpec)

end Rows
end Go.Proofs.Ytjbdlnomjkhhbaa
