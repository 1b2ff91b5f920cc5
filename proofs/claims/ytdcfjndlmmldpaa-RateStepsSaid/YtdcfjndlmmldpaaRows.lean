/-
  No cell of these rows narrows 'for every input' (looked for: loops, veiled, ifaces, maps, wideKeys, modest, calm, conditions, laid).
  DERIVED. THE GIVEN ROWS OF THIS SEAT. 11 by the template 'for every input the law returns true; each argument reads behind the call as it read before'; 0 by the template 'total and deterministic' (their statements: YtdcfjndlmmldpaaTotals.lean).
  GIVEN WITH THE SEED: the statements are not yours to turn. If you find one false, say at which input.
  Laid BY PROGRAM, IN A SANDBOX (cutbox-rows.mjs): the forced cells as the released guide's own fill.sh prints them over the translation cce95562e6ca6cdb… (all of the seat's roots in one cut). By AI agents, Wed Nov 11 2026. No macro, syntax, notation, axiom, sorry.
-/
import Derived.Test.YtdcfjndlmmldpaaChecked
import GoSem.Claim
import GoSem.ClaimJoined
import GoSem.ClaimMapViews
import Derived.JoinedTies
import Derived.KernelRfl
namespace Go.Proofs.Ytdcfjndlmmldpaa
/- THE CELL 'sum', in the pinned program and in every row, IS THE sha256 OF THE DUMP (.gsa) THAT YtdcfjndlmmldpaaProg.lean LOADS. Nothing in Lean hashes anything: it is a label: what it is worth is what the hold of that sum in a sandbox is worth. -/
noncomputable def Try.pinned : Pinned := { name := "ytdcfjndlmmldpaa", sum := "cce95562e6ca6cdb0c0831857c72754eaaad92a0a610a9e7b26727cd0bc5de4a", checked := Try.checked }
namespace Rows
def none {H : Type} : Left H := { results := [], args := [] }

/-- 'spinnakerlaw22.ZeroAsks': WHATEVER THE INPUT: true; the input reads as it did. -/
def zeroAsksSpec : ChangeSpec := { name := "zeroAsks", fn := fun _ => fun
  | [d1, d2, d3, d4, d5, d6, d7, d8, d9] => { results := [.lit (.bool true)], args := [d1, d2, d3, d4, d5, d6, d7, d8, d9] }
  | _ => none }
def zeroAsksRow : OpenClaim := { program := "ytdcfjndlmmldpaa", sum := "cce95562e6ca6cdb0c0831857c72754eaaad92a0a610a9e7b26727cd0bc5de4a", func := "spinnaker/spinnakerlaw22.ZeroAsks", spec := "zeroAsks", apart := false }
def ZeroAsksSaid : Prop := zeroAsksRow.holds Try.pinned (OpenSpec.ofChange zeroAsksSpec)

/-- ITS FALSE NEIGHBOUR: 'it returns false'. Refute it at one input. -/
def zeroAsksWrong : ChangeSpec := { name := "zeroAsks", fn := fun _ => fun
  | [d1, d2, d3, d4, d5, d6, d7, d8, d9] => { results := [.lit (.bool false)], args := [d1, d2, d3, d4, d5, d6, d7, d8, d9] }
  | _ => none }
def ZeroAsksWrongFalsely : Prop := zeroAsksRow.holds Try.pinned (OpenSpec.ofChange zeroAsksWrong)

/-- 'spinnakerlaw22.ZeroGrace': WHATEVER THE INPUT: true; the input reads as it did. -/
def zeroGraceSpec : ChangeSpec := { name := "zeroGrace", fn := fun _ => fun
  | [d1, d2, d3, d4] => { results := [.lit (.bool true)], args := [d1, d2, d3, d4] }
  | _ => none }
def zeroGraceRow : OpenClaim := { program := "ytdcfjndlmmldpaa", sum := "cce95562e6ca6cdb0c0831857c72754eaaad92a0a610a9e7b26727cd0bc5de4a", func := "spinnaker/spinnakerlaw22.ZeroGrace", spec := "zeroGrace", apart := false }
def ZeroGraceSaid : Prop := zeroGraceRow.holds Try.pinned (OpenSpec.ofChange zeroGraceSpec)

/-- ITS FALSE NEIGHBOUR: 'it returns false'. Refute it at one input. -/
def zeroGraceWrong : ChangeSpec := { name := "zeroGrace", fn := fun _ => fun
  | [d1, d2, d3, d4] => { results := [.lit (.bool false)], args := [d1, d2, d3, d4] }
  | _ => none }
def ZeroGraceWrongFalsely : Prop := zeroGraceRow.holds Try.pinned (OpenSpec.ofChange zeroGraceWrong)

/-- 'spinnakerlaw22.ZeroOne': WHATEVER THE INPUT: true; the input reads as it did. -/
def zeroOneSpec : ChangeSpec := { name := "zeroOne", fn := fun _ => fun
  | [d1, d2, d3, d4, d5, d6] => { results := [.lit (.bool true)], args := [d1, d2, d3, d4, d5, d6] }
  | _ => none }
def zeroOneRow : OpenClaim := { program := "ytdcfjndlmmldpaa", sum := "cce95562e6ca6cdb0c0831857c72754eaaad92a0a610a9e7b26727cd0bc5de4a", func := "spinnaker/spinnakerlaw22.ZeroOne", spec := "zeroOne", apart := false }
def ZeroOneSaid : Prop := zeroOneRow.holds Try.pinned (OpenSpec.ofChange zeroOneSpec)

/-- ITS FALSE NEIGHBOUR: 'it returns false'. Refute it at one input. -/
def zeroOneWrong : ChangeSpec := { name := "zeroOne", fn := fun _ => fun
  | [d1, d2, d3, d4, d5, d6] => { results := [.lit (.bool false)], args := [d1, d2, d3, d4, d5, d6] }
  | _ => none }
def ZeroOneWrongFalsely : Prop := zeroOneRow.holds Try.pinned (OpenSpec.ofChange zeroOneWrong)

/-- 'spinnakerlaw16.BurstRoom': WHATEVER THE INPUT: true; the input reads as it did. -/
def burstRoomSpec : ChangeSpec := { name := "burstRoom", fn := fun _ => fun
  | [d1, d2, d3] => { results := [.lit (.bool true)], args := [d1, d2, d3] }
  | _ => none }
def burstRoomRow : OpenClaim := { program := "ytdcfjndlmmldpaa", sum := "cce95562e6ca6cdb0c0831857c72754eaaad92a0a610a9e7b26727cd0bc5de4a", func := "spinnaker/spinnakerlaw16.BurstRoom", spec := "burstRoom", apart := false }
def BurstRoomSaid : Prop := burstRoomRow.holds Try.pinned (OpenSpec.ofChange burstRoomSpec)

/-- ITS FALSE NEIGHBOUR: 'it returns false'. Refute it at one input. -/
def burstRoomWrong : ChangeSpec := { name := "burstRoom", fn := fun _ => fun
  | [d1, d2, d3] => { results := [.lit (.bool false)], args := [d1, d2, d3] }
  | _ => none }
def BurstRoomWrongFalsely : Prop := burstRoomRow.holds Try.pinned (OpenSpec.ofChange burstRoomWrong)

/-- 'spinnakerlaw16.BurstAsks': WHATEVER THE INPUT: true; the input reads as it did. -/
def burstAsksSpec : ChangeSpec := { name := "burstAsks", fn := fun _ => fun
  | [d1, d2, d3, d4] => { results := [.lit (.bool true)], args := [d1, d2, d3, d4] }
  | _ => none }
def burstAsksRow : OpenClaim := { program := "ytdcfjndlmmldpaa", sum := "cce95562e6ca6cdb0c0831857c72754eaaad92a0a610a9e7b26727cd0bc5de4a", func := "spinnaker/spinnakerlaw16.BurstAsks", spec := "burstAsks", apart := false }
def BurstAsksSaid : Prop := burstAsksRow.holds Try.pinned (OpenSpec.ofChange burstAsksSpec)

/-- ITS FALSE NEIGHBOUR: 'it returns false'. Refute it at one input. -/
def burstAsksWrong : ChangeSpec := { name := "burstAsks", fn := fun _ => fun
  | [d1, d2, d3, d4] => { results := [.lit (.bool false)], args := [d1, d2, d3, d4] }
  | _ => none }
def BurstAsksWrongFalsely : Prop := burstAsksRow.holds Try.pinned (OpenSpec.ofChange burstAsksWrong)

/-- 'spinnakerlaw16.BurstServes': WHATEVER THE INPUT: true; the input reads as it did. -/
def burstServesSpec : ChangeSpec := { name := "burstServes", fn := fun _ => fun
  | [d1, d2, d3] => { results := [.lit (.bool true)], args := [d1, d2, d3] }
  | _ => none }
def burstServesRow : OpenClaim := { program := "ytdcfjndlmmldpaa", sum := "cce95562e6ca6cdb0c0831857c72754eaaad92a0a610a9e7b26727cd0bc5de4a", func := "spinnaker/spinnakerlaw16.BurstServes", spec := "burstServes", apart := false }
def BurstServesSaid : Prop := burstServesRow.holds Try.pinned (OpenSpec.ofChange burstServesSpec)

/-- ITS FALSE NEIGHBOUR: 'it returns false'. Refute it at one input. -/
def burstServesWrong : ChangeSpec := { name := "burstServes", fn := fun _ => fun
  | [d1, d2, d3] => { results := [.lit (.bool false)], args := [d1, d2, d3] }
  | _ => none }
def BurstServesWrongFalsely : Prop := burstServesRow.holds Try.pinned (OpenSpec.ofChange burstServesWrong)

/-- 'spinnakerlaw16.BurstMore': WHATEVER THE INPUT: true; the input reads as it did. -/
def burstMoreSpec : ChangeSpec := { name := "burstMore", fn := fun _ => fun
  | [d1, d2, d3, d4, d5] => { results := [.lit (.bool true)], args := [d1, d2, d3, d4, d5] }
  | _ => none }
def burstMoreRow : OpenClaim := { program := "ytdcfjndlmmldpaa", sum := "cce95562e6ca6cdb0c0831857c72754eaaad92a0a610a9e7b26727cd0bc5de4a", func := "spinnaker/spinnakerlaw16.BurstMore", spec := "burstMore", apart := false }
def BurstMoreSaid : Prop := burstMoreRow.holds Try.pinned (OpenSpec.ofChange burstMoreSpec)

/-- ITS FALSE NEIGHBOUR: 'it returns false'. Refute it at one input. -/
def burstMoreWrong : ChangeSpec := { name := "burstMore", fn := fun _ => fun
  | [d1, d2, d3, d4, d5] => { results := [.lit (.bool false)], args := [d1, d2, d3, d4, d5] }
  | _ => none }
def BurstMoreWrongFalsely : Prop := burstMoreRow.holds Try.pinned (OpenSpec.ofChange burstMoreWrong)

/-- 'spinnakerlaw13.RateMore': WHATEVER THE INPUT: true; the input reads as it did. -/
def rateMoreSpec : ChangeSpec := { name := "rateMore", fn := fun _ => fun
  | [d1, d2, d3, d4, d5] => { results := [.lit (.bool true)], args := [d1, d2, d3, d4, d5] }
  | _ => none }
def rateMoreRow : OpenClaim := { program := "ytdcfjndlmmldpaa", sum := "cce95562e6ca6cdb0c0831857c72754eaaad92a0a610a9e7b26727cd0bc5de4a", func := "spinnaker/spinnakerlaw13.RateMore", spec := "rateMore", apart := false }
def RateMoreSaid : Prop := rateMoreRow.holds Try.pinned (OpenSpec.ofChange rateMoreSpec)

/-- ITS FALSE NEIGHBOUR: 'it returns false'. Refute it at one input. -/
def rateMoreWrong : ChangeSpec := { name := "rateMore", fn := fun _ => fun
  | [d1, d2, d3, d4, d5] => { results := [.lit (.bool false)], args := [d1, d2, d3, d4, d5] }
  | _ => none }
def RateMoreWrongFalsely : Prop := rateMoreRow.holds Try.pinned (OpenSpec.ofChange rateMoreWrong)

/-- 'spinnakerlaw13.RateAsks': WHATEVER THE INPUT: true; the input reads as it did. -/
def rateAsksSpec : ChangeSpec := { name := "rateAsks", fn := fun _ => fun
  | [d1, d2, d3] => { results := [.lit (.bool true)], args := [d1, d2, d3] }
  | _ => none }
def rateAsksRow : OpenClaim := { program := "ytdcfjndlmmldpaa", sum := "cce95562e6ca6cdb0c0831857c72754eaaad92a0a610a9e7b26727cd0bc5de4a", func := "spinnaker/spinnakerlaw13.RateAsks", spec := "rateAsks", apart := false }
def RateAsksSaid : Prop := rateAsksRow.holds Try.pinned (OpenSpec.ofChange rateAsksSpec)

/-- ITS FALSE NEIGHBOUR: 'it returns false'. Refute it at one input. -/
def rateAsksWrong : ChangeSpec := { name := "rateAsks", fn := fun _ => fun
  | [d1, d2, d3] => { results := [.lit (.bool false)], args := [d1, d2, d3] }
  | _ => none }
def RateAsksWrongFalsely : Prop := rateAsksRow.holds Try.pinned (OpenSpec.ofChange rateAsksWrong)

/-- 'spinnakerlaw13.RateBetween': WHATEVER THE INPUT: true; the input reads as it did. -/
def rateBetweenSpec : ChangeSpec := { name := "rateBetween", fn := fun _ => fun
  | [d1, d2, d3] => { results := [.lit (.bool true)], args := [d1, d2, d3] }
  | _ => none }
def rateBetweenRow : OpenClaim := { program := "ytdcfjndlmmldpaa", sum := "cce95562e6ca6cdb0c0831857c72754eaaad92a0a610a9e7b26727cd0bc5de4a", func := "spinnaker/spinnakerlaw13.RateBetween", spec := "rateBetween", apart := false }
def RateBetweenSaid : Prop := rateBetweenRow.holds Try.pinned (OpenSpec.ofChange rateBetweenSpec)

/-- ITS FALSE NEIGHBOUR: 'it returns false'. Refute it at one input. -/
def rateBetweenWrong : ChangeSpec := { name := "rateBetween", fn := fun _ => fun
  | [d1, d2, d3] => { results := [.lit (.bool false)], args := [d1, d2, d3] }
  | _ => none }
def RateBetweenWrongFalsely : Prop := rateBetweenRow.holds Try.pinned (OpenSpec.ofChange rateBetweenWrong)

/-- 'spinnakerlaw13.RateSteps': WHATEVER THE INPUT: true; the input reads as it did. -/
def rateStepsSpec : ChangeSpec := { name := "rateSteps", fn := fun _ => fun
  | [d1, d2] => { results := [.lit (.bool true)], args := [d1, d2] }
  | _ => none }
def rateStepsRow : OpenClaim := { program := "ytdcfjndlmmldpaa", sum := "cce95562e6ca6cdb0c0831857c72754eaaad92a0a610a9e7b26727cd0bc5de4a", func := "spinnaker/spinnakerlaw13.RateSteps", spec := "rateSteps", apart := false }
def RateStepsSaid : Prop := rateStepsRow.holds Try.pinned (OpenSpec.ofChange rateStepsSpec)

/-- ITS FALSE NEIGHBOUR: 'it returns false'. Refute it at one input. -/
def rateStepsWrong : ChangeSpec := { name := "rateSteps", fn := fun _ => fun
  | [d1, d2] => { results := [.lit (.bool false)], args := [d1, d2] }
  | _ => none }
def RateStepsWrongFalsely : Prop := rateStepsRow.holds Try.pinned (OpenSpec.ofChange rateStepsWrong)

/- THE SECOND FORM. 'bulk': how many values and letters a reading holds, each counted each time it is reached (what is shared counts as often as it is met; a slice's spare places count too). A statement '..UptoSaid' is the law's where the arguments, and the package variables that the reading takes, are together of bulk at most 1048576: NARROWER than '..Said'. Prove '..Said' where nothing that the law and all that it calls make is longer than what came in: it says more and counts as full. Else prove '..UptoSaid'. A law counts once. -/
mutual
def uptoBulk {H : Type} : DataW H → Nat
  | .lit (.string bytes) => bytes.length + 1
  | .lit _ => 1
  | .nil => 1
  | .ptr d => uptoBulk d + 1
  | .slice elems spare => uptoBulkAll elems + uptoBulkAll spare + 1
  | .agg parts => uptoBulkAll parts + 1
  | .iface _ d => uptoBulk d + 1
  | .map entries => uptoBulkEntries entries + 1
  | .held _ => 1
def uptoBulkAll {H : Type} : List (DataW H) → Nat
  | [] => 0
  | d :: r => uptoBulk d + uptoBulkAll r
def uptoBulkEntries {H : Type} : List (Lit × DataW H) → Nat
  | [] => 0
  | x :: r => uptoBulkEntry x + uptoBulkEntries r
def uptoBulkEntry {H : Type} : Lit × DataW H → Nat
  | (.string bytes, d) => bytes.length + uptoBulk d + 1
  | (_, d) => uptoBulk d + 1
 end
def uptoSmall : (H : Type) → List (DataW H) → Bool := fun _ ds => decide (uptoBulkAll ds ≤ 1048576)
def OpenSpec.upto (s : _root_.Go.ChangeSpec) : _root_.Go.OpenSpec := { _root_.Go.OpenSpec.ofChange s with cond := some uptoSmall }

/-- 'spinnakerlaw22.ZeroAsks', WHERE WHAT IT READS IS OF BULK AT MOST 1048576: true; the input reads as it did. -/
def zeroAsksUptoRow : OpenClaim := { program := "ytdcfjndlmmldpaa", sum := "cce95562e6ca6cdb0c0831857c72754eaaad92a0a610a9e7b26727cd0bc5de4a", func := "spinnaker/spinnakerlaw22.ZeroAsks", spec := "zeroAsks", apart := false, narrowed := true }
def ZeroAsksUptoSaid : Prop := zeroAsksUptoRow.holds Try.pinned (OpenSpec.upto zeroAsksSpec)

/-- 'spinnakerlaw22.ZeroGrace', WHERE WHAT IT READS IS OF BULK AT MOST 1048576: true; the input reads as it did. -/
def zeroGraceUptoRow : OpenClaim := { program := "ytdcfjndlmmldpaa", sum := "cce95562e6ca6cdb0c0831857c72754eaaad92a0a610a9e7b26727cd0bc5de4a", func := "spinnaker/spinnakerlaw22.ZeroGrace", spec := "zeroGrace", apart := false, narrowed := true }
def ZeroGraceUptoSaid : Prop := zeroGraceUptoRow.holds Try.pinned (OpenSpec.upto zeroGraceSpec)

/-- 'spinnakerlaw22.ZeroOne', WHERE WHAT IT READS IS OF BULK AT MOST 1048576: true; the input reads as it did. -/
def zeroOneUptoRow : OpenClaim := { program := "ytdcfjndlmmldpaa", sum := "cce95562e6ca6cdb0c0831857c72754eaaad92a0a610a9e7b26727cd0bc5de4a", func := "spinnaker/spinnakerlaw22.ZeroOne", spec := "zeroOne", apart := false, narrowed := true }
def ZeroOneUptoSaid : Prop := zeroOneUptoRow.holds Try.pinned (OpenSpec.upto zeroOneSpec)

/-- 'spinnakerlaw16.BurstRoom', WHERE WHAT IT READS IS OF BULK AT MOST 1048576: true; the input reads as it did. -/
def burstRoomUptoRow : OpenClaim := { program := "ytdcfjndlmmldpaa", sum := "cce95562e6ca6cdb0c0831857c72754eaaad92a0a610a9e7b26727cd0bc5de4a", func := "spinnaker/spinnakerlaw16.BurstRoom", spec := "burstRoom", apart := false, narrowed := true }
def BurstRoomUptoSaid : Prop := burstRoomUptoRow.holds Try.pinned (OpenSpec.upto burstRoomSpec)

/-- 'spinnakerlaw16.BurstAsks', WHERE WHAT IT READS IS OF BULK AT MOST 1048576: true; the input reads as it did. -/
def burstAsksUptoRow : OpenClaim := { program := "ytdcfjndlmmldpaa", sum := "cce95562e6ca6cdb0c0831857c72754eaaad92a0a610a9e7b26727cd0bc5de4a", func := "spinnaker/spinnakerlaw16.BurstAsks", spec := "burstAsks", apart := false, narrowed := true }
def BurstAsksUptoSaid : Prop := burstAsksUptoRow.holds Try.pinned (OpenSpec.upto burstAsksSpec)

/-- 'spinnakerlaw16.BurstServes', WHERE WHAT IT READS IS OF BULK AT MOST 1048576: true; the input reads as it did. -/
def burstServesUptoRow : OpenClaim := { program := "ytdcfjndlmmldpaa", sum := "cce95562e6ca6cdb0c0831857c72754eaaad92a0a610a9e7b26727cd0bc5de4a", func := "spinnaker/spinnakerlaw16.BurstServes", spec := "burstServes", apart := false, narrowed := true }
def BurstServesUptoSaid : Prop := burstServesUptoRow.holds Try.pinned (OpenSpec.upto burstServesSpec)

/-- 'spinnakerlaw16.BurstMore', WHERE WHAT IT READS IS OF BULK AT MOST 1048576: true; the input reads as it did. -/
def burstMoreUptoRow : OpenClaim := { program := "ytdcfjndlmmldpaa", sum := "cce95562e6ca6cdb0c0831857c72754eaaad92a0a610a9e7b26727cd0bc5de4a", func := "spinnaker/spinnakerlaw16.BurstMore", spec := "burstMore", apart := false, narrowed := true }
def BurstMoreUptoSaid : Prop := burstMoreUptoRow.holds Try.pinned (OpenSpec.upto burstMoreSpec)

/-- 'spinnakerlaw13.RateMore', WHERE WHAT IT READS IS OF BULK AT MOST 1048576: true; the input reads as it did. -/
def rateMoreUptoRow : OpenClaim := { program := "ytdcfjndlmmldpaa", sum := "cce95562e6ca6cdb0c0831857c72754eaaad92a0a610a9e7b26727cd0bc5de4a", func := "spinnaker/spinnakerlaw13.RateMore", spec := "rateMore", apart := false, narrowed := true }
def RateMoreUptoSaid : Prop := rateMoreUptoRow.holds Try.pinned (OpenSpec.upto rateMoreSpec)

/-- 'spinnakerlaw13.RateAsks', WHERE WHAT IT READS IS OF BULK AT MOST 1048576: true; the input reads as it did. -/
def rateAsksUptoRow : OpenClaim := { program := "ytdcfjndlmmldpaa", sum := "cce95562e6ca6cdb0c0831857c72754eaaad92a0a610a9e7b26727cd0bc5de4a", func := "spinnaker/spinnakerlaw13.RateAsks", spec := "rateAsks", apart := false, narrowed := true }
def RateAsksUptoSaid : Prop := rateAsksUptoRow.holds Try.pinned (OpenSpec.upto rateAsksSpec)

/-- 'spinnakerlaw13.RateBetween', WHERE WHAT IT READS IS OF BULK AT MOST 1048576: true; the input reads as it did. -/
def rateBetweenUptoRow : OpenClaim := { program := "ytdcfjndlmmldpaa", sum := "cce95562e6ca6cdb0c0831857c72754eaaad92a0a610a9e7b26727cd0bc5de4a", func := "spinnaker/spinnakerlaw13.RateBetween", spec := "rateBetween", apart := false, narrowed := true }
def RateBetweenUptoSaid : Prop := rateBetweenUptoRow.holds Try.pinned (OpenSpec.upto rateBetweenSpec)

/-- 'spinnakerlaw13.RateSteps', WHERE WHAT IT READS IS OF BULK AT MOST 1048576: true; the input reads as it did. -/
def rateStepsUptoRow : OpenClaim := { program := "ytdcfjndlmmldpaa", sum := "cce95562e6ca6cdb0c0831857c72754eaaad92a0a610a9e7b26727cd0bc5de4a", func := "spinnaker/spinnakerlaw13.RateSteps", spec := "rateSteps", apart := false, narrowed := true }
def RateStepsUptoSaid : Prop := rateStepsUptoRow.holds Try.pinned (OpenSpec.upto rateStepsSpec)

end Rows
end Go.Proofs.Ytdcfjndlmmldpaa
