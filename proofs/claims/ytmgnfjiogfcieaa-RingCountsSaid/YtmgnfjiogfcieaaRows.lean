/-
  No cell of these rows narrows 'for every input' (looked for: loops, veiled, ifaces, maps, wideKeys, modest, calm, conditions, laid).
  DERIVED. THE GIVEN ROWS OF THIS SEAT. 8 by the template 'for every input the law returns true; each argument reads behind the call as it read before'; 0 by the template 'total and deterministic' (their statements: YtmgnfjiogfcieaaTotals.lean).
  GIVEN WITH THE SEED: the statements are not yours to turn. If you find one false, say at which input.
  Laid BY PROGRAM, IN A SANDBOX (cutbox-rows.mjs): the forced cells as the released guide's own fill.sh prints them over the translation 740327b5bdbc3f3c… (all of the seat's roots in one cut). By AI agents, Wed Nov 11 2026. No macro, syntax, notation, axiom, sorry.
-/
import Derived.Test.YtmgnfjiogfcieaaChecked
import GoSem.Claim
import GoSem.ClaimJoined
import GoSem.ClaimMapViews
import Derived.JoinedTies
import Derived.KernelRfl
namespace Go.Proofs.Ytmgnfjiogfcieaa
/- THE CELL 'sum', in the pinned program and in every row, IS THE sha256 OF THE DUMP (.gsa) THAT YtmgnfjiogfcieaaProg.lean LOADS. Nothing in Lean hashes anything: it is a label: what it is worth is what the hold of that sum in a sandbox is worth. -/
noncomputable def Try.pinned : Pinned := { name := "ytmgnfjiogfcieaa", sum := "740327b5bdbc3f3ce3c246ab2d12497e911ede248e74d64f0ea80c2df75e610d", checked := Try.checked }
namespace Rows
def none {H : Type} : Left H := { results := [], args := [] }

/-- 'spinnakerlaw5.RingLate': WHATEVER THE INPUT: true; the input reads as it did. -/
def ringLateSpec : ChangeSpec := { name := "ringLate", fn := fun _ => fun
  | [d1, d2, d3] => { results := [.lit (.bool true)], args := [d1, d2, d3] }
  | _ => none }
def ringLateRow : OpenClaim := { program := "ytmgnfjiogfcieaa", sum := "740327b5bdbc3f3ce3c246ab2d12497e911ede248e74d64f0ea80c2df75e610d", func := "spinnaker/spinnakerlaw5.RingLate", spec := "ringLate", unfollowed := true, recurses := true, apart := false }
def RingLateSaid : Prop := ringLateRow.holds Try.pinned (OpenSpec.ofChange ringLateSpec)

/-- ITS FALSE NEIGHBOUR: 'it returns false'. Refute it at one input. -/
def ringLateWrong : ChangeSpec := { name := "ringLate", fn := fun _ => fun
  | [d1, d2, d3] => { results := [.lit (.bool false)], args := [d1, d2, d3] }
  | _ => none }
def RingLateWrongFalsely : Prop := ringLateRow.holds Try.pinned (OpenSpec.ofChange ringLateWrong)

/-- 'spinnakerlaw5.RingPlays': WHATEVER THE INPUT: true; the input reads as it did. -/
def ringPlaysSpec : ChangeSpec := { name := "ringPlays", fn := fun _ => fun
  | [d1, d2, d3] => { results := [.lit (.bool true)], args := [d1, d2, d3] }
  | _ => none }
def ringPlaysRow : OpenClaim := { program := "ytmgnfjiogfcieaa", sum := "740327b5bdbc3f3ce3c246ab2d12497e911ede248e74d64f0ea80c2df75e610d", func := "spinnaker/spinnakerlaw5.RingPlays", spec := "ringPlays", unfollowed := true, recurses := true, apart := false }
def RingPlaysSaid : Prop := ringPlaysRow.holds Try.pinned (OpenSpec.ofChange ringPlaysSpec)

/-- ITS FALSE NEIGHBOUR: 'it returns false'. Refute it at one input. -/
def ringPlaysWrong : ChangeSpec := { name := "ringPlays", fn := fun _ => fun
  | [d1, d2, d3] => { results := [.lit (.bool false)], args := [d1, d2, d3] }
  | _ => none }
def RingPlaysWrongFalsely : Prop := ringPlaysRow.holds Try.pinned (OpenSpec.ofChange ringPlaysWrong)

/-- 'spinnakerlaw5.RingNear': WHATEVER THE INPUT: true; the input reads as it did. -/
def ringNearSpec : ChangeSpec := { name := "ringNear", fn := fun _ => fun
  | [d1, d2, d3] => { results := [.lit (.bool true)], args := [d1, d2, d3] }
  | _ => none }
def ringNearRow : OpenClaim := { program := "ytmgnfjiogfcieaa", sum := "740327b5bdbc3f3ce3c246ab2d12497e911ede248e74d64f0ea80c2df75e610d", func := "spinnaker/spinnakerlaw5.RingNear", spec := "ringNear", unfollowed := true, recurses := true, apart := false }
def RingNearSaid : Prop := ringNearRow.holds Try.pinned (OpenSpec.ofChange ringNearSpec)

/-- ITS FALSE NEIGHBOUR: 'it returns false'. Refute it at one input. -/
def ringNearWrong : ChangeSpec := { name := "ringNear", fn := fun _ => fun
  | [d1, d2, d3] => { results := [.lit (.bool false)], args := [d1, d2, d3] }
  | _ => none }
def RingNearWrongFalsely : Prop := ringNearRow.holds Try.pinned (OpenSpec.ofChange ringNearWrong)

/-- 'spinnakerlaw5.RingSteady': WHATEVER THE INPUT: true; the input reads as it did. -/
def ringSteadySpec : ChangeSpec := { name := "ringSteady", fn := fun _ => fun
  | [d1, d2, d3, d4] => { results := [.lit (.bool true)], args := [d1, d2, d3, d4] }
  | _ => none }
def ringSteadyRow : OpenClaim := { program := "ytmgnfjiogfcieaa", sum := "740327b5bdbc3f3ce3c246ab2d12497e911ede248e74d64f0ea80c2df75e610d", func := "spinnaker/spinnakerlaw5.RingSteady", spec := "ringSteady", unfollowed := true, recurses := true, apart := false }
def RingSteadySaid : Prop := ringSteadyRow.holds Try.pinned (OpenSpec.ofChange ringSteadySpec)

/-- ITS FALSE NEIGHBOUR: 'it returns false'. Refute it at one input. -/
def ringSteadyWrong : ChangeSpec := { name := "ringSteady", fn := fun _ => fun
  | [d1, d2, d3, d4] => { results := [.lit (.bool false)], args := [d1, d2, d3, d4] }
  | _ => none }
def RingSteadyWrongFalsely : Prop := ringSteadyRow.holds Try.pinned (OpenSpec.ofChange ringSteadyWrong)

/-- 'spinnakerlaw5.RingCounts': WHATEVER THE INPUT: true; the input reads as it did. -/
def ringCountsSpec : ChangeSpec := { name := "ringCounts", fn := fun _ => fun
  | [d1, d2] => { results := [.lit (.bool true)], args := [d1, d2] }
  | _ => none }
def ringCountsRow : OpenClaim := { program := "ytmgnfjiogfcieaa", sum := "740327b5bdbc3f3ce3c246ab2d12497e911ede248e74d64f0ea80c2df75e610d", func := "spinnaker/spinnakerlaw5.RingCounts", spec := "ringCounts", unfollowed := true, recurses := true, apart := false }
def RingCountsSaid : Prop := ringCountsRow.holds Try.pinned (OpenSpec.ofChange ringCountsSpec)

/-- ITS FALSE NEIGHBOUR: 'it returns false'. Refute it at one input. -/
def ringCountsWrong : ChangeSpec := { name := "ringCounts", fn := fun _ => fun
  | [d1, d2] => { results := [.lit (.bool false)], args := [d1, d2] }
  | _ => none }
def RingCountsWrongFalsely : Prop := ringCountsRow.holds Try.pinned (OpenSpec.ofChange ringCountsWrong)

/-- 'spinnakerlaw5.RingForgets': WHATEVER THE INPUT: true; the input reads as it did. -/
def ringForgetsSpec : ChangeSpec := { name := "ringForgets", fn := fun _ => fun
  | [d1, d2, d3] => { results := [.lit (.bool true)], args := [d1, d2, d3] }
  | _ => none }
def ringForgetsRow : OpenClaim := { program := "ytmgnfjiogfcieaa", sum := "740327b5bdbc3f3ce3c246ab2d12497e911ede248e74d64f0ea80c2df75e610d", func := "spinnaker/spinnakerlaw5.RingForgets", spec := "ringForgets", unfollowed := true, recurses := true, apart := false }
def RingForgetsSaid : Prop := ringForgetsRow.holds Try.pinned (OpenSpec.ofChange ringForgetsSpec)

/-- ITS FALSE NEIGHBOUR: 'it returns false'. Refute it at one input. -/
def ringForgetsWrong : ChangeSpec := { name := "ringForgets", fn := fun _ => fun
  | [d1, d2, d3] => { results := [.lit (.bool false)], args := [d1, d2, d3] }
  | _ => none }
def RingForgetsWrongFalsely : Prop := ringForgetsRow.holds Try.pinned (OpenSpec.ofChange ringForgetsWrong)

/-- 'spinnakerlaw5.RingGrains': WHATEVER THE INPUT: true; the input reads as it did. -/
def ringGrainsSpec : ChangeSpec := { name := "ringGrains", fn := fun _ => fun
  | [d1, d2, d3] => { results := [.lit (.bool true)], args := [d1, d2, d3] }
  | _ => none }
def ringGrainsRow : OpenClaim := { program := "ytmgnfjiogfcieaa", sum := "740327b5bdbc3f3ce3c246ab2d12497e911ede248e74d64f0ea80c2df75e610d", func := "spinnaker/spinnakerlaw5.RingGrains", spec := "ringGrains", unfollowed := true, recurses := true, apart := false }
def RingGrainsSaid : Prop := ringGrainsRow.holds Try.pinned (OpenSpec.ofChange ringGrainsSpec)

/-- ITS FALSE NEIGHBOUR: 'it returns false'. Refute it at one input. -/
def ringGrainsWrong : ChangeSpec := { name := "ringGrains", fn := fun _ => fun
  | [d1, d2, d3] => { results := [.lit (.bool false)], args := [d1, d2, d3] }
  | _ => none }
def RingGrainsWrongFalsely : Prop := ringGrainsRow.holds Try.pinned (OpenSpec.ofChange ringGrainsWrong)

/-- 'spinnakerlaw5.RingResizes': WHATEVER THE INPUT: true; the input reads as it did. -/
def ringResizesSpec : ChangeSpec := { name := "ringResizes", fn := fun _ => fun
  | [d1, d2, d3] => { results := [.lit (.bool true)], args := [d1, d2, d3] }
  | _ => none }
def ringResizesRow : OpenClaim := { program := "ytmgnfjiogfcieaa", sum := "740327b5bdbc3f3ce3c246ab2d12497e911ede248e74d64f0ea80c2df75e610d", func := "spinnaker/spinnakerlaw5.RingResizes", spec := "ringResizes", unfollowed := true, recurses := true, apart := false }
def RingResizesSaid : Prop := ringResizesRow.holds Try.pinned (OpenSpec.ofChange ringResizesSpec)

/-- ITS FALSE NEIGHBOUR: 'it returns false'. Refute it at one input. -/
def ringResizesWrong : ChangeSpec := { name := "ringResizes", fn := fun _ => fun
  | [d1, d2, d3] => { results := [.lit (.bool false)], args := [d1, d2, d3] }
  | _ => none }
def RingResizesWrongFalsely : Prop := ringResizesRow.holds Try.pinned (OpenSpec.ofChange ringResizesWrong)

/- THE SECOND FORM. 'bulk': how many values and letters a reading holds, each counted each time it is reached (what is shared counts as often as it is met; a slice's spare places count too). A statement '..UptoSaid' is the law's where the arguments, and the package variables that the reading takes, are together of bulk at most 1048576: NARROWER than '..Said'. Prove '..Said' where nothing that the law and all that it calls make is longer than what came in: it says more and counts as full. Else prove '..UptoSaid'. A law counts once. -/
mutual
def uptoBulk {H : Type} : DataW H → Nat
  | .lit (.string bytes) => bytes.length + 1
  | .lit _ => 1
  | .nil => 1
  | .ptr d => uptoBulk d + 1
  | .slice elems spare => uptoBulkAll elems + uptoBulkAll spare + 1
  | .agg parts => uptoBulkAll parts + 1
  | .iface _ d => uptoBulk d + 1
  | .map entries => uptoBulkEntries entries + 1
  | .held _ => 1
def uptoBulkAll {H : Type} : List (DataW H) → Nat
  | [] => 0
  | d :: r => uptoBulk d + uptoBulkAll r
def uptoBulkEntries {H : Type} : List (Lit × DataW H) → Nat
  | [] => 0
  | x :: r => uptoBulkEntry x + uptoBulkEntries r
def uptoBulkEntry {H : Type} : Lit × DataW H → Nat
  | (.string bytes, d) => bytes.length + uptoBulk d + 1
  | (_, d) => uptoBulk d + 1
 end
def uptoSmall : (H : Type) → List (DataW H) → Bool := fun _ ds => decide (uptoBulkAll ds ≤ 1048576)
def OpenSpec.upto (s : _root_.Go.ChangeSpec) : _root_.Go.OpenSpec := { _root_.Go.OpenSpec.ofChange s with cond := some uptoSmall }

/-- 'spinnakerlaw5.RingLate', WHERE WHAT IT READS IS OF BULK AT MOST 1048576: true; the input reads as it did. -/
def ringLateUptoRow : OpenClaim := { program := "ytmgnfjiogfcieaa", sum := "740327b5bdbc3f3ce3c246ab2d12497e911ede248e74d64f0ea80c2df75e610d", func := "spinnaker/spinnakerlaw5.RingLate", spec := "ringLate", unfollowed := true, recurses := true, apart := false, narrowed := true }
def RingLateUptoSaid : Prop := ringLateUptoRow.holds Try.pinned (OpenSpec.upto ringLateSpec)

/-- 'spinnakerlaw5.RingPlays', WHERE WHAT IT READS IS OF BULK AT MOST 1048576: true; the input reads as it did. -/
def ringPlaysUptoRow : OpenClaim := { program := "ytmgnfjiogfcieaa", sum := "740327b5bdbc3f3ce3c246ab2d12497e911ede248e74d64f0ea80c2df75e610d", func := "spinnaker/spinnakerlaw5.RingPlays", spec := "ringPlays", unfollowed := true, recurses := true, apart := false, narrowed := true }
def RingPlaysUptoSaid : Prop := ringPlaysUptoRow.holds Try.pinned (OpenSpec.upto ringPlaysSpec)

/-- 'spinnakerlaw5.RingNear', WHERE WHAT IT READS IS OF BULK AT MOST 1048576: true; the input reads as it did. -/
def ringNearUptoRow : OpenClaim := { program := "ytmgnfjiogfcieaa", sum := "740327b5bdbc3f3ce3c246ab2d12497e911ede248e74d64f0ea80c2df75e610d", func := "spinnaker/spinnakerlaw5.RingNear", spec := "ringNear", unfollowed := true, recurses := true, apart := false, narrowed := true }
def RingNearUptoSaid : Prop := ringNearUptoRow.holds Try.pinned (OpenSpec.upto ringNearSpec)

/-- 'spinnakerlaw5.RingSteady', WHERE WHAT IT READS IS OF BULK AT MOST 1048576: true; the input reads as it did. -/
def ringSteadyUptoRow : OpenClaim := { program := "ytmgnfjiogfcieaa", sum := "740327b5bdbc3f3ce3c246ab2d12497e911ede248e74d64f0ea80c2df75e610d", func := "spinnaker/spinnakerlaw5.RingSteady", spec := "ringSteady", unfollowed := true, recurses := true, apart := false, narrowed := true }
def RingSteadyUptoSaid : Prop := ringSteadyUptoRow.holds Try.pinned (OpenSpec.upto ringSteadySpec)

/-- 'spinnakerlaw5.RingCounts', WHERE WHAT IT READS IS OF BULK AT MOST 1048576: true; the input reads as it did. -/
def ringCountsUptoRow : OpenClaim := { program := "ytmgnfjiogfcieaa", sum := "740327b5bdbc3f3ce3c246ab2d12497e911ede248e74d64f0ea80c2df75e610d", func := "spinnaker/spinnakerlaw5.RingCounts", spec := "ringCounts", unfollowed := true, recurses := true, apart := false, narrowed := true }
def RingCountsUptoSaid : Prop := ringCountsUptoRow.holds Try.pinned (OpenSpec.upto ringCountsSpec)

/-- 'spinnakerlaw5.RingForgets', WHERE WHAT IT READS IS OF BULK AT MOST 1048576: true; the input reads as it did. -/
def ringForgetsUptoRow : OpenClaim := { program := "ytmgnfjiogfcieaa", sum := "740327b5bdbc3f3ce3c246ab2d12497e911ede248e74d64f0ea80c2df75e610d", func := "spinnaker/spinnakerlaw5.RingForgets", spec := "ringForgets", unfollowed := true, recurses := true, apart := false, narrowed := true }
def RingForgetsUptoSaid : Prop := ringForgetsUptoRow.holds Try.pinned (OpenSpec.upto ringForgetsSpec)

/-- 'spinnakerlaw5.RingGrains', WHERE WHAT IT READS IS OF BULK AT MOST 1048576: true; the input reads as it did. -/
def ringGrainsUptoRow : OpenClaim := { program := "ytmgnfjiogfcieaa", sum := "740327b5bdbc3f3ce3c246ab2d12497e911ede248e74d64f0ea80c2df75e610d", func := "spinnaker/spinnakerlaw5.RingGrains", spec := "ringGrains", unfollowed := true, recurses := true, apart := false, narrowed := true }
def RingGrainsUptoSaid : Prop := ringGrainsUptoRow.holds Try.pinned (OpenSpec.upto ringGrainsSpec)

/-- 'spinnakerlaw5.RingResizes', WHERE WHAT IT READS IS OF BULK AT MOST 1048576: true; the input reads as it did. -/
def ringResizesUptoRow : OpenClaim := { program := "ytmgnfjiogfcieaa", sum := "740327b5bdbc3f3ce3c246ab2d12497e911ede248e74d64f0ea80c2df75e610d", func := "spinnaker/spinnakerlaw5.RingResizes", spec := "ringResizes", unfollowed := true, recurses := true, apart := false, narrowed := true }
def RingResizesUptoSaid : Prop := ringResizesUptoRow.holds Try.pinned (OpenSpec.upto ringResizesSpec)

end Rows
end Go.Proofs.Ytmgnfjiogfcieaa
