/- The law SteadyFalls answers true, whatever its arguments: the row, proved. No condition. -/
import Derived.Test.YtdgipcjigbagfaaRows
import Derived.Test.YtdgipcjigbagfaaFwY
import Derived.Test.YtdgipcjigbagfaaPlSteadyFalls
import Derived.WalkKit
import Derived.ProofKit
import Derived.OpenShut
import Derived.ShutString
import Derived.ChangeOld
import Derived.Below
import Derived.Carry
import Derived.SizedLaws
namespace Go.Proofs.Ytdgipcjigbagfaa.steadyFalls
open Go.ChangeShapes Go.WideShapes Go.ChangeAt Go.RowKit
open Go.ChangeMaps (open_string shut_string)
open Go.Proofs.Ytdgipcjigbagfaa.AB
set_option linter.unusedVariables false
theorem fit_i64 {n : Int} (h : Cd.fit (.int .i64) n) : -9223372036854775808 ≤ n ∧ n < 9223372036854775808 := ⟨h.1, Int.lt_of_le_of_lt h.2 (by decide)⟩
theorem own : ownKnob Try.prog.godebug = none := by kernel_rfl
theorem walk (W : World) (a0 : Int) (w0 : (Lit.int .i64 a0).wf = true) (a1 : Int) (w1 : (Lit.int .i64 a1).wf = true) : Calls Try.prog 6 #[.int .i64 a0, .int .i64 a1] W fun e w' => e = .returned (.bool true) ∧ Below W.heap.size W w' := by
  have ht : S.SteadyFalls 100000 a0 a1 = some true := SteadyFalls_true _ _
  have h := hnd_run H6_ok (args := [.int .i64 a0, .int .i64 a1]) (σ := []) (v := .bool true) (σ' := []) (fun R k => (
    (by kernel_rfl : H6 R [.int .i64 a0, .int .i64 a1] [] k = oK (fun v : Bool => k (.bool v) []) (S.SteadyFalls 100000 a0 a1)).trans (by rw [ht]; try rfl)))
  exact law_scalar h.2 (cargs := [.int .i64 a0, .int .i64 a1]) (by simp only [VRels]; exact ⟨_, _, rfl, rfl, ⟨_, _, rfl, rfl, rfl⟩⟩)
set_option maxRecDepth 100000 in
theorem lifted (os : Os) (started : os.Started) (H : Type) (enc : TypeId × Value → H) :
    ReturnsInHanded {} Try.checked os 6 .any (Rows.steadyFallsSpec.pre6 enc Try.prog Try.f6 Rows.steadyFallsRow.domain false) (Rows.steadyFallsSpec.post enc Try.prog Try.f6 false true false false) := by
  refine returnsInHanded_of_change_sized (C := Try.checked) own started (by kernel_rfl) Try.func6
    (ChangeSpec.witness6 (enc := enc) (C := Try.checked) false ⟨#[], #[.int .i64 0, .int .i64 0], []⟩ 8 (by kernel_rfl) (by kernel_rfl) (by kernel_rfl) (by kernel_rfl)) ?_
  intro W base args ds gs before hval0 hW hcnd hsz0 _
  have hsz : (DataW.weightsEach Try.prog (Try.f6.params.toList ++ Rows.steadyFallsSpec.plain.varTypes Try.prog) (ds ++ gs)).all (· ≤ reachBytes) = true := hsz0
  have hval : ∀ (j : Nat) t v, Try.f6.params[j]? = some t → args[j]? = some v → Value.okWide Try.prog W .any base t v := hval0
  have hW' := hW
  obtain ⟨p, q, hA0, hV, rfl, hfz, hnd⟩ := hW
  have hA : DataW.TrodAll enc Try.prog W 0 (fun _ => true) true Try.f6.params.toList args.toList ds p := hA0
  rw [Try.params6] at hA hval hsz
  obtain ⟨v0, vs0, d0, ds0, p0, q0, hargs, rfl, rfl, h0, r0⟩ := trodAll_cons hA
  obtain ⟨v1, vs1, d1, ds1, p1, q1, rfl, rfl, rfl, h1, r1⟩ := trodAll_cons r0
  obtain ⟨rfl, rfl, rfl⟩ := trodAll_nil r1
  obtain rfl : args = #[v0, v1] := by cases args; simp_all
  obtain ⟨rfl, rfl⟩ := trodVars_none hV
  obtain ⟨a0, rfl, rfl, rfl, w0⟩ := open_int Try.underlying2 (hval 0 2 v0 rfl rfl) h0
  obtain ⟨a1, rfl, rfl, rfl, w1⟩ := open_int Try.underlying3 (hval 1 3 v1 rfl rfl) h1
  clear hA0 hval0 hsz0 hsz
  refine (walk W a0 w0 a1 w1).mono fun e W' ⟨he, bel⟩ => ?_
  subst he
  exact ⟨_, rfl, _, _, _, [], _, [], hW', trodAll_mk1 (shut_bool Try.underlying4 _), (trodAll_cons_mk (shut_int Try.underlying2 w0) (trodAll_cons_mk (shut_int Try.underlying3 w1) trodAll_mk0)), rfl, bel.frame _, fun h => by cases h⟩
theorem over : Rows.steadyFallsRow.holds Try.pinned (OpenSpec.ofChange Rows.steadyFallsSpec) :=
  OpenClaim.holds_of_wide 6 Try.f6 rfl rfl rfl rfl rfl rfl rfl ⟨rfl, rfl, rfl, rfl, rfl⟩ rfl rfl rfl rfl rfl (by kernel_rfl) Try.func6 (by kernel_rfl)
    (of_decide_eq_true (by kernel_rfl)) (by unfold Func.isWrapper; first | (rw [if_pos (by decide +kernel)]; kernel_rfl) | (rw [if_neg (by decide +kernel)]; exact ⟨rfl, rfl⟩))
    (fun os started H enc _ => lifted os started H enc)
end Go.Proofs.Ytdgipcjigbagfaa.steadyFalls
namespace Go.Proofs.Ytdgipcjigbagfaa
/-- The row, under a short name, for the claim. -/
theorem steadyFalls_holds : Rows.SteadyFallsSaid := steadyFalls.over
end Go.Proofs.Ytdgipcjigbagfaa
