/- The law SteadyRises answers true, whatever its arguments: the row, proved. No condition. -/
import Derived.Test.YtdgipcjigbagfaaRows
import Derived.Test.YtdgipcjigbagfaaFwY
import Derived.Test.YtdgipcjigbagfaaPlSteadyRises
import Derived.WalkKit
import Derived.ProofKit
import Derived.OpenShut
import Derived.ShutString
import Derived.ChangeOld
import Derived.Below
import Derived.Carry
import Derived.SizedLaws
namespace Go.Proofs.Ytdgipcjigbagfaa.steadyRises
open Go.ChangeShapes Go.WideShapes Go.ChangeAt Go.RowKit
open Go.ChangeMaps (open_string shut_string)
open Go.Proofs.Ytdgipcjigbagfaa.AB
set_option linter.unusedVariables false
theorem fit_i64 {n : Int} (h : Cd.fit (.int .i64) n) : -9223372036854775808 ≤ n ∧ n < 9223372036854775808 := ⟨h.1, Int.lt_of_le_of_lt h.2 (by decide)⟩
theorem own : ownKnob Try.prog.godebug = none := by kernel_rfl
theorem walk (W : World) (a0 : Int) (w0 : (Lit.int .i64 a0).wf = true) : Calls Try.prog 4 #[.int .i64 a0] W fun e w' => e = .returned (.bool true) ∧ Below W.heap.size W w' := by
  have ht : S.SteadyRises 100000 a0 = some true := SteadyRises_true _
  have h := hnd_run H4_ok (args := [.int .i64 a0]) (σ := []) (v := .bool true) (σ' := []) (fun R k => (
    (by kernel_rfl : H4 R [.int .i64 a0] [] k = oK (fun v : Bool => k (.bool v) []) (S.SteadyRises 100000 a0)).trans (by rw [ht]; try rfl)))
  exact law_scalar h.2 (cargs := [.int .i64 a0]) (by simp only [VRels]; exact ⟨_, _, rfl, rfl, rfl⟩)
set_option maxRecDepth 100000 in
theorem lifted (os : Os) (started : os.Started) (H : Type) (enc : TypeId × Value → H) :
    ReturnsInHanded {} Try.checked os 4 .any (Rows.steadyRisesSpec.pre6 enc Try.prog Try.f4 Rows.steadyRisesRow.domain false) (Rows.steadyRisesSpec.post enc Try.prog Try.f4 false true false false) := by
  refine returnsInHanded_of_change_sized (C := Try.checked) own started (by kernel_rfl) Try.func4
    (ChangeSpec.witness6 (enc := enc) (C := Try.checked) false ⟨#[], #[.int .i64 0], []⟩ 8 (by kernel_rfl) (by kernel_rfl) (by kernel_rfl) (by kernel_rfl)) ?_
  intro W base args ds gs before hval0 hW hcnd hsz0 _
  have hsz : (DataW.weightsEach Try.prog (Try.f4.params.toList ++ Rows.steadyRisesSpec.plain.varTypes Try.prog) (ds ++ gs)).all (· ≤ reachBytes) = true := hsz0
  have hval : ∀ (j : Nat) t v, Try.f4.params[j]? = some t → args[j]? = some v → Value.okWide Try.prog W .any base t v := hval0
  have hW' := hW
  obtain ⟨p, q, hA0, hV, rfl, hfz, hnd⟩ := hW
  have hA : DataW.TrodAll enc Try.prog W 0 (fun _ => true) true Try.f4.params.toList args.toList ds p := hA0
  rw [Try.params4] at hA hval hsz
  obtain ⟨v0, vs0, d0, ds0, p0, q0, hargs, rfl, rfl, h0, r0⟩ := trodAll_cons hA
  obtain ⟨rfl, rfl, rfl⟩ := trodAll_nil r0
  obtain rfl : args = #[v0] := by cases args; simp_all
  obtain ⟨rfl, rfl⟩ := trodVars_none hV
  obtain ⟨a0, rfl, rfl, rfl, w0⟩ := open_int Try.underlying2 (hval 0 2 v0 rfl rfl) h0
  clear hA0 hval0 hsz0 hsz
  refine (walk W a0 w0).mono fun e W' ⟨he, bel⟩ => ?_
  subst he
  exact ⟨_, rfl, _, _, _, [], _, [], hW', trodAll_mk1 (shut_bool Try.underlying4 _), (trodAll_cons_mk (shut_int Try.underlying2 w0) trodAll_mk0), rfl, bel.frame _, fun h => by cases h⟩
theorem over : Rows.steadyRisesRow.holds Try.pinned (OpenSpec.ofChange Rows.steadyRisesSpec) :=
  OpenClaim.holds_of_wide 4 Try.f4 rfl rfl rfl rfl rfl rfl rfl ⟨rfl, rfl, rfl, rfl, rfl⟩ rfl rfl rfl rfl rfl (by kernel_rfl) Try.func4 (by kernel_rfl)
    (of_decide_eq_true (by kernel_rfl)) (by unfold Func.isWrapper; first | (rw [if_pos (by decide +kernel)]; kernel_rfl) | (rw [if_neg (by decide +kernel)]; exact ⟨rfl, rfl⟩))
    (fun os started H enc _ => lifted os started H enc)
end Go.Proofs.Ytdgipcjigbagfaa.steadyRises
namespace Go.Proofs.Ytdgipcjigbagfaa
/-- The row, under a short name, for the claim. -/
theorem steadyRises_holds : Rows.SteadyRisesSaid := steadyRises.over
end Go.Proofs.Ytdgipcjigbagfaa
