/- WantSteps answers true. -/
import Derived.Test.YtdflpflffccmgaaPlWant
import Derived.Test.YtdflpflffccmgaaSWantSteps
namespace Go.Proofs.Ytdflpflffccmgaa.AB
set_option linter.unusedVariables false
set_option linter.unusedSimpArgs false

theorem WantSteps_true (c : Cf) (a b : Int) : S.WantSteps c a b = some true := by
  unfold S.WantSteps
  simp only [cf_etaW, S.q_wof_eq, S.q_rmay_eq, rmay_eq, S.q_rper_eq]
  cases hm : S.may c with
  | false => rfl
  | true =>
    obtain ⟨p0, p1⟩ := Pe_range c hm
    rw [rper_eq c hm]
    have hu : IntKind.u64.wrap (Pe c) = Pe c := by rw [IntKind.wrap_u64]; omega
    rw [hu]
    obtain ⟨k0, k1⟩ := umod_range a 1000 (by decide)
    generalize (IntKind.u64.wrap a).tmod 1000 = k at *
    obtain ⟨x0, x1⟩ := umod_range b (Pe c) (by omega)
    generalize (IntKind.u64.wrap b).tmod (Pe c) = x at *
    have b1 : k * Pe c ≤ 1000 * 1000000 := Int.mul_le_mul (by omega) p1 (by omega) (by omega)
    have b2 : 0 ≤ k * Pe c := Int.mul_nonneg k0 (by omega)
    rw [wrap_id (n := k) (by omega) (by omega), wrap_id (n := x) (by omega) (by omega), wrap_id (n := k * Pe c) (by omega) (by omega), wrap_id (n := k * Pe c + x) (by omega) (by omega), wrap_id (n := k + 1) (by omega) (by omega)]
    have hz : ¬ Pe c = 0 := by omega
    simp only [hz, wof_eq c hm, optK, Bool.not_true, cond_false, decide_false]
    have main : ∀ y : Int, 0 ≤ y → y < Pe c → Wo c (k * Pe c + y) = if 0 < y then k + 1 else k := by
      intro y y0 y1
      obtain ⟨f1, f2, f3⟩ := up_facts p0 (m := k * Pe c + y) (by omega) (by omega)
      unfold Wo
      generalize (upF (k * Pe c + y) (Pe c)).1 = u at *
      have g1 : (u - 1) * Pe c < (k + 1) * Pe c := by rw [Int.add_mul]; omega
      have g1 := Int.lt_of_mul_lt_mul_right g1 (by omega)
      by_cases hy : 0 < y
      · have g2 : k * Pe c < u * Pe c := by omega
        have g2 := Int.lt_of_mul_lt_mul_right g2 (by omega)
        rw [if_pos hy]
        unfold clampF; rw [if_neg (by omega), if_neg (by omega)]; omega
      · have hy0 : y = 0 := by omega
        subst hy0
        have g2 : k * Pe c ≤ u * Pe c := by omega
        have g2 := Int.le_of_mul_le_mul_right g2 (by omega)
        have g3 : (u - 1) * Pe c < k * Pe c := by omega
        have g3 := Int.lt_of_mul_lt_mul_right g3 (by omega)
        rw [if_neg hy]
        unfold clampF; rw [if_neg (by omega), if_neg (by omega)]; omega
    have e1 := main x x0 x1
    have e2 := main 0 (by omega) (by omega)
    rw [Int.add_zero] at e2
    rw [e1, e2]
    by_cases hx : 0 < x
    · simp [hx]
    · simp [hx]

end Go.Proofs.Ytdflpflffccmgaa.AB
