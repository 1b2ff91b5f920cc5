/- WantFits answers true. -/
import Derived.Test.YtdflpflffccmgaaPlWant
import Derived.Test.YtdflpflffccmgaaSWantFits
namespace Go.Proofs.Ytdflpflffccmgaa.AB
set_option linter.unusedVariables false
set_option linter.unusedSimpArgs false

theorem WantFits_true (c : Cf) (m : Int) : S.WantFits c m = some true := by
  unfold S.WantFits
  simp only [cf_etaW, S.q_wof_eq, S.q_rmay_eq, rmay_eq]
  cases hm : S.may c with
  | false => rfl
  | true =>
    obtain ⟨v0, v1⟩ := umod_range m 1000000000 (by decide)
    generalize (IntKind.u64.wrap m).tmod 1000000000 = v at *
    have ht := tu_range c hm
    obtain ⟨p0, p1⟩ := Pe_range c hm
    have hP : (if 1 > IntKind.i64.wrap (Int.tdiv (IntKind.i64.wrap (c.target * c.util)) 1000) then 1 else IntKind.i64.wrap (Int.tdiv (IntKind.i64.wrap (c.target * c.util)) 1000)) = Pe c := by
      rw [wrap_id (n := c.target * c.util) (by omega) (by omega), Int.tdiv_eq_ediv_of_nonneg (by omega), wrap_id (n := c.target * c.util / 1000) (by omega) (by omega)]
      rfl
    rw [wrap_id (n := v) (by omega) (by omega), hP]
    simp only [wof_eq c hm, optK, Bool.not_true, cond_false]
    obtain ⟨f1, f2, f3⟩ := up_facts p0 (m := v) (by omega) v0
    unfold Wo
    generalize Pe c = P at *
    generalize (upF v P).1 = u at *
    obtain ⟨n0, n1⟩ := clampF_range u 0 1000000 (by omega)
    have hn : clampF u 0 1000000 = if 1000000 < u then 1000000 else u := by unfold clampF; split; rfl; rw [if_neg (by omega)]
    generalize clampF u 0 1000000 = n at *
    have b1 : n * P ≤ 1000000 * 1000000 := Int.mul_le_mul n1 p1 (by omega) (by omega)
    have b2 : 0 ≤ n * P := Int.mul_nonneg n0 (by omega)
    have b3 : (n - 1) * P = n * P - P := by rw [Int.sub_mul]; omega
    have b4 : (u - 1) * P = u * P - P := by rw [Int.sub_mul]; omega
    rw [wrap_id (n := n - 1) (by omega) (by omega), wrap_id (n := (n - 1) * P) (by omega) (by omega), wrap_id (n := n * P) (by omega) (by omega)]
    by_cases hu : 1000000 < u
    · rw [if_pos hu] at hn
      have b5 : n * P ≤ u * P := Int.mul_le_mul_of_nonneg_right (by omega) (by omega)
      have g : (n - 1) * P < v := by omega
      rw [hn] at g ⊢
      simp only [decide_true, cond_true, g]
    · rw [if_neg hu] at hn
      subst hn
      have g : (n - 1) * P < v := by omega
      by_cases h1 : n = 1000000
      · simp only [h1, decide_true, cond_true]
        rw [h1] at g
        simp only [g, decide_true]
      · by_cases h2 : n = 0
        · have f4 : v ≤ 0 := by rw [h2] at f2; simpa using f2
          simp [h2, f4]
        · simp [h1, f2, h2, g]

end Go.Proofs.Ytdflpflffccmgaa.AB
