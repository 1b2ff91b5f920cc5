/- WantSudden answers true. -/
import Derived.Test.YtdflpflffccmgaaPlWant
import Derived.Test.YtdflpflffccmgaaSWantSudden
namespace Go.Proofs.Ytdflpflffccmgaa.AB
set_option linter.unusedVariables false
set_option linter.unusedSimpArgs false

theorem WantSudden_true (a : Int) : S.WantSudden a = true := by
  unfold S.WantSudden
  simp only [S.q_wover_eq]
  obtain ⟨r0, r1⟩ := umod_range a 1001 (by decide)
  generalize (IntKind.u64.wrap a).tmod 1001 = r at *
  rw [wrap_id (n := r) (by omega) (by omega)]
  have hm := may_def 60 (by decide) (by decide)
  have main : ∀ w : Int, 0 ≤ w → w ≤ 5000 → S.wover ⟨10000, 700, 60, 6, 1, 2000, 10000, 2000, 0, 0, 1, 30, 0, 20000, 10, 100, 60, 3, 0, 0⟩ w r = decide (2 * (if 1 > r then 1 else r) ≤ w) := by
    intro w w0 w1
    unfold S.wover
    simp only [hm, cond_true, S.wnum1, mclamp_eq]
    have e1 : clampF r 1 1000000 = if 1 > r then 1 else r := by unfold clampF; rw [if_neg (by omega)]
    have e2 : clampF w 0 1000000 = w := by unfold clampF; rw [if_neg (by omega), if_neg (by omega)]
    rw [e1, e2]
    have hx : ∃ x, x = (if 1 > r then 1 else r) := ⟨_, rfl⟩
    obtain ⟨x, hx⟩ := hx
    rw [← hx]
    have : 1 ≤ x ∧ x ≤ 1000 := by subst hx; split <;> omega
    rw [wrap_id (n := 2000 * x) (by omega) (by omega), wrap_id (n := w * 1000) (by omega) (by omega)]
    exact decide_eq_decide.mpr (by omega)
  have hx : ∃ x, x = (if 1 > r then 1 else r) := ⟨_, rfl⟩
  obtain ⟨x, hx⟩ := hx
  rw [← hx] at main ⊢
  have : 1 ≤ x ∧ x ≤ 1000 := by subst hx; split <;> omega
  rw [wrap_id (n := 2 * x) (by omega) (by omega), wrap_id (n := 2 * x - 1) (by omega) (by omega), wrap_id (n := 2 * x + 1) (by omega) (by omega)]
  rw [main _ (by omega) (by omega), main _ (by omega) (by omega), main _ (by omega) (by omega)]
  have g1 : 2 * x ≤ 2 * x := by omega
  have g2 : ¬ 2 * x ≤ 2 * x - 1 := by omega
  have g3 : 2 * x ≤ 2 * x + 1 := by omega
  simp [g1, g2, g3]

end Go.Proofs.Ytdflpflffccmgaa.AB
