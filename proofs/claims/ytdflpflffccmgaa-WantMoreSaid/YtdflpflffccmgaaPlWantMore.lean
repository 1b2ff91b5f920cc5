/- WantMore answers true. -/
import Derived.Test.YtdflpflffccmgaaPlWant
import Derived.Test.YtdflpflffccmgaaSWantMore
namespace Go.Proofs.Ytdflpflffccmgaa.AB
set_option linter.unusedVariables false
set_option linter.unusedSimpArgs false

theorem WantMore_true (c : Cf) (a b w r x : Int) (a0 : -9223372036854775808 ≤ a) (a1 : a < 9223372036854775808) (b0 : -9223372036854775808 ≤ b) (b1 : b < 9223372036854775808) : S.WantMore c a b w r x = some true := by
  unfold S.WantMore
  simp only [cf_etaW, S.q_wof_eq, S.q_wover_eq]
  obtain ⟨n0, n1⟩ := umod_range r 1000 (by decide)
  generalize (IntKind.u64.wrap r).tmod 1000 = n at *
  obtain ⟨k0, k1⟩ := umod_range x 1000 (by decide)
  generalize (IntKind.u64.wrap x).tmod 1000 = k at *
  rw [wrap_id (n := n) (by omega) (by omega), wrap_id (n := k) (by omega) (by omega), wrap_id (n := n + k) (by omega) (by omega)]
  have hov := WantMore_true_over c w n k n0 n1 k0 k1
  have fin : (bif !S.wover c w (n + k) then some true else some (S.wover c w n)) = some true := by
    cases h : S.wover c w (n + k) with
    | false => rfl
    | true => simp [hov h]
  have main : ∀ y z : Int, -9223372036854775808 ≤ y → y ≤ z → z < 9223372036854775808 → ∃ p q, S.wof c y = some p ∧ S.wof c z = some q ∧ p ≤ q := by
    intro y z h1 h2 h3
    cases hm : S.may c with
    | false => exact ⟨0, 0, by simp [S.wof, cf_etaW, hm], by simp [S.wof, cf_etaW, hm], by omega⟩
    | true => exact ⟨_, _, wof_eq c hm y, wof_eq c hm z, Wo_mono c hm h1 h2 h3⟩
  by_cases h : b < a
  · obtain ⟨p, q, e1, e2, e3⟩ := main b a b0 (by omega) a1
    simp only [h, decide_true, cond_true, e1, e2, optK, e3, fin]
  · obtain ⟨p, q, e1, e2, e3⟩ := main a b a0 (by omega) b1
    simp only [h, decide_true, decide_false, cond_true, cond_false, e1, e2, optK, e3, fin]

end Go.Proofs.Ytdflpflffccmgaa.AB
