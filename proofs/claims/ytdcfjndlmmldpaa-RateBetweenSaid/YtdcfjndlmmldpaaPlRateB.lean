/- RateBetween answers true. -/
import Derived.Test.YtdcfjndlmmldpaaPlRate
import Derived.Test.YtdcfjndlmmldpaaSRateBetween
namespace Go.Proofs.Ytdcfjndlmmldpaa.AB
set_option linter.unusedVariables false
set_option linter.unusedSimpArgs false

theorem RateBetween_true (c : Cf) (w r : Int) : S.RateBetween c w r = some true := by
  unfold S.RateBetween
  simp only [cf_etaR, S.q_most_eq, S.q_least_eq, S.q_limit_eq, S.q_rmay_eq, rmay_eq]
  cases hm : S.may c with
  | false => rfl
  | true =>
    obtain ⟨a0, a1⟩ := umod_range w 10000 (by decide)
    generalize (IntKind.u64.wrap w).tmod 10000 = a at *
    obtain ⟨b0, b1⟩ := umod_range r 10000 (by decide)
    generalize (IntKind.u64.wrap r).tmod 10000 = b at *
    rw [wrap_id (n := a) (by omega) (by omega), wrap_id (n := b) (by omega) (by omega)]
    simp only [most_eq c hm, least_eq c hm, limit_eq c hm, optK, Bool.not_true, cond_false]
    obtain ⟨m0, m1⟩ := Mo_gt c hm b b0 (by omega)
    obtain ⟨l0, l1, l2⟩ := Le_lt c hm b b0 (by omega)
    unfold Li
    generalize Mo c b = m at *
    generalize Le c b = l at *
    have e1 : l ≤ b := l1
    have e2 : b < m := m0
    generalize hx : (if m < if l > a then l else a then m else if l > a then l else a) = x
    have hx1 : l ≤ x := by subst hx; repeat' split
                           all_goals omega
    have hx2 : x ≤ m := by subst hx; repeat' split
                           all_goals omega
    have hx3 : a < l ∨ m < a ∨ x = a := by subst hx; repeat' split
                                           all_goals omega
    have e3 : b = 0 ∨ l < b := l2
    have e4 : ¬ a < l → ¬ m < a → x = a := fun g1 g2 => by omega
    rcases e3 with hb | hb
    · by_cases g1 : a < l <;> by_cases g2 : m < a <;> simp [e1, e2, hb, hx1, hx2, g1, g2]
      all_goals first | (subst hb; simp [e1, e2]; done) | (subst hb; simp [e1, e2]; exact e4 g1 g2)
    · have hb0 : ¬ b = 0 := by omega
      by_cases g1 : a < l <;> by_cases g2 : m < a <;> simp [e1, e2, hb, hb0, hx1, hx2, g1, g2]
      exact e4 g1 g2
end Go.Proofs.Ytdcfjndlmmldpaa.AB
