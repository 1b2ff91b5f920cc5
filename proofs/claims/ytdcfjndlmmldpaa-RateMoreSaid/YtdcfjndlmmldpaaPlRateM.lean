/- RateMore answers true. -/
import Derived.Test.YtdcfjndlmmldpaaPlRate
import Derived.Test.YtdcfjndlmmldpaaSRateMore
namespace Go.Proofs.Ytdcfjndlmmldpaa.AB
set_option linter.unusedVariables false
set_option linter.unusedSimpArgs false

theorem Li_mono (c : Cf) (hm : S.may c = true) (p q r s : Int) (h0 : 0 ≤ r) (h : r ≤ s) (h1 : s ≤ 1000000) (hpq : p ≤ q) : Li c p r ≤ Li c q s := by
  have := Mo_mono c hm r s h0 h h1
  have := Le_mono c hm r s h0 h h1
  unfold Li
  generalize Mo c r = m at *
  generalize Mo c s = n at *
  generalize Le c r = k at *
  generalize Le c s = l at *
  repeat' split
  all_goals omega

theorem RateMore_true (c : Cf) (a b w v : Int) : S.RateMore c a b w v = some true := by
  unfold S.RateMore
  simp only [cf_etaR, S.q_most_eq, S.q_least_eq, S.q_limit_eq, S.q_rmay_eq, rmay_eq]
  cases hm : S.may c with
  | false => rfl
  | true =>
    obtain ⟨a0, a1⟩ := umod_range a 10000 (by decide)
    generalize (IntKind.u64.wrap a).tmod 10000 = a at *
    obtain ⟨b0, b1⟩ := umod_range b 10000 (by decide)
    generalize (IntKind.u64.wrap b).tmod 10000 = b at *
    obtain ⟨w0, w1⟩ := umod_range w 10000 (by decide)
    generalize (IntKind.u64.wrap w).tmod 10000 = w at *
    obtain ⟨v0, v1⟩ := umod_range v 10000 (by decide)
    generalize (IntKind.u64.wrap v).tmod 10000 = v at *
    rw [wrap_id (n := a) (by omega) (by omega), wrap_id (n := b) (by omega) (by omega), wrap_id (n := w) (by omega) (by omega), wrap_id (n := v) (by omega) (by omega)]
    simp only [most_eq c hm, least_eq c hm, limit_eq c hm, optK, Bool.not_true, cond_false]
    have fin : ∀ (x y p q : Int), 0 ≤ x → x ≤ y → y ≤ 10000 → p ≤ q →
        (bif decide (Le c x ≤ Le c y) then (bif decide (Mo c x ≤ Mo c y) then (bif decide (Li c p x ≤ Li c q x) then some (decide (Li c p x ≤ Li c p y)) else some false) else some false) else some false) = some true := by
      intro x y p q h1 h2 h3 h4
      have e1 := Le_mono c hm x y h1 h2 (by omega)
      have e2 := Mo_mono c hm x y h1 h2 (by omega)
      have e3 := Li_mono c hm p q x x h1 (by omega) (by omega) h4
      have e4 := Li_mono c hm p p x y h1 h2 (by omega) (by omega)
      simp [e1, e2, e3, e4]
    by_cases h1 : b < a <;> by_cases h2 : v < w <;> simp only [h1, h2, decide_true, decide_false, cond_true, cond_false] <;> apply fin <;> omega
end Go.Proofs.Ytdcfjndlmmldpaa.AB
