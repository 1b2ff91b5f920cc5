/- ConfBounds answers true. -/
import Derived.Test.YtjbdlnomjkhhbaaPlChain
import Derived.Test.YtjbdlnomjkhhbaaPlRmul
import Derived.Test.YtjbdlnomjkhhbaaSConfBounds
namespace Go.Proofs.Ytjbdlnomjkhhbaa.AB
set_option linter.unusedVariables false
set_option linter.unusedSimpArgs false

theorem cf_etaC (c : Cf) : Cf.mk c.target c.util c.stable c.panic c.grain c.threshold c.up c.down c.min c.max c.initial c.grace c.delay c.burst c.limit c.queue c.timeout c.ready c.subset c.sample = c := rfl

theorem per_all (c : Cf) (t0 : -9223372036854775808 ≤ c.target) (t1 : c.target < 9223372036854775808) (u0 : -9223372036854775808 ≤ c.util) (u1 : c.util < 9223372036854775808) :
    S.per c = some (if 1 > (mulS c.target c.util).1 then 1 else (mulS c.target c.util).1) := by
  unfold S.per
  rw [mmul_eq t0 t1 u0 u1]
  rfl
theorem mulS_in' {a b : Int} (h0 : -9223372036854775808 ≤ a * b / 1000) (h1 : a * b / 1000 ≤ 9223372036854775807) : mulS a b = (a * b / 1000, 0) := by
  unfold mulS; rw [if_neg (by omega), if_neg (by omega)]
theorem tu_bound {t u : Int} (t0 : 10 ≤ t) (t1 : t ≤ 1000000) (u0 : 100 ≤ u) (u1 : u ≤ 1000) : 1000 ≤ t * u ∧ t * u ≤ t * 1000 := by
  have a1 := Int.mul_le_mul t0 u0 (by decide) (by omega)
  have a2 := Int.mul_le_mul_of_nonneg_left u1 (by omega : 0 ≤ t)
  omega

theorem ConfBounds_true (c : Cf) : S.ConfBounds c = some true := by
  unfold S.ConfBounds
  simp only [cf_etaC, S.q_may_eq, S.q_per_eq]
  cases hm : S.may c with
  | false => rfl
  | true =>
    have hc := (may_iff c).mp hm
    have ht := hc.target
    have hu := hc.util
    obtain ⟨b0, b1⟩ := tu_bound ht.1 ht.2 hu.1 hu.2
    rw [per_all c (by omega) (by omega) (by omega) (by omega), mulS_in' (by omega) (by omega)]
    simp only [optK, Bool.not_true, cond_false]
    generalize c.target * c.util = p at *
    have hp : (if 1 > p / 1000 then 1 else p / 1000) = p / 1000 := by rw [if_neg (by omega)]
    rw [hp, wrap_id (n := p / 1000 * 1000) (by omega) (by omega), wrap_id (n := p) (by omega) (by omega), wrap_id (n := p + 999) (by omega) (by omega)]
    have hx := hc.max
    have hn := hc.min
    have hi := hc.initial
    have hM : S.cmost c = if c.max = 0 then 100 else c.max := by unfold S.cmost; by_cases h : c.max = 0 <;> simp [h]
    rw [← hM] at hi
    have hM2 : c.min ≤ S.cmost c ∧ 1 ≤ S.cmost c ∧ S.cmost c ≤ 100 := by rw [hM]; split <;> omega
    have g1 : 1 ≤ p / 1000 := by omega
    have g2 : p / 1000 ≤ c.target := by omega
    have g3 : p / 1000 * 1000 ≤ p + 999 := by omega
    simp [hM2, hi, g1, g2, g3, hc.grain, hc.panic]

end Go.Proofs.Ytjbdlnomjkhhbaa.AB
