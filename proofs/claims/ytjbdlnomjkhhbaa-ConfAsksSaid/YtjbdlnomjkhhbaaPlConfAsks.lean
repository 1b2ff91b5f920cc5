/- ConfAsks answers true. -/
import Derived.Test.YtjbdlnomjkhhbaaPlChain
import Derived.Test.YtjbdlnomjkhhbaaPlRmul
import Derived.Test.YtjbdlnomjkhhbaaSConfAsks
namespace Go.Proofs.Ytjbdlnomjkhhbaa.AB
set_option linter.unusedVariables false
set_option linter.unusedSimpArgs false

theorem cf_etaC (c : Cf) : Cf.mk c.target c.util c.stable c.panic c.grain c.threshold c.up c.down c.min c.max c.initial c.grace c.delay c.burst c.limit c.queue c.timeout c.ready c.subset c.sample = c := rfl

theorem per_all (c : Cf) (t0 : -9223372036854775808 ≤ c.target) (t1 : c.target < 9223372036854775808) (u0 : -9223372036854775808 ≤ c.util) (u1 : c.util < 9223372036854775808) :
    S.per c = some (if 1 > (mulS c.target c.util).1 then 1 else (mulS c.target c.util).1) := by
  unfold S.per
  rw [mmul_eq t0 t1 u0 u1]
  rfl
theorem mulS_in' {a b : Int} (h0 : -9223372036854775808 ≤ a * b / 1000) (h1 : a * b / 1000 ≤ 9223372036854775807) : mulS a b = (a * b / 1000, 0) := by
  unfold mulS; rw [if_neg (by omega), if_neg (by omega)]
theorem tu_bound {t u : Int} (t0 : 10 ≤ t) (t1 : t ≤ 1000000) (u0 : 100 ≤ u) (u1 : u ≤ 1000) : 1000 ≤ t * u ∧ t * u ≤ t * 1000 := by
  have a1 := Int.mul_le_mul t0 u0 (by decide) (by omega)
  have a2 := Int.mul_le_mul_of_nonneg_left u1 (by omega : 0 ≤ t)
  omega

theorem ConfAsks_true (c : Cf) (t0 : -9223372036854775808 ≤ c.target) (t1 : c.target < 9223372036854775808) (u0 : -9223372036854775808 ≤ c.util) (u1 : c.util < 9223372036854775808) : S.ConfAsks c = some true := by
  unfold S.ConfAsks
  have e : S.cmost c = S.rcmost c := rfl
  have e2 : S.rper c = (if 1 > (mulS c.target c.util).1 then 1 else (mulS c.target c.util).1) := by
    unfold S.rper; rw [rmul_eq t0 t1 u0 u1]
  simp only [cf_etaC, S.q_wrong_eq, S.q_rwrong_eq, S.q_may_eq, S.q_rmay_eq, S.q_per_eq, S.q_rper_eq, rmay_eq, rwrong_eq, per_all c t0 t1 u0 u1, optK, e, e2]
  simp

end Go.Proofs.Ytjbdlnomjkhhbaa.AB
