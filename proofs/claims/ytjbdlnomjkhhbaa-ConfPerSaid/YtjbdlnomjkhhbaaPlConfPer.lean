/- ConfPer answers true. -/
import Derived.Test.YtjbdlnomjkhhbaaPlChain
import Derived.Test.YtjbdlnomjkhhbaaPlRmul
import Derived.Test.YtjbdlnomjkhhbaaSConfPer
namespace Go.Proofs.Ytjbdlnomjkhhbaa.AB
set_option linter.unusedVariables false
set_option linter.unusedSimpArgs false

theorem cf_etaC (c : Cf) : Cf.mk c.target c.util c.stable c.panic c.grain c.threshold c.up c.down c.min c.max c.initial c.grace c.delay c.burst c.limit c.queue c.timeout c.ready c.subset c.sample = c := rfl

theorem per_all (c : Cf) (t0 : -9223372036854775808 ≤ c.target) (t1 : c.target < 9223372036854775808) (u0 : -9223372036854775808 ≤ c.util) (u1 : c.util < 9223372036854775808) :
    S.per c = some (if 1 > (mulS c.target c.util).1 then 1 else (mulS c.target c.util).1) := by
  unfold S.per
  rw [mmul_eq t0 t1 u0 u1]
  rfl
theorem mulS_in' {a b : Int} (h0 : -9223372036854775808 ≤ a * b / 1000) (h1 : a * b / 1000 ≤ 9223372036854775807) : mulS a b = (a * b / 1000, 0) := by
  unfold mulS; rw [if_neg (by omega), if_neg (by omega)]
theorem tu_bound {t u : Int} (t0 : 10 ≤ t) (t1 : t ≤ 1000000) (u0 : 100 ≤ u) (u1 : u ≤ 1000) : 1000 ≤ t * u ∧ t * u ≤ t * 1000 := by
  have a1 := Int.mul_le_mul t0 u0 (by decide) (by omega)
  have a2 := Int.mul_le_mul_of_nonneg_left u1 (by omega : 0 ≤ t)
  omega

theorem may_tu (t u : Int) (t0 : 10 ≤ t) (t1 : t ≤ 1000000) (u0 : 100 ≤ u) (u1 : u ≤ 1000) : S.may ⟨t, u, 60, 6, 1, 2000, 10000, 2000, 0, 0, 1, 30, 0, 20000, 10, 100, 60, 3, 0, 0⟩ = true := by
  simp [S.may, S.wrong, within_eq, within1_eq, t0, t1, u0, u1, bs]
theorem ConfPer_true (a b x y : Int) : S.ConfPer a b x y = some true := by
  unfold S.ConfPer
  simp only [S.q_may_eq, S.q_per_eq]
  obtain ⟨a0, a1⟩ := umod_range a 999991 (by decide)
  generalize (IntKind.u64.wrap a).tmod 999991 = a at *
  obtain ⟨b0, b1⟩ := umod_range b 999991 (by decide)
  generalize (IntKind.u64.wrap b).tmod 999991 = b at *
  obtain ⟨x0, x1⟩ := umod_range x 901 (by decide)
  generalize (IntKind.u64.wrap x).tmod 901 = x at *
  obtain ⟨y0, y1⟩ := umod_range y 901 (by decide)
  generalize (IntKind.u64.wrap y).tmod 901 = y at *
  rw [wrap_id (n := a) (by omega) (by omega), wrap_id (n := b) (by omega) (by omega), wrap_id (n := x) (by omega) (by omega), wrap_id (n := y) (by omega) (by omega), wrap_id (n := 10 + a) (by omega) (by omega), wrap_id (n := 10 + b) (by omega) (by omega), wrap_id (n := 100 + x) (by omega) (by omega), wrap_id (n := 100 + y) (by omega) (by omega)]
  have hp : ∀ t u : Int, 10 ≤ t → t ≤ 1000000 → 100 ≤ u → u ≤ 1000 → S.per ⟨t, u, 60, 6, 1, 2000, 10000, 2000, 0, 0, 1, 30, 0, 20000, 10, 100, 60, 3, 0, 0⟩ = some (t * u / 1000) := by
    intro t u h1 h2 h3 h4
    obtain ⟨c0, c1⟩ := tu_bound h1 h2 h3 h4
    rw [per_all _ (by simp only; omega) (by simp only; omega) (by simp only; omega) (by simp only; omega), mulS_in' (by simp only; omega) (by simp only; omega)]
    simp only
    rw [if_neg (by omega)]
  have hz : S.per ⟨0, 0, 0, 0, 0, 0, 0, 0, 0, 0, 0, 0, 0, 0, 0, 0, 0, 0, 0, 0⟩ = some 1 := by
    rw [per_all _ (by decide) (by decide) (by decide) (by decide)]; rfl
  rw [may_tu (10 + a) (100 + x) (by omega) (by omega) (by omega) (by omega), may_tu (10 + b) (100 + y) (by omega) (by omega) (by omega) (by omega)]
  simp only [Bool.not_true, cond_false]
  have fin : ∀ s t u v : Int, 10 ≤ s → s ≤ t → t ≤ 1000000 → 100 ≤ u → u ≤ v → v ≤ 1000 →
      (optK (S.per ⟨s, u, 60, 6, 1, 2000, 10000, 2000, 0, 0, 1, 30, 0, 20000, 10, 100, 60, 3, 0, 0⟩) fun o6 => (optK (S.per ⟨t, v, 60, 6, 1, 2000, 10000, 2000, 0, 0, 1, 30, 0, 20000, 10, 100, 60, 3, 0, 0⟩) fun o7 =>
        bif decide (o6 ≤ o7) then (optK (S.per ⟨s, 1000, 60, 6, 1, 2000, 10000, 2000, 0, 0, 1, 30, 0, 20000, 10, 100, 60, 3, 0, 0⟩) fun o9 => bif decide (o9 = s) then (optK (S.per ⟨0, 0, 0, 0, 0, 0, 0, 0, 0, 0, 0, 0, 0, 0, 0, 0, 0, 0, 0, 0⟩) fun o11 => some (decide (o11 = 1))) else some false) else some false)) = some true := by
    intro s t u v h1 h2 h3 h4 h5 h6
    have hm : s * u ≤ t * v := Int.mul_le_mul h2 h5 (by omega) (by omega)
    rw [hp s u h1 (by omega) h4 (by omega), hp t v (by omega) h3 (by omega) h6, hp s 1000 h1 (by omega) (by decide) (by decide), hz]
    have g1 : s * u / 1000 ≤ t * v / 1000 := by omega
    have g2 : s * 1000 / 1000 = s := by omega
    simp only [optK, g1, g2, decide_true, cond_true]
  by_cases h1 : 10 + b < 10 + a <;> by_cases h2 : 100 + y < 100 + x <;> simp only [h1, h2, decide_true, decide_false, cond_true, cond_false] <;> apply fin <;> omega

end Go.Proofs.Ytjbdlnomjkhhbaa.AB
