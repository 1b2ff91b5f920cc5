/- Quotients of layer 1, upwards and downwards. -/
import Derived.Test.YtdcfjndlmmldpaaPlA
import Derived.Test.YtdcfjndlmmldpaaSmilli
namespace Go.Proofs.Ytdcfjndlmmldpaa.AB
set_option linter.unusedVariables false
set_option linter.unusedSimpArgs false

theorem ediv_range {a b : Int} (ha : 0 ≤ a) (a1 : a < 9223372036854775808) (hb : 0 < b) : 0 ≤ a / b ∧ a / b ≤ a :=
  ⟨Int.ediv_nonneg ha (by omega), Int.ediv_le_self b ha⟩

theorem mhalf_nn {a b : Int} (ha : 0 ≤ a) (a1 : a < 9223372036854775808) (hb : 0 < b) : S.mhalf a b = some (a / b, 0) := by
  obtain ⟨h0, h1⟩ := ediv_range ha a1 hb
  unfold S.mhalf
  have e1 : ¬ b = 0 := by omega
  have e2 : ¬ a = -9223372036854775808 := by omega
  rw [Int.tdiv_eq_ediv_of_nonneg ha, wrap_id (n := a / b) (by omega) (by omega)]
  simp [e1, e2]

/-- upwards -/
def cdiv (a b : Int) : Int := if a % b = 0 then a / b else a / b + 1

theorem cdiv_1000 (a : Int) : cdiv a 1000 = (a + 999) / 1000 := by unfold cdiv; split <;> omega

theorem mup_nn {a b : Int} (ha : 0 ≤ a) (a1 : a < 9223372036854775807) (hb : 0 < b) : S.mup a b = some (cdiv a b, 0) := by
  obtain ⟨h0, h1⟩ := ediv_range ha (by omega) hb
  unfold S.mup cdiv
  rw [mhalf_nn ha (by omega) hb]
  have e1 : ¬ b = 0 := by omega
  have e2 : ¬ a < 0 := by omega
  have e3 : ¬ b < 0 := by omega
  rw [Int.tmod_eq_emod_of_nonneg ha]
  simp only [optK]
  rw [wrap_id (n := a / b + 1) (by omega) (by omega)]
  by_cases h : a % b = 0 <;> simp [e1, e2, e3, h]
end Go.Proofs.Ytdcfjndlmmldpaa.AB
