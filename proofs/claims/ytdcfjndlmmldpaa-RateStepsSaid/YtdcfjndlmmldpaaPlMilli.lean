/- Layer 1, what is used of it. -/
import Derived.Test.YtdcfjndlmmldpaaPlConf
import Derived.Test.YtdcfjndlmmldpaaSmilli
namespace Go.Proofs.Ytdcfjndlmmldpaa.AB
set_option linter.unusedVariables false
set_option linter.unusedSimpArgs false

theorem rsub_eq (a b : Int) : S.rsub a b = S.msub a b := by
  unfold S.rsub S.msub S.mend
  by_cases h : b < 0
  · have h' : ¬ 0 < b := by omega
    simp [h, h']
  · simp [h]

/-- a number brought into 64 bits -/
def sat (x : Int) : Int := if 9223372036854775807 < x then 9223372036854775807 else if x < -9223372036854775808 then -9223372036854775808 else x

theorem msub_fst (a b : Int) (a0 : -9223372036854775808 ≤ a) (a1 : a < 9223372036854775808) (b0 : -9223372036854775808 ≤ b) (b1 : b < 9223372036854775808) : (S.msub a b).1 = sat (a - b) := by
  unfold S.msub S.mend sat
  by_cases h : b < 0
  · have h' : ¬ 0 < b := by omega
    have e : IntKind.i64.wrap (9223372036854775807 + b) = 9223372036854775807 + b := wrap_id (by omega) (by omega)
    by_cases h2 : 9223372036854775807 + b < a
    · have h3 : 9223372036854775807 < a - b := by omega
      simp [h, h', e, h2, h3]
    · have h3 : ¬ 9223372036854775807 < a - b := by omega
      have h4 : ¬ a - b < -9223372036854775808 := by omega
      have e2 : IntKind.i64.wrap (a - b) = a - b := wrap_id (by omega) (by omega)
      simp [h, h', e, h2, h3, h4, e2]
  · by_cases h' : 0 < b
    · have e : IntKind.i64.wrap (-9223372036854775808 + b) = -9223372036854775808 + b := wrap_id (by omega) (by omega)
      by_cases h2 : a < -9223372036854775808 + b
      · have h3 : ¬ 9223372036854775807 < a - b := by omega
        have h4 : a - b < -9223372036854775808 := by omega
        simp [h, h', e, h2, h3, h4]
      · have h3 : ¬ 9223372036854775807 < a - b := by omega
        have h4 : ¬ a - b < -9223372036854775808 := by omega
        have e2 : IntKind.i64.wrap (a - b) = a - b := wrap_id (by omega) (by omega)
        simp [h, h', e, h2, h3, h4, e2]
    · have h3 : ¬ 9223372036854775807 < a - b := by omega
      have h4 : ¬ a - b < -9223372036854775808 := by omega
      have e2 : IntKind.i64.wrap (a - b) = a - b := wrap_id (by omega) (by omega)
      simp [h, h', h3, h4, e2]

theorem sat_range (x : Int) : -9223372036854775808 ≤ sat x ∧ sat x < 9223372036854775808 := by
  unfold sat; split
  · omega
  · split <;> omega
theorem sat_id {x : Int} (h0 : -9223372036854775808 ≤ x) (h1 : x < 9223372036854775808) : sat x = x := by
  unfold sat; rw [if_neg (by omega), if_neg (by omega)]
theorem sat_mono {x y : Int} (h : x ≤ y) : sat x ≤ sat y := by
  unfold sat; split <;> split <;> (try split) <;> (try split) <;> omega
end Go.Proofs.Ytdcfjndlmmldpaa.AB
