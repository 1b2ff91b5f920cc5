/- Products of layer 1: whole. -/
import Derived.Test.YtjbdlnomjkhhbaaPlMul
import Derived.Test.YtjbdlnomjkhhbaaSmilli
namespace Go.Proofs.Ytjbdlnomjkhhbaa.AB
set_option linter.unusedVariables false
set_option linter.unusedSimpArgs false

/-- a product of thousandths, cut at the ends -/
def mulS (a b : Int) : Int × Int :=
  if 9223372036854775807 < a * b / 1000 then (9223372036854775807, 2) else if a * b / 1000 < -9223372036854775808 then (-9223372036854775808, 2) else (a * b / 1000, 0)

def mag (a : Int) : Int := if a < 0 then -a else a
theorem mag_range {a : Int} (a0 : -9223372036854775808 ≤ a) (a1 : a < 9223372036854775808) : 0 ≤ mag a ∧ mag a ≤ 9223372036854775808 := by
  unfold mag; split <;> omega

theorem far_eq {a : Int} (a0 : -9223372036854775808 ≤ a) (a1 : a < 9223372036854775808) : S.far a = mag a := by
  unfold S.far mag
  by_cases h : a < 0
  · simp only [h, decide_true, cond_true, if_true, IntKind.wrap_u64]; omega
  · simp only [h, decide_false, cond_false, if_false, IntKind.wrap_u64]; omega

theorem mag_mul (a b : Int) : ((decide (a < 0) == decide (b < 0)) = true ∧ a * b = mag a * mag b) ∨ ((decide (a < 0) == decide (b < 0)) = false ∧ a * b = -(mag a * mag b)) := by
  unfold mag
  by_cases h : a < 0 <;> by_cases k : b < 0 <;> simp [h, k, Int.neg_mul, Int.mul_neg]

theorem mag_mul_range {a b : Int} (a0 : -9223372036854775808 ≤ a) (a1 : a < 9223372036854775808) (b0 : -9223372036854775808 ≤ b) (b1 : b < 9223372036854775808) :
    0 ≤ mag a * mag b ∧ mag a * mag b ≤ 85070591730234615865843651857942052864 := by
  obtain ⟨x0, x1⟩ := mag_range a0 a1
  obtain ⟨y0, y1⟩ := mag_range b0 b1
  refine ⟨Int.mul_nonneg x0 y0, ?_⟩
  have := Int.mul_le_mul x1 y1 y0 (by omega)
  omega

theorem mmul_eq {a b : Int} (a0 : -9223372036854775808 ≤ a) (a1 : a < 9223372036854775808) (b0 : -9223372036854775808 ≤ b) (b1 : b < 9223372036854775808) :
    S.mmul a b = some (mulS a b) := by
  obtain ⟨x0, x1⟩ := mag_range a0 a1
  obtain ⟨y0, y1⟩ := mag_range b0 b1
  obtain ⟨p0, p1⟩ := mag_mul_range a0 a1 b0 b1
  unfold S.mmul mulS
  rw [far_eq a0 a1, far_eq b0 b1, mul64_eq x0 (by omega) y0 (by omega)]
  have hs := mag_mul a b
  generalize (decide (a < 0) == decide (b < 0)) = sg at *
  generalize mag a * mag b = p at *
  generalize a * b = ab at *
  by_cases h : 1000 ≤ p / 18446744073709551616
  · rcases hs with ⟨rfl, hab⟩ | ⟨rfl, hab⟩ <;> rw [hab]
    · have h2 : 9223372036854775807 < p / 1000 := by omega
      simp [h, h2, S.mend]
    · have h2 : ¬ 9223372036854775807 < -p / 1000 := by omega
      have h3 : -p / 1000 < -9223372036854775808 := by omega
      simp [h, h2, h3, S.mend]
  · have hd := div64_1000 99999 (hi := p / 18446744073709551616) (lo := p % 18446744073709551616) (by omega) (by omega) (by omega) (by omega)
    have e : p / 18446744073709551616 * 18446744073709551616 + p % 18446744073709551616 = p := by omega
    rw [e] at hd
    simp only [Nat.reduceAdd] at hd
    simp only [h, decide_false, cond_false, hd, optK]
    rcases hs with ⟨rfl, hab⟩ | ⟨rfl, hab⟩ <;> rw [hab]
    · by_cases h2 : 9223372036854775807 < p / 1000
      · simp [h2]
      · have h3 : ¬ p / 1000 < -9223372036854775808 := by omega
        have w : IntKind.i64.wrap (p / 1000) = p / 1000 := by rw [IntKind.wrap_i64]; omega
        simp [h2, h3, w]
    · have h2 : ¬ 9223372036854775807 < -p / 1000 := by omega
      have w1 : IntKind.u64.wrap (p / 1000 + 1) = if p / 1000 = 18446744073709551615 then 0 else p / 1000 + 1 := by rw [IntKind.wrap_u64]; split <;> omega
      by_cases h3 : 0 < p % 1000
      · rw [w1]
        by_cases h4 : p / 1000 = 18446744073709551615
        · have h5 : -p / 1000 < -9223372036854775808 := by omega
          simp [h2, h3, h4, h5]
        · have h6 : ¬ (p / 1000 + 1 = 0) := by omega
          by_cases h5 : 9223372036854775808 < p / 1000 + 1
          · have h7 : -p / 1000 < -9223372036854775808 := by omega
            simp [h2, h3, h4, h5, h7]
          · have h7 : ¬ -p / 1000 < -9223372036854775808 := by omega
            have w : IntKind.i64.wrap (0 - IntKind.i64.wrap (p / 1000 + 1)) = -p / 1000 := by simp only [IntKind.wrap_i64]; omega
            simp [h2, h3, h4, h5, h6, h7]
            simpa using w
      · by_cases h5 : 9223372036854775808 < p / 1000
        · have h7 : -p / 1000 < -9223372036854775808 := by omega
          simp [h2, h3, h5, h7]
        · have h7 : ¬ -p / 1000 < -9223372036854775808 := by omega
          have w : IntKind.i64.wrap (0 - IntKind.i64.wrap (p / 1000)) = -p / 1000 := by simp only [IntKind.wrap_i64]; omega
          simp [h2, h3, h5, h7]
          simpa using w
end Go.Proofs.Ytjbdlnomjkhhbaa.AB
