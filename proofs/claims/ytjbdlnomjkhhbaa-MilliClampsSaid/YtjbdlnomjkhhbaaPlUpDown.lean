/- Sums and quotients of layer 1. -/
import Derived.Test.YtjbdlnomjkhhbaaPlMilli
import Derived.Test.YtjbdlnomjkhhbaaSmilli
namespace Go.Proofs.Ytjbdlnomjkhhbaa.AB
set_option linter.unusedVariables false
set_option linter.unusedSimpArgs false

/-- cut at the ends, and told -/
def satC (x : Int) : Int × Int := (sat x, if -9223372036854775808 ≤ x ∧ x < 9223372036854775808 then 0 else 2)

theorem satC_over {x : Int} (h : 9223372036854775807 < x) : satC x = (9223372036854775807, 2) := by
  unfold satC sat; rw [if_pos h, if_neg (by omega)]
theorem satC_under {x : Int} (h : x < -9223372036854775808) : satC x = (-9223372036854775808, 2) := by
  unfold satC sat; rw [if_neg (by omega), if_pos h, if_neg (by omega)]
theorem satC_in {x : Int} (h0 : -9223372036854775808 ≤ x) (h1 : x < 9223372036854775808) : satC x = (x, 0) := by
  unfold satC; rw [sat_id h0 h1, if_pos ⟨h0, h1⟩]

theorem madd_eq {a b : Int} (a0 : -9223372036854775808 ≤ a) (a1 : a < 9223372036854775808) (b0 : -9223372036854775808 ≤ b) (b1 : b < 9223372036854775808) : S.madd a b = satC (a + b) := by
  unfold S.madd S.mend
  by_cases h : 0 < b
  · have h' : ¬ b < 0 := by omega
    have e : IntKind.i64.wrap (9223372036854775807 - b) = 9223372036854775807 - b := wrap_id (by omega) (by omega)
    by_cases h2 : 9223372036854775807 - b < a
    · rw [satC_over (by omega)]; simp [h, e, h2]
    · have e2 : IntKind.i64.wrap (a + b) = a + b := wrap_id (by omega) (by omega)
      rw [satC_in (by omega) (by omega)]; simp [h, h', e, h2, e2]
  · by_cases h' : b < 0
    · have e : IntKind.i64.wrap (-9223372036854775808 - b) = -9223372036854775808 - b := wrap_id (by omega) (by omega)
      by_cases h2 : a < -9223372036854775808 - b
      · rw [satC_under (by omega)]; simp [h, h', e, h2]
      · have e2 : IntKind.i64.wrap (a + b) = a + b := wrap_id (by omega) (by omega)
        rw [satC_in (by omega) (by omega)]; simp [h, h', e, h2, e2]
    · have e2 : IntKind.i64.wrap (a + b) = a + b := wrap_id (by omega) (by omega)
      rw [satC_in (by omega) (by omega)]; simp [h, h', e2]

theorem msub_eq {a b : Int} (a0 : -9223372036854775808 ≤ a) (a1 : a < 9223372036854775808) (b0 : -9223372036854775808 ≤ b) (b1 : b < 9223372036854775808) : S.msub a b = satC (a - b) := by
  have hf := msub_fst a b a0 a1 b0 b1
  refine Prod.ext hf ?_
  unfold S.msub S.mend satC
  by_cases h : b < 0
  · have h' : ¬ 0 < b := by omega
    have e : IntKind.i64.wrap (9223372036854775807 + b) = 9223372036854775807 + b := wrap_id (by omega) (by omega)
    by_cases h2 : 9223372036854775807 + b < a
    · have h3 : ¬ (a - b < 9223372036854775808) := by omega
      simp [h, h', e, h2, h3]
    · have h3 : (a - b < 9223372036854775808) ∧ -9223372036854775808 ≤ a - b := by omega
      simp [h, h', e, h2, h3]
  · by_cases h' : 0 < b
    · have e : IntKind.i64.wrap (-9223372036854775808 + b) = -9223372036854775808 + b := wrap_id (by omega) (by omega)
      by_cases h2 : a < -9223372036854775808 + b
      · have h3 : ¬ (-9223372036854775808 ≤ a - b) := by omega
        simp [h, h', e, h2, h3]
      · have h3 : (a - b < 9223372036854775808) ∧ -9223372036854775808 ≤ a - b := by omega
        simp [h, h', e, h2, h3]
    · have h3 : (a - b < 9223372036854775808) ∧ -9223372036854775808 ≤ a - b := by omega
      simp [h, h', h3]

/-- a quotient, towards nought; upwards; downwards -/
def halfF (a b : Int) : Int × Int := if b = 0 then (0, 3) else if a = -9223372036854775808 ∧ b = -1 then (9223372036854775807, 2) else (IntKind.i64.wrap (a.tdiv b), 0)
def upF (a b : Int) : Int × Int := if (halfF a b).2 = 0 ∧ a.tmod b ≠ 0 ∧ (a < 0 ↔ b < 0) then (IntKind.i64.wrap ((halfF a b).1 + 1), (halfF a b).2) else halfF a b
def downF (a b : Int) : Int × Int := if (halfF a b).2 = 0 ∧ a.tmod b ≠ 0 ∧ ¬(a < 0 ↔ b < 0) then (IntKind.i64.wrap ((halfF a b).1 - 1), (halfF a b).2) else halfF a b

theorem mhalf_all (a b : Int) : S.mhalf a b = some (halfF a b) := by
  unfold S.mhalf halfF
  by_cases h1 : b = 0
  · simp [h1]
  · by_cases h2 : a = -9223372036854775808 <;> by_cases h3 : b = -1 <;> simp [h1, h2, h3]

theorem iff_beq {p q : Prop} [Decidable p] [Decidable q] : (decide p == decide q) = decide (p ↔ q) := by
  by_cases hp : p <;> by_cases hq : q <;> simp [hp, hq]

theorem mup_all (a b : Int) : S.mup a b = some (upF a b) := by
  unfold S.mup
  rw [mhalf_all]
  simp only [optK, iff_beq]
  by_cases h0 : b = 0
  · subst h0; simp [upF, halfF]
  · unfold upF
    generalize halfF a b = q
    obtain ⟨x, y⟩ := q
    by_cases h1 : y = 0 <;> by_cases h2 : a.tmod b = 0 <;> by_cases h3 : (a < 0 ↔ b < 0) <;> simp [h0, h1, h2, h3]

theorem mdown_all (a b : Int) : S.mdown a b = some (downF a b) := by
  unfold S.mdown
  rw [mhalf_all]
  simp only [optK, iff_beq]
  by_cases h0 : b = 0
  · subst h0; simp [downF, halfF]
  · unfold downF
    generalize halfF a b = q
    obtain ⟨x, y⟩ := q
    by_cases h1 : y = 0 <;> by_cases h2 : a.tmod b = 0 <;> by_cases h3 : (a < 0 ↔ b < 0) <;> simp [h0, h1, h2, h3]

/-- what a quotient towards nought leaves -/
theorem tdiv_facts (a b : Int) (hb : b ≠ 0) : a.tdiv b * b + a.tmod b = a ∧ (0 ≤ a → 0 ≤ a.tmod b) ∧ (a ≤ 0 → a.tmod b ≤ 0) ∧ (0 < b → a.tmod b < b ∧ -b < a.tmod b) ∧ (b < 0 → a.tmod b < -b ∧ b < a.tmod b) ∧ (a.tdiv b).natAbs ≤ a.natAbs := by
  refine ⟨?_, fun h => Int.tmod_nonneg b h, fun h => ?_, fun h => ⟨Int.tmod_lt_of_pos a h, Int.lt_tmod_of_pos a h⟩, fun h => ?_, Int.natAbs_tdiv_le_natAbs a b⟩
  · have := Int.mul_tdiv_add_tmod a b; rw [Int.mul_comm] at this; exact this
  · have := Int.tmod_nonneg b (a := -a) (by omega); rw [Int.neg_tmod] at this; omega
  · have h1 := Int.tmod_lt_of_pos a (b := -b) (by omega)
    have h2 := Int.lt_tmod_of_pos a (b := -b) (by omega)
    rw [Int.tmod_neg] at h1 h2; omega

theorem halfF_in (a b : Int) (hb : b ≠ 0) (a0 : -9223372036854775808 < a) (a1 : a < 9223372036854775808) : halfF a b = (a.tdiv b, 0) := by
  obtain ⟨_, _, _, _, _, h⟩ := tdiv_facts a b hb
  unfold halfF
  rw [if_neg hb, if_neg (by omega), wrap_id (by omega) (by omega)]
end Go.Proofs.Ytjbdlnomjkhhbaa.AB
