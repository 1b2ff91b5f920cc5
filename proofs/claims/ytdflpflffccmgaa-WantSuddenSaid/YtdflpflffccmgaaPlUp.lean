/- Quotients of layer 1, upwards. -/
import Derived.Test.YtdflpflffccmgaaPlConf
import Derived.Test.YtdflpflffccmgaaPlRmul
namespace Go.Proofs.Ytdflpflffccmgaa.AB
set_option linter.unusedVariables false
set_option linter.unusedSimpArgs false

/-- a quotient, towards nought; upwards -/
def halfF (a b : Int) : Int × Int := if b = 0 then (0, 3) else if a = -9223372036854775808 ∧ b = -1 then (9223372036854775807, 2) else (IntKind.i64.wrap (a.tdiv b), 0)
def upF (a b : Int) : Int × Int := if (halfF a b).2 = 0 ∧ a.tmod b ≠ 0 ∧ (a < 0 ↔ b < 0) then (IntKind.i64.wrap ((halfF a b).1 + 1), (halfF a b).2) else halfF a b

theorem mhalf_all (a b : Int) : S.mhalf a b = some (halfF a b) := by
  unfold S.mhalf halfF
  by_cases h1 : b = 0
  · simp [h1]
  · by_cases h2 : a = -9223372036854775808 <;> by_cases h3 : b = -1 <;> simp [h1, h2, h3]

theorem iff_beq {p q : Prop} [Decidable p] [Decidable q] : (decide p == decide q) = decide (p ↔ q) := by
  by_cases hp : p <;> by_cases hq : q <;> simp [hp, hq]

theorem mup_all (a b : Int) : S.mup a b = some (upF a b) := by
  unfold S.mup
  rw [mhalf_all]
  simp only [optK, iff_beq]
  by_cases h0 : b = 0
  · subst h0; simp [upF, halfF]
  · unfold upF
    generalize halfF a b = q
    obtain ⟨x, y⟩ := q
    by_cases h1 : y = 0 <;> by_cases h2 : a.tmod b = 0 <;> by_cases h3 : (a < 0 ↔ b < 0) <;> simp [h0, h1, h2, h3]

theorem rup_all (a b : Int) : S.rup a b = some (upF a b) := by
  rw [← mup_all]
  unfold S.rup S.mup S.mhalf
  by_cases h1 : b = 0
  · simp [h1, optK]
  · by_cases h2 : a = -9223372036854775808
    · by_cases h3 : b = -1
      · simp [h2, h3, optK]
      · by_cases h4 : Int.tmod (-9223372036854775808) b = 0 <;> by_cases h5 : b < 0 <;> simp [h1, h2, h3, h4, h5, optK]
    · by_cases h4 : Int.tmod a b = 0 <;> by_cases h5 : a < 0 <;> by_cases h6 : b < 0 <;> simp [h1, h2, h4, h5, h6, optK]

theorem mulS_in {a b : Int} (h0 : -9223372036854775808 ≤ a * b / 1000) (h1 : a * b / 1000 ≤ 9223372036854775807) : mulS a b = (a * b / 1000, 0) := by
  unfold mulS; rw [if_neg (by omega), if_neg (by omega)]

/-- a quotient upwards, by what is above nought: what it is -/
theorem up_facts {m P : Int} (hP : 1 ≤ P) (m1 : m < 9223372036854775808) : (0 ≤ m → 0 ≤ (upF m P).1 ∧ m ≤ (upF m P).1 * P ∧ ((upF m P).1 - 1) * P < m) := by
  intro h0
  have hq0 : 0 ≤ m.tdiv P := by rw [Int.tdiv_eq_ediv_of_nonneg h0]; exact Int.ediv_nonneg h0 (by omega)
  have hq1 : m.tdiv P ≤ m := by rw [Int.tdiv_eq_ediv_of_nonneg h0]; exact Int.ediv_le_self P h0
  have hr0 := Int.tmod_nonneg P h0
  have hr1 := Int.tmod_lt_of_pos m (b := P) (by omega)
  have he := Int.mul_tdiv_add_tmod m P
  rw [Int.mul_comm] at he
  have hh : halfF m P = (m.tdiv P, 0) := by
    unfold halfF; rw [if_neg (by omega), if_neg (by omega), wrap_id (by omega) (by omega)]
  have hqP : m.tdiv P ≤ m.tdiv P * P := by
    have := Int.mul_le_mul_of_nonneg_left hP hq0; omega
  unfold upF
  rw [hh]
  simp only
  generalize m.tdiv P = q at *
  generalize m.tmod P = r at *
  by_cases hr : r = 0
  · rw [if_neg (by intro h; exact h.2.1 hr)]
    simp only
    have e : (q - 1) * P = q * P - P := by rw [Int.sub_mul]; omega
    omega
  · rw [if_pos ⟨by simp, hr, by constructor <;> intro h <;> omega⟩]
    simp only
    rw [wrap_id (by omega) (by omega)]
    have e : (q + 1) * P = q * P + P := by rw [Int.add_mul]; omega
    have e2 : (q + 1 - 1) * P = q * P := by congr 1; omega
    omega

theorem up_neg {m P : Int} (hP : 1 ≤ P) (m0 : -9223372036854775808 ≤ m) (h : m ≤ 0) : (upF m P).1 ≤ 0 := by
  have hq : m.tdiv P = -((-m).tdiv P) := by rw [Int.neg_tdiv]; omega
  have hq0 : 0 ≤ (-m).tdiv P := by rw [Int.tdiv_eq_ediv_of_nonneg (by omega)]; exact Int.ediv_nonneg (by omega) (by omega)
  have hq1 : (-m).tdiv P ≤ -m := by rw [Int.tdiv_eq_ediv_of_nonneg (by omega)]; exact Int.ediv_le_self P (by omega)
  have hh : halfF m P = (m.tdiv P, 0) := by
    unfold halfF; rw [if_neg (by omega), if_neg (by omega), wrap_id (by omega) (by omega)]
  unfold upF
  rw [hh]
  by_cases hm : m = 0
  · subst hm; simp
  · rw [if_neg (by intro h2; have := h2.2.2; omega)]
    simp only; omega
end Go.Proofs.Ytdflpflffccmgaa.AB
