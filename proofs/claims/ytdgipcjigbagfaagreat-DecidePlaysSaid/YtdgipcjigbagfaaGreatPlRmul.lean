/- The document's products. -/
import Derived.Test.YtdgipcjigbagfaaGreatPlMuls
import Derived.Test.YtdgipcjigbagfaaGreatSrmilli
namespace Go.Proofs.YtdgipcjigbagfaaGreat.AB
set_option linter.unusedVariables false
set_option linter.unusedSimpArgs false

theorem rsize_eq {a : Int} (a0 : -9223372036854775808 ≤ a) (a1 : a < 9223372036854775808) : S.rsize a = mag a := by
  unfold S.rsize mag
  by_cases h : a < 0
  · simp only [h, decide_true, cond_true, if_true, IntKind.wrap_u64, IntKind.wrap_i64]; omega
  · simp only [h, decide_false, cond_false, if_false, IntKind.wrap_u64]; omega

theorem rwide_eq {a b : Int} (a0 : 0 ≤ a) (a1 : a < 18446744073709551616) (b0 : 0 ≤ b) (b1 : b < 18446744073709551616) :
    S.rwide a b = (a * b / 18446744073709551616, a * b % 18446744073709551616) := by
  rw [← mul64_eq a0 a1 b0 b1]
  have hm := mul64_eq a0 a1 b0 b1
  unfold S.mul64 at hm
  unfold S.rwide S.mul64
  rw [band32 a0 a1, band32 b0 b1] at hm ⊢
  simp only [fdiv32] at hm ⊢
  have x0 : 0 ≤ a / 4294967296 ∧ a / 4294967296 ≤ 4294967295 := by omega
  have x1 : 0 ≤ a % 4294967296 ∧ a % 4294967296 ≤ 4294967295 := by omega
  have y0 : 0 ≤ b / 4294967296 ∧ b / 4294967296 ≤ 4294967295 := by omega
  have y1 : 0 ≤ b % 4294967296 ∧ b % 4294967296 ≤ 4294967295 := by omega
  have bnd : ∀ (u v : Int), 0 ≤ u ∧ u ≤ 4294967295 → 0 ≤ v ∧ v ≤ 4294967295 → 0 ≤ u * v ∧ u * v ≤ 18446744065119617025 := by
    intro u v hu hv
    refine ⟨Int.mul_nonneg hu.1 hv.1, ?_⟩
    have := Int.mul_le_mul hu.2 hv.2 hv.1 (by omega)
    omega
  obtain ⟨m0, m1⟩ := bnd _ _ x0 y0
  obtain ⟨m2, m3⟩ := bnd _ _ x0 y1
  obtain ⟨m4, m5⟩ := bnd _ _ x1 y0
  obtain ⟨m6, m7⟩ := bnd _ _ x1 y1
  have hlo : a * b % 18446744073709551616 = (a / 4294967296 * (b % 4294967296) * 4294967296 + a % 4294967296 * (b / 4294967296) * 4294967296 + a % 4294967296 * (b % 4294967296)) % 18446744073709551616 := by
    have ha : a = (a / 4294967296) * 4294967296 + a % 4294967296 := by omega
    have hb : b = (b / 4294967296) * 4294967296 + b % 4294967296 := by omega
    have e : a * b = (a / 4294967296 * 4294967296 + a % 4294967296) * (b / 4294967296 * 4294967296 + b % 4294967296) := by rw [← ha, ← hb]
    rw [e]
    generalize a / 4294967296 = p
    generalize a % 4294967296 = q
    generalize b / 4294967296 = r
    generalize b % 4294967296 = s
    simp only [Int.add_mul, Int.mul_add]
    have e1 : p * 4294967296 * (r * 4294967296) = p * r * 18446744073709551616 := by
      rw [Int.mul_assoc p, ← Int.mul_assoc 4294967296 r, Int.mul_comm 4294967296 r, Int.mul_assoc r, ← Int.mul_assoc p r]; rfl
    have e2 : p * 4294967296 * s = p * s * 4294967296 := by rw [Int.mul_assoc, Int.mul_comm 4294967296, ← Int.mul_assoc]
    have e3 : q * (r * 4294967296) = q * r * 4294967296 := by rw [← Int.mul_assoc]
    rw [e1, e2, e3]; omega
  have hlow : IntKind.u64.wrap (a * b) = a * b % 18446744073709551616 := by rw [IntKind.wrap_u64]
  rw [hlow, hlo]
  clear hm hlow hlo
  generalize a / 4294967296 * (b / 4294967296) = A at *
  generalize a / 4294967296 * (b % 4294967296) = B at *
  generalize a % 4294967296 * (b / 4294967296) = C at *
  generalize a % 4294967296 * (b % 4294967296) = D at *
  have w1 : IntKind.u64.wrap D = D := by rw [IntKind.wrap_u64]; omega
  have w2 : IntKind.u64.wrap B = B := by rw [IntKind.wrap_u64]; omega
  have w3 : IntKind.u64.wrap (B + D / 4294967296) = B + D / 4294967296 := by rw [IntKind.wrap_u64]; omega
  have w4 : IntKind.u64.wrap C = C := by rw [IntKind.wrap_u64]; omega
  have w5 : IntKind.u64.wrap A = A := by rw [IntKind.wrap_u64]; omega
  rw [w1, w2, w3, w4, w5, band32 (a := B + D / 4294967296) (by omega) (by omega), band32 (a := B) (by omega) (by omega), band32 (a := C) (by omega) (by omega), band32 (a := D) (by omega) (by omega)]
  have m : IntKind.u64.wrap (IntKind.u64.wrap (B % 4294967296 + C % 4294967296) + D / 4294967296) = B % 4294967296 + C % 4294967296 + D / 4294967296 := by simp only [IntKind.wrap_u64]; omega
  rw [m]
  have ml : IntKind.u64.wrap ((B % 4294967296 + C % 4294967296 + D / 4294967296) * 4294967296) = ((B % 4294967296 + C % 4294967296 + D / 4294967296) % 4294967296) * 4294967296 := by simp only [IntKind.wrap_u64]; omega
  rw [ml, bor32 (by omega) (by omega) (by omega) (by omega)]
  refine Prod.ext ?_ ?_
  · simp only [IntKind.wrap_u64]; omega
  · simp only; omega

theorem rthou_eq {hi lo : Int} (h0 : 0 ≤ hi) (h1 : hi < 18446744073709551616) (l0 : 0 ≤ lo) (l1 : lo < 18446744073709551616) :
    S.rthou hi lo = (hi / 1000, (hi % 1000 * 18446744073709551616 + lo) / 1000, (hi * 18446744073709551616 + lo) % 1000) := by
  unfold S.rthou
  rw [Int.tdiv_eq_ediv_of_nonneg h0, Int.tmod_eq_emod_of_nonneg h0, band32 l0 l1]
  simp only [fdiv32]
  have e1 : IntKind.u64.wrap (hi % 1000 * 4294967296) = hi % 1000 * 4294967296 := by rw [IntKind.wrap_u64]; omega
  rw [e1, bor32 (m := hi % 1000) (by omega) (by omega) (by omega) (by omega)]
  have hx : ∃ x, x = hi % 1000 * 4294967296 + lo / 4294967296 := ⟨_, rfl⟩
  obtain ⟨x, hx⟩ := hx
  rw [← hx, Int.tdiv_eq_ediv_of_nonneg (a := x) (by omega), Int.tmod_eq_emod_of_nonneg (a := x) (by omega)]
  have e2 : IntKind.u64.wrap (x % 1000 * 4294967296) = x % 1000 * 4294967296 := by rw [IntKind.wrap_u64]; omega
  rw [e2, bor32 (m := x % 1000) (by omega) (by omega) (by omega) (by omega)]
  have hy : ∃ y, y = x % 1000 * 4294967296 + lo % 4294967296 := ⟨_, rfl⟩
  obtain ⟨y, hy⟩ := hy
  rw [← hy, Int.tdiv_eq_ediv_of_nonneg (a := y) (by omega), Int.tmod_eq_emod_of_nonneg (a := y) (by omega)]
  have e3 : IntKind.u64.wrap (IntKind.u64.wrap (x / 1000) * 4294967296) = x / 1000 * 4294967296 := by simp only [IntKind.wrap_u64]; omega
  have e4 : IntKind.u64.wrap (y / 1000) = y / 1000 := by rw [IntKind.wrap_u64]; omega
  have e5 : IntKind.u64.wrap (hi / 1000) = hi / 1000 := by rw [IntKind.wrap_u64]; omega
  rw [e3, e4, e5, bor32 (m := x / 1000) (by omega) (by omega) (by omega) (by omega)]
  refine Prod.ext rfl (Prod.ext ?_ ?_)
  · simp only; omega
  · simp only; omega

theorem rmul_eq {a b : Int} (a0 : -9223372036854775808 ≤ a) (a1 : a < 9223372036854775808) (b0 : -9223372036854775808 ≤ b) (b1 : b < 9223372036854775808) :
    S.rmul a b = mulS a b := by
  obtain ⟨x0, x1⟩ := mag_range a0 a1
  obtain ⟨y0, y1⟩ := mag_range b0 b1
  obtain ⟨p0, p1⟩ := mag_mul_range a0 a1 b0 b1
  have hs := mag_mul a b
  have hz : a = 0 ∨ b = 0 → mag a * mag b = 0 := by
    rintro (h | h) <;> simp [h, mag]
  have hz2 : ¬ a = 0 → ¬ b = 0 → mag a * mag b ≠ 0 := by
    intro h k
    have : 0 < mag a := by unfold mag; split <;> omega
    have : 0 < mag b := by unfold mag; split <;> omega
    exact (Int.ne_of_gt (Int.mul_pos ‹0 < mag a› this))
  unfold S.rmul mulS
  simp only [S.q_rthou_eq, S.q_rwide_eq, S.q_rsize_eq]
  rw [rsize_eq a0 a1, rsize_eq b0 b1, rwide_eq x0 (by omega) y0 (by omega)]
  rw [rthou_eq (by simp only; omega) (by simp only; omega) (by simp only; omega) (by simp only; omega)]
  simp only
  generalize (decide (a < 0) == decide (b < 0)) = sg at *
  generalize mag a * mag b = p at *
  have e : p / 18446744073709551616 * 18446744073709551616 + p % 18446744073709551616 = p := by omega
  rw [e]
  have hn : (p / 18446744073709551616 % 1000 * 18446744073709551616 + p % 18446744073709551616) / 1000 = p / 1000 % 18446744073709551616 := by omega
  have hq : p / 18446744073709551616 / 1000 = p / 1000 / 18446744073709551616 := by omega
  rw [hn, hq]
  generalize a * b = ab at *
  have pos : ab = p → (bif decide (0 < p / 1000 / 18446744073709551616) then ((9223372036854775807 : Int), (2 : Int)) else bif decide (9223372036854775807 < p / 1000 % 18446744073709551616) then (9223372036854775807, 2) else (IntKind.i64.wrap (p / 1000 % 18446744073709551616), 0)) =
      if 9223372036854775807 < ab / 1000 then (9223372036854775807, 2) else if ab / 1000 < -9223372036854775808 then (-9223372036854775808, 2) else (ab / 1000, 0) := by
    intro hab
    rw [hab]
    by_cases h1 : 0 < p / 1000 / 18446744073709551616
    · have h2 : 9223372036854775807 < p / 1000 := by omega
      simp [h1, h2]
    · by_cases h2 : 9223372036854775807 < p / 1000 % 18446744073709551616
      · have i0 : 0 ≤ p / 1000 := Int.ediv_nonneg p0 (by decide)
        have h3 : 9223372036854775807 < p / 1000 := by
          have j0 : 0 ≤ p / 1000 / 18446744073709551616 := Int.ediv_nonneg i0 (by decide)
          generalize p / 1000 = i at *
          omega
        simp [h1, h2, h3]
      · have h3 : ¬ 9223372036854775807 < p / 1000 := by omega
        have h4 : ¬ p / 1000 < -9223372036854775808 := by omega
        have w : IntKind.i64.wrap (p / 1000 % 18446744073709551616) = p / 1000 := by rw [IntKind.wrap_i64]; omega
        simp [h1, h2, h3, h4, w]
  rcases hs with ⟨rfl, hab⟩ | ⟨rfl, hab⟩
  · simp only [Bool.not_true, cond_false]
    exact pos hab
  · simp only [Bool.not_false, cond_true]
    by_cases ha : a = 0
    · have := hz (.inl ha)
      simp only [ha, decide_true, Bool.not_true, cond_false]
      exact pos (by omega)
    · by_cases hb : b = 0
      · have := hz (.inr hb)
        simp only [ha, hb, decide_true, decide_false, Bool.not_true, Bool.not_false, cond_false, cond_true]
        exact pos (by omega)
      · have hne := hz2 ha hb
        simp only [ha, hb, decide_true, decide_false, Bool.not_true, Bool.not_false, cond_false, cond_true]
        rw [hab]
        have g1 : ¬ 9223372036854775807 < -p / 1000 := by omega
        rw [if_neg g1]
        by_cases h3 : 0 < p % 1000
        · simp only [h3, decide_true, cond_true]
          by_cases h4 : p / 1000 % 18446744073709551616 = 18446744073709551615
          · have w1 : IntKind.u64.wrap (p / 1000 % 18446744073709551616 + 1) = 0 := by rw [IntKind.wrap_u64]; omega
            have w2 : 0 < IntKind.u64.wrap (p / 1000 / 18446744073709551616 + 1) := by rw [IntKind.wrap_u64]; omega
            have g2 : -p / 1000 < -9223372036854775808 := by omega
            simp [w1, w2, g2]
          · have w1 : IntKind.u64.wrap (p / 1000 % 18446744073709551616 + 1) = p / 1000 % 18446744073709551616 + 1 := by rw [IntKind.wrap_u64]; omega
            have w2 : ¬ (p / 1000 % 18446744073709551616 + 1 = 0) := by omega
            rw [w1]
            simp only [w2, decide_false, cond_false]
            by_cases h5 : 0 < p / 1000 / 18446744073709551616
            · have g2 : -p / 1000 < -9223372036854775808 := by omega
              simp [h5, g2]
            · by_cases h6 : 9223372036854775808 < p / 1000 % 18446744073709551616 + 1
              · have g2 : -p / 1000 < -9223372036854775808 := by omega
                simp [h5, h6, g2]
              · have g2 : ¬ -p / 1000 < -9223372036854775808 := by omega
                have w : IntKind.i64.wrap (IntKind.u64.wrap (0 - (p / 1000 % 18446744073709551616 + 1))) = -p / 1000 := by simp only [IntKind.wrap_i64, IntKind.wrap_u64]; omega
                simp only [h5, h6, g2, decide_false, cond_false, if_false, w]
        · simp only [h3, decide_false, cond_false]
          by_cases h5 : 0 < p / 1000 / 18446744073709551616
          · have g2 : -p / 1000 < -9223372036854775808 := by omega
            simp [h5, g2]
          · by_cases h6 : 9223372036854775808 < p / 1000 % 18446744073709551616
            · have g2 : -p / 1000 < -9223372036854775808 := by omega
              simp [h5, h6, g2]
            · have g2 : ¬ -p / 1000 < -9223372036854775808 := by omega
              have w : IntKind.i64.wrap (IntKind.u64.wrap (0 - (p / 1000 % 18446744073709551616))) = -p / 1000 := by simp only [IntKind.wrap_i64, IntKind.wrap_u64]; omega
              simp only [h5, h6, g2, decide_false, cond_false, if_false, w]
end Go.Proofs.YtdgipcjigbagfaaGreat.AB
