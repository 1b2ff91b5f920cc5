/- Plain facts: bits of whole numbers of 64 bits. -/
import Derived.Test.YtdgipcjigbagfaaGreatFwA
import Derived.Laws.Bits64
import Derived.Laws.BitsLemmas
import Derived.Test.YtdgipcjigbagfaaGreatSmilli
namespace Go.Proofs.YtdgipcjigbagfaaGreat.AB
set_option linter.unusedVariables false
set_option linter.unusedSimpArgs false

theorem band32 {a : Int} (h0 : 0 ≤ a) (h1 : a < 18446744073709551616) : bitsA .and .u64 a 4294967295 = a % 4294967296 := by
  show IntKind.u64.wrap (((BitVec.ofInt 64 a &&& BitVec.ofInt 64 4294967295).toNat : Nat) : Int) = _
  rw [BitVec.toNat_and, BitVec.toNat_ofInt, BitVec.toNat_ofInt]
  have e : (a % ((2 ^ 64 : Nat) : Int)).toNat = a.toNat := by
    rw [Int.emod_eq_of_lt h0 (by simpa using h1)]
  have e2 : ((4294967295 : Int) % ((2 ^ 64 : Nat) : Int)).toNat = 2 ^ 32 - 1 := by decide
  rw [e, e2, Nat.and_two_pow_sub_one_eq_mod, IntKind.wrap_u64]
  omega

theorem bor32 {m y : Int} (h0 : 0 ≤ m) (h1 : m < 4294967296) (y0 : 0 ≤ y) (y1 : y < 4294967296) : bitsA .or .u64 (m * 4294967296) y = m * 4294967296 + y := by
  show IntKind.u64.wrap (((BitVec.ofInt 64 (m * 4294967296) ||| BitVec.ofInt 64 y).toNat : Nat) : Int) = _
  rw [BitVec.toNat_or, BitVec.toNat_ofInt, BitVec.toNat_ofInt]
  have e : ((m * 4294967296) % ((2 ^ 64 : Nat) : Int)).toNat = m.toNat <<< 32 := by
    rw [Int.emod_eq_of_lt (by omega) (by simp; omega), Nat.shiftLeft_eq]; omega
  have e2 : (y % ((2 ^ 64 : Nat) : Int)).toNat = y.toNat := by
    rw [Int.emod_eq_of_lt y0 (by simp; omega)]
  rw [e, e2, ← Nat.shiftLeft_add_eq_or_of_lt (by omega), Nat.shiftLeft_eq, IntKind.wrap_u64]
  omega
end Go.Proofs.YtdgipcjigbagfaaGreat.AB
namespace Go.Proofs.YtdgipcjigbagfaaGreat.AB
set_option linter.unusedVariables false
set_option linter.unusedSimpArgs false

theorem fdiv32 (a : Int) : Int.fdiv a 4294967296 = a / 4294967296 := Int.fdiv_eq_ediv_of_nonneg _ (by decide)

theorem mul64_eq {a b : Int} (a0 : 0 ≤ a) (a1 : a < 18446744073709551616) (b0 : 0 ≤ b) (b1 : b < 18446744073709551616) :
    S.mul64 a b = (a * b / 18446744073709551616, a * b % 18446744073709551616) := by
  unfold S.mul64
  rw [band32 a0 a1, band32 b0 b1]
  simp only [fdiv32]
  have ha : a = (a / 4294967296) * 4294967296 + a % 4294967296 := by omega
  have hb : b = (b / 4294967296) * 4294967296 + b % 4294967296 := by omega
  have x0 : 0 ≤ a / 4294967296 ∧ a / 4294967296 ≤ 4294967295 := by omega
  have x1 : 0 ≤ a % 4294967296 ∧ a % 4294967296 ≤ 4294967295 := by omega
  have y0 : 0 ≤ b / 4294967296 ∧ b / 4294967296 ≤ 4294967295 := by omega
  have y1 : 0 ≤ b % 4294967296 ∧ b % 4294967296 ≤ 4294967295 := by omega
  generalize a / 4294967296 = p at *
  generalize a % 4294967296 = q at *
  generalize b / 4294967296 = r at *
  generalize b % 4294967296 = s at *
  have hab : a * b = p * r * 18446744073709551616 + p * s * 4294967296 + q * r * 4294967296 + q * s := by
    rw [ha, hb]
    simp only [Int.add_mul, Int.mul_add]
    have e1 : p * 4294967296 * (r * 4294967296) = p * r * 18446744073709551616 := by
      rw [Int.mul_assoc p, ← Int.mul_assoc 4294967296 r, Int.mul_comm 4294967296 r, Int.mul_assoc r, ← Int.mul_assoc p r]; rfl
    have e2 : p * 4294967296 * s = p * s * 4294967296 := by rw [Int.mul_assoc, Int.mul_comm 4294967296, ← Int.mul_assoc]
    have e3 : q * (r * 4294967296) = q * r * 4294967296 := by rw [← Int.mul_assoc]
    rw [e1, e2, e3]; omega
  have bnd : ∀ (u v : Int), 0 ≤ u ∧ u ≤ 4294967295 → 0 ≤ v ∧ v ≤ 4294967295 → 0 ≤ u * v ∧ u * v ≤ 18446744065119617025 := by
    intro u v hu hv
    refine ⟨Int.mul_nonneg hu.1 hv.1, ?_⟩
    have := Int.mul_le_mul hu.2 hv.2 hv.1 (by omega)
    omega
  obtain ⟨m0, m1⟩ := bnd p r x0 y0
  obtain ⟨m2, m3⟩ := bnd p s x0 y1
  obtain ⟨m4, m5⟩ := bnd q r x1 y0
  obtain ⟨m6, m7⟩ := bnd q s x1 y1
  rw [hab]
  clear hab ha hb
  generalize p * r = A at *
  generalize p * s = B at *
  generalize q * r = C at *
  generalize q * s = D at *
  have w1 : IntKind.u64.wrap D = D := by rw [IntKind.wrap_u64]; omega
  have w2 : IntKind.u64.wrap B = B := by rw [IntKind.wrap_u64]; omega
  have w3 : IntKind.u64.wrap (B + D / 4294967296) = B + D / 4294967296 := by rw [IntKind.wrap_u64]; omega
  have w4 : IntKind.u64.wrap C = C := by rw [IntKind.wrap_u64]; omega
  have w5 : IntKind.u64.wrap A = A := by rw [IntKind.wrap_u64]; omega
  rw [w1, w2, w3, w4, w5, band32 (by omega) (by omega)]
  have w6 : IntKind.u64.wrap ((B + D / 4294967296) % 4294967296 + C) = (B + D / 4294967296) % 4294967296 + C := by rw [IntKind.wrap_u64]; omega
  rw [w6]
  simp only [IntKind.wrap_u64]
  refine Prod.ext ?_ ?_ <;> first | (simp only; done) | (simp only; omega)

theorem bor54 {m y : Int} (h0 : 0 ≤ m) (h1 : m < 1024) (y0 : 0 ≤ y) (y1 : y < 18014398509481984) : bitsA .or .u64 (m * 18014398509481984) y = m * 18014398509481984 + y := by
  show IntKind.u64.wrap (((BitVec.ofInt 64 (m * 18014398509481984) ||| BitVec.ofInt 64 y).toNat : Nat) : Int) = _
  rw [BitVec.toNat_or, BitVec.toNat_ofInt, BitVec.toNat_ofInt]
  have e : ((m * 18014398509481984) % ((2 ^ 64 : Nat) : Int)).toNat = m.toNat <<< 54 := by
    rw [Int.emod_eq_of_lt (by omega) (by simp; omega), Nat.shiftLeft_eq]; omega
  have e2 : (y % ((2 ^ 64 : Nat) : Int)).toNat = y.toNat := by
    rw [Int.emod_eq_of_lt y0 (by simp; omega)]
  rw [e, e2, ← Nat.shiftLeft_add_eq_or_of_lt (by omega), Nat.shiftLeft_eq, IntKind.wrap_u64]
  omega

theorem div64_1000 (n : Nat) {hi lo : Int} (h0 : 0 ≤ hi) (h1 : hi < 1000) (l0 : 0 ≤ lo) (l1 : lo < 18446744073709551616) :
    S.div64 (n + 1) hi lo 1000 = some ((hi * 18446744073709551616 + lo) / 1000, (hi * 18446744073709551616 + lo) % 1000) := by
  by_cases hz : hi = 0
  · subst hz
    unfold S.div64
    rw [Int.tdiv_eq_ediv_of_nonneg l0, Int.tmod_eq_emod_of_nonneg l0]
    have w : IntKind.u64.wrap (lo / 1000) = lo / 1000 := by rw [IntKind.wrap_u64]; omega
    rw [w]
    simp
  · have hle : ¬ (1000 ≤ hi) := by omega
    unfold S.div64
    have h54 : S.lz64 1000 = some 54 := by rfl
    have w54 : IntKind.u64.wrap 54 = 54 := by decide
    have w10 : IntKind.u64.wrap (64 - 54) = 10 := by decide
    have p54 : (2 : Int) ^ Min.min (Int.toNat 54) 64 = 18014398509481984 := by decide
    have p10 : (2 : Int) ^ Min.min (Int.toNat 10) 64 = 1024 := by decide
    have eY : IntKind.u64.wrap (1000 * 18014398509481984) = 18014398509481984000 := by decide
    have eY1 : Int.fdiv 18014398509481984000 4294967296 = 4194304000 := by decide
    have eY0 : bitsA .and .u64 18014398509481984000 4294967295 = 0 := by decide
    have eH : IntKind.u64.wrap (hi * 18014398509481984) = hi * 18014398509481984 := by rw [IntKind.wrap_u64]; omega
    have eL : Int.fdiv lo 1024 = lo / 1024 := Int.fdiv_eq_ediv_of_nonneg _ (by decide)
    have eO : bitsA .or .u64 (hi * 18014398509481984) (lo / 1024) = hi * 18014398509481984 + lo / 1024 := bor54 h0 (by omega) (by omega) (by omega)
    have eS : IntKind.u64.wrap (lo * 18014398509481984) = (lo % 1024) * 18014398509481984 := by rw [IntKind.wrap_u64]; omega
    have e1 : Int.fdiv ((lo % 1024) * 18014398509481984) 4294967296 = (lo % 1024) * 4194304 := by rw [fdiv32]; omega
    have e0 : bitsA .and .u64 ((lo % 1024) * 18014398509481984) 4294967295 = 0 := by rw [band32 (by omega) (by omega)]; omega
    rw [h54]
    simp only [optK, w54, w10, p54, p10, eY, eY1, eY0, eH, eL, eO, eS, e1, e0]
    have hu : ∃ u, u = hi * 18014398509481984 + lo / 1024 := ⟨_, rfl⟩
    obtain ⟨u, hu⟩ := hu
    have hv : ∃ v, v = (lo % 1024) * 4194304 := ⟨_, rfl⟩
    obtain ⟨v, hv⟩ := hv
    rw [← hu, ← hv]
    have u0 : 0 ≤ u := by omega
    rw [Int.tdiv_eq_ediv_of_nonneg u0]
    have wq : IntKind.u64.wrap (u / 4194304000) = u / 4194304000 := by rw [IntKind.wrap_u64]; omega
    have wr : IntKind.u64.wrap (u - IntKind.u64.wrap (u / 4194304000 * 4194304000)) = u % 4194304000 := by simp only [IntKind.wrap_u64]; omega
    rw [wq, wr]
    have nn : ∀ x : Int, ¬ (IntKind.u64.wrap x < 0) := fun x => by rw [IntKind.wrap_u64]; omega
    have z0 : ∀ x : Int, IntKind.u64.wrap (x * 0) = 0 := fun x => by rw [Int.mul_zero]; decide
    have c1 : ¬ (4294967296 ≤ u / 4194304000) := by omega
    have l0e : S.div64_l0 (n + 1) hi lo 1000 (n + 1) 18014398509481984000 54 4194304000 0 u v 0 (u / 4194304000) (u % 4194304000) = some (.inr (18014398509481984000, 54, 4194304000, 0, u, v, 0, u / 4194304000, u % 4194304000, false)) := by
      simp only [S.div64_l0, z0, nn, c1, decide_false, cond_false]
    rw [l0e]
    simp only [optK, Sum.elim_inr]
    unfold S.div64_a0_1
    have t0 : IntKind.u64.wrap (IntKind.u64.wrap (IntKind.u64.wrap (u * 4294967296) + v) - IntKind.u64.wrap (u / 4194304000 * 18014398509481984000)) = u % 4194304000 * 4294967296 + v := by
      simp only [IntKind.wrap_u64]; omega
    rw [t0]
    have ht : ∃ t, t = u % 4194304000 * 4294967296 + v := ⟨_, rfl⟩
    obtain ⟨t, ht⟩ := ht
    rw [← ht]
    have t1 : 0 ≤ t := by omega
    rw [Int.tdiv_eq_ediv_of_nonneg t1]
    have wq : IntKind.u64.wrap (t / 4194304000) = t / 4194304000 := by rw [IntKind.wrap_u64]; omega
    have wr : IntKind.u64.wrap (t - IntKind.u64.wrap (t / 4194304000 * 4194304000)) = t % 4194304000 := by simp only [IntKind.wrap_u64]; omega
    rw [wq, wr]
    have c2 : ¬ (4294967296 ≤ t / 4194304000) := by omega
    have l1e : S.div64_l1 (n + 1) hi lo 1000 (n + 1) 18014398509481984000 54 4194304000 0 0 (u / 4194304000) (t % 4194304000) t (t / 4194304000) = some (.inr (18014398509481984000, 54, 4194304000, 0, 0, u / 4194304000, t % 4194304000, t, t / 4194304000, false)) := by
      simp only [S.div64_l1, z0, nn, c2, decide_false, cond_false]
    rw [l1e]
    simp only [optK, Sum.elim_inr]
    unfold S.div64_a1_1
    have f0 : IntKind.u64.wrap (IntKind.u64.wrap (IntKind.u64.wrap (t * 4294967296) + 0) - IntKind.u64.wrap (t / 4194304000 * 18014398509481984000)) = t % 4194304000 * 4294967296 := by
      simp only [IntKind.wrap_u64]; omega
    rw [f0, p54]
    have f1 : Int.fdiv (t % 4194304000 * 4294967296) 18014398509481984 = (t % 4194304000 * 4294967296) / 18014398509481984 := Int.fdiv_eq_ediv_of_nonneg _ (by decide)
    rw [f1]
    have r1 : IntKind.u64.wrap (IntKind.u64.wrap (u / 4194304000 * 4294967296) + t / 4194304000) = (hi * 18446744073709551616 + lo) / 1000 := by
      simp only [IntKind.wrap_u64]; omega
    have r2 : (t % 4194304000 * 4294967296) / 18014398509481984 = (hi * 18446744073709551616 + lo) % 1000 := by omega
    rw [r1, r2]
    simp [hz, hle]
end Go.Proofs.YtdgipcjigbagfaaGreat.AB
namespace Go.Proofs.YtdgipcjigbagfaaGreat.AB
set_option linter.unusedVariables false
set_option linter.unusedSimpArgs false

/-- a product of thousandths, cut at the ends -/
def mulS (a b : Int) : Int × Int :=
  if 9223372036854775807 < a * b / 1000 then (9223372036854775807, 2) else if a * b / 1000 < -9223372036854775808 then (-9223372036854775808, 2) else (a * b / 1000, 0)

def mag (a : Int) : Int := if a < 0 then -a else a
theorem mag_range {a : Int} (a0 : -9223372036854775808 ≤ a) (a1 : a < 9223372036854775808) : 0 ≤ mag a ∧ mag a ≤ 9223372036854775808 := by
  unfold mag; split <;> omega

theorem far_eq {a : Int} (a0 : -9223372036854775808 ≤ a) (a1 : a < 9223372036854775808) : S.far a = mag a := by
  unfold S.far mag
  by_cases h : a < 0
  · simp only [h, decide_true, cond_true, if_true, IntKind.wrap_u64]; omega
  · simp only [h, decide_false, cond_false, if_false, IntKind.wrap_u64]; omega

theorem mag_mul (a b : Int) : ((decide (a < 0) == decide (b < 0)) = true ∧ a * b = mag a * mag b) ∨ ((decide (a < 0) == decide (b < 0)) = false ∧ a * b = -(mag a * mag b)) := by
  unfold mag
  by_cases h : a < 0 <;> by_cases k : b < 0 <;> simp [h, k, Int.neg_mul, Int.mul_neg]

theorem mag_mul_range {a b : Int} (a0 : -9223372036854775808 ≤ a) (a1 : a < 9223372036854775808) (b0 : -9223372036854775808 ≤ b) (b1 : b < 9223372036854775808) :
    0 ≤ mag a * mag b ∧ mag a * mag b ≤ 85070591730234615865843651857942052864 := by
  obtain ⟨x0, x1⟩ := mag_range a0 a1
  obtain ⟨y0, y1⟩ := mag_range b0 b1
  refine ⟨Int.mul_nonneg x0 y0, ?_⟩
  have := Int.mul_le_mul x1 y1 y0 (by omega)
  omega

theorem mmul_eq {a b : Int} (a0 : -9223372036854775808 ≤ a) (a1 : a < 9223372036854775808) (b0 : -9223372036854775808 ≤ b) (b1 : b < 9223372036854775808) :
    S.mmul a b = some (mulS a b) := by
  obtain ⟨x0, x1⟩ := mag_range a0 a1
  obtain ⟨y0, y1⟩ := mag_range b0 b1
  obtain ⟨p0, p1⟩ := mag_mul_range a0 a1 b0 b1
  unfold S.mmul mulS
  rw [far_eq a0 a1, far_eq b0 b1, mul64_eq x0 (by omega) y0 (by omega)]
  have hs := mag_mul a b
  generalize (decide (a < 0) == decide (b < 0)) = sg at *
  generalize mag a * mag b = p at *
  generalize a * b = ab at *
  by_cases h : 1000 ≤ p / 18446744073709551616
  · rcases hs with ⟨rfl, hab⟩ | ⟨rfl, hab⟩ <;> rw [hab]
    · have h2 : 9223372036854775807 < p / 1000 := by omega
      simp [h, h2, S.mend]
    · have h2 : ¬ 9223372036854775807 < -p / 1000 := by omega
      have h3 : -p / 1000 < -9223372036854775808 := by omega
      simp [h, h2, h3, S.mend]
  · have hd := div64_1000 99999 (hi := p / 18446744073709551616) (lo := p % 18446744073709551616) (by omega) (by omega) (by omega) (by omega)
    have e : p / 18446744073709551616 * 18446744073709551616 + p % 18446744073709551616 = p := by omega
    rw [e] at hd
    simp only [Nat.reduceAdd] at hd
    simp only [h, decide_false, cond_false, hd, optK]
    rcases hs with ⟨rfl, hab⟩ | ⟨rfl, hab⟩ <;> rw [hab]
    · by_cases h2 : 9223372036854775807 < p / 1000
      · simp [h2]
      · have h3 : ¬ p / 1000 < -9223372036854775808 := by omega
        have w : IntKind.i64.wrap (p / 1000) = p / 1000 := by rw [IntKind.wrap_i64]; omega
        simp [h2, h3, w]
    · have h2 : ¬ 9223372036854775807 < -p / 1000 := by omega
      have w1 : IntKind.u64.wrap (p / 1000 + 1) = if p / 1000 = 18446744073709551615 then 0 else p / 1000 + 1 := by rw [IntKind.wrap_u64]; split <;> omega
      by_cases h3 : 0 < p % 1000
      · rw [w1]
        by_cases h4 : p / 1000 = 18446744073709551615
        · have h5 : -p / 1000 < -9223372036854775808 := by omega
          simp [h2, h3, h4, h5]
        · have h6 : ¬ (p / 1000 + 1 = 0) := by omega
          by_cases h5 : 9223372036854775808 < p / 1000 + 1
          · have h7 : -p / 1000 < -9223372036854775808 := by omega
            simp [h2, h3, h4, h5, h7]
          · have h7 : ¬ -p / 1000 < -9223372036854775808 := by omega
            have w : IntKind.i64.wrap (0 - IntKind.i64.wrap (p / 1000 + 1)) = -p / 1000 := by simp only [IntKind.wrap_i64]; omega
            simp [h2, h3, h4, h5, h6, h7]
            simpa using w
      · by_cases h5 : 9223372036854775808 < p / 1000
        · have h7 : -p / 1000 < -9223372036854775808 := by omega
          simp [h2, h3, h5, h7]
        · have h7 : ¬ -p / 1000 < -9223372036854775808 := by omega
          have w : IntKind.i64.wrap (0 - IntKind.i64.wrap (p / 1000)) = -p / 1000 := by simp only [IntKind.wrap_i64]; omega
          simp [h2, h3, h5, h7]
          simpa using w
end Go.Proofs.YtdgipcjigbagfaaGreat.AB
