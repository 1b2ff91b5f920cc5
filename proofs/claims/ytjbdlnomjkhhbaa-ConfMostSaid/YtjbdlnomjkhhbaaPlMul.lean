/- Products of layer 1. -/
import Derived.Test.YtjbdlnomjkhhbaaPlBits
import Derived.Test.YtjbdlnomjkhhbaaSmilli
namespace Go.Proofs.Ytjbdlnomjkhhbaa.AB
set_option linter.unusedVariables false
set_option linter.unusedSimpArgs false

theorem fdiv32 (a : Int) : Int.fdiv a 4294967296 = a / 4294967296 := Int.fdiv_eq_ediv_of_nonneg _ (by decide)

theorem mul64_eq {a b : Int} (a0 : 0 ≤ a) (a1 : a < 18446744073709551616) (b0 : 0 ≤ b) (b1 : b < 18446744073709551616) :
    S.mul64 a b = (a * b / 18446744073709551616, a * b % 18446744073709551616) := by
  unfold S.mul64
  rw [band32 a0 a1, band32 b0 b1]
  simp only [fdiv32]
  have ha : a = (a / 4294967296) * 4294967296 + a % 4294967296 := by omega
  have hb : b = (b / 4294967296) * 4294967296 + b % 4294967296 := by omega
  have x0 : 0 ≤ a / 4294967296 ∧ a / 4294967296 ≤ 4294967295 := by omega
  have x1 : 0 ≤ a % 4294967296 ∧ a % 4294967296 ≤ 4294967295 := by omega
  have y0 : 0 ≤ b / 4294967296 ∧ b / 4294967296 ≤ 4294967295 := by omega
  have y1 : 0 ≤ b % 4294967296 ∧ b % 4294967296 ≤ 4294967295 := by omega
  generalize a / 4294967296 = p at *
  generalize a % 4294967296 = q at *
  generalize b / 4294967296 = r at *
  generalize b % 4294967296 = s at *
  have hab : a * b = p * r * 18446744073709551616 + p * s * 4294967296 + q * r * 4294967296 + q * s := by
    rw [ha, hb]
    simp only [Int.add_mul, Int.mul_add]
    have e1 : p * 4294967296 * (r * 4294967296) = p * r * 18446744073709551616 := by
      rw [Int.mul_assoc p, ← Int.mul_assoc 4294967296 r, Int.mul_comm 4294967296 r, Int.mul_assoc r, ← Int.mul_assoc p r]; rfl
    have e2 : p * 4294967296 * s = p * s * 4294967296 := by rw [Int.mul_assoc, Int.mul_comm 4294967296, ← Int.mul_assoc]
    have e3 : q * (r * 4294967296) = q * r * 4294967296 := by rw [← Int.mul_assoc]
    rw [e1, e2, e3]; omega
  have bnd : ∀ (u v : Int), 0 ≤ u ∧ u ≤ 4294967295 → 0 ≤ v ∧ v ≤ 4294967295 → 0 ≤ u * v ∧ u * v ≤ 18446744065119617025 := by
    intro u v hu hv
    refine ⟨Int.mul_nonneg hu.1 hv.1, ?_⟩
    have := Int.mul_le_mul hu.2 hv.2 hv.1 (by omega)
    omega
  obtain ⟨m0, m1⟩ := bnd p r x0 y0
  obtain ⟨m2, m3⟩ := bnd p s x0 y1
  obtain ⟨m4, m5⟩ := bnd q r x1 y0
  obtain ⟨m6, m7⟩ := bnd q s x1 y1
  rw [hab]
  clear hab ha hb
  generalize p * r = A at *
  generalize p * s = B at *
  generalize q * r = C at *
  generalize q * s = D at *
  have w1 : IntKind.u64.wrap D = D := by rw [IntKind.wrap_u64]; omega
  have w2 : IntKind.u64.wrap B = B := by rw [IntKind.wrap_u64]; omega
  have w3 : IntKind.u64.wrap (B + D / 4294967296) = B + D / 4294967296 := by rw [IntKind.wrap_u64]; omega
  have w4 : IntKind.u64.wrap C = C := by rw [IntKind.wrap_u64]; omega
  have w5 : IntKind.u64.wrap A = A := by rw [IntKind.wrap_u64]; omega
  rw [w1, w2, w3, w4, w5, band32 (by omega) (by omega)]
  have w6 : IntKind.u64.wrap ((B + D / 4294967296) % 4294967296 + C) = (B + D / 4294967296) % 4294967296 + C := by rw [IntKind.wrap_u64]; omega
  rw [w6]
  simp only [IntKind.wrap_u64]
  refine Prod.ext ?_ ?_ <;> first | (simp only; done) | (simp only; omega)

theorem bor54 {m y : Int} (h0 : 0 ≤ m) (h1 : m < 1024) (y0 : 0 ≤ y) (y1 : y < 18014398509481984) : bitsA .or .u64 (m * 18014398509481984) y = m * 18014398509481984 + y := by
  show IntKind.u64.wrap (((BitVec.ofInt 64 (m * 18014398509481984) ||| BitVec.ofInt 64 y).toNat : Nat) : Int) = _
  rw [BitVec.toNat_or, BitVec.toNat_ofInt, BitVec.toNat_ofInt]
  have e : ((m * 18014398509481984) % ((2 ^ 64 : Nat) : Int)).toNat = m.toNat <<< 54 := by
    rw [Int.emod_eq_of_lt (by omega) (by simp; omega), Nat.shiftLeft_eq]; omega
  have e2 : (y % ((2 ^ 64 : Nat) : Int)).toNat = y.toNat := by
    rw [Int.emod_eq_of_lt y0 (by simp; omega)]
  rw [e, e2, ← Nat.shiftLeft_add_eq_or_of_lt (by omega), Nat.shiftLeft_eq, IntKind.wrap_u64]
  omega

theorem div64_1000 (n : Nat) {hi lo : Int} (h0 : 0 ≤ hi) (h1 : hi < 1000) (l0 : 0 ≤ lo) (l1 : lo < 18446744073709551616) :
    S.div64 (n + 1) hi lo 1000 = some ((hi * 18446744073709551616 + lo) / 1000, (hi * 18446744073709551616 + lo) % 1000) := by
  by_cases hz : hi = 0
  · subst hz
    unfold S.div64
    rw [Int.tdiv_eq_ediv_of_nonneg l0, Int.tmod_eq_emod_of_nonneg l0]
    have w : IntKind.u64.wrap (lo / 1000) = lo / 1000 := by rw [IntKind.wrap_u64]; omega
    rw [w]
    simp
  · have hle : ¬ (1000 ≤ hi) := by omega
    unfold S.div64
    have h54 : S.lz64 1000 = some 54 := by rfl
    have w54 : IntKind.u64.wrap 54 = 54 := by decide
    have w10 : IntKind.u64.wrap (64 - 54) = 10 := by decide
    have p54 : (2 : Int) ^ Min.min (Int.toNat 54) 64 = 18014398509481984 := by decide
    have p10 : (2 : Int) ^ Min.min (Int.toNat 10) 64 = 1024 := by decide
    have eY : IntKind.u64.wrap (1000 * 18014398509481984) = 18014398509481984000 := by decide
    have eY1 : Int.fdiv 18014398509481984000 4294967296 = 4194304000 := by decide
    have eY0 : bitsA .and .u64 18014398509481984000 4294967295 = 0 := by decide
    have eH : IntKind.u64.wrap (hi * 18014398509481984) = hi * 18014398509481984 := by rw [IntKind.wrap_u64]; omega
    have eL : Int.fdiv lo 1024 = lo / 1024 := Int.fdiv_eq_ediv_of_nonneg _ (by decide)
    have eO : bitsA .or .u64 (hi * 18014398509481984) (lo / 1024) = hi * 18014398509481984 + lo / 1024 := bor54 h0 (by omega) (by omega) (by omega)
    have eS : IntKind.u64.wrap (lo * 18014398509481984) = (lo % 1024) * 18014398509481984 := by rw [IntKind.wrap_u64]; omega
    have e1 : Int.fdiv ((lo % 1024) * 18014398509481984) 4294967296 = (lo % 1024) * 4194304 := by rw [fdiv32]; omega
    have e0 : bitsA .and .u64 ((lo % 1024) * 18014398509481984) 4294967295 = 0 := by rw [band32 (by omega) (by omega)]; omega
    rw [h54]
    simp only [optK, w54, w10, p54, p10, eY, eY1, eY0, eH, eL, eO, eS, e1, e0]
    have hu : ∃ u, u = hi * 18014398509481984 + lo / 1024 := ⟨_, rfl⟩
    obtain ⟨u, hu⟩ := hu
    have hv : ∃ v, v = (lo % 1024) * 4194304 := ⟨_, rfl⟩
    obtain ⟨v, hv⟩ := hv
    rw [← hu, ← hv]
    have u0 : 0 ≤ u := by omega
    rw [Int.tdiv_eq_ediv_of_nonneg u0]
    have wq : IntKind.u64.wrap (u / 4194304000) = u / 4194304000 := by rw [IntKind.wrap_u64]; omega
    have wr : IntKind.u64.wrap (u - IntKind.u64.wrap (u / 4194304000 * 4194304000)) = u % 4194304000 := by simp only [IntKind.wrap_u64]; omega
    rw [wq, wr]
    have nn : ∀ x : Int, ¬ (IntKind.u64.wrap x < 0) := fun x => by rw [IntKind.wrap_u64]; omega
    have z0 : ∀ x : Int, IntKind.u64.wrap (x * 0) = 0 := fun x => by rw [Int.mul_zero]; decide
    have c1 : ¬ (4294967296 ≤ u / 4194304000) := by omega
    have l0e : S.div64_l0 (n + 1) hi lo 1000 (n + 1) 18014398509481984000 54 4194304000 0 u v 0 (u / 4194304000) (u % 4194304000) = some (.inr (18014398509481984000, 54, 4194304000, 0, u, v, 0, u / 4194304000, u % 4194304000, false)) := by
      simp only [S.div64_l0, z0, nn, c1, decide_false, cond_false]
    rw [l0e]
    simp only [optK, Sum.elim_inr]
    unfold S.div64_a0_1
    have t0 : IntKind.u64.wrap (IntKind.u64.wrap (IntKind.u64.wrap (u * 4294967296) + v) - IntKind.u64.wrap (u / 4194304000 * 18014398509481984000)) = u % 4194304000 * 4294967296 + v := by
      simp only [IntKind.wrap_u64]; omega
    rw [t0]
    have ht : ∃ t, t = u % 4194304000 * 4294967296 + v := ⟨_, rfl⟩
    obtain ⟨t, ht⟩ := ht
    rw [← ht]
    have t1 : 0 ≤ t := by omega
    rw [Int.tdiv_eq_ediv_of_nonneg t1]
    have wq : IntKind.u64.wrap (t / 4194304000) = t / 4194304000 := by rw [IntKind.wrap_u64]; omega
    have wr : IntKind.u64.wrap (t - IntKind.u64.wrap (t / 4194304000 * 4194304000)) = t % 4194304000 := by simp only [IntKind.wrap_u64]; omega
    rw [wq, wr]
    have c2 : ¬ (4294967296 ≤ t / 4194304000) := by omega
    have l1e : S.div64_l1 (n + 1) hi lo 1000 (n + 1) 18014398509481984000 54 4194304000 0 0 (u / 4194304000) (t % 4194304000) t (t / 4194304000) = some (.inr (18014398509481984000, 54, 4194304000, 0, 0, u / 4194304000, t % 4194304000, t, t / 4194304000, false)) := by
      simp only [S.div64_l1, z0, nn, c2, decide_false, cond_false]
    rw [l1e]
    simp only [optK, Sum.elim_inr]
    unfold S.div64_a1_1
    have f0 : IntKind.u64.wrap (IntKind.u64.wrap (IntKind.u64.wrap (t * 4294967296) + 0) - IntKind.u64.wrap (t / 4194304000 * 18014398509481984000)) = t % 4194304000 * 4294967296 := by
      simp only [IntKind.wrap_u64]; omega
    rw [f0, p54]
    have f1 : Int.fdiv (t % 4194304000 * 4294967296) 18014398509481984 = (t % 4194304000 * 4294967296) / 18014398509481984 := Int.fdiv_eq_ediv_of_nonneg _ (by decide)
    rw [f1]
    have r1 : IntKind.u64.wrap (IntKind.u64.wrap (u / 4194304000 * 4294967296) + t / 4194304000) = (hi * 18446744073709551616 + lo) / 1000 := by
      simp only [IntKind.wrap_u64]; omega
    have r2 : (t % 4194304000 * 4294967296) / 18014398509481984 = (hi * 18446744073709551616 + lo) % 1000 := by omega
    rw [r1, r2]
    simp [hz, hle]
end Go.Proofs.Ytjbdlnomjkhhbaa.AB
