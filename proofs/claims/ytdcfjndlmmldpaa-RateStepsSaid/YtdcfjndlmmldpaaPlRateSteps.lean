/- RateSteps answers true. -/
import Derived.Test.YtdcfjndlmmldpaaPlRate
import Derived.Test.YtdcfjndlmmldpaaSRateSteps
namespace Go.Proofs.Ytdcfjndlmmldpaa.AB
set_option linter.unusedVariables false
set_option linter.unusedSimpArgs false

theorem may_rates (u d : Int) (u0 : 1100 ≤ u) (u1 : u ≤ 100000) (d0 : 1100 ≤ d) (d1 : d ≤ 100000) : S.may ⟨10000, 700, 60, 6, 1, 2000, u, d, 0, 0, 1, 30, 0, 20000, 10, 100, 60, 3, 0, 0⟩ = true := by
  have e1 : 1001 ≤ u := by omega
  have e2 : u ≤ 1000000 := by omega
  have e3 : 1001 ≤ d := by omega
  have e4 : d ≤ 1000000 := by omega
  simp [S.may, S.wrong, within_eq, within1_eq, e1, e2, e3, e4, bs]

def stepsUp : Nat → Int
  | 0 => 1
  | k + 1 => if 100 < (1100 * stepsUp k + 999) / 1000 then 100 else (1100 * stepsUp k + 999) / 1000
def stepsDown : Nat → Int
  | 0 => 100
  | k + 1 => 1000 * stepsDown k / 1100

theorem li_up (u d n : Int) (u0 : 1100 ≤ u) (u1 : u ≤ 100000) (d0 : 1100 ≤ d) (d1 : d ≤ 100000) (n0 : 1 ≤ n) (n1 : n < 100) :
    Li ⟨10000, 700, 60, 6, 1, 2000, u, d, 0, 0, 1, 30, 0, 20000, 10, 100, 60, 3, 0, 0⟩ 100 n = if 100 < (u * n + 999) / 1000 then 100 else (u * n + 999) / 1000 := by
  obtain ⟨l0, l1, l2⟩ := Le_lt ⟨10000, 700, 60, 6, 1, 2000, u, d, 0, 0, 1, 30, 0, 20000, 10, 100, 60, 3, 0, 0⟩ (may_rates u d u0 u1 d0 d1) n (by omega) (by omega)
  have hu : u * n ≤ 100000 * n := Int.mul_le_mul_of_nonneg_right u1 (by omega)
  unfold Li
  rw [if_neg (by omega : ¬ Le ⟨10000, 700, 60, 6, 1, 2000, u, d, 0, 0, 1, 30, 0, 20000, 10, 100, 60, 3, 0, 0⟩ n > 100)]
  unfold Mo
  rw [rcut_small n 1 (by omega) (by omega) (by omega) (by omega), if_neg (by omega : ¬ n < 1)]
  simp only
  generalize u * n = p at *
  repeat' split
  all_goals omega

theorem li_down (u d n : Int) (u0 : 1100 ≤ u) (u1 : u ≤ 100000) (d0 : 1100 ≤ d) (d1 : d ≤ 100000) (n0 : 1 ≤ n) (n1 : n ≤ 100) :
    Li ⟨10000, 700, 60, 6, 1, 2000, u, d, 0, 0, 1, 30, 0, 20000, 10, 100, 60, 3, 0, 0⟩ 0 n = 1000 * n / d := by
  have hm := may_rates u d u0 u1 d0 d1
  obtain ⟨l0, l1, l2⟩ := Le_lt _ hm n (by omega) (by omega)
  obtain ⟨m0, m1⟩ := Mo_gt _ hm n (by omega) (by omega)
  have e : Le ⟨10000, 700, 60, 6, 1, 2000, u, d, 0, 0, 1, 30, 0, 20000, 10, 100, 60, 3, 0, 0⟩ n = 1000 * n / d := by
    unfold Le
    rw [rcut_small n 0 (by omega) (by omega) (by omega) (by omega), if_neg (by omega)]
  rw [e] at l0 l1 l2
  unfold Li
  rw [e]
  generalize Mo ⟨10000, 700, 60, 6, 1, 2000, u, d, 0, 0, 1, 30, 0, 20000, 10, 100, 60, 3, 0, 0⟩ n = m at *
  generalize 1000 * n / d = l at *
  repeat' split
  all_goals omega

theorem rate_up (fu : Nat) (a b u d : Int) (hu : IntKind.wrap .i64 (1100 + IntKind.wrap .i64 (Int.tmod (IntKind.wrap .u64 a) 98901)) = u) (hd : IntKind.wrap .i64 (1100 + IntKind.wrap .i64 (Int.tmod (IntKind.wrap .u64 b) 98901)) = d)
    (u0 : 1100 ≤ u) (u1 : u ≤ 100000) (d0 : 1100 ≤ d) (d1 : d ≤ 100000) : ∀ (n k : Nat) (y : Int), k ≤ 60 → 60 < n + k → stepsUp k ≤ y → 1 ≤ y → y ≤ 100 →
    ∃ z1 z2, S.RateSteps_l0 fu a b n y k = some (.inr (100, z1, z2)) := by
  intro n
  induction n with
  | zero => intro k y _ _ _ _ _; omega
  | succ n ih =>
    intro k y hk hn hs h1 h2
    unfold S.RateSteps_l0
    rw [hu, hd]
    by_cases c1 : y < 100
    · by_cases c2 : k < 60
      · have g2 : ((k : Int) < 60) := by omega
        have hm := may_rates u d u0 u1 d0 d1
        have hw : IntKind.wrap .i64 ((k : Int) + 1) = ((k + 1 : Nat) : Int) := by rw [wrap_id (by omega) (by omega)]; omega
        have p0 : 1100 * y ≤ u * y := Int.mul_le_mul_of_nonneg_right u0 (by omega)
        have p1 : u * y ≤ 100000 * y := Int.mul_le_mul_of_nonneg_right u1 (by omega)
        simp only [c1, g2, decide_true, cond_true, S.q_limit_eq, limit_eq _ hm, optK, hw]
        rw [li_up u d y u0 u1 d0 d1 h1 c1, wrap_id (n := u * y) (by omega) (by omega)]
        generalize u * y = p at *
        have hx : ∃ x, x = (if 100 < (p + 999) / 1000 then 100 else (p + 999) / 1000) := ⟨_, rfl⟩
        obtain ⟨x, hx⟩ := hx
        rw [← hx]
        have x1 : y < x ∧ x ≤ 100 ∧ x * 1000 < p + 1000 := by subst hx; split <;> omega
        have x2 : stepsUp (k + 1) ≤ x := by
          unfold stepsUp
          subst hx
          split <;> split <;> omega
        rw [wrap_id (n := p + 1000) (by omega) (by omega), wrap_id (n := x * 1000) (by omega) (by omega)]
        have g3 : ¬ x ≤ y := by omega
        have g4 : ¬ p + 1000 ≤ x * 1000 := by omega
        simp only [g3, g4, decide_false, cond_false]
        exact ih (k + 1) x (by omega) (by omega) x2 (by omega) (by omega)
      · have e : k = 60 := by omega
        subst e
        have : stepsUp 60 = 100 := by decide +kernel
        omega
    · have e : y = 100 := by omega
      subst e
      simp only [c1, decide_false, cond_false]
      exact ⟨_, _, rfl⟩

theorem rate_down (fu : Nat) (a b u d : Int) (hu : IntKind.wrap .i64 (1100 + IntKind.wrap .i64 (Int.tmod (IntKind.wrap .u64 a) 98901)) = u) (hd : IntKind.wrap .i64 (1100 + IntKind.wrap .i64 (Int.tmod (IntKind.wrap .u64 b) 98901)) = d)
    (u0 : 1100 ≤ u) (u1 : u ≤ 100000) (d0 : 1100 ≤ d) (d1 : d ≤ 100000) : ∀ (n k : Nat) (y : Int), k ≤ 60 → 60 < n + k → y ≤ stepsDown k → 0 ≤ y → y ≤ 100 →
    ∃ z1 z2, S.RateSteps_l1 fu a b n y k 100 = some (.inr (0, z1, 100, z2)) := by
  intro n
  induction n with
  | zero => intro k y _ _ _ _ _; omega
  | succ n ih =>
    intro k y hk hn hs h1 h2
    unfold S.RateSteps_l1
    rw [hu, hd]
    by_cases c1 : 0 < y
    · by_cases c2 : k < 60
      · have g2 : ((k : Int) < 60) := by omega
        have hm := may_rates u d u0 u1 d0 d1
        have hw : IntKind.wrap .i64 ((k : Int) + 1) = ((k + 1 : Nat) : Int) := by rw [wrap_id (by omega) (by omega)]; omega
        simp only [c1, g2, decide_true, cond_true, S.q_limit_eq, limit_eq _ hm, optK, hw]
        rw [li_down u d y u0 u1 d0 d1 (by omega) h2]
        have q0 : 0 ≤ 1000 * y / d := Int.ediv_nonneg (by omega) (by omega)
        have q1 := Int.ediv_mul_le (1000 * y) (b := d) (by omega)
        have q2 := Int.lt_ediv_add_one_mul_self (1000 * y) (b := d) (by omega)
        generalize 1000 * y / d = x at *
        have q3 : x * 1100 ≤ x * d := Int.mul_le_mul_of_nonneg_left d0 q0
        have q4 : (x + 1) * d ≤ (x + 1) * 100000 := Int.mul_le_mul_of_nonneg_left d1 (by omega)
        have x1 : x < y := by omega
        have x2 : x ≤ stepsDown (k + 1) := by unfold stepsDown; omega
        rw [wrap_id (n := x + 1) (by omega) (by omega), wrap_id (n := (x + 1) * d) (by omega) (by omega), wrap_id (n := 1000 * y) (by omega) (by omega)]
        have g3 : ¬ y ≤ x := by omega
        have g4 : ¬ (x + 1) * d ≤ 1000 * y := by omega
        simp only [g3, g4, decide_false, cond_false]
        exact ih (k + 1) x (by omega) (by omega) x2 (by omega) (by omega)
      · have e : k = 60 := by omega
        subst e
        have : stepsDown 60 = 0 := by decide +kernel
        omega
    · have e : y = 0 := by omega
      subst e
      simp only [c1, decide_false, cond_false]
      exact ⟨_, _, rfl⟩

theorem RateSteps_true (fu : Nat) (a b : Int) (hf : 61 ≤ fu) : S.RateSteps fu a b = some true := by
  obtain ⟨a0, a1⟩ := umod_range a 98901 (by decide)
  obtain ⟨b0, b1⟩ := umod_range b 98901 (by decide)
  have hu : IntKind.wrap .i64 (1100 + IntKind.wrap .i64 (Int.tmod (IntKind.wrap .u64 a) 98901)) = 1100 + Int.tmod (IntKind.wrap .u64 a) 98901 := by
    rw [wrap_id (n := Int.tmod (IntKind.wrap .u64 a) 98901) (by omega) (by omega), wrap_id (by omega) (by omega)]
  have hd : IntKind.wrap .i64 (1100 + IntKind.wrap .i64 (Int.tmod (IntKind.wrap .u64 b) 98901)) = 1100 + Int.tmod (IntKind.wrap .u64 b) 98901 := by
    rw [wrap_id (n := Int.tmod (IntKind.wrap .u64 b) 98901) (by omega) (by omega), wrap_id (by omega) (by omega)]
  obtain ⟨z1, z2, hz⟩ := rate_up fu a b _ _ hu hd (by omega) (by omega) (by omega) (by omega) fu 0 1 (by omega) (by omega) (by decide) (by omega) (by omega)
  obtain ⟨z3, z4, hy⟩ := rate_down fu a b _ _ hu hd (by omega) (by omega) (by omega) (by omega) fu 0 100 (by omega) (by omega) (by decide) (by omega) (by omega)
  have hz' : S.RateSteps_l0 fu a b fu 1 0 = some (.inr (100, z1, z2)) := hz
  have hy' : S.RateSteps_l1 fu a b fu 100 0 100 = some (.inr (0, z3, 100, z4)) := hy
  unfold S.RateSteps
  rw [hz']
  simp only [optK, Sum.elim_inr, S.RateSteps_a0_1, hy', S.RateSteps_a1_1, decide_true, cond_true]
end Go.Proofs.Ytdcfjndlmmldpaa.AB
