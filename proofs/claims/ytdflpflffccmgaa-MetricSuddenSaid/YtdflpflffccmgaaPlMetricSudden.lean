/- MetricSudden answers true. -/
import Derived.Test.YtdflpflffccmgaaPlMet
import Derived.Test.YtdflpflffccmgaaSMetricSudden
namespace Go.Proofs.Ytdflpflffccmgaa.AB
set_option linter.unusedVariables false
set_option linter.unusedSimpArgs false

def two (X Y : Int) (j : Nat) : Int := if j < 100 then X else Y
theorem tot_two (X Y : Int) : ∀ (n s : Nat), tot (two X Y) s n = ((min (s + n) 100 - min s 100 : Nat) : Int) * X + ((n - (min (s + n) 100 - min s 100) : Nat) : Int) * Y
  | 0, s => by simp [tot]
  | n + 1, s => by
    unfold tot
    rw [tot_two X Y n (s + 1)]
    by_cases h : s < 100
    · have e1 : (min (s + (n + 1)) 100 - min s 100 : Nat) = (min (s + 1 + n) 100 - min (s + 1) 100 : Nat) + 1 := by omega
      have e2 : (n + 1 - (min (s + (n + 1)) 100 - min s 100) : Nat) = (n - (min (s + 1 + n) 100 - min (s + 1) 100) : Nat) := by omega
      rw [e2, e1]
      unfold two
      rw [if_pos h]
      rw [show (((min (s + 1 + n) 100 - min (s + 1) 100 : Nat) + 1 : Nat) : Int) = ((min (s + 1 + n) 100 - min (s + 1) 100 : Nat) : Int) + 1 by omega, Int.add_mul]
      omega
    · have e1 : (min (s + (n + 1)) 100 - min s 100 : Nat) = (min (s + 1 + n) 100 - min (s + 1) 100 : Nat) := by omega
      have e2 : (n + 1 - (min (s + 1 + n) 100 - min (s + 1) 100) : Nat) = (n - (min (s + 1 + n) 100 - min (s + 1) 100) : Nat) + 1 := by omega
      rw [e1, e2]
      unfold two
      rw [if_neg h]
      rw [show (((n - (min (s + 1 + n) 100 - min (s + 1) 100) : Nat) + 1 : Nat) : Int) = ((n - (min (s + 1 + n) 100 - min (s + 1) 100) : Nat) : Int) + 1 by omega, Int.add_mul]
      omega

theorem spec_eq {k W X Y : Int} (k0 : 0 ≤ k) (k1 : k ≤ W) (W1 : 1 ≤ W) (W2 : W ≤ 60) (x0 : 0 ≤ X) (x1 : X < 1000000) (y0 : 0 ≤ Y) (y1 : Y < 1000000) :
    IntKind.wrap .i64 (Int.tdiv (IntKind.wrap .i64 (IntKind.wrap .i64 (k * Y) + IntKind.wrap .i64 (IntKind.wrap .i64 (W - k) * X))) W) = (k * Y + (W - k) * X).tdiv W := by
  have a0 : 0 ≤ k * Y := Int.mul_nonneg k0 y0
  have a1 : k * Y ≤ 60 * 1000000 := Int.mul_le_mul (by omega) (by omega) y0 (by omega)
  have b0 : 0 ≤ (W - k) * X := Int.mul_nonneg (by omega) x0
  have b1 : (W - k) * X ≤ 60 * 1000000 := Int.mul_le_mul (by omega) (by omega) x0 (by omega)
  rw [wrap_id (n := k * Y) (by omega) (by omega), wrap_id (n := W - k) (by omega) (by omega), wrap_id (n := (W - k) * X) (by omega) (by omega), wrap_id (n := k * Y + (W - k) * X) (by omega) (by omega)]
  have d0 : 0 ≤ (k * Y + (W - k) * X).tdiv W := Int.tdiv_nonneg (by omega) (by omega)
  have d1 : (k * Y + (W - k) * X).tdiv W ≤ k * Y + (W - k) * X := by
    rw [Int.tdiv_eq_ediv_of_nonneg (by omega)]; exact Int.ediv_le_self _ (by omega)
  exact wrap_id (by omega) (by omega)

/-- what the mean of a window is, in the second run -/
theorem mean_two {X Y : Int} (x0 : 0 ≤ X) (x1 : X < 1000000) (y0 : 0 ≤ Y) (y1 : Y < 1000000) {W t : Nat} (W1 : 1 ≤ W) (W2 : W ≤ 60) (t0 : 100 ≤ t) (t1 : t < 200) :
    mn (W : Int) 1 (t : Int) (Seg (two X Y) (t + 1 - min (t + 1) W) (min (t + 1) W)) =
      IntKind.wrap .i64 (Int.tdiv (IntKind.wrap .i64 (IntKind.wrap .i64 ((if (W : Int) < IntKind.wrap .i64 ((t : Int) - 99) then (W : Int) else IntKind.wrap .i64 ((t : Int) - 99)) * Y) + IntKind.wrap .i64 (IntKind.wrap .i64 ((W : Int) - if (W : Int) < IntKind.wrap .i64 ((t : Int) - 99) then (W : Int) else IntKind.wrap .i64 ((t : Int) - 99)) * X))) W) := by
  have hv : ∀ j, 0 ≤ two X Y j ∧ two X Y j ≤ 1000000 := by intro j; unfold two; split <;> omega
  rw [mn_seg (two X Y) hv (by omega) (W : Int) (t : Int) _ _ (by omega) (by omega) (fun j h1 h2 => by omega)]
  rw [wrap_id (n := (t : Int) - 99) (by omega) (by omega)]
  rw [spec_eq (by split <;> omega) (by split <;> omega) (by omega) (by omega) x0 x1 y0 y1]
  rw [show min (t + 1) W = W by omega, tot_two]
  unfold meanOf
  rw [if_neg (by omega)]
  congr 1
  by_cases c : (W : Int) < (t : Int) - 99
  · rw [if_pos c]
    rw [show (min (t + 1 - W + W) 100 - min (t + 1 - W) 100 : Nat) = 0 by omega]
    simp
  · rw [if_neg c]
    rw [show (W - (min (t + 1 - W + W) 100 - min (t + 1 - W) 100) : Nat) = t - 99 by omega, show (min (t + 1 - W + W) 100 - min (t + 1 - W) 100 : Nat) = W - (t - 99) by omega]
    rw [show ((W - (t - 99) : Nat) : Int) = (W : Int) - ((t : Int) - 99) by omega, show ((t - 99 : Nat) : Int) = (t : Int) - 99 by omega]
    omega

structure DC (c : Cf) : Prop where
  may : S.may c = true
  g : c.grain = 1
  s : c.stable = ((60 : Nat) : Int)
  p : c.panic = ((6 : Nat) : Int)

theorem Sudden_l0 (fu : Nat) (a b : Int) {X Y : Int} (hX : IntKind.wrap .i64 (Int.tmod (IntKind.wrap .u64 a) 1000000) = X) (x0 : 0 ≤ X) (x1 : X < 1000000) (y0 : 0 ≤ Y) (y1 : Y < 1000000) {c : Cf} (hc : DC c) :
    ∀ (k i : Nat) (R0 R1 : Rg), i ≤ 100 → 100 < k + i → MRel c (Seg (two X Y) (i - min i 60) (min i 60)) (Seg (two X Y) (i - min i 6) (min i 6)) R0 R1 → R0.nw = (i : Int) - 1 → R1.nw = (i : Int) - 1 →
    ∃ z0 z1 R0' R1', S.MetricSudden_l0 fu a b k i c false R0 R1 = some (.inr (z0, z1, c, false, R0', R1')) ∧ MRel c (Seg (two X Y) (100 - min 100 60) (min 100 60)) (Seg (two X Y) (100 - min 100 6) (min 100 6)) R0' R1' ∧ R0'.nw = ((100 : Nat) : Int) - 1 ∧ R1'.nw = ((100 : Nat) : Int) - 1 := by
  have hv : ∀ j, 0 ≤ two X Y j ∧ two X Y j ≤ 1000000 := by intro j; unfold two; split <;> omega
  intro k
  induction k with
  | zero => intro i R0 R1 _ _; omega
  | succ k ih =>
    intro i R0 R1 hi hk h n0 n1
    unfold S.MetricSudden_l0
    by_cases g : i < 100
    · have g1 : (i : Int) < 100 := by omega
      have hwi : IntKind.wrap .i64 ((i : Int) + 1) = ((i + 1 : Nat) : Int) := by rw [wrap_id (by omega) (by omega)]; omega
      obtain ⟨R0', R1', e, hM, q0, q1, _, _⟩ := met_step (mc := c) (mo := false) hc.may hc.g hc.s hc.p (by omega) (by omega) (by omega) (by omega) hv (by omega) (t := i) (by omega) h n0 n1
      have ev : two X Y i = X := by unfold two; rw [if_pos g]
      rw [ev] at e
      simp only [g1, decide_true, cond_true, hX, hwi]
      rw [S.q_mput_eq, e]
      simp only [optK, decide_true, Bool.not_true, cond_false]
      exact ih (i + 1) R0' R1' (by omega) (by omega) hM q0 q1
    · have g1 : ¬ (i : Int) < 100 := by omega
      have hi2 : i = 100 := by omega
      subst hi2
      simp only [g1, decide_false, cond_false]
      exact ⟨_, _, R0, R1, rfl, h, n0, n1⟩

theorem Sudden_l1 (fu : Nat) (a b : Int) {X Y : Int} (hX : IntKind.wrap .i64 (Int.tmod (IntKind.wrap .u64 a) 1000000) = X) (hY : IntKind.wrap .i64 (Int.tmod (IntKind.wrap .u64 b) 1000000) = Y) (x0 : 0 ≤ X) (x1 : X < 1000000) (y0 : 0 ≤ Y) (y1 : Y < 1000000) {c : Cf} (hc : DC c) :
    ∀ (k i : Nat) (R0 R1 : Rg), 100 ≤ i → i ≤ 200 → 200 < k + i → MRel c (Seg (two X Y) (i - min i 60) (min i 60)) (Seg (two X Y) (i - min i 6) (min i 6)) R0 R1 → R0.nw = (i : Int) - 1 → R1.nw = (i : Int) - 1 →
    ∃ z, S.MetricSudden_l1 fu a b k i c false R0 R1 = some (.inr z) := by
  have hv : ∀ j, 0 ≤ two X Y j ∧ two X Y j ≤ 1000000 := by intro j; unfold two; split <;> omega
  intro k
  induction k with
  | zero => intro i R0 R1 _ _; omega
  | succ k ih =>
    intro i R0 R1 hi0 hi hk h n0 n1
    unfold S.MetricSudden_l1
    by_cases g : i < 200
    · have g1 : (i : Int) < 200 := by omega
      have hwi : IntKind.wrap .i64 ((i : Int) + 1) = ((i + 1 : Nat) : Int) := by rw [wrap_id (by omega) (by omega)]; omega
      obtain ⟨R0', R1', e, hM, q0, q1, _, _⟩ := met_step (mc := c) (mo := false) hc.may hc.g hc.s hc.p (by omega) (by omega) (by omega) (by omega) hv (by omega) (t := i) (by omega) h n0 n1
      have ev : two X Y i = Y := by unfold two; rw [if_neg (by omega)]
      rw [ev] at e
      obtain ⟨R0'', R1'', e2, hM2, p0, p1, _, _⟩ := mmeans_ok (mc := c) (mo := false) hc.may hM (t := (i : Int)) (by omega) (by omega) (by rw [seg_len]; omega) (by rw [seg_len]; omega)
      have m1 := mean_two x0 x1 y0 y1 (W := 60) (t := i) (by omega) (by omega) hi0 g
      have m2 := mean_two x0 x1 y0 y1 (W := 6) (t := i) (by omega) (by omega) hi0 g
      rw [hc.g, hc.s, hc.p, m1, m2] at e2
      simp only [g1, decide_true, cond_true, hX, hY, hwi]
      rw [S.q_mput_eq, e]
      simp only [optK, decide_true, Bool.not_true, cond_false]
      rw [S.q_mmeans_eq, e2]
      have f1 : (((60 : Nat) : Int)) = 60 := rfl
      have f2 : (((6 : Nat) : Int)) = 6 := rfl
      simp only [optK, f1, f2, decide_true, Bool.not_true, cond_false]
      exact ih (i + 1) R0'' R1'' (by omega) (by omega) (by omega) hM2 (by rw [p0, q0]) (by rw [p1, q1])
    · have g1 : ¬ (i : Int) < 200 := by omega
      simp only [g1, decide_false, cond_false]
      exact ⟨_, rfl⟩

theorem MetricSudden_true (a b : Int) : S.MetricSudden 100000 a b = some true := by
  obtain ⟨X, hX, x0, x1⟩ := um a (m := 1000000) (by omega) (by omega)
  obtain ⟨Y, hY, y0, y1⟩ := um b (m := 1000000) (by omega) (by omega)
  unfold S.MetricSudden
  obtain ⟨c, hcd⟩ : ∃ c : Cf, c = ⟨10000, 700, 60, 6, 1, 2000, 10000, 2000, 0, 0, 1, 30, 0, 20000, 10, 100, 60, 3, 0, 0⟩ := ⟨_, rfl⟩
  have hm : S.may c = true := by
    rw [may_iff, hcd]
    constructor <;> (try simp only [eq_self, if_true, true_or]) <;> omega
  have hc : DC c := ⟨hm, by rw [hcd], by rw [hcd]; rfl, by rw [hcd]; rfl⟩
  rw [← hcd, S.q_mnew_p_eq, mnew_yes hm]
  simp only [optK, Sum.elim_inr]
  obtain ⟨z0, z1, R0, R1, e, hM, n0, n1⟩ := Sudden_l0 100000 a b hX x0 x1 y0 y1 hc 100000 0 (rg0 c.stable c.grain) (rg0 c.panic c.grain) (by omega) (by omega) (mrel0 c) (by simp [rg0]) (by simp [rg0])
  have e' : S.MetricSudden_l0 100000 a b 100000 0 c false (rg0 c.stable c.grain) (rg0 c.panic c.grain) = _ := e
  obtain ⟨z, e2⟩ := Sudden_l1 100000 a b hX hY x0 x1 y0 y1 hc 100000 100 R0 R1 (by omega) (by omega) (by omega) hM n0 n1
  have e2' : S.MetricSudden_l1 100000 a b 100000 100 c false R0 R1 = _ := e2
  simp only [e', optK, Sum.elim_inr, S.MetricSudden_a0_1, e2', S.MetricSudden_a1_1]
end Go.Proofs.Ytdflpflffccmgaa.AB
