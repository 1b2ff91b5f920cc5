/- MetricKeeps answers true. -/
import Derived.Test.YtdflpflffccmgaaPlMet
import Derived.Test.YtdflpflffccmgaaSMetricKeeps
namespace Go.Proofs.Ytdflpflffccmgaa.AB
set_option linter.unusedVariables false
set_option linter.unusedSimpArgs false

noncomputable def ldv (l : List Int) (j : Nat) : Int := IntKind.wrap .i64 (Int.tmod (IntKind.wrap .u64 (l[j]?.getD 0)) 1000000)
theorem ldv_b (l : List Int) (j : Nat) : 0 ≤ ldv l j ∧ ldv l j ≤ 1000000 := by
  obtain ⟨k, hk, h0, h1⟩ := um (l[j]?.getD 0) (m := 1000000) (by omega) (by omega)
  unfold ldv; rw [hk]; exact ⟨h0, by omega⟩

structure KC (c : Cf) : Prop where
  may : S.may c = true
  g : c.grain = 1
  s : c.stable = ((60 : Nat) : Int)
  p : c.panic = ((6 : Nat) : Int)

theorem Keeps_l0 (fu : Nat) (l : List Int) (x y : Int) {c : Cf} (hc : KC c) :
    ∀ (k i : Nat) (R0 R1 : Rg), i ≤ 60 → 60 < k + i → i ≤ l.length → MRel c (Seg (ldv l) (i - min i 60) (min i 60)) (Seg (ldv l) (i - min i 6) (min i 6)) R0 R1 → R0.nw = (i : Int) - 1 → R1.nw = (i : Int) - 1 → R0.ov = false → R1.ov = false →
    ∃ (j : Nat) (z1 : Int) (z2 : Bool) (R0' R1' : Rg), S.MetricKeeps_l0 fu l l.length x y k i i c c false R0 R1 = some (.inr ((j : Int), z1, z2, c, c, false, R0', R1')) ∧ j ≤ 60 ∧ MRel c (Seg (ldv l) (j - min j 60) (min j 60)) (Seg (ldv l) (j - min j 6) (min j 6)) R0' R1' ∧ R0'.nw = (j : Int) - 1 ∧ R1'.nw = (j : Int) - 1 ∧ R0'.ov = false ∧ R1'.ov = false := by
  intro k
  induction k with
  | zero => intro i R0 R1 _ _; omega
  | succ k ih =>
    intro i R0 R1 hi hk hil h n0 n1 o0 o1
    unfold S.MetricKeeps_l0
    by_cases c2 : i < l.length
    · have g1 : ((i : Int) < ((l.length : Nat) : Int)) := by omega
      by_cases g : i < 60
      · have g0 : (i : Int) < 60 := by omega
        have g2 : inB (i : Int) l.length = true := by unfold inB; simp; omega
        obtain ⟨o, ho⟩ : ∃ o, l[i]? = some o := ⟨l[i]'c2, by simp⟩
        have g3 : l[Int.toNat (i : Int) + 0]? = some o := by simpa using ho
        have hwi : IntKind.wrap .i64 ((i : Int) + 1) = ((i + 1 : Nat) : Int) := by rw [wrap_id (by omega) (by omega)]; omega
        obtain ⟨R0', R1', e, hM, q0, q1, v0, v1⟩ := met_step (mc := c) (mo := false) hc.may hc.g hc.s hc.p (by omega) (by omega) (by omega) (by omega) (ldv_b l) (by omega) (t := i) (by omega) h n0 n1
        have ev : IntKind.wrap .i64 (Int.tmod (IntKind.wrap .u64 o) 1000000) = ldv l i := by unfold ldv; rw [ho]; rfl
        simp only [g1, g0, g2, g3, decide_true, cond_true, optK, hwi, ev]
        rw [S.q_mput_eq, e]
        simp only [optK, decide_true, Bool.not_true, cond_false]
        exact ih (i + 1) R0' R1' (by omega) (by omega) (by omega) hM q0 q1 (by rw [v0, o0]) (by rw [v1, o1])
      · have g0 : ¬ (i : Int) < 60 := by omega
        simp only [g1, g0, decide_true, decide_false, cond_true, cond_false]
        exact ⟨i, _, _, R0, R1, rfl, hi, h, n0, n1, o0, o1⟩
    · have g1 : ¬ ((i : Int) < ((l.length : Nat) : Int)) := by omega
      simp only [g1, decide_false, cond_false]
      exact ⟨i, _, _, R0, R1, rfl, hi, h, n0, n1, o0, o1⟩

theorem MetricKeeps_true (l : List Int) (x y : Int) : S.MetricKeeps 100000 l l.length x y = some true := by
  obtain ⟨X, hX, x0, x1⟩ := um x (m := 1000) (by omega) (by omega)
  obtain ⟨Y, hY, y0, y1⟩ := um y (m := 100) (by omega) (by omega)
  have w1 : IntKind.wrap .i64 (10 + X) = 10 + X := wrap_id (by omega) (by omega)
  have w2 : IntKind.wrap .i64 (60 + Y) = 60 + Y := wrap_id (by omega) (by omega)
  have w3 : IntKind.wrap .i64 (61 + (60 + Y)) = 61 + (60 + Y) := wrap_id (by omega) (by omega)
  unfold S.MetricKeeps
  obtain ⟨c, hcd⟩ : ∃ c : Cf, c = ⟨10000, 700, 60, 6, 1, 2000, 10000, 2000, 0, 0, 1, 30, 0, 20000, 10, 100, 60, 3, 0, 0⟩ := ⟨_, rfl⟩
  have hm : S.may c = true := by
    rw [may_iff, hcd]
    constructor <;> (try simp only [eq_self, if_true, true_or]) <;> omega
  have hc : KC c := ⟨hm, by rw [hcd], by rw [hcd]; rfl, by rw [hcd]; rfl⟩
  rw [← hcd, S.q_mnew_p_eq, mnew_yes hm]
  simp only [optK, Sum.elim_inr]
  obtain ⟨j, z1, z2, R0, R1, e, hj, hM, n0, n1, o0, o1⟩ := Keeps_l0 100000 l x y hc 100000 0 (rg0 c.stable c.grain) (rg0 c.panic c.grain) (by omega) (by omega) (by omega) (mrel0 c) (by simp [rg0]) (by simp [rg0]) rfl rfl
  have e' : S.MetricKeeps_l0 100000 l l.length x y 100000 0 0 c c false (rg0 c.stable c.grain) (rg0 c.panic c.grain) = _ := e
  simp only [e', optK, Sum.elim_inr, S.MetricKeeps_a0_1, hX, hY, w1, w2, w3]
  obtain ⟨d, hdd⟩ : ∃ d : Cf, d = ⟨10 + X, c.util, 60 + Y, c.panic, c.grain, c.threshold, c.up, c.down, c.min, 7, c.initial, c.grace, c.delay, c.burst, c.limit, c.queue, c.timeout, c.ready, c.subset, c.sample⟩ := ⟨_, rfl⟩
  obtain ⟨d2, hdd2⟩ : ∃ d2 : Cf, d2 = ⟨10 + X, c.util, 60 + Y, 61 + (60 + Y), c.grain, c.threshold, c.up, c.down, c.min, 7, c.initial, c.grace, c.delay, c.burst, c.limit, c.queue, c.timeout, c.ready, c.subset, c.sample⟩ := ⟨_, rfl⟩
  rw [← hdd, ← hdd2]
  have hd : S.may d = true := by
    rw [may_iff, hdd, hcd]
    have : ¬ ((7 : Int) = 0) := by omega
    constructor <;> (try simp only [this, if_false]) <;> omega
  have hd2 : S.may d2 = false := by
    cases hh : S.may d2 with
    | false => rfl
    | true =>
      have h1 := ((may_iff _).mp hh).panic
      rw [hdd2] at h1
      simp only at h1
      omega
  have hg : d.grain = c.grain := by rw [hdd]
  have hg1 : d.grain = 1 := by rw [hg, hc.g]
  have hds : d.stable = 60 + Y := by rw [hdd]
  have hdp : d.panic = c.panic := by rw [hdd]
  obtain ⟨R0a, R1a, ea, hMa, na, nb, va, vb⟩ := mmeans_ok (mc := c) (mo := false) hm hM (t := (j : Int)) (by omega) (by omega) (by rw [seg_len]; omega) (by rw [seg_len]; omega)
  have r0 := mn_range (w := c.stable) (g := c.grain) (t := (j : Int)) hM.r0.tk (seg_le (ldv_b l) _ _) (by omega) (by omega) (by rw [seg_len]; omega)
  have r1 := mn_range (w := c.panic) (g := c.grain) (t := (j : Int)) hM.r1.tk (seg_le (ldv_b l) _ _) (by omega) (by omega) (by rw [seg_len]; omega)
  rw [o0, r0.2.2] at va
  rw [o1, r1.2.2] at vb
  obtain ⟨R0b, R1b, eb, hMb, na2, nb2, va2, vb2⟩ := mchange_ok (mo := false) hd hg hMa (by rw [seg_len]; omega) (by rw [seg_len]; omega)
  have f0 : (Seg (ldv l) (j - min j 60) (min j 60)).filter (Kp d.grain (NB d.stable d.grain) R0a.nw) = Seg (ldv l) (j - min j 60) (min j 60) := by
    refine seg_all _ _ _ _ fun i h1 h2 => ?_
    rw [hg1, hds, NB1 _ (by omega), na, n0]
    unfold Kp; rw [bk1]; exact decide_eq_true (by simp only; omega)
  have f1 : (Seg (ldv l) (j - min j 6) (min j 6)).filter (Kp d.grain (NB d.panic d.grain) R1a.nw) = Seg (ldv l) (j - min j 6) (min j 6) := by
    refine seg_all _ _ _ _ fun i h1 h2 => ?_
    rw [hg1, hdp, hc.p, NB1 _ (by omega), nb, n1]
    unfold Kp; rw [bk1]; exact decide_eq_true (by simp only; omega)
  rw [f0, f1] at hMb
  obtain ⟨R0c, R1c, ec, hMc, na3, nb3, va3, vb3⟩ := mmeans_ok (mc := d) (mo := false) hd hMb (t := (j : Int)) (by omega) (by omega) (by rw [seg_len]; omega) (by rw [seg_len]; omega)
  have s0 := mn_range (w := d.stable) (g := d.grain) (t := (j : Int)) hMb.r0.tk (seg_le (ldv_b l) _ _) (by omega) (by omega) (by rw [seg_len]; omega)
  have s1 := mn_range (w := d.panic) (g := d.grain) (t := (j : Int)) hMb.r1.tk (seg_le (ldv_b l) _ _) (by omega) (by omega) (by rw [seg_len]; omega)
  rw [va2, va, s0.2.2] at va3
  rw [vb2, vb, s1.2.2] at vb3
  have ep : mn d.panic d.grain (j : Int) (Seg (ldv l) (j - min j 6) (min j 6)) = mn c.panic c.grain (j : Int) (Seg (ldv l) (j - min j 6) (min j 6)) := by rw [hdp, hg]
  have es : j ≤ 59 → mn d.stable d.grain (j : Int) (Seg (ldv l) (j - min j 60) (min j 60)) = mn c.stable c.grain (j : Int) (Seg (ldv l) (j - min j 60) (min j 60)) := by
    intro h59
    rw [hg1, hc.g, hds, hc.s]
    rw [mn_seg (ldv l) (ldv_b l) (by omega) (60 + Y) (j : Int) _ _ (by omega) (by omega) (fun i h1 h2 => by omega)]
    rw [mn_seg (ldv l) (ldv_b l) (by omega) (((60 : Nat) : Int)) (j : Int) _ _ (by omega) (by omega) (fun i h1 h2 => by omega)]
  rw [S.q_mmeans_eq, ea]
  simp only [S.q_mchange_eq, eb, S.q_mmeans_eq, ec]
  have ed : S.mchange d false R0c R1c d2 = some (1, d, false, R0c, R1c) := by unfold S.mchange; simp only [hd2, Bool.not_false, cond_true]
  simp only [ed, ep, decide_true, cond_true]
  have ov : S.mover d false R0c R1c = false := by unfold S.mover S.ro; rw [va3, vb3]; rfl
  rw [ov]
  by_cases h59 : j ≤ 59
  · have g : ¬ (59 < (j : Int)) := by omega
    simp only [g, es h59, decide_true, decide_false, cond_true, cond_false, Bool.not_false]
  · have g : (59 < (j : Int)) := by omega
    simp only [g, decide_true, cond_true, Bool.not_false]
end Go.Proofs.Ytdflpflffccmgaa.AB
