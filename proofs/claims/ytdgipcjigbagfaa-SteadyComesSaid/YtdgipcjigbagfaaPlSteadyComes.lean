/- SteadyComes answers true. -/
import Derived.Test.YtdgipcjigbagfaaPlSteadyC
import Derived.Test.YtdgipcjigbagfaaPlRmul
import Derived.Test.YtdgipcjigbagfaaSSteadyComes
namespace Go.Proofs.Ytdgipcjigbagfaa.AB
set_option linter.unusedVariables false
set_option linter.unusedSimpArgs false

theorem rper_eq (c : Cf) (hm : S.may c = true) : S.rper c = Pe c := by
  have ht := tu_range c hm
  have hc := (may_iff c).mp hm
  have h1 := hc.target
  have h2 := hc.util
  unfold S.rper
  rw [rmul_eq (by omega) (by omega) (by omega) (by omega), mulS_in (by omega) (by omega)]
  rfl

theorem SteadyComes_true (c : Cf) (load r : Int) : S.SteadyComes 100000 c load r = some true := by
  obtain ⟨P0, eP, p0, p1⟩ := um c.panic (m := 6) (by omega) (by omega)
  have eP1 : IntKind.wrap .i64 (1 + P0) = 1 + P0 := wrap_id (by omega) (by omega)
  have eP2 : IntKind.wrap .u64 (1 + P0) = 1 + P0 := wrap_u (by omega) (by omega)
  obtain ⟨G0, eG, g0, g1⟩ := um c.grain (m := 1 + P0) (by omega) (by omega)
  have eG1 : IntKind.wrap .i64 (1 + G0) = 1 + G0 := wrap_id (by omega) (by omega)
  obtain ⟨S0, eS, s0, s1⟩ := um c.stable (m := 35) (by omega) (by omega)
  have eS1 : IntKind.wrap .i64 (6 + S0) = 6 + S0 := wrap_id (by omega) (by omega)
  obtain ⟨D0, eD, d0, d1⟩ := um c.delay (m := 11) (by omega) (by omega)
  have hz : ¬ 1 + P0 = 0 := by omega
  obtain ⟨d, hd⟩ : ∃ d : Cf, d = ⟨c.target, c.util, 6 + S0, 1 + P0, 1 + G0, c.threshold, if 1100 > c.up then 1100 else c.up, if 1100 > c.down then 1100 else c.down, c.min, c.max, c.initial, c.grace, D0, c.burst, c.limit, c.queue, c.timeout, c.ready, c.subset, c.sample⟩ := ⟨_, rfl⟩
  have hDD : DDc c = d := by unfold DDc; simp only [eP, eP1, eP2, eG, eG1, eS, eS1, eD, ← hd]
  unfold S.SteadyComes
  simp only [hDD, eP, eP1, eP2, eG, eG1, eS, eS1, eD, hz, decide_false, cond_false, ← hd]
  rw [S.q_rmay_eq, rmay_eq, S.q_told26_eq, told26_true]
  cases hm : S.may d with
  | false => simp only [Bool.not_false, cond_true, optK]
  | true =>
    have hok := (may_iff d).mp hm
    have hPe := Pe_range d hm
    have hM := cmost_b d hm
    have hper := rper_eq d hm
    have hmul0 : 0 ≤ Pe d * S.cmost d := Int.mul_nonneg (by omega) (by omega)
    have hmul1 : Pe d * S.cmost d ≤ 1000000 * 100 := Int.mul_le_mul hPe.2 hM.2.2.2 (by omega) (by omega)
    have rmq : S.q_rcmost d = S.cmost d := by rw [S.q_rcmost_eq]; rfl
    have e1 : IntKind.wrap .i64 (Pe d * S.cmost d) = Pe d * S.cmost d := wrap_id (by omega) (by omega)
    have e2 : IntKind.wrap .i64 (Pe d * S.cmost d + 1) = Pe d * S.cmost d + 1 := wrap_id (by omega) (by omega)
    have e3 : IntKind.wrap .u64 (Pe d * S.cmost d + 1) = Pe d * S.cmost d + 1 := wrap_u (by omega) (by omega)
    have e4 : ¬ Pe d * S.cmost d + 1 = 0 := by omega
    obtain ⟨V, eV, v0, v1⟩ := um load (m := Pe d * S.cmost d + 1) (by omega) (by omega)
    have eV1 : (if 1000000000 < V then 1000000000 else V) = V := if_neg (by omega)
    have ds : d.stable = 6 + S0 := by rw [hd]
    have dp : d.panic = 1 + P0 := by rw [hd]
    have dd : d.delay = D0 := by rw [hd]
    have ddn : 1100 ≤ d.down := by rw [hd]; simp only; split <;> omega
    have dmin : d.min = c.min := by rw [hd]
    obtain ⟨T, hT⟩ : ∃ T : Nat, (T : Int) = 400 + 2 * (6 + S0) + (1 + P0) + 40 * D0 := ⟨(400 + 2 * (6 + S0) + (1 + P0) + 40 * D0).toNat, by omega⟩
    have eT : S.tks d = (T : Int) := by rw [tks_eq d hm, ds, dp, dd, hT]
    have eT1 : IntKind.wrap .i64 ((T : Int) + 50) = ((T + 50 : Nat) : Int) := by rw [wrap_id (by omega) (by omega)]; omega
    have eT2 : IntKind.wrap .i64 ((T : Int) - 1) = ((T - 1 : Nat) : Int) := by rw [wrap_id (by omega) (by omega)]; omega
    have eT3 : ¬ (T : Int) < 400 := by omega
    obtain ⟨W, hW⟩ : ∃ W, W = Wn d V := ⟨_, rfl⟩
    have hdiv : (V + Pe d - 1) / Pe d ≤ S.cmost d := by
      have h1 : (V + Pe d - 1) / Pe d ≤ (Pe d * S.cmost d + Pe d - 1) / Pe d := Int.ediv_le_ediv (by omega) (by omega)
      have h2 : (Pe d * S.cmost d + Pe d - 1) / Pe d = S.cmost d := by
        rw [show Pe d * S.cmost d + Pe d - 1 = (Pe d - 1) + Pe d * S.cmost d by omega, Int.add_mul_ediv_left _ _ (show Pe d ≠ 0 by omega), Int.ediv_eq_zero_of_lt (by omega) (by omega), Int.zero_add]
      omega
    have hdiv0 : 0 ≤ (V + Pe d - 1) / Pe d := Int.ediv_nonneg (by omega) (by omega)
    have hWe : W = (V + Pe d - 1) / Pe d := by
      rw [hW]; unfold Wn; rw [cdiv_eq (by omega)]; unfold clampF
      rw [if_neg (by omega), if_neg (by omega)]
    have eA : IntKind.wrap .i64 (Int.tdiv (IntKind.wrap .i64 (IntKind.wrap .i64 (V + Pe d) - 1)) (Pe d)) = W := by
      rw [wrap_id (n := V + Pe d) (by omega) (by omega), wrap_id (n := V + Pe d - 1) (by omega) (by omega), Int.tdiv_eq_ediv_of_nonneg (by omega), ← hWe, wrap_id (by omega) (by omega)]
    have eX : (if W > c.min then W else c.min) = max d.min W := by rw [dmin]; split <;> omega
    have hPz : ¬ Pe d = 0 := by omega
    obtain ⟨st, hst⟩ : ∃ st : Nat, d.stable = (st : Int) := ⟨(6 + S0).toNat, by omega⟩
    obtain ⟨dl, hdl⟩ : ∃ dl : Nat, d.delay = (dl : Int) := ⟨D0.toNat, by omega⟩
    obtain ⟨L, eL, hl, hQ⟩ := comes_core hm hst hdl ddn (V := V) v0 (by omega) hW (by omega) (T := T) (by omega) (by omega) r
    have hloop : ∀ (k i : Nat), T - 1 ≤ i → i ≤ T + 50 → T + 50 < k + i → S.SteadyComes_l0 100000 c load r k (T + 50) i d L = some (.inr (T + 50, ((T + 50 : Nat) : Int), false, d, L)) := by
      intro k
      induction k with
      | zero => intro i _ _ _; omega
      | succ k ih =>
        intro i hi1 hi hk
        unfold S.SteadyComes_l0
        by_cases c2 : i < T + 50
        · have g1 : ((i : Int) < ((T + 50 : Nat) : Int)) := by omega
          have g2 : inB (i : Int) (T + 50) = true := by unfold inB; simp; omega
          obtain ⟨x, hx⟩ : ∃ x, L[i]? = some x := ⟨L[i]'(by omega), by simp⟩
          have g3 : L[Int.toNat (i : Int) + 0]? = some x := by simpa using hx
          have hwi : IntKind.wrap .i64 ((i : Int) + 1) = ((i + 1 : Nat) : Int) := by rw [wrap_id (by omega) (by omega)]; omega
          obtain ⟨q1, q2, q3, q4⟩ := hQ i x hx hi1
          simp only [g1, g2, g3, decide_true, cond_true, optK, q1, q2, q3, q4, cond_false, hDD, eP, eP1, eP2, eG, eG1, eS, eS1, eD, ← hd, hper, rmq, e1, e2, e3, eV, eV1, eA, eX, Bool.not_true, hwi]
          exact ih (i + 1) (by omega) (by omega) (by omega)
        · have g1 : ¬ ((i : Int) < ((T + 50 : Nat) : Int)) := by omega
          have e : i = T + 50 := by omega
          simp only [g1, decide_false, cond_false]
          rw [e]
    have haim : S.aim d V = some (max d.min W) := by
      rw [aim_eq d hm V (by omega), show max V 0 = V by omega, ← hW, bnds_eq]
      congr 1; omega
    simp only [Bool.not_true, cond_false, hper, rmq, e1, e2, e3, e4, decide_false, eV, eV1, eT, eT1, S.q_run_eq, eL, optK, Sum.elim_inr, decide_true, eT3, hPz, eT2, hloop 100000 (T - 1) (by omega) (by omega) (by omega), S.SteadyComes_a0_1, hDD, eP, eP1, eP2, eG, eG1, eS, eS1, eD, ← hd, eA, eX, S.q_told26_eq, told26_true, cond_true, S.q_aim_eq, haim]
end Go.Proofs.Ytdgipcjigbagfaa.AB
