/- SteadyFalls answers true. -/
import Derived.Test.YtdgipcjigbagfaaPlSteadyD
import Derived.Test.YtdgipcjigbagfaaSSteadyFalls
namespace Go.Proofs.Ytdgipcjigbagfaa.AB
set_option linter.unusedVariables false
set_option linter.unusedSimpArgs false

theorem halfF_pow {r : Int} {i : Nat} (h : r * (2 : Int) ^ i ≤ 100) : r / 2 * (2 : Int) ^ (i + 1) ≤ 100 := by
  rw [Int.pow_succ]
  have h1 : (r / 2 * 2) * (2 : Int) ^ i ≤ r * 2 ^ i := Int.mul_le_mul_of_nonneg_right (by omega) (Int.le_of_lt (Int.pow_pos (by omega)))
  have h2 : r / 2 * (2 ^ i * 2) = (r / 2 * 2) * (2 : Int) ^ i := by rw [Int.mul_assoc, Int.mul_comm (2 ^ i) 2]
  omega
/-- how many there are, tick by tick -/
def rF (W R : Int) : Nat → Int
  | 0 => R
  | t + 1 => max W (rF W R t / 2)
theorem rF_b {W R : Int} (h0 : 0 ≤ W) (hR : W ≤ R) (h1 : R ≤ 100) : ∀ t, W ≤ rF W R t ∧ rF W R t ≤ 100 ∧ (rF W R t = W ∨ rF W R t * (2 : Int) ^ t ≤ 100)
  | 0 => ⟨hR, h1, .inr (by simp [rF]; exact h1)⟩
  | t + 1 => by
    obtain ⟨a, b, d⟩ := rF_b h0 hR h1 t
    unfold rF
    refine ⟨by omega, by omega, ?_⟩
    by_cases h : W < rF W R t / 2
    · rcases d with d | d
      · omega
      · right
        rw [show max W (rF W R t / 2) = rF W R t / 2 by omega]
        exact halfF_pow d
    · left; omega
theorem rF_end {W R : Int} (h0 : 0 ≤ W) (hR : W ≤ R) (h1 : R ≤ 100) : rF W R 40 = W := by
  obtain ⟨a, b, d⟩ := rF_b h0 hR h1 40
  rcases d with d | d
  · exact d
  · have e : (2 : Int) ^ 40 = 1099511627776 := by decide
    rw [e] at d; omega

theorem Falls_loop (fu : Nat) (a b W R : Int) (L : List Dn) (w0 : 0 ≤ W) (wR : W ≤ R) (R1 : R ≤ 100) (hl : L.length = 40) (hL : ∀ i x, L[i]? = some x → x.2.2.2.2.1 = false ∧ x.2.2.2.1 = rF W R (i + 1)) :
    ∀ (k i : Nat), i ≤ 40 → 40 < k + i → S.SteadyFalls_l0 fu a b k 40 (rF W R i) i L = some (.inr (40, rF W R 40, 40, false, L)) := by
  intro k
  induction k with
  | zero => intro i _ _; omega
  | succ k ih =>
    intro i hi hk
    unfold S.SteadyFalls_l0
    by_cases c2 : i < 40
    · have g1 : ((i : Int) < ((40 : Nat) : Int)) := by omega
      have g2 : inB (i : Int) 40 = true := by unfold inB; simp; omega
      obtain ⟨x, hx⟩ : ∃ x, L[i]? = some x := ⟨L[i]'(by omega), by simp⟩
      have g3 : L[Int.toNat (i : Int) + 0]? = some x := by simpa using hx
      have hwi : IntKind.wrap .i64 ((i : Int) + 1) = ((i + 1 : Nat) : Int) := by rw [wrap_id (by omega) (by omega)]; omega
      obtain ⟨q1, q2⟩ := hL i x hx
      obtain ⟨b0, b1, _⟩ := rF_b w0 wR R1 i
      have e : rF W R (i + 1) = max W (rF W R i / 2) := rfl
      have n1 : ¬ rF W R i < rF W R (i + 1) := by rw [e]; omega
      have hw : IntKind.wrap .i64 (Int.tdiv (rF W R i) 2) = rF W R i / 2 := by rw [Int.tdiv_eq_ediv_of_nonneg (by omega), wrap_id (by omega) (by omega)]
      have n2 : ¬ rF W R (i + 1) < rF W R i / 2 := by rw [e]; omega
      simp only [g1, g2, g3, decide_true, cond_true, optK, q1, q2, cond_false, n1, n2, decide_false, hw, hwi]
      exact ih (i + 1) (by omega) (by omega)
    · have g1 : ¬ ((i : Int) < ((40 : Nat) : Int)) := by omega
      have e : i = 40 := by omega
      simp only [g1, decide_false, cond_false]
      rw [e]; rfl

theorem SteadyFalls_true (a b : Int) : S.SteadyFalls 100000 a b = some true := by
  obtain ⟨V, hV, v0, v1⟩ := um a (m := 70001) (by omega) (by omega)
  obtain ⟨B, hB, b0, b1⟩ := um b (m := 81) (by omega) (by omega)
  have hd : (Cf.mk 10000 700 60 6 1 2000 10000 2000 0 0 1 30 0 20000 10 100 60 3 0 0) = dfl := rfl
  have hr : IntKind.wrap .i64 (20 + B) = 20 + B := wrap_id (by omega) (by omega)
  have hW := Wn_dfl v0 (show V ≤ 700000 by omega)
  obtain ⟨W, hWd⟩ : ∃ W, W = Wn dfl V := ⟨_, rfl⟩
  have w0 : 0 ≤ W := by omega
  have w1 : W ≤ 10 := by omega
  obtain ⟨L, e, hl, hQ⟩ := run_ok dfl_may (load := V) (r := 20 + B) (m := 40) (v := V) (snum_id v0 (by omega)) (K := 40) (snum1_id (by omega) (by omega))
    (fun t r si ms D => r = rF W (20 + B) t ∧ si = -1 ∧ ∀ x ∈ D, x.1 ≤ (t : Int)) (fun i x => x.2.2.2.2.1 = false ∧ x.2.2.2.1 = rF W (20 + B) (i + 1)) ⟨snum1_id (by omega) (by omega), rfl, fun _ h => (by cases h)⟩ (by
      intro t r si ms D ht r0 r1 hP
      obtain ⟨hr1, hs, hD⟩ := hP
      obtain ⟨q0, q1, _⟩ := rF_b w0 (show W ≤ 20 + B by omega) (show 20 + B ≤ 100 by omega) t
      rw [← hr1] at q0 q1
      have eN : Li dfl (Wn dfl V) r = rF W (20 + B) (t + 1) := by
        rw [Li_dfl r0 r1, ← hWd]
        show _ = max W (rF W (20 + B) t / 2)
        rw [← hr1]; omega
      have hb := rF_b w0 (show W ≤ 20 + B by omega) (show 20 + B ≤ 100 by omega) (t + 1)
      have eP : stepP dfl V t r si ms = (-1, ms) := by
        unfold stepP
        rw [← hWd, wover_dfl w0 (by omega) r0 r1, decide_eq_false (by omega), next_eq, dfl_may, hs]
        simp
      have eK : stepK dfl V t r si ms D = (-1, ms, rF W (20 + B) (t + 1)) := by
        rw [stepK_dfl hD (by rw [eN]; omega), eP, eN, keepS_eq, if_neg (by simp only; omega)]
      rw [eK]
      simp only
      rw [bnds_dfl (by omega) hb.2.1]
      refine ⟨⟨?_, ?_, stepD_le hD⟩, ?_, ?_⟩ <;> first | trivial | rfl)
  unfold S.SteadyFalls
  simp only [hV, hB, hr, hd, S.q_run_eq, e, optK, Sum.elim_inr]
  have hloop := Falls_loop 100000 a b W (20 + B) L w0 (by omega) (by omega) hl hQ 100000 0 (by omega) (by omega)
  have hloop' : S.SteadyFalls_l0 100000 a b 100000 40 (20 + B) 0 L = some (.inr (40, rF W (20 + B) 40, 40, false, L)) := hloop
  have g40 : decide (((40 : Nat) : Int) = 40) = true := rfl
  simp only [g40, Bool.not_true, cond_false, hloop', optK, Sum.elim_inr, S.SteadyFalls_a0_1, S.q_told26_eq, told26_true, cond_true, hV, aim_dfl v0 (show V ≤ 700000 by omega), rF_end w0 (show W ≤ 20 + B by omega) (show 20 + B ≤ 100 by omega), ← hWd, decide_true]
end Go.Proofs.Ytdgipcjigbagfaa.AB
