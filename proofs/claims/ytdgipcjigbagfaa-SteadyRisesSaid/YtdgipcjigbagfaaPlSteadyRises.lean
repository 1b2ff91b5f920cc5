/- SteadyRises answers true. -/
import Derived.Test.YtdgipcjigbagfaaPlSteadyD
import Derived.Test.YtdgipcjigbagfaaSSteadyRises
namespace Go.Proofs.Ytdgipcjigbagfaa.AB
set_option linter.unusedVariables false
set_option linter.unusedSimpArgs false

/-- how many there are, tick by tick -/
def rU (W : Int) : Nat → Int
  | 0 => 1
  | 1 => min W 10
  | _ + 2 => W

theorem Rises_loop (fu : Nat) (a W : Int) (L : List Dn) (w0 : 0 ≤ W) (hl : L.length = 100) (hL : ∀ i x, L[i]? = some x → x.2.2.2.1 = rU W (i + 1)) :
    ∀ (k i : Nat), 1 ≤ i → i ≤ 100 → 100 < k + i → S.SteadyRises_l0 fu a k 100 i L = some (.inr (100, 100, false, L)) := by
  intro k
  induction k with
  | zero => intro i _ _ _; omega
  | succ k ih =>
    intro i hi1 hi hk
    unfold S.SteadyRises_l0
    by_cases c2 : i < 100
    · have g1 : ((i : Int) < ((100 : Nat) : Int)) := by omega
      have g2 : inB (i : Int) 100 = true := by unfold inB; simp; omega
      obtain ⟨x, hx⟩ : ∃ x, L[i]? = some x := ⟨L[i]'(by omega), by simp⟩
      have g3 : L[Int.toNat (i : Int) + 0]? = some x := by simpa using hx
      have hwi : IntKind.wrap .i64 ((i : Int) + 1) = ((i + 1 : Nat) : Int) := by rw [wrap_id (by omega) (by omega)]; omega
      have hwj : IntKind.wrap .i64 ((i : Int) - 1) = ((i - 1 : Nat) : Int) := by rw [wrap_id (by omega) (by omega)]; omega
      have g4 : inB ((i - 1 : Nat) : Int) 100 = true := by unfold inB; simp; omega
      obtain ⟨y, hy⟩ : ∃ y, L[i - 1]? = some y := ⟨L[i - 1]'(by omega), by simp⟩
      have g5 : L[Int.toNat ((i - 1 : Nat) : Int) + 0]? = some y := by simpa using hy
      have q1 := hL i x hx
      have q2 := hL (i - 1) y hy
      have e1 : rU W (i + 1) = W := by
        obtain ⟨j, rfl⟩ : ∃ j, i = j + 1 := ⟨i - 1, by omega⟩
        rfl
      have e2 : rU W (i - 1 + 1) ≤ W := by
        rcases Nat.eq_or_lt_of_le hi1 with h | h
        · rw [← h]; show min W 10 ≤ W; omega
        · obtain ⟨j, rfl⟩ : ∃ j, i = j + 2 := ⟨i - 2, by omega⟩
          show W ≤ W; omega
      have n1 : ¬ x.2.2.2.1 < y.2.2.2.1 := by rw [q1, q2, e1]; omega
      simp only [g1, g2, g3, hwj, g4, g5, decide_true, cond_true, optK, n1, decide_false, cond_false, hwi]
      exact ih (i + 1) (by omega) (by omega) (by omega)
    · have g1 : ¬ ((i : Int) < ((100 : Nat) : Int)) := by omega
      have e : i = 100 := by omega
      simp only [g1, decide_false, cond_false]
      rw [e]; rfl

theorem SteadyRises_true (a : Int) : S.SteadyRises 100000 a = some true := by
  obtain ⟨V, hV, v0, v1⟩ := um a (m := 700001) (by omega) (by omega)
  have hd : (Cf.mk 10000 700 60 6 1 2000 10000 2000 0 0 1 30 0 20000 10 100 60 3 0 0) = dfl := rfl
  have hW := Wn_dfl v0 (show V ≤ 700000 by omega)
  obtain ⟨W, hWd⟩ : ∃ W, W = Wn dfl V := ⟨_, rfl⟩
  have w0 : 0 ≤ W := by omega
  have w1 : W ≤ 100 := by omega
  obtain ⟨L, e, hl, hQ⟩ := run_ok dfl_may (load := V) (r := 1) (m := 100) (v := V) (snum_id v0 (by omega)) (K := 100) (snum1_id (by omega) (by omega))
    (fun t r si ms D => r = rU W t ∧ (t = 0 → si = -1 ∧ ms = 0) ∧ (t = 1 → ms ≤ min W 10) ∧ ms ≤ W ∧ ∀ x ∈ D, x.1 ≤ (t : Int)) (fun i x => (i = 0 → x.2.2.2.2.1 = decide (2 ≤ W)) ∧ x.2.2.2.1 = rU W (i + 1)) ⟨snum1_id (by omega) (by omega), fun _ => ⟨rfl, rfl⟩, fun h => by omega, w0, fun _ h => (by cases h)⟩ (by
      intro t r si ms D ht r0 r1 hP
      obtain ⟨hr1, h0, h1, hms, hD⟩ := hP
      have eN : Li dfl (Wn dfl V) r = rU W (t + 1) := by
        rw [Li_dfl r0 r1, ← hWd, hr1]
        rcases t with _ | t
        · show min (max W (1 / 2)) (10 * max 1 1) = min W 10; omega
        · rcases t with _ | t
          · show min (max W (min W 10 / 2)) (10 * max (min W 10) 1) = W; omega
          · show min (max W (W / 2)) (10 * max W 1) = W; omega
      have hb : 0 ≤ rU W (t + 1) ∧ rU W (t + 1) ≤ 100 ∧ rU W (t + 1) ≤ W := by
        rcases t with _ | t
        · show 0 ≤ min W 10 ∧ min W 10 ≤ 100 ∧ min W 10 ≤ W; omega
        · show 0 ≤ W ∧ W ≤ 100 ∧ W ≤ W; omega
      have eP : (stepP dfl V t r si ms).2 ≤ rU W (t + 1) ∧ (t = 0 → decide (0 ≤ (stepP dfl V t r si ms).1) = decide (2 ≤ W)) := by
        have hp : stepP dfl V t r si ms = if 2 * max r 1 ≤ W then (if 0 ≤ si then (((t + 1 : Nat) : Int), ms) else (((t + 1 : Nat) : Int), 0)) else if 0 ≤ si ∧ dfl.stable ≤ IntKind.i64.wrap (((t + 1 : Nat) : Int) - si) then (-1, 0) else (si, ms) := by
          unfold stepP
          rw [← hWd, wover_dfl w0 (by omega) r0 r1, next_eq, dfl_may]
          have n1 : ¬ ((t + 1 : Nat) : Int) < 0 := by omega
          have n2 : ¬ 1099511627776 < ((t + 1 : Nat) : Int) := by omega
          simp only [Bool.not_true, n1, n2, decide_false, Bool.or_false, Bool.false_eq_true, if_false, decide_eq_true_eq]
        have hmr : ms ≤ rU W (t + 1) := by
          rcases t with _ | t
          · have := (h0 rfl).2; omega
          · exact hms
        refine ⟨?_, fun ht0 => ?_⟩
        · rw [hp]; repeat' split
          all_goals (simp only; omega)
        · subst ht0
          obtain ⟨hs, hm0⟩ := h0 rfl
          have hr : r = 1 := hr1
          rw [hp, hs, hr]
          by_cases h2 : (2 : Int) ≤ W
          · have h3 : 2 * max (1 : Int) 1 ≤ W := by omega
            rw [if_pos h3, if_neg (by omega)]
            simp [h2]
          · have h3 : ¬ 2 * max (1 : Int) 1 ≤ W := by omega
            rw [if_neg h3, if_neg (by omega)]
            simp [h2]
      have eK := stepK_dfl (v := V) (t := t) (r := r) (si := si) (ms := ms) hD (by rw [eN]; omega)
      rw [eN, keepS_eq] at eK
      obtain ⟨p, hp⟩ : ∃ p, p = stepP dfl V t r si ms := ⟨_, rfl⟩
      rw [← hp] at eK eP
      have eK2 : (stepK dfl V t r si ms D).1 = p.1 ∧ (stepK dfl V t r si ms D).2.1 ≤ rU W (t + 1) ∧ (stepK dfl V t r si ms D).2.2 = rU W (t + 1) := by
        rw [eK]; split
        · exact ⟨rfl, by simp only; omega, by simp only; omega⟩
        · exact ⟨rfl, eP.1, rfl⟩
      obtain ⟨k1, k2, k3⟩ := eK2
      rw [k1, k3, bnds_dfl hb.1 hb.2.1]
      refine ⟨⟨rfl, fun h => by omega, fun h => ?_, by omega, stepD_le hD⟩, fun h => eP.2 h, rfl⟩
      have : t = 0 := by omega
      subst this
      exact k2)
  unfold S.SteadyRises
  simp only [hV, hd, S.q_run_eq, e, optK, Sum.elim_inr, aim_dfl v0 (show V ≤ 700000 by omega), ← hWd]
  have g100 : decide (((100 : Nat) : Int) = 100) = true := rfl
  have i0 : inB 0 100 = true := rfl
  have i99 : inB 99 100 = true := rfl
  obtain ⟨x, hx⟩ : ∃ x, L[0]? = some x := ⟨L[0]'(by omega), by simp⟩
  obtain ⟨y, hy⟩ : ∃ y, L[99]? = some y := ⟨L[99]'(by omega), by simp⟩
  have qx := (hQ 0 x hx).1 rfl
  have qy : y.2.2.2.1 = W := (hQ 99 y hy).2
  have hloop := Rises_loop 100000 a W L w0 hl (fun i x h => (hQ i x h).2) 100000 1 (by omega) (by omega) (by omega)
  have hloop' : S.SteadyRises_l0 100000 a 100000 100 1 L = some (.inr (100, 100, false, L)) := hloop
  simp only [g100, i0, i99, hx, hy, qx, qy, BEq.rfl, decide_true, Bool.not_true, cond_true, cond_false, hloop', optK, Sum.elim_inr, S.SteadyRises_a0_1, S.q_told26_eq, told26_true]
end Go.Proofs.Ytdgipcjigbagfaa.AB
