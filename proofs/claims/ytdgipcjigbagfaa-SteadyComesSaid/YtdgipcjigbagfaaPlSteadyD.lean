/- A load that stays, with the document's settings. -/
import Derived.Test.YtdgipcjigbagfaaPlSteadyRun
namespace Go.Proofs.Ytdgipcjigbagfaa.AB
set_option linter.unusedVariables false
set_option linter.unusedSimpArgs false

theorem mostS_no {sp t : Int} {m : Int} : ∀ {q : List (Int × Int)}, (∀ x ∈ q, counts sp t x = false) → mostFrom sp t m q = m
  | [], _ => rfl
  | x :: q, h => by
    unfold mostFrom
    rw [h x (by simp)]
    simp only [Bool.false_eq_true, if_false]
    exact mostS_no (fun y hy => h y (by simp [hy]))
theorem mostS_append {sp t : Int} : ∀ (q r : List (Int × Int)) (m : Int), mostFrom sp t m (q ++ r) = mostFrom sp t (mostFrom sp t m q) r
  | [], r, m => rfl
  | x :: q, r, m => by
    show mostFrom sp t (if counts sp t x then (if x.2 > m then x.2 else m) else m) (q ++ r) = mostFrom sp t (mostFrom sp t (if counts sp t x then (if x.2 > m then x.2 else m) else m) q) r
    exact mostS_append q r _
/-- without a delay just the last one counts -/
theorem most_last {t N : Int} {D : List (Int × Int)} (hD : ∀ x ∈ D, x.1 < t) (hN : 0 ≤ N) : mostFrom 0 t 0 (D.filter (keepT t) ++ [(t, N)]) = N := by
  rw [mostS_append, mostS_no (m := 0)]
  · unfold mostFrom mostFrom counts
    simp only [Int.le_refl, decide_true, Bool.true_or, if_true]
    split <;> omega
  · intro x hx
    have := hD x (List.mem_filter.mp hx).1
    unfold counts
    simp only [Bool.or_eq_false_iff, decide_eq_false_iff_not]
    exact ⟨by omega, by omega⟩
theorem keepS_eq (t m w : Int) : S.keep t m w = if 0 ≤ t then (t, max w m, max w m) else (t, m, w) := by
  unfold S.keep; rw [is_eq]
  by_cases h : 0 ≤ t
  · have e : (if w > m then w else m) = max w m := by split <;> omega
    simp only [h, decide_true, Bool.not_true, cond_false, if_true, e]
  · simp only [h, decide_false, Bool.not_false, cond_true, if_false]

theorem Pe_dfl : Pe dfl = 7000 := by decide
theorem Wn_dfl {V : Int} (h0 : 0 ≤ V) (h1 : V ≤ 700000) : Wn dfl V = (V + 6999) / 7000 := by
  unfold Wn
  rw [Pe_dfl, cdiv_eq (by omega)]
  unfold clampF
  rw [if_neg (by omega), if_neg (by omega)]; omega
theorem Le_dfl {r : Int} (h0 : 0 ≤ r) (h1 : r ≤ 100) : Le dfl r = r / 2 := by
  unfold Le; rw [rcut_small r 0 h0 (by omega) (by omega) (by omega), if_neg (by omega)]
  show 1000 * r / 2000 = r / 2
  omega
theorem Mo_dfl {r : Int} (h0 : 0 ≤ r) (h1 : r ≤ 100) : Mo dfl r = 10 * max r 1 := by
  unfold Mo; rw [rcut_small r 1 h0 (by omega) (by omega) (by omega)]
  show (if 1000000 < (10000 * (if r < 1 then 1 else r) + 999) / 1000 then 1000000 else (10000 * (if r < 1 then 1 else r) + 999) / 1000) = 10 * max r 1
  split <;> split <;> omega
theorem Li_dfl {W r : Int} (h0 : 0 ≤ r) (h1 : r ≤ 100) : Li dfl W r = min (max W (r / 2)) (10 * max r 1) := by
  unfold Li; rw [Le_dfl h0 h1, Mo_dfl h0 h1]
  repeat' split
  all_goals omega
theorem wover_dfl {W r : Int} (w0 : 0 ≤ W) (w1 : W ≤ 1000) (h0 : 0 ≤ r) (h1 : r ≤ 100) : S.wover dfl W r = decide (2 * max r 1 ≤ W) := by
  unfold S.wover
  have q1 : S.wnum1 W 0 = W := by unfold S.wnum1; rw [mclamp_eq]; unfold clampF; rw [if_neg (by omega), if_neg (by omega)]
  have q2 : S.wnum1 r 1 = max r 1 := by unfold S.wnum1; rw [mclamp_eq]; unfold clampF; rw [if_neg (by omega)]; split <;> omega
  rw [dfl_may, q1, q2, show dfl.threshold = 2000 from rfl, wrap_id (by omega) (by omega), wrap_id (by omega) (by omega)]
  simp only [cond_true]
  by_cases h : 2 * max r 1 ≤ W
  · rw [decide_eq_true h]; exact decide_eq_true (by omega)
  · rw [decide_eq_false h]; exact decide_eq_false (by omega)
theorem bnds_dfl {w : Int} (h0 : 0 ≤ w) (h1 : w ≤ 100) : bnds dfl w = w := by
  rw [bnds_eq]
  show max 0 (min w (S.cmost dfl)) = w
  rw [show S.cmost dfl = 100 from rfl]; omega
theorem stepK_dfl {v : Int} {t : Nat} {r si ms : Int} {D : List (Int × Int)} (hD : ∀ x ∈ D, x.1 ≤ t) (hN : 0 ≤ Li dfl (Wn dfl v) r) :
    stepK dfl v t r si ms D = S.keep (stepP dfl v t r si ms).1 (stepP dfl v t r si ms).2 (Li dfl (Wn dfl v) r) := by
  unfold stepK stepD
  rw [show dfl.delay = 0 from rfl, most_last (fun x hx => by have := hD x hx; omega) hN]
theorem stepD_le {c : Cf} {v : Int} {t : Nat} {r : Int} {D : List (Int × Int)} (hD : ∀ x ∈ D, x.1 ≤ t) : ∀ x ∈ stepD c v t r D, x.1 ≤ ((t + 1 : Nat) : Int) := by
  intro x hx
  unfold stepD at hx
  rcases List.mem_append.mp hx with hx | hx
  · have := hD x (List.mem_filter.mp hx).1; omega
  · simp at hx; subst hx; simp
theorem aim_dfl {V : Int} (h0 : 0 ≤ V) (h1 : V ≤ 700000) : IntKind.wrap .i64 (Int.tdiv (IntKind.wrap .i64 (V + 6999)) 7000) = Wn dfl V := by
  rw [Wn_dfl h0 h1, wrap_id (n := V + 6999) (by omega) (by omega), Int.tdiv_eq_ediv_of_nonneg (by omega), wrap_id (by omega) (by omega)]
end Go.Proofs.Ytdgipcjigbagfaa.AB
