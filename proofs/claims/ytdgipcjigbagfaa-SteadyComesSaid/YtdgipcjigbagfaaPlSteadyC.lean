/- A load that stays, borne by the most: what comes in the end. -/
import Derived.Test.YtdgipcjigbagfaaPlSteadyD
namespace Go.Proofs.Ytdgipcjigbagfaa.AB
set_option linter.unusedVariables false
set_option linter.unusedSimpArgs false

theorem mostS_ge {sp t : Int} : ∀ (q : List (Int × Int)) (m : Int), m ≤ mostFrom sp t m q
  | [], m => Int.le_refl _
  | x :: q, m => by
    unfold mostFrom
    refine Int.le_trans ?_ (mostS_ge q _)
    split
    · split <;> omega
    · exact Int.le_refl _
theorem mostS_le {sp t b : Int} : ∀ (q : List (Int × Int)) (m : Int), m ≤ b → (∀ x ∈ q, counts sp t x = true → x.2 ≤ b) → mostFrom sp t m q ≤ b
  | [], m, h, _ => h
  | x :: q, m, h, hq => by
    unfold mostFrom
    refine mostS_le q _ ?_ (fun y hy => hq y (by simp [hy]))
    split
    · rename_i hc
      have := hq x (by simp) hc
      split <;> omega
    · exact h

/-- a bound that falls -/
def Bf : Nat → Nat
  | 0 => 100
  | k + 1 => 10 * Bf k / 11
theorem Bf_step (k : Nat) : Bf (k + 1) ≤ Bf k := by show 10 * Bf k / 11 ≤ Bf k; omega
theorem Bf_anti {a b : Nat} (h : a ≤ b) : Bf b ≤ Bf a := by
  induction h with
  | refl => exact Nat.le_refl _
  | step _ ih => exact Nat.le_trans (Bf_step _) ih
theorem Bf_30 : Bf 30 = 0 := by decide
theorem Bf_end {k : Nat} (h : 30 ≤ k) : Bf k = 0 := by have := Bf_anti h; rw [Bf_30] at this; omega

def Rb (X : Int) (T2 dl t : Nat) : Int := max X (Bf ((t - T2) / (dl + 1)) : Int)
def Ub (X : Int) (T2 dl s : Nat) : Int := max X (Bf ((s - 1 - T2) / (dl + 1) + 1) : Int)
theorem Ub_Rb {X : Int} {T2 dl s s' : Nat} (h : s ≤ s' + dl) (h1 : 1 ≤ s') : Ub X T2 dl s' ≤ Rb X T2 dl s := by
  unfold Ub Rb
  have : (s - T2) / (dl + 1) ≤ (s' - 1 - T2) / (dl + 1) + 1 := by
    have e : (s' - 1 - T2) / (dl + 1) + 1 = (s' - 1 - T2 + (dl + 1)) / (dl + 1) := (Nat.add_div_right _ (by omega)).symm
    rw [e]
    exact Nat.div_le_div_right (by omega)
  have := Bf_anti this
  omega

theorem Le_11 {d : Cf} (hdn : 1100 ≤ d.down) {r : Int} (r0 : 0 ≤ r) (r1 : r ≤ 100) : Le d r ≤ 10 * r / 11 := by
  unfold Le; rw [rcut_small r 0 r0 (by omega) (by omega) (by omega), if_neg (by omega)]
  have h1 := Int.ediv_mul_le (1000 * r) (b := d.down) (by omega)
  have h0 : 0 ≤ 1000 * r / d.down := Int.ediv_nonneg (by omega) (by omega)
  generalize 1000 * r / d.down = q at *
  have h3 : q * 1100 ≤ q * d.down := Int.mul_le_mul_of_nonneg_left hdn h0
  omega

theorem comes_core {d : Cf} (hm : S.may d = true) {st dl : Nat} (hst : d.stable = st) (hdl : d.delay = dl) (hdn : 1100 ≤ d.down) {V W : Int} (v0 : 0 ≤ V) (v1 : V ≤ 1000000000) (hW : W = Wn d V) (hWM : W ≤ S.cmost d) {T : Nat} (hT : 400 + 2 * st + 40 * dl ≤ T) (hT2 : T ≤ 29000) (r : Int) :
    ∃ L : List Dn, S.run 100000 d V r ((T + 50 : Nat) : Int) = some (.inr (T + 50, L)) ∧ L.length = T + 50 ∧ ∀ i x, L[i]? = some x → (T - 1 ≤ i → x.2.2.2.2.1 = false ∧ x.2.2.2.1 = max d.min W ∧ x.2.1 = V ∧ x.2.2.1 = V) := by
  have hc := cmost_b d hm
  have hok := (may_iff d).mp hm
  have hth := hok.threshold
  have hs6 := hok.stable
  have hrW := Wn_range d V
  rw [← hW] at hrW
  obtain ⟨X, hX⟩ : ∃ X, X = max d.min W := ⟨_, rfl⟩
  obtain ⟨T2, hT2d⟩ : ∃ T2, T2 = 100 + st := ⟨_, rfl⟩
  have hb0 := snum1_b r 100 (by omega)
  refine run_ok hm (v := V) (snum_id v0 v1) (K := T + 50) (snum1_id (by omega) (by omega))
    (fun t r si ms D => min W (t : Int) ≤ r ∧ (t = 0 ∨ d.min ≤ r) ∧ r ≤ Rb X T2 dl t ∧ si ≤ 100 ∧ ∀ x ∈ D, ∃ s : Nat, x.1 = (s : Int) ∧ 1 ≤ s ∧ s ≤ t ∧ x.2 ≤ Ub X T2 dl s)
    (fun i x => T - 1 ≤ i → x.2.2.2.2.1 = false ∧ x.2.2.2.1 = max d.min W ∧ x.2.1 = V ∧ x.2.2.1 = V) ⟨by omega, .inl rfl, ?_, by omega, fun _ h => (by cases h)⟩ ?_
  · have e : (0 - T2) / (dl + 1) = 0 := by rw [Nat.zero_sub, Nat.zero_div]
    unfold Rb; rw [e]
    show _ ≤ max X ((100 : Nat) : Int)
    omega
  intro t r si ms D ht r0 r1 hP
  obtain ⟨p1, p2, p3, p4, p5⟩ := hP
  have eN : ∃ N, N = Li d (Wn d V) r := ⟨_, rfl⟩
  obtain ⟨N, hN⟩ := eN
  have hMo := Mo_gt d hm r r0 (by omega)
  have hLe := Le_lt d hm r r0 (by omega)
  have hL11 := Le_11 hdn r0 r1
  have hNe : N = min (max W (Le d r)) (Mo d r) := by
    rw [hN, ← hW]; unfold Li
    generalize Le d r = a at *
    generalize Mo d r = b at *
    repeat' split
    all_goals omega
  have hN1 : min W (((t + 1 : Nat) : Int)) ≤ N := by rw [hNe]; omega
  have hN0 : 0 ≤ N := by rw [hNe]; omega
  have hN2 : N ≤ Ub X T2 dl (t + 1) := by
    have h1 : N ≤ max W (10 * r / 11) := by rw [hNe]; omega
    unfold Rb at p3
    unfold Ub
    rw [show t + 1 - 1 - T2 = t - T2 by omega]
    have h2 : Bf ((t - T2) / (dl + 1) + 1) = 10 * Bf ((t - T2) / (dl + 1)) / 11 := rfl
    rw [h2]
    generalize Bf ((t - T2) / (dl + 1)) = b at *
    omega
  -- what holds
  obtain ⟨D', hD'⟩ : ∃ D', D' = stepD d V t r D := ⟨_, rfl⟩
  have hDe : D' = D.filter (keepT ((t + 1 : Nat) : Int)) ++ [(((t + 1 : Nat) : Int), N)] := by rw [hD', hN]; rfl
  have hDm : ∀ x ∈ D', ∃ s : Nat, x.1 = (s : Int) ∧ 1 ≤ s ∧ s ≤ t + 1 ∧ x.2 ≤ Ub X T2 dl s := by
    intro x hx
    rw [hDe] at hx
    rcases List.mem_append.mp hx with hx | hx
    · obtain ⟨s, a, b, e, f⟩ := p5 x (List.mem_filter.mp hx).1
      exact ⟨s, a, b, by omega, f⟩
    · simp at hx; subst hx; exact ⟨t + 1, rfl, by omega, by omega, hN2⟩
  obtain ⟨w, hw⟩ : ∃ w, w = mostFrom d.delay ((t + 1 : Nat) : Int) 0 D' := ⟨_, rfl⟩
  have hw1 : N ≤ w := by
    rw [hw, hDe, mostS_append]
    unfold mostFrom mostFrom counts
    simp only [Int.le_refl, decide_true, Bool.true_or, if_true]
    split <;> omega
  have hw2 : w ≤ Rb X T2 dl (t + 1) := by
    rw [hw]
    refine mostS_le _ _ (by unfold Rb; omega) (fun x hx hcx => ?_)
    obtain ⟨s, a, b, e, f⟩ := hDm x hx
    have hk : t + 1 ≤ s + dl := by
      unfold counts at hcx
      simp only [Bool.or_eq_true, decide_eq_true_eq] at hcx
      rw [a, hdl] at hcx
      omega
    exact Int.le_trans f (Ub_Rb hk b)
  -- the mode
  obtain ⟨p, hp⟩ : ∃ p, p = stepP d V t r si ms := ⟨_, rfl⟩
  have hpe : p = if S.wover d W r = true then (if 0 ≤ si then (((t + 1 : Nat) : Int), ms) else (((t + 1 : Nat) : Int), 0)) else if 0 ≤ si ∧ d.stable ≤ IntKind.i64.wrap (((t + 1 : Nat) : Int) - si) then (-1, 0) else (si, ms) := by
    rw [hp]; unfold stepP
    rw [← hW, next_eq, hm]
    have n1 : ¬ ((t + 1 : Nat) : Int) < 0 := by omega
    have n2 : ¬ 1099511627776 < ((t + 1 : Nat) : Int) := by omega
    simp only [Bool.not_true, n1, n2, decide_false, Bool.or_false, Bool.false_eq_true, if_false]
  have hov : 100 ≤ t → S.wover d W r = false := by
    intro h
    have hrW2 : W ≤ r := by omega
    unfold S.wover
    have q1 : S.wnum1 W 0 = W := by unfold S.wnum1; rw [mclamp_eq]; unfold clampF; rw [if_neg (by omega), if_neg (by omega)]
    have q2 : S.wnum1 r 1 = max r 1 := by unfold S.wnum1; rw [mclamp_eq]; unfold clampF; rw [if_neg (by omega)]; split <;> omega
    have h3 : 1100 * max r 1 ≤ d.threshold * max r 1 := Int.mul_le_mul_of_nonneg_right hth.1 (by omega)
    have h4 : d.threshold * max r 1 ≤ 10000 * 100 := Int.mul_le_mul hth.2 (by omega) (by omega) (by omega)
    rw [hm, q1, q2, wrap_id (n := d.threshold * max r 1) (by omega) (by omega), wrap_id (n := W * 1000) (by omega) (by omega)]
    simp only [cond_true]
    exact decide_eq_false (by omega)
  have hp1 : p.1 ≤ 100 := by
    by_cases h : t < 100
    · rw [hpe]; repeat' split
      all_goals (simp only; omega)
    · rw [hpe, hov (by omega)]
      simp only [Bool.false_eq_true, if_false]
      split
      · simp only; omega
      · exact p4
  have hp2 : T2 ≤ t + 1 → p.1 < 0 := by
    intro h
    rw [hpe, hov (by omega)]
    simp only [Bool.false_eq_true, if_false]
    by_cases h2 : 0 ≤ si
    · rw [if_pos ⟨h2, by rw [wrap_id (by omega) (by omega)]; omega⟩]; simp only; omega
    · rw [if_neg (by omega)]; simp only; omega
  -- what is kept
  have hK : stepK d V t r si ms D = S.keep p.1 p.2 w := by unfold stepK; rw [← hp, ← hD', ← hw]
  rw [keepS_eq] at hK
  obtain ⟨k, hk⟩ : ∃ k, k = stepK d V t r si ms D := ⟨_, rfl⟩
  rw [← hk] at hK ⊢
  rw [← hD']
  have k1 : k.1 = p.1 := by rw [hK]; split <;> rfl
  have k3 : w ≤ k.2.2 := by
    rw [hK]; split
    · simp only; omega
    · exact Int.le_refl _
  have k4 : T2 ≤ t + 1 → k.2.2 = w := by
    intro h
    have := hp2 h
    rw [hK, if_neg (by omega)]
  have hbe := bnds_eq d k.2.2
  have hbb := bnds_b d hm k.2.2
  have hR : bnds d k.2.2 ≤ Rb X T2 dl (t + 1) := by
    by_cases h : T2 ≤ t + 1
    · rw [hbe, k4 h]
      have : X ≤ Rb X T2 dl (t + 1) := by unfold Rb; omega
      omega
    · have e : t + 1 - T2 = 0 := by omega
      unfold Rb; rw [e, Nat.zero_div]
      show _ ≤ max X ((100 : Nat) : Int)
      omega
  have hlow : min W (((t + 1 : Nat) : Int)) ≤ bnds d k.2.2 := by rw [hbe]; omega
  have hmin : d.min ≤ bnds d k.2.2 := by rw [hbe]; omega
  refine ⟨⟨hlow, .inr hmin, hR, by rw [k1]; exact hp1, hDm⟩, fun hi => ⟨?_, ?_, rfl, rfl⟩⟩
  · have := hp2 (by omega)
    rw [k1]; exact decide_eq_false (by omega)
  · have e : Bf ((t + 1 - T2) / (dl + 1)) = 0 := by
      refine Bf_end ?_
      rw [Nat.le_div_iff_mul_le (by omega)]
      omega
    have hz : Rb X T2 dl (t + 1) = max X 0 := by unfold Rb; rw [e]; rfl
    rw [hz] at hR
    show bnds d k.2.2 = max d.min W
    omega
end Go.Proofs.Ytdgipcjigbagfaa.AB
