/- DecideQuiet answers true. -/
import Derived.Test.YtdgipcjigbagfaaPlDec
import Derived.Test.YtdgipcjigbagfaaPlRings
import Derived.Test.YtdgipcjigbagfaaSDecideQuiet
namespace Go.Proofs.Ytdgipcjigbagfaa.AB
set_option linter.unusedVariables false
set_option linter.unusedSimpArgs false

theorem mostFrom_no {sp t : Int} {m : Int} : ∀ {q : List (Int × Int)}, (∀ x ∈ q, counts sp t x = false) → mostFrom sp t m q = m
  | [], _ => rfl
  | x :: q, h => by
    unfold mostFrom
    rw [h x (by simp)]
    simp only [Bool.false_eq_true, if_false]
    exact mostFrom_no (fun y hy => h y (by simp [hy]))
theorem mostFrom_append {sp t : Int} : ∀ (q r : List (Int × Int)) (m : Int), mostFrom sp t m (q ++ r) = mostFrom sp t (mostFrom sp t m q) r
  | [], r, m => rfl
  | x :: q, r, m => by
    show mostFrom sp t (if counts sp t x then (if x.2 > m then x.2 else m) else m) (q ++ r) = mostFrom sp t (mostFrom sp t (if counts sp t x then (if x.2 > m then x.2 else m) else m) q) r
    exact mostFrom_append q r _

structure QC (c : Cf) : Prop where
  may : S.may c = true
  down : c.down = 2000
  thr : c.threshold = 2000
  delay : c.delay = 0
  max : c.max = 0
  min0 : 0 ≤ c.min
  min1 : c.min ≤ 100

theorem quiet_step {c : Cf} (hc : QC c) {ms la : Int} {Rs Rq D : List (Int × Int)} {R0 R1 : Rg} {H : Dl} (h : DRel c la c R0 R1 H Rs Rq D) {t r : Int} (t0 : la ≤ t) (t1 : t ≤ 100) (r0 : 0 ≤ r) (r1 : r ≤ 100)
    (h0 : Rs.length ≤ 70000) (h1 : Rq.length ≤ 70000) (hd : D.length ≤ 80000) (v0 : ∀ y ∈ Rs, y.2 ≤ 0) (v1 : ∀ y ∈ Rq, y.2 ≤ 0) (hD : ∀ x ∈ D, x.1 < t) :
    ∃ R0' R1' H' D' ms' ex, S.dcnext c (-1) ms la c false R0 R1 H t r = some (t, 0, 0, (if c.min > r / 2 then c.min else r / 2), false, ex, 0, c, -1, ms', t, c, false, R0', R1', H') ∧ DRel c t c R0' R1' H' Rs Rq D' ∧ (∀ x ∈ D', x.1 ≤ t) ∧ D'.length ≤ D.length + 1 := by
  have hm := hc.may
  have hla := h.la0
  have a0 := (mn_range (w := c.stable) (g := c.grain) (t := t) h.m.r0.tk v0 (by omega) (by omega) h0)
  have a1 := (mn_range (w := c.panic) (g := c.grain) (t := t) h.m.r1.tk v1 (by omega) (by omega) h1)
  have es : (0 : Int) = mn c.stable c.grain t Rs := by omega
  have eq : (0 : Int) = mn c.panic c.grain t Rq := by omega
  have eW : Wn c 0 = 0 := by unfold Wn cdiv clampF; simp
  have hr0 : S.rcut r 0 = r := by rw [rcut_small r 0 r0 (by omega) (by omega) (by omega), if_neg (by omega)]
  have eL : Le c r = r / 2 := by unfold Le; rw [hr0, hc.down]; omega
  have eM := Mo_gt c hm r r0 (by omega)
  have eLi : Li c 0 r = r / 2 := by
    unfold Li; rw [eL]
    have : (if r / 2 > 0 then r / 2 else 0) = r / 2 := by split <;> omega
    rw [this, if_neg (by omega)]
  have eO : S.wover c (Wn c 0) r = false := by
    rw [eW]; unfold S.wover
    have q1 : S.wnum1 0 0 = 0 := by unfold S.wnum1; rw [mclamp_eq]; unfold clampF; simp
    have q2 : 1 ≤ S.wnum1 r 1 ∧ S.wnum1 r 1 ≤ 1000000 := by unfold S.wnum1; rw [mclamp_eq]; exact clampF_range _ _ _ (by omega)
    rw [hm, q1, hc.thr, wrap_id (by omega) (by omega), wrap_id (by omega) (by omega)]
    simp only [cond_true]
    exact decide_eq_false (by omega)
  have eP : S.next c (-1) ms t (S.wover c (Wn c 0) r) = (-1, ms) := by
    rw [eO, next_eq, hm]; simp
  have eLet : letN c (-1) 0 0 r = r / 2 := by unfold letN; rw [if_neg (by omega), eW, eLi]
  have eMost : mostFrom c.delay t 0 (D.filter (keepT t) ++ [(t, r / 2)]) = r / 2 := by
    rw [mostFrom_append, mostFrom_no (m := 0), hc.delay]
    · unfold mostFrom mostFrom counts
      simp only [Int.le_refl, decide_true, Bool.true_or, if_true]
      split <;> omega
    · intro x hx
      have := hD x (List.mem_filter.mp hx).1
      unfold counts
      rw [hc.delay]
      simp only [Bool.or_eq_false_iff, decide_eq_false_iff_not]
      exact ⟨by omega, by omega⟩
  have eK : ∀ m w : Int, S.keep (-1) m w = (-1, m, w) := by intro m w; unfold S.keep; rw [is_eq]; simp
  obtain ⟨R0', R1', H', e, hR, q⟩ := dcnext_ok (mo := false) (si := -1) (ms := ms) hm h (t := t) (r := r) t0 (by omega) r0 (by omega) h0 h1 hd (fun y hy => by have := v0 y hy; omega) (fun y hy => by have := v1 y hy; omega) es eq rfl rfl rfl
  rw [eP] at e hR
  simp only [eLet, eMost, eK] at e hR
  have eB : bnds c (r / 2) = (if c.min > r / 2 then c.min else r / 2) := by
    unfold bnds S.cmost
    rw [hc.max]
    simp only [decide_true, cond_true]
    have : (if (100 : Int) < r / 2 then 100 else r / 2) = r / 2 := if_neg (by omega)
    rw [this]
  rw [eB] at e
  have e3 : decide ((0 : Int) ≤ -1) = false := rfl
  rw [e3] at e
  refine ⟨R0', R1', H', _, ms, _, e, hR, ?_, ?_⟩
  · intro x hx
    rcases List.mem_append.mp hx with hx | hx
    · have := hD x (List.mem_filter.mp hx).1; omega
    · simp at hx; subst hx; simp
  · have := List.length_filter_le (keepT t) D
    rw [List.length_append, List.length_singleton]; omega

theorem half_pow {r : Int} {i : Nat} (h : r * (2 : Int) ^ i ≤ 100) : r / 2 * (2 : Int) ^ (i + 1) ≤ 100 := by
  rw [Int.pow_succ]
  have h1 : (r / 2 * 2) * (2 : Int) ^ i ≤ r * 2 ^ i := Int.mul_le_mul_of_nonneg_right (by omega) (Int.le_of_lt (Int.pow_pos (by omega)))
  have h2 : r / 2 * (2 ^ i * 2) = (r / 2 * 2) * (2 : Int) ^ i := by rw [Int.mul_assoc, Int.mul_comm (2 ^ i) 2]
  omega

theorem DecideQuiet_loop (fu : Nat) (a b : Int) {c : Cf} (hc : QC c) :
    ∀ (k i : Nat) (r ms la : Int) (R0 R1 : Rg) (H : Dl) (Rs Rq D : List (Int × Int)), 1 ≤ i → i ≤ 61 → 61 < k + i → DRel c la c R0 R1 H Rs Rq D → la ≤ i → Rs.length ≤ i → Rq.length ≤ i → D.length ≤ i → (∀ x ∈ D, x.1 < i) →
    (∀ y ∈ Rs, y.2 ≤ 0) → (∀ y ∈ Rq, y.2 ≤ 0) → 0 ≤ r → r ≤ 100 → (r ≤ c.min ∨ r * (2 : Int) ^ (i - 1) ≤ 100) → (i = 1 ∨ c.min ≤ r) →
    ∃ z1 z2 z5 z6 z7 R0' R1' H', S.DecideQuiet_l0 fu a b k r i c c (-1) ms la c false R0 R1 H = some (.inr (.inr (.inr (c.min, z1, z2, c, c, z5, z6, z7, c, false, R0', R1', H')))) := by
  intro k
  induction k with
  | zero => intro i r ms la R0 R1 H Rs Rq D _ _; omega
  | succ k ih =>
    intro i r ms la R0 R1 H Rs Rq D hi h61 hk hD hla hRs hRq hDl hDt hv0 hv1 r0 r1 hr hr2
    unfold S.DecideQuiet_l0
    by_cases c2 : i ≤ 60
    · have g1 : ((i : Int) ≤ 60) := by omega
      have hwi : IntKind.wrap .i64 ((i : Int) + 1) = ((i + 1 : Nat) : Int) := by rw [wrap_id (by omega) (by omega)]; omega
      have hr' : (if c.min > r / 2 then c.min else r / 2) ≤ c.min ∨ (if c.min > r / 2 then c.min else r / 2) * (2 : Int) ^ (i + 1 - 1) ≤ 100 := by
        split
        · left; omega
        · rcases hr with hr | hr
          · left; omega
          · right
            have := half_pow hr
            rw [show i - 1 + 1 = i + 1 - 1 by omega] at this
            exact this
      have hr3 : c.min ≤ (if c.min > r / 2 then c.min else r / 2) := by split <;> omega
      have hr4 : ¬ ((if c.min > r then c.min else r) < (if c.min > r / 2 then c.min else r / 2)) := by
        by_cases u1 : c.min > r
        · rw [if_pos u1, if_pos (by omega)]; omega
        · rw [if_neg u1]; split <;> omega
      have hr5 : 0 ≤ (if c.min > r / 2 then c.min else r / 2) ∧ (if c.min > r / 2 then c.min else r / 2) ≤ 100 := by
        have := hc.min0; have := hc.min1
        split <;> omega
      simp only [g1, decide_true, cond_true, hwi]
      by_cases c3 : Int.tmod (i : Int) 2 = 0
      · have htk : Tk ((i : Int), 0) := mk_tk (by omega) (by omega) (by omega) (by unfold M63; omega)
        obtain ⟨R0', R1', e, hD', n0, n1, q0, q1⟩ := dcput_ok (mo := false) (si := -1) (ms := ms) hc.may hD htk (by omega) (by omega)
        have l0 := pR_len c.grain (NB c.stable c.grain) R0.nw ((i : Int), 0) Rs
        have l1 := pR_len c.grain (NB c.panic c.grain) R1.nw ((i : Int), 0) Rq
        have hw0 : ∀ y ∈ pR c.grain (NB c.stable c.grain) R0.nw ((i : Int), 0) Rs, y.2 ≤ 0 := pR_all hv0 (by simp only; omega)
        have hw1 : ∀ y ∈ pR c.grain (NB c.panic c.grain) R1.nw ((i : Int), 0) Rq, y.2 ≤ 0 := pR_all hv1 (by simp only; omega)
        obtain ⟨Rs', hRs'⟩ : ∃ q, q = pR c.grain (NB c.stable c.grain) R0.nw ((i : Int), 0) Rs := ⟨_, rfl⟩
        obtain ⟨Rq', hRq'⟩ : ∃ q, q = pR c.grain (NB c.panic c.grain) R1.nw ((i : Int), 0) Rq := ⟨_, rfl⟩
        rw [← hRs'] at l0 hD' hw0
        rw [← hRq'] at l1 hD' hw1
        obtain ⟨R0'', R1'', H', D', ms', ex, e2, hD2, hDt2, hDl2⟩ := quiet_step hc (ms := ms) hD' (t := (i : Int)) (r := r) hla (by omega) r0 r1 (by omega) (by omega) (by omega) hw0 hw1 hDt
        simp only [c3, decide_true, cond_true]
        rw [S.q_dcput_eq, e]
        simp only [optK, decide_true, Bool.not_true, cond_false]
        rw [S.q_dcnext_eq, e2]
        simp only [decide_true, Bool.not_true, cond_false, hr4, decide_false]
        exact ih (i + 1) _ _ _ R0'' R1'' H' Rs' Rq' D' (by omega) (by omega) (by omega) hD2 (by omega) (by omega) (by omega) (by omega) (fun x hx => by have := hDt2 x hx; omega) hw0 hw1 hr5.1 hr5.2 hr' (Or.inr hr3)
      · obtain ⟨R0'', R1'', H', D', ms', ex, e2, hD2, hDt2, hDl2⟩ := quiet_step hc (ms := ms) hD (t := (i : Int)) (r := r) hla (by omega) r0 r1 (by omega) (by omega) (by omega) hv0 hv1 hDt
        simp only [c3, decide_false, cond_false]
        rw [S.q_dcnext_eq, e2]
        simp only [optK, decide_true, Bool.not_true, cond_false, hr4, decide_false]
        exact ih (i + 1) _ _ _ R0'' R1'' H' Rs Rq D' (by omega) (by omega) (by omega) hD2 (by omega) (by omega) (by omega) (by omega) (fun x hx => by have := hDt2 x hx; omega) hv0 hv1 hr5.1 hr5.2 hr' (Or.inr hr3)
    · have h61' : i = 61 := by omega
      have g1 : ¬ ((i : Int) ≤ 60) := by omega
      have hrm : r = c.min := by
        rcases hr2 with hh | hh
        · omega
        · rcases hr with hr | hr
          · omega
          · rw [h61'] at hr
            have : (2 : Int) ^ (61 - 1) = 1152921504606846976 := by decide
            rw [this] at hr
            have := hc.min0
            omega
      simp only [g1, decide_false, cond_false]
      rw [hrm]
      exact ⟨_, _, _, _, _, _, _, _, rfl⟩

theorem DecideQuiet_true (a b : Int) : S.DecideQuiet 100000 a b = some true := by
  obtain ⟨A, hA, a0, a1⟩ := um a (m := 101) (by omega) (by omega)
  obtain ⟨B, hB, b0, b1⟩ := um b (m := 101) (by omega) (by omega)
  unfold S.DecideQuiet
  simp only [hA, hB]
  obtain ⟨c, hcd⟩ : ∃ c : Cf, c = ⟨10000, 700, 60, 6, 1, 2000, 10000, 2000, A, 0, (if 1 > A then 1 else A), 30, 0, 20000, 10, 100, 60, 3, 0, 0⟩ := ⟨_, rfl⟩
  have hi : 0 ≤ (if 1 > A then 1 else A) ∧ (if 1 > A then 1 else A) ≤ 100 := by split <;> omega
  have hm : S.may c = true := by
    rw [may_iff, hcd]
    revert hi
    generalize (if 1 > A then 1 else A) = I
    intro hi
    constructor <;> (try simp only [eq_self, if_true, true_or]) <;> omega
  have hc : QC c := ⟨hm, by rw [hcd], by rw [hcd], by rw [hcd], by rw [hcd], by rw [hcd]; exact a0, by rw [hcd]; simp only; omega⟩
  have hmin : c.min = A := by rw [hcd]
  rw [← hcd, S.q_dcnew_p_eq, dcnew_yes hm]
  simp only [optK, Sum.elim_inr]
  obtain ⟨z1, z2, z5, z6, z7, R0', R1', H', e⟩ := DecideQuiet_loop 100000 a b hc 100000 1 B 0 0 (rg0 c.stable c.grain) (rg0 c.panic c.grain) ⟨0, 0, c.delay, 0, []⟩ [] [] [] (by omega) (by omega) (by omega) (drel0 c) (by omega) (by simp) (by simp) (by simp) (fun _ h => (by cases h)) (fun _ h => (by cases h)) (fun _ h => (by cases h)) b0 (by omega) (Or.inr (by simp; omega)) (Or.inl rfl)
  have e' : S.DecideQuiet_l0 100000 a b 100000 B 1 c c (-1) 0 0 c false (rg0 c.stable c.grain) (rg0 c.panic c.grain) ⟨0, 0, c.delay, 0, []⟩ = _ := e
  simp only [e', optK, Sum.elim_inr, S.DecideQuiet_a0_3, decide_true]
end Go.Proofs.Ytdgipcjigbagfaa.AB
