/- A load that stays: the run, the aim, what is told of a few. -/
import Derived.Test.YtdgipcjigbagfaaPlSteady
import Derived.Test.YtdgipcjigbagfaaStold26
namespace Go.Proofs.Ytdgipcjigbagfaa.AB
set_option linter.unusedVariables false
set_option linter.unusedSimpArgs false

abbrev Dn : Type := Int × Int × Int × Int × Bool × Int

theorem cmost_b (c : Cf) (hm : S.may c = true) : c.min ≤ S.cmost c ∧ 0 ≤ c.min ∧ 1 ≤ S.cmost c ∧ S.cmost c ≤ 100 := by
  have h := (may_iff c).mp hm
  have h1 := h.min; have h2 := h.max
  unfold S.cmost
  by_cases h0 : c.max = 0
  · simp only [h0, decide_true, cond_true]; omega
  · simp only [h0, decide_false, cond_false]; omega
theorem bnds_eq (c : Cf) (w : Int) : bnds c w = max c.min (min w (S.cmost c)) := by
  unfold bnds; split <;> (repeat' split at *) <;> (repeat' split) <;> omega
theorem bnds_b (c : Cf) (hm : S.may c = true) (w : Int) : 0 ≤ bnds c w ∧ bnds c w ≤ 100 := by
  have := cmost_b c hm
  rw [bnds_eq]; omega

/-- what a tick does: mode, what holds, what is kept -/
noncomputable def stepP (c : Cf) (v : Int) (t : Nat) (r si ms : Int) : Int × Int := S.next c si ms ((t + 1 : Nat) : Int) (S.wover c (Wn c v) r)
noncomputable def stepD (c : Cf) (v : Int) (t : Nat) (r : Int) (D : List (Int × Int)) : List (Int × Int) := D.filter (keepT ((t + 1 : Nat) : Int)) ++ [(((t + 1 : Nat) : Int), Li c (Wn c v) r)]
noncomputable def stepK (c : Cf) (v : Int) (t : Nat) (r si ms : Int) (D : List (Int × Int)) : Int × Int × Int := S.keep (stepP c v t r si ms).1 (stepP c v t r si ms).2 (mostFrom c.delay ((t + 1 : Nat) : Int) 0 (stepD c v t r D))

theorem run_loop {c : Cf} (hm : S.may c = true) {load r m v : Int} (hv : S.snum load 1000000000 = v) (v0 : 0 ≤ v) (v1 : v ≤ 1000000000) {K : Nat} (hK : S.snum1 m 30000 = (K : Int)) (hK2 : K ≤ 30000) (fu : Nat)
    (P : Nat → Int → Int → Int → List (Int × Int) → Prop) (Q : Nat → Dn → Prop)
    (step : ∀ (t : Nat) (r si ms : Int) (D : List (Int × Int)), t < K → 0 ≤ r → r ≤ 100 → P t r si ms D →
      P (t + 1) (bnds c (stepK c v t r si ms D).2.2) (stepK c v t r si ms D).1 (stepK c v t r si ms D).2.1 (stepD c v t r D) ∧ Q t (((t + 1 : Nat) : Int), v, v, bnds c (stepK c v t r si ms D).2.2, decide (0 ≤ (stepK c v t r si ms D).1), S.excess c r v)) :
    ∀ (n t : Nat) (r1 si ms la : Int) (R0 R1 : Rg) (H : Dl) (Rs Rq D : List (Int × Int)) (L : List Dn), t ≤ K → K < n + t → 0 ≤ r1 → r1 ≤ 100 → DRel c la c R0 R1 H Rs Rq D → Stay c v t R0 R1 Rs Rq D → la ≤ t → P t r1 si ms D → L.length = t → (∀ i x, L[i]? = some x → Q i x) →
    ∃ (z : Int × Int × Bool × Cf × Int × Int × Int × Cf × Bool × Rg × Rg × Dl) (L' : List Dn), S.run_l0 fu c load r m n t r1 ((t + 1 : Nat) : Int) c si ms la c false R0 R1 H L = some (K, z.1, z.2.1, z.2.2.1, z.2.2.2.1, z.2.2.2.2.1, z.2.2.2.2.2.1, z.2.2.2.2.2.2.1, z.2.2.2.2.2.2.2.1, z.2.2.2.2.2.2.2.2.1, z.2.2.2.2.2.2.2.2.2.1, z.2.2.2.2.2.2.2.2.2.2.1, z.2.2.2.2.2.2.2.2.2.2.2, L') ∧ L'.length = K ∧ ∀ i x, L'[i]? = some x → Q i x := by
  intro n
  induction n with
  | zero => intro t r1 si ms la R0 R1 H Rs Rq D L _ _; omega
  | succ n ih =>
    intro t r1 si ms la R0 R1 H Rs Rq D L ht hn r10 r11 hD hS hla hP hL hQ
    unfold S.run_l0
    rw [hK, hv]
    by_cases c2 : t < K
    · have g1 : (((t + 1 : Nat) : Int) ≤ (K : Int)) := by omega
      obtain ⟨R0', R1', R0'', R1'', H', Rs', Rq', e1, e2, hD', hS'⟩ := steady_step (mo := false) (si := si) (ms := ms) hm v0 v1 (t := t) (by omega) hD hS hla r10 r11 (p := stepP c v t r1 si ms) rfl (D' := stepD c v t r1 D) rfl (k := stepK c v t r1 si ms D) rfl
      have hwi : IntKind.wrap .i64 (((t + 1 : Nat) : Int) + 1) = ((t + 1 + 1 : Nat) : Int) := by rw [wrap_id (by omega) (by omega)]; omega
      have b1 : (Nat.beq 6 6 && Nat.blt 0 48 && Nat.beq 6 6 && Nat.beq 6 6 && Nat.beq 6 6 && Nat.blt 0 1 && !Nat.beq 9 14 && Nat.ble ((t + 1) * 48) 35184372088832) = true := by
        have : Nat.ble ((t + 1) * 48) 35184372088832 = true := Nat.ble_eq.mpr (by omega)
        rw [this]; rfl
      obtain ⟨hP', hQ'⟩ := step t r1 si ms D c2 r10 r11 hP
      have hb := bnds_b c hm (stepK c v t r1 si ms D).2.2
      have hcut : ∀ x : Dn, cutL L 0 t ++ cutL [x] 0 1 = L ++ [x] := by intro x; rw [← hL, cutL_all]; rfl
      simp only [g1, decide_true, cond_true, S.q_dcput_eq, S.q_dcnext_eq, e1, e2, optK, b1, hcut, hwi]
      have hlen : (L ++ [(((t + 1 : Nat) : Int), v, v, bnds c (stepK c v t r1 si ms D).2.2, decide (0 ≤ (stepK c v t r1 si ms D).1), S.excess c r1 v)]).length = t + 1 := by rw [List.length_append, hL]; rfl
      rw [hlen]
      refine ih (t + 1) _ _ _ _ R0'' R1'' H' Rs' Rq' _ _ (by omega) (by omega) hb.1 hb.2 hD' hS' (Int.le_refl _) hP' hlen ?_
      intro i x hx
      rw [List.getElem?_append] at hx
      split at hx
      · exact hQ i x hx
      · rename_i hge
        have hlt := (List.getElem?_eq_some_iff.mp hx).1
        simp at hlt
        have hi : i = t := by omega
        subst hi
        rw [hL] at hx
        simp at hx
        subst hx
        exact hQ'
    · have g1 : ¬ (((t + 1 : Nat) : Int) ≤ (K : Int)) := by omega
      have htK : t = K := by omega
      simp only [g1, decide_false, cond_false]
      exact ⟨(r1, ((t + 1 : Nat) : Int), false, c, si, ms, la, c, false, R0, R1, H), L, by rw [htK], by omega, hQ⟩

theorem snum_b (x m : Int) (h : 0 ≤ m) : 0 ≤ S.snum x m ∧ S.snum x m ≤ m := by
  unfold S.snum; rw [mclamp_eq]; exact clampF_range x 0 m h
theorem snum1_b (x m : Int) (h : 0 ≤ m) : 0 ≤ S.snum1 x m ∧ S.snum1 x m ≤ m := snum_b x m h
theorem snum_id {x m : Int} (h0 : 0 ≤ x) (h1 : x ≤ m) : S.snum x m = x := by
  unfold S.snum; rw [mclamp_eq]; unfold clampF; rw [if_neg (by omega), if_neg (by omega)]
theorem snum1_id {x m : Int} (h0 : 0 ≤ x) (h1 : x ≤ m) : S.snum1 x m = x := snum_id h0 h1

/-- a run: what holds at first and is kept holds of all -/
theorem run_ok {c : Cf} (hm : S.may c = true) {load r m v : Int} (hv : S.snum load 1000000000 = v) {K : Nat} (hK : S.snum1 m 30000 = (K : Int))
    (P : Nat → Int → Int → Int → List (Int × Int) → Prop) (Q : Nat → Dn → Prop) (h0 : P 0 (S.snum1 r 100) (-1) 0 [])
    (step : ∀ (t : Nat) (r si ms : Int) (D : List (Int × Int)), t < K → 0 ≤ r → r ≤ 100 → P t r si ms D →
      P (t + 1) (bnds c (stepK c v t r si ms D).2.2) (stepK c v t r si ms D).1 (stepK c v t r si ms D).2.1 (stepD c v t r D) ∧ Q t (((t + 1 : Nat) : Int), v, v, bnds c (stepK c v t r si ms D).2.2, decide (0 ≤ (stepK c v t r si ms D).1), S.excess c r v)) :
    ∃ L : List Dn, S.run 100000 c load r m = some (.inr (K, L)) ∧ L.length = K ∧ ∀ i x, L[i]? = some x → Q i x := by
  have hvb := snum_b load 1000000000 (by omega)
  have hKb := snum1_b m 30000 (by omega)
  have hrb := snum1_b r 100 (by omega)
  obtain ⟨z, L', e, hl, hQ⟩ := run_loop hm (r := r) hv (by omega) (by omega) hK (by omega) 100000 P Q step 100000 0 (S.snum1 r 100) (-1) 0 0 (rg0 c.stable c.grain) (rg0 c.panic c.grain) ⟨0, 0, c.delay, 0, []⟩ [] [] [] [] (by omega) (by omega) hrb.1 hrb.2 (drel0 c) (stay0 c v) (by omega) h0 rfl (fun i x hx => by simp at hx)
  have e' : S.run_l0 100000 c load r m 100000 0 (S.snum1 r 100) 1 c (-1) 0 0 c false (rg0 c.stable c.grain) (rg0 c.panic c.grain) ⟨0, 0, c.delay, 0, []⟩ [] = _ := e
  refine ⟨L', ?_, hl, hQ⟩
  unfold S.run
  rw [S.q_dcnew_p_eq, dcnew_yes hm]
  simp only [optK, Sum.elim_inr]
  rw [e']
  simp only [S.run_a0_0]
theorem run_no {c : Cf} (hm : S.may c = false) (load r m : Int) : S.run 100000 c load r m = some (.inl ()) := by
  unfold S.run
  have e : S.dcnew_p c = some (.inl ()) := by
    unfold S.dcnew_p S.dcnew
    simp only [cf_etaW, hm, Bool.not_false, cond_true, Option.bind_some, Sum.elim_inl]
  rw [S.q_dcnew_p_eq, e]
  simp only [optK, Sum.elim_inl]

/-! the aim -/
theorem mup_all {a b : Int} (ha : 0 ≤ a) (a1 : a ≤ 9223372036854775807) (hb : 0 < b) : S.mup a b = some (cdiv a b, 0) := by
  by_cases h : a < 9223372036854775807
  · exact mup_nn ha h hb
  obtain ⟨h0, h1⟩ := ediv_range ha (by omega) hb
  have e1 : ¬ b = 0 := by omega
  have e2 : ¬ a < 0 := by omega
  have e3 : ¬ b < 0 := by omega
  unfold S.mup cdiv
  rw [mhalf_nn ha (by omega) hb, Int.tmod_eq_emod_of_nonneg ha]
  simp only [optK]
  by_cases h : a % b = 0
  · simp [e1, h]
  · have hb1 : ¬ b = 1 := by intro e; subst e; exact h (Int.emod_one a)
    have h2 := Int.ediv_mul_le a e1
    have h3 : a / b * 2 ≤ a / b * b := Int.mul_le_mul_of_nonneg_left (by omega) h0
    rw [wrap_id (n := a / b + 1) (by omega) (by omega)]
    simp [e1, e2, e3, h]
theorem wof_all (c : Cf) (hm : S.may c = true) (m : Int) (m0 : 0 ≤ m) (m1 : m ≤ 9223372036854775807) : S.wof c m = some (Wn c m) := by
  have hp := Pe_range c hm
  unfold S.wof Wn
  simp only [cf_etaW, hm, Bool.not_true, cond_false, per_eq c hm, mup_all m0 m1 (b := Pe c) (by omega), optK, S.wnum, mclamp_eq]
theorem aim_eq (c : Cf) (hm : S.may c = true) (load : Int) (h1 : load ≤ 9223372036854775807) : S.aim c load = some (bnds c (Wn c (max load 0))) := by
  have e : (if 0 > load then 0 else load) = max load 0 := by split <;> omega
  unfold S.aim
  rw [e]
  simp only [cf_etaW, hm, Bool.not_true, cond_false, wof_all c hm (max load 0) (by omega) (by omega), optK]
  rfl
theorem cdiv_eq {a b : Int} (hb : 0 < b) : cdiv a b = (a + b - 1) / b := by
  have h1 := Int.emod_add_mul_ediv a b
  have h2 := Int.emod_nonneg a (show b ≠ 0 by omega)
  have h3 := Int.emod_lt_of_pos a hb
  unfold cdiv
  split
  · rename_i h
    rw [h, Int.zero_add] at h1
    have e : a + b - 1 = (b - 1) + b * (a / b) := by omega
    have z : (b - 1) / b = 0 := Int.ediv_eq_zero_of_lt (by omega) (by omega)
    rw [e, Int.add_mul_ediv_left _ _ (show b ≠ 0 by omega), z, Int.zero_add]
  · have e : a + b - 1 = (a % b - 1) + b * (a / b + 1) := by rw [Int.mul_add]; omega
    have z : (a % b - 1) / b = 0 := Int.ediv_eq_zero_of_lt (by omega) (by omega)
    rw [e, Int.add_mul_ediv_left _ _ (show b ≠ 0 by omega), z, Int.zero_add]
theorem Wn_mono (c : Cf) (hm : S.may c = true) {a b : Int} (h : a ≤ b) : Wn c a ≤ Wn c b := by
  have hp := Pe_range c hm
  unfold Wn
  refine clampF_mono _ _ _ _ ?_ (by omega)
  rw [cdiv_eq (by omega), cdiv_eq (by omega)]
  exact Int.ediv_le_ediv (by omega) (by omega)
theorem Wn_zero (c : Cf) : Wn c 0 = 0 := by unfold Wn cdiv clampF; simp
theorem tks_eq (c : Cf) (hm : S.may c = true) : S.tks c = 400 + 2 * c.stable + c.panic + 40 * c.delay := by
  have h := (may_iff c).mp hm
  have h1 := h.stable; have h2 := h.panic; have h3 := h.delay
  unfold S.tks
  rw [wrap_id (n := 2 * c.stable) (by omega) (by omega), wrap_id (n := 40 * c.delay) (by omega) (by omega), wrap_id (n := 400 + 2 * c.stable) (by omega) (by omega), wrap_id (n := 400 + 2 * c.stable + c.panic) (by omega) (by omega), wrap_id (n := 400 + 2 * c.stable + c.panic + 40 * c.delay) (by omega) (by omega)]
  simp only [cf_etaW, hm, Bool.not_true, cond_false]

/-- the document's settings -/
def dfl : Cf := ⟨10000, 700, 60, 6, 1, 2000, 10000, 2000, 0, 0, 1, 30, 0, 20000, 10, 100, 60, 3, 0, 0⟩
theorem dfl_may : S.may dfl = true := by
  rw [may_iff]; unfold dfl
  constructor <;> (try simp only [eq_self, if_true, true_or]) <;> omega
theorem zero_may : S.may ⟨0, 0, 0, 0, 0, 0, 0, 0, 0, 0, 0, 0, 0, 0, 0, 0, 0, 0, 0, 0⟩ = false := by
  cases h : S.may ⟨0, 0, 0, 0, 0, 0, 0, 0, 0, 0, 0, 0, 0, 0, 0, 0, 0, 0, 0, 0⟩ with
  | false => rfl
  | true => have := ((may_iff _).mp h).target; simp only at this; omega

theorem told26_run : ∃ L : List Dn, S.run 100000 dfl 70000 1 3 = some (.inr (3, L)) ∧ L.length = 3 ∧ ∀ i x, L[i]? = some x → (i = 0 → x.2.2.2.1 = 10 ∧ x.2.2.2.2.1 = true) := by
  have e1 : stepK dfl 70000 0 1 (-1) 0 [] = (1, 10, 10) := by decide +kernel
  have e2 : bnds dfl 10 = 10 := by decide +kernel
  refine run_ok dfl_may (v := 70000) (snum_id (by omega) (by omega)) (K := 3) (snum1_id (by omega) (by omega)) (fun t r si ms D => t = 0 → r = 1 ∧ si = -1 ∧ ms = 0 ∧ D = []) (fun i x => i = 0 → x.2.2.2.1 = 10 ∧ x.2.2.2.2.1 = true) ?_ ?_
  · intro _; exact ⟨snum1_id (by omega) (by omega), rfl, rfl, rfl⟩
  · intro t r si ms D ht r0 r1 hP
    refine ⟨fun h => by omega, fun h => ?_⟩
    obtain ⟨a, b, d, e⟩ := hP h
    subst h; subst a; subst b; subst d; subst e
    rw [e1]
    exact ⟨e2, rfl⟩
theorem told26_true : S.told26 = some true := by
  obtain ⟨L, e, hl, hQ⟩ := told26_run
  obtain ⟨x, hx⟩ : ∃ x, L[0]? = some x := ⟨L[0]'(by omega), by simp⟩
  obtain ⟨q1, q2⟩ := hQ 0 x hx rfl
  obtain ⟨L2, e2, hl2, _⟩ := run_ok dfl_may (load := 1) (r := 1) (m := -1) (v := 1) (snum_id (by omega) (by omega)) (K := 0) (by unfold S.snum1; rw [mclamp_eq]; rfl) (fun _ _ _ _ _ => True) (fun _ _ => True) trivial (fun _ _ _ _ _ _ _ _ _ => ⟨trivial, trivial⟩)
  have hd : (Cf.mk 10000 700 60 6 1 2000 10000 2000 0 0 1 30 0 20000 10 100 60 3 0 0) = dfl := rfl
  have i0 : inB 0 3 = true := rfl
  unfold S.told26
  rw [hd]
  simp only [S.q_run_eq, e, e2, run_no zero_may, optK, Sum.elim_inr, Sum.elim_inl, i0, hx, q1, q2, decide_true, cond_true]
  rfl
end Go.Proofs.Ytdgipcjigbagfaa.AB
