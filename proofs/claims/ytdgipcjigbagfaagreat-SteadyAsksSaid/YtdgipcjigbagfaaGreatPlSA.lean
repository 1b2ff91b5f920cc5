/- A load that stays: what is decided at a tick. -/
import Derived.Test.YtdgipcjigbagfaaGreatPlDec
import Derived.Test.YtdgipcjigbagfaaGreatPlRings
import Derived.Test.YtdgipcjigbagfaaGreatStold26
import Derived.Test.YtdgipcjigbagfaaGreatPlD12
import Derived.Test.YtdgipcjigbagfaaGreatSSteadyAsks
namespace Go.Proofs.YtdgipcjigbagfaaGreat.AB
set_option linter.unusedVariables false
set_option linter.unusedSimpArgs false

theorem vs_const {X g : Int} {W : Int → Bool} : ∀ {R : List (Int × Int)}, (∀ y ∈ R, y.2 = X) → vs g W R = X * ns g W R
  | [], _ => by simp [vs, ns, wsum]
  | x :: R, h => by
    have ih := vs_const (X := X) (g := g) (W := W) (R := R) (fun y hy => h y (by simp [hy]))
    have hx := h x (by simp)
    unfold vs ns at ih ⊢
    simp only [wsum]
    rw [ih, Int.mul_add, hx]
    split <;> simp
theorem mn_const {w g t v : Int} {R : List (Int × Int)} (hR : ∀ y ∈ R, y.2 = v) (v0 : 0 ≤ v) (v1 : v ≤ 1000000000) (hl : R.length ≤ 70000) {x : Int × Int} (hx : x ∈ R) (hb : bk g x = t.tdiv g) (hn : 1 ≤ NB w g) : mn w g t R = v := by
  have hin : inW (NB w g) (t.tdiv g) (bk g x) = true := by unfold inW; rw [hb]; exact decide_eq_true ⟨by omega, by omega⟩
  have h1 := ns_pos (g := g) (W := inW (NB w g) (t.tdiv g)) hx hin
  have h2 := ns_le g (inW (NB w g) (t.tdiv g)) R
  have hv := vs_const (g := g) (W := inW (NB w g) (t.tdiv g)) hR
  have hM : M63 = 9223372036854775807 := rfl
  have hb2 : v * ns g (inW (NB w g) (t.tdiv g)) R ≤ 1000000000 * 70000 := Int.mul_le_mul v1 (by omega) (by omega) (by omega)
  unfold mn
  rw [hv, show min M63 (v * ns g (inW (NB w g) (t.tdiv g)) R) = v * ns g (inW (NB w g) (t.tdiv g)) R by omega]
  unfold meanOf
  rw [if_neg (by omega)]
  exact Int.mul_tdiv_cancel v (by omega)
theorem pnw_of {g nw : Int} {x : Int × Int} (h : nw ≤ bk g x) : pnw g nw x = bk g x := by unfold pnw; split <;> omega
theorem pR_keeps {g n nw : Int} {x : Int × Int} {R : List (Int × Int)} (h : nw ≤ bk g x) (n1 : 1 ≤ n) : x ∈ pR g n nw x R := by
  unfold pR; rw [if_pos (by omega)]
  exact List.mem_filter.mpr ⟨by simp, by unfold Kp; rw [pnw_of h]; exact decide_eq_true (by omega)⟩
theorem td_mono {a b g : Int} (a0 : 0 ≤ a) (h : a ≤ b) (g1 : 1 ≤ g) : a.tdiv g ≤ b.tdiv g := by
  rw [Int.tdiv_eq_ediv_of_nonneg a0, Int.tdiv_eq_ediv_of_nonneg (by omega)]
  exact Int.ediv_le_ediv (by omega) h

/-- a load that stayed up to a tick: the windows and what holds -/
structure Stay (c : Cf) (v : Int) (t : Nat) (R0 R1 : Rg) (Rs Rq D : List (Int × Int)) : Prop where
  s : ∀ y ∈ Rs, y.2 = v
  q : ∀ y ∈ Rq, y.2 = v
  ls : Rs.length ≤ t
  lq : Rq.length ≤ t
  ld : D.length ≤ t
  n0 : R0.nw ≤ (t : Int).tdiv c.grain
  n1 : R1.nw ≤ (t : Int).tdiv c.grain

theorem steady_step {c : Cf} (hm : S.may c = true) {v : Int} (v0 : 0 ≤ v) (v1 : v ≤ 1000000000) {t : Nat} (ht : t ≤ 30000) {la si ms : Int} {mo : Bool} {R0 R1 : Rg} {H : Dl} {Rs Rq D : List (Int × Int)} (h : DRel c la c R0 R1 H Rs Rq D) (hs : Stay c v t R0 R1 Rs Rq D) (hla : la ≤ t) {r : Int} (r0 : 0 ≤ r) (r1 : r ≤ 100)
    {p : Int × Int} (hp : p = S.next c si ms ((t + 1 : Nat) : Int) (S.wover c (Wn c v) r))
    {D' : List (Int × Int)} (hD : D' = D.filter (keepT ((t + 1 : Nat) : Int)) ++ [(((t + 1 : Nat) : Int), Li c (Wn c v) r)])
    {k : Int × Int × Int} (hk : k = S.keep p.1 p.2 (mostFrom c.delay ((t + 1 : Nat) : Int) 0 D')) :
    ∃ R0' R1' R0'' R1'' H' Rs' Rq', S.dcput c si ms la c mo R0 R1 H ((t + 1 : Nat) : Int) v = some (0, c, si, ms, la, c, mo, R0', R1', H) ∧
      S.dcnext c si ms la c mo R0' R1' H ((t + 1 : Nat) : Int) r = some (((t + 1 : Nat) : Int), v, v, bnds c k.2.2, decide (0 ≤ k.1), S.excess c r v, 0, c, k.1, k.2.1, ((t + 1 : Nat) : Int), c, mo, R0'', R1'', H') ∧
      DRel c ((t + 1 : Nat) : Int) c R0'' R1'' H' Rs' Rq' D' ∧ Stay c v (t + 1) R0'' R1'' Rs' Rq' D' := by
  have hg := (rokS hm).1.1
  have hNs := NB_b (rokS hm).1.1 (rokS hm).1.2 (rokS hm).2
  have hNq := NB_b (rokP hm).1.1 (rokP hm).1.2 (rokP hm).2
  have hM : M63 = 9223372036854775807 := rfl
  have htk : Tk (((t + 1 : Nat) : Int), v) := mk_tk (by omega) (by omega) v0 (by omega)
  have a1 := hs.ls; have a2 := hs.lq; have a3 := hs.ld
  have hmo := td_mono (a := (t : Int)) (b := ((t + 1 : Nat) : Int)) (g := c.grain) (by omega) (by omega) hg
  have hbk : bk c.grain (((t + 1 : Nat) : Int), v) = ((t + 1 : Nat) : Int).tdiv c.grain := rfl
  have c0 : R0.nw ≤ bk c.grain (((t + 1 : Nat) : Int), v) := by have := hs.n0; omega
  have c1 : R1.nw ≤ bk c.grain (((t + 1 : Nat) : Int), v) := by have := hs.n1; omega
  obtain ⟨R0', R1', e, hD1, n0, n1, q0, q1⟩ := dcput_ok (mo := mo) (si := si) (ms := ms) hm h htk (by omega) (by omega)
  have l0 := pR_len c.grain (NB c.stable c.grain) R0.nw (((t + 1 : Nat) : Int), v) Rs
  have l1 := pR_len c.grain (NB c.panic c.grain) R1.nw (((t + 1 : Nat) : Int), v) Rq
  have w0 : ∀ y ∈ pR c.grain (NB c.stable c.grain) R0.nw (((t + 1 : Nat) : Int), v) Rs, y.2 = v := fun y hy => by
    rcases pR_mem hy with hh | hh
    · exact hs.s y hh
    · rw [hh]
  have w1 : ∀ y ∈ pR c.grain (NB c.panic c.grain) R1.nw (((t + 1 : Nat) : Int), v) Rq, y.2 = v := fun y hy => by
    rcases pR_mem hy with hh | hh
    · exact hs.q y hh
    · rw [hh]
  have k0 := pR_keeps (R := Rs) c0 hNs.1
  have k1 := pR_keeps (R := Rq) c1 hNq.1
  obtain ⟨Rs', hRs'⟩ : ∃ q, q = pR c.grain (NB c.stable c.grain) R0.nw (((t + 1 : Nat) : Int), v) Rs := ⟨_, rfl⟩
  obtain ⟨Rq', hRq'⟩ : ∃ q, q = pR c.grain (NB c.panic c.grain) R1.nw (((t + 1 : Nat) : Int), v) Rq := ⟨_, rfl⟩
  rw [← hRs'] at hD1 l0 w0 k0
  rw [← hRq'] at hD1 l1 w1 k1
  have es : v = mn c.stable c.grain ((t + 1 : Nat) : Int) Rs' := (mn_const w0 v0 v1 (by omega) k0 hbk hNs.1).symm
  have eq : v = mn c.panic c.grain ((t + 1 : Nat) : Int) Rq' := (mn_const w1 v0 v1 (by omega) k1 hbk hNq.1).symm
  have eL : letN c p.1 v v r = Li c (Wn c v) r := by
    unfold letN; split
    · split <;> rfl
    · rfl
  obtain ⟨R0'', R1'', H', e2, hD2, n2, n3, q2, q3⟩ := dcnext_ok (mo := mo) (si := si) (ms := ms) hm hD1 (t := ((t + 1 : Nat) : Int)) (r := r) (by omega) (by omega) r0 r1 (by omega) (by omega) (by omega) (fun y hy => by rw [w0 y hy]; omega) (fun y hy => by rw [w1 y hy]; omega) es eq hp (by rw [hD, eL]) hk
  refine ⟨R0', R1', R0'', R1'', H', Rs', Rq', e, e2, hD2, ⟨w0, w1, by omega, by omega, ?_, ?_, ?_⟩⟩
  · have := List.length_filter_le (keepT ((t + 1 : Nat) : Int)) D
    rw [hD, List.length_append, List.length_singleton]; omega
  · rw [n2, n0, pnw_of c0, hbk]; exact Int.le_refl _
  · rw [n3, n1, pnw_of c1, hbk]; exact Int.le_refl _
theorem stay0 (c : Cf) (v : Int) : Stay c v 0 (rg0 c.stable c.grain) (rg0 c.panic c.grain) [] [] [] :=
  ⟨fun _ h => (by cases h), fun _ h => (by cases h), by simp, by simp, by simp, by simp [rg0], by simp [rg0]⟩
end Go.Proofs.YtdgipcjigbagfaaGreat.AB
namespace Go.Proofs.YtdgipcjigbagfaaGreat.AB
set_option linter.unusedVariables false
set_option linter.unusedSimpArgs false

abbrev Dn : Type := Int × Int × Int × Int × Bool × Int

theorem cmost_b (c : Cf) (hm : S.may c = true) : c.min ≤ S.cmost c ∧ 0 ≤ c.min ∧ 1 ≤ S.cmost c ∧ S.cmost c ≤ 100 := by
  have h := (may_iff c).mp hm
  have h1 := h.min; have h2 := h.max
  unfold S.cmost
  by_cases h0 : c.max = 0
  · simp only [h0, decide_true, cond_true]; omega
  · simp only [h0, decide_false, cond_false]; omega
theorem bnds_eq (c : Cf) (w : Int) : bnds c w = max c.min (min w (S.cmost c)) := by
  unfold bnds; split <;> (repeat' split at *) <;> (repeat' split) <;> omega
theorem bnds_b (c : Cf) (hm : S.may c = true) (w : Int) : 0 ≤ bnds c w ∧ bnds c w ≤ 100 := by
  have := cmost_b c hm
  rw [bnds_eq]; omega

/-- what a tick does: mode, what holds, what is kept -/
noncomputable def stepP (c : Cf) (v : Int) (t : Nat) (r si ms : Int) : Int × Int := S.next c si ms ((t + 1 : Nat) : Int) (S.wover c (Wn c v) r)
noncomputable def stepD (c : Cf) (v : Int) (t : Nat) (r : Int) (D : List (Int × Int)) : List (Int × Int) := D.filter (keepT ((t + 1 : Nat) : Int)) ++ [(((t + 1 : Nat) : Int), Li c (Wn c v) r)]
noncomputable def stepK (c : Cf) (v : Int) (t : Nat) (r si ms : Int) (D : List (Int × Int)) : Int × Int × Int := S.keep (stepP c v t r si ms).1 (stepP c v t r si ms).2 (mostFrom c.delay ((t + 1 : Nat) : Int) 0 (stepD c v t r D))

theorem run_loop {c : Cf} (hm : S.may c = true) {load r m v : Int} (hv : S.snum load 1000000000 = v) (v0 : 0 ≤ v) (v1 : v ≤ 1000000000) {K : Nat} (hK : S.snum1 m 30000 = (K : Int)) (hK2 : K ≤ 30000) (fu : Nat)
    (P : Nat → Int → Int → Int → List (Int × Int) → Prop) (Q : Nat → Dn → Prop)
    (step : ∀ (t : Nat) (r si ms : Int) (D : List (Int × Int)), t < K → 0 ≤ r → r ≤ 100 → P t r si ms D →
      P (t + 1) (bnds c (stepK c v t r si ms D).2.2) (stepK c v t r si ms D).1 (stepK c v t r si ms D).2.1 (stepD c v t r D) ∧ Q t (((t + 1 : Nat) : Int), v, v, bnds c (stepK c v t r si ms D).2.2, decide (0 ≤ (stepK c v t r si ms D).1), S.excess c r v)) :
    ∀ (n t : Nat) (r1 si ms la : Int) (R0 R1 : Rg) (H : Dl) (Rs Rq D : List (Int × Int)) (L : List Dn), t ≤ K → K < n + t → 0 ≤ r1 → r1 ≤ 100 → DRel c la c R0 R1 H Rs Rq D → Stay c v t R0 R1 Rs Rq D → la ≤ t → P t r1 si ms D → L.length = t → (∀ i x, L[i]? = some x → Q i x) →
    ∃ (z : Int × Int × Bool × Cf × Int × Int × Int × Cf × Bool × Rg × Rg × Dl) (L' : List Dn), S.run_l0 fu c load r m n t r1 ((t + 1 : Nat) : Int) c si ms la c false R0 R1 H L = some (K, z.1, z.2.1, z.2.2.1, z.2.2.2.1, z.2.2.2.2.1, z.2.2.2.2.2.1, z.2.2.2.2.2.2.1, z.2.2.2.2.2.2.2.1, z.2.2.2.2.2.2.2.2.1, z.2.2.2.2.2.2.2.2.2.1, z.2.2.2.2.2.2.2.2.2.2.1, z.2.2.2.2.2.2.2.2.2.2.2, L') ∧ L'.length = K ∧ ∀ i x, L'[i]? = some x → Q i x := by
  intro n
  induction n with
  | zero => intro t r1 si ms la R0 R1 H Rs Rq D L _ _; omega
  | succ n ih =>
    intro t r1 si ms la R0 R1 H Rs Rq D L ht hn r10 r11 hD hS hla hP hL hQ
    unfold S.run_l0
    rw [hK, hv]
    by_cases c2 : t < K
    · have g1 : (((t + 1 : Nat) : Int) ≤ (K : Int)) := by omega
      obtain ⟨R0', R1', R0'', R1'', H', Rs', Rq', e1, e2, hD', hS'⟩ := steady_step (mo := false) (si := si) (ms := ms) hm v0 v1 (t := t) (by omega) hD hS hla r10 r11 (p := stepP c v t r1 si ms) rfl (D' := stepD c v t r1 D) rfl (k := stepK c v t r1 si ms D) rfl
      have hwi : IntKind.wrap .i64 (((t + 1 : Nat) : Int) + 1) = ((t + 1 + 1 : Nat) : Int) := by rw [wrap_id (by omega) (by omega)]; omega
      have b1 : (Nat.beq 6 6 && Nat.blt 0 48 && Nat.beq 6 6 && Nat.beq 6 6 && Nat.beq 6 6 && Nat.blt 0 1 && !Nat.beq 9 14 && Nat.ble ((t + 1) * 48) 35184372088832) = true := by
        have : Nat.ble ((t + 1) * 48) 35184372088832 = true := Nat.ble_eq.mpr (by omega)
        rw [this]; rfl
      obtain ⟨hP', hQ'⟩ := step t r1 si ms D c2 r10 r11 hP
      have hb := bnds_b c hm (stepK c v t r1 si ms D).2.2
      have hcut : ∀ x : Dn, cutL L 0 t ++ cutL [x] 0 1 = L ++ [x] := by intro x; rw [← hL, cutL_all]; rfl
      simp only [g1, decide_true, cond_true, S.q_dcput_eq, S.q_dcnext_eq, e1, e2, optK, b1, hcut, hwi]
      have hlen : (L ++ [(((t + 1 : Nat) : Int), v, v, bnds c (stepK c v t r1 si ms D).2.2, decide (0 ≤ (stepK c v t r1 si ms D).1), S.excess c r1 v)]).length = t + 1 := by rw [List.length_append, hL]; rfl
      rw [hlen]
      refine ih (t + 1) _ _ _ _ R0'' R1'' H' Rs' Rq' _ _ (by omega) (by omega) hb.1 hb.2 hD' hS' (Int.le_refl _) hP' hlen ?_
      intro i x hx
      rw [List.getElem?_append] at hx
      split at hx
      · exact hQ i x hx
      · rename_i hge
        have hlt := (List.getElem?_eq_some_iff.mp hx).1
        simp at hlt
        have hi : i = t := by omega
        subst hi
        rw [hL] at hx
        simp at hx
        subst hx
        exact hQ'
    · have g1 : ¬ (((t + 1 : Nat) : Int) ≤ (K : Int)) := by omega
      have htK : t = K := by omega
      simp only [g1, decide_false, cond_false]
      exact ⟨(r1, ((t + 1 : Nat) : Int), false, c, si, ms, la, c, false, R0, R1, H), L, by rw [htK], by omega, hQ⟩

theorem snum_b (x m : Int) (h : 0 ≤ m) : 0 ≤ S.snum x m ∧ S.snum x m ≤ m := by
  unfold S.snum; rw [mclamp_eq]; exact clampF_range x 0 m h
theorem snum1_b (x m : Int) (h : 0 ≤ m) : 0 ≤ S.snum1 x m ∧ S.snum1 x m ≤ m := snum_b x m h
theorem snum_id {x m : Int} (h0 : 0 ≤ x) (h1 : x ≤ m) : S.snum x m = x := by
  unfold S.snum; rw [mclamp_eq]; unfold clampF; rw [if_neg (by omega), if_neg (by omega)]
theorem snum1_id {x m : Int} (h0 : 0 ≤ x) (h1 : x ≤ m) : S.snum1 x m = x := snum_id h0 h1

/-- a run: what holds at first and is kept holds of all -/
theorem run_ok {c : Cf} (hm : S.may c = true) {load r m v : Int} (hv : S.snum load 1000000000 = v) {K : Nat} (hK : S.snum1 m 30000 = (K : Int))
    (P : Nat → Int → Int → Int → List (Int × Int) → Prop) (Q : Nat → Dn → Prop) (h0 : P 0 (S.snum1 r 100) (-1) 0 [])
    (step : ∀ (t : Nat) (r si ms : Int) (D : List (Int × Int)), t < K → 0 ≤ r → r ≤ 100 → P t r si ms D →
      P (t + 1) (bnds c (stepK c v t r si ms D).2.2) (stepK c v t r si ms D).1 (stepK c v t r si ms D).2.1 (stepD c v t r D) ∧ Q t (((t + 1 : Nat) : Int), v, v, bnds c (stepK c v t r si ms D).2.2, decide (0 ≤ (stepK c v t r si ms D).1), S.excess c r v)) :
    ∃ L : List Dn, S.run 100000 c load r m = some (.inr (K, L)) ∧ L.length = K ∧ ∀ i x, L[i]? = some x → Q i x := by
  have hvb := snum_b load 1000000000 (by omega)
  have hKb := snum1_b m 30000 (by omega)
  have hrb := snum1_b r 100 (by omega)
  obtain ⟨z, L', e, hl, hQ⟩ := run_loop hm (r := r) hv (by omega) (by omega) hK (by omega) 100000 P Q step 100000 0 (S.snum1 r 100) (-1) 0 0 (rg0 c.stable c.grain) (rg0 c.panic c.grain) ⟨0, 0, c.delay, 0, []⟩ [] [] [] [] (by omega) (by omega) hrb.1 hrb.2 (drel0 c) (stay0 c v) (by omega) h0 rfl (fun i x hx => by simp at hx)
  have e' : S.run_l0 100000 c load r m 100000 0 (S.snum1 r 100) 1 c (-1) 0 0 c false (rg0 c.stable c.grain) (rg0 c.panic c.grain) ⟨0, 0, c.delay, 0, []⟩ [] = _ := e
  refine ⟨L', ?_, hl, hQ⟩
  unfold S.run
  rw [S.q_dcnew_p_eq, dcnew_yes hm]
  simp only [optK, Sum.elim_inr]
  rw [e']
  simp only [S.run_a0_0]
theorem run_no {c : Cf} (hm : S.may c = false) (load r m : Int) : S.run 100000 c load r m = some (.inl ()) := by
  unfold S.run
  have e : S.dcnew_p c = some (.inl ()) := by
    unfold S.dcnew_p S.dcnew
    simp only [cf_etaW, hm, Bool.not_false, cond_true, Option.bind_some, Sum.elim_inl]
  rw [S.q_dcnew_p_eq, e]
  simp only [optK, Sum.elim_inl]

/-! the aim -/
theorem mup_all {a b : Int} (ha : 0 ≤ a) (a1 : a ≤ 9223372036854775807) (hb : 0 < b) : S.mup a b = some (cdiv a b, 0) := by
  by_cases h : a < 9223372036854775807
  · exact mup_nn ha h hb
  obtain ⟨h0, h1⟩ := ediv_range ha (by omega) hb
  have e1 : ¬ b = 0 := by omega
  have e2 : ¬ a < 0 := by omega
  have e3 : ¬ b < 0 := by omega
  unfold S.mup cdiv
  rw [mhalf_nn ha (by omega) hb, Int.tmod_eq_emod_of_nonneg ha]
  simp only [optK]
  by_cases h : a % b = 0
  · simp [e1, h]
  · have hb1 : ¬ b = 1 := by intro e; subst e; exact h (Int.emod_one a)
    have h2 := Int.ediv_mul_le a e1
    have h3 : a / b * 2 ≤ a / b * b := Int.mul_le_mul_of_nonneg_left (by omega) h0
    rw [wrap_id (n := a / b + 1) (by omega) (by omega)]
    simp [e1, e2, e3, h]
theorem wof_all (c : Cf) (hm : S.may c = true) (m : Int) (m0 : 0 ≤ m) (m1 : m ≤ 9223372036854775807) : S.wof c m = some (Wn c m) := by
  have hp := Pe_range c hm
  unfold S.wof Wn
  simp only [cf_etaW, hm, Bool.not_true, cond_false, per_eq c hm, mup_all m0 m1 (b := Pe c) (by omega), optK, S.wnum, mclamp_eq]
theorem aim_eq (c : Cf) (hm : S.may c = true) (load : Int) (h1 : load ≤ 9223372036854775807) : S.aim c load = some (bnds c (Wn c (max load 0))) := by
  have e : (if 0 > load then 0 else load) = max load 0 := by split <;> omega
  unfold S.aim
  rw [e]
  simp only [cf_etaW, hm, Bool.not_true, cond_false, wof_all c hm (max load 0) (by omega) (by omega), optK]
  rfl
theorem cdiv_eq {a b : Int} (hb : 0 < b) : cdiv a b = (a + b - 1) / b := by
  have h1 := Int.emod_add_mul_ediv a b
  have h2 := Int.emod_nonneg a (show b ≠ 0 by omega)
  have h3 := Int.emod_lt_of_pos a hb
  unfold cdiv
  split
  · rename_i h
    rw [h, Int.zero_add] at h1
    have e : a + b - 1 = (b - 1) + b * (a / b) := by omega
    have z : (b - 1) / b = 0 := Int.ediv_eq_zero_of_lt (by omega) (by omega)
    rw [e, Int.add_mul_ediv_left _ _ (show b ≠ 0 by omega), z, Int.zero_add]
  · have e : a + b - 1 = (a % b - 1) + b * (a / b + 1) := by rw [Int.mul_add]; omega
    have z : (a % b - 1) / b = 0 := Int.ediv_eq_zero_of_lt (by omega) (by omega)
    rw [e, Int.add_mul_ediv_left _ _ (show b ≠ 0 by omega), z, Int.zero_add]
theorem Wn_mono (c : Cf) (hm : S.may c = true) {a b : Int} (h : a ≤ b) : Wn c a ≤ Wn c b := by
  have hp := Pe_range c hm
  unfold Wn
  refine clampF_mono _ _ _ _ ?_ (by omega)
  rw [cdiv_eq (by omega), cdiv_eq (by omega)]
  exact Int.ediv_le_ediv (by omega) (by omega)
theorem Wn_zero (c : Cf) : Wn c 0 = 0 := by unfold Wn cdiv clampF; simp
theorem tks_eq (c : Cf) (hm : S.may c = true) : S.tks c = 400 + 2 * c.stable + c.panic + 40 * c.delay := by
  have h := (may_iff c).mp hm
  have h1 := h.stable; have h2 := h.panic; have h3 := h.delay
  unfold S.tks
  rw [wrap_id (n := 2 * c.stable) (by omega) (by omega), wrap_id (n := 40 * c.delay) (by omega) (by omega), wrap_id (n := 400 + 2 * c.stable) (by omega) (by omega), wrap_id (n := 400 + 2 * c.stable + c.panic) (by omega) (by omega), wrap_id (n := 400 + 2 * c.stable + c.panic + 40 * c.delay) (by omega) (by omega)]
  simp only [cf_etaW, hm, Bool.not_true, cond_false]

/-- the document's settings -/
def dfl : Cf := ⟨10000, 700, 60, 6, 1, 2000, 10000, 2000, 0, 0, 1, 30, 0, 20000, 10, 100, 60, 3, 0, 0⟩
theorem dfl_may : S.may dfl = true := by
  rw [may_iff]; unfold dfl
  constructor <;> (try simp only [eq_self, if_true, true_or]) <;> omega
theorem zero_may : S.may ⟨0, 0, 0, 0, 0, 0, 0, 0, 0, 0, 0, 0, 0, 0, 0, 0, 0, 0, 0, 0⟩ = false := by
  cases h : S.may ⟨0, 0, 0, 0, 0, 0, 0, 0, 0, 0, 0, 0, 0, 0, 0, 0, 0, 0, 0, 0⟩ with
  | false => rfl
  | true => have := ((may_iff _).mp h).target; simp only at this; omega

theorem told26_run : ∃ L : List Dn, S.run 100000 dfl 70000 1 3 = some (.inr (3, L)) ∧ L.length = 3 ∧ ∀ i x, L[i]? = some x → (i = 0 → x.2.2.2.1 = 10 ∧ x.2.2.2.2.1 = true) := by
  have e1 : stepK dfl 70000 0 1 (-1) 0 [] = (1, 10, 10) := by decide +kernel
  have e2 : bnds dfl 10 = 10 := by decide +kernel
  refine run_ok dfl_may (v := 70000) (snum_id (by omega) (by omega)) (K := 3) (snum1_id (by omega) (by omega)) (fun t r si ms D => t = 0 → r = 1 ∧ si = -1 ∧ ms = 0 ∧ D = []) (fun i x => i = 0 → x.2.2.2.1 = 10 ∧ x.2.2.2.2.1 = true) ?_ ?_
  · intro _; exact ⟨snum1_id (by omega) (by omega), rfl, rfl, rfl⟩
  · intro t r si ms D ht r0 r1 hP
    refine ⟨fun h => by omega, fun h => ?_⟩
    obtain ⟨a, b, d, e⟩ := hP h
    subst h; subst a; subst b; subst d; subst e
    rw [e1]
    exact ⟨e2, rfl⟩
theorem told26_true : S.told26 = some true := by
  obtain ⟨L, e, hl, hQ⟩ := told26_run
  obtain ⟨x, hx⟩ : ∃ x, L[0]? = some x := ⟨L[0]'(by omega), by simp⟩
  obtain ⟨q1, q2⟩ := hQ 0 x hx rfl
  obtain ⟨L2, e2, hl2, _⟩ := run_ok dfl_may (load := 1) (r := 1) (m := -1) (v := 1) (snum_id (by omega) (by omega)) (K := 0) (by unfold S.snum1; rw [mclamp_eq]; rfl) (fun _ _ _ _ _ => True) (fun _ _ => True) trivial (fun _ _ _ _ _ _ _ _ _ => ⟨trivial, trivial⟩)
  have hd : (Cf.mk 10000 700 60 6 1 2000 10000 2000 0 0 1 30 0 20000 10 100 60 3 0 0) = dfl := rfl
  have i0 : inB 0 3 = true := rfl
  unfold S.told26
  rw [hd]
  simp only [S.q_run_eq, e, e2, run_no zero_may, optK, Sum.elim_inr, Sum.elim_inl, i0, hx, q1, q2, decide_true, cond_true]
  rfl
end Go.Proofs.YtdgipcjigbagfaaGreat.AB
namespace Go.Proofs.YtdgipcjigbagfaaGreat.AB
set_option linter.unusedVariables false
set_option linter.unusedSimpArgs false

theorem app_cell (y0 : Nat) (h : y0 ≤ 40000) (a b : Nat) (hab : Nat.beq a b = false) : (Nat.beq 6 6 && Nat.blt 0 48 && Nat.beq 6 6 && Nat.beq 6 6 && Nat.beq 6 6 && Nat.blt 0 1 && !Nat.beq a b && Nat.ble ((y0 + 1) * 48) 35184372088832) = true := by
  have : Nat.ble ((y0 + 1) * 48) 35184372088832 = true := Nat.ble_eq.mpr (by omega)
  rw [this, hab]; rfl

/-- both runs, side by side -/
theorem both_loop {c : Cf} {load r m v : Int} (hv : S.snum load 1000000000 = v) (hv2 : S.rclamp load 0 1000000000 = v) (v0 : 0 ≤ v) (v1 : v ≤ 1000000000) (hm : m ≤ 300) (fu : Nat) :
    ∀ (n t : Nat) (w si ms la : Int) (R0 R1 : Rg) (H : Dl) (P0 P1 : Rr) (Q : Rd) (Rs Rq D L : List (Int × Int)) (A : List Dn), t ≤ 300 → 301 < n + t → DP c si la false R0 R1 H P0 P1 Q Rs Rq D L (2 * t) → A.length = t →
    ∃ (z : Int × Int × Bool × Cf × Int × Int × Int × Cf × Bool × Rg × Rg × Dl) (z2 : Int × Int × Bool × Cf × Int × Int × Int × Rr × Rr × Rd) (A' : List Dn),
      S.run_l0 fu c load r m n t w ((t + 1 : Nat) : Int) c si ms la c false R0 R1 H A = some (A'.length, z.1, z.2.1, z.2.2.1, z.2.2.2.1, z.2.2.2.2.1, z.2.2.2.2.2.1, z.2.2.2.2.2.2.1, z.2.2.2.2.2.2.2.1, z.2.2.2.2.2.2.2.2.1, z.2.2.2.2.2.2.2.2.2.1, z.2.2.2.2.2.2.2.2.2.2.1, z.2.2.2.2.2.2.2.2.2.2.2, A') ∧
      S.rsteady_l0 fu c load r m n t w ((t + 1 : Nat) : Int) c si ms la P0 P1 Q A = some (A'.length, z2.1, z2.2.1, z2.2.2.1, z2.2.2.2.1, z2.2.2.2.2.1, z2.2.2.2.2.2.1, z2.2.2.2.2.2.2.1, z2.2.2.2.2.2.2.2.1, z2.2.2.2.2.2.2.2.2.1, z2.2.2.2.2.2.2.2.2.2, A') ∧ A'.length ≤ 300 := by
  intro n
  induction n with
  | zero => intro t w si ms la R0 R1 H P0 P1 Q Rs Rq D L A _ _; omega
  | succ n ih =>
    intro t w si ms la R0 R1 H P0 P1 Q Rs Rq D L A ht hn h hA
    unfold S.run_l0 S.rsteady_l0
    rw [hv, hv2]
    have hnum : S.snum1 m 30000 = if m < 0 then 0 else m := by
      unfold S.snum1; rw [mclamp_eq]; unfold clampF; rw [if_neg (by omega)]
    have hlim : ((t + 1 : Nat) : Int) ≤ 30000 := by omega
    rw [hnum]
    by_cases c2 : ((t + 1 : Nat) : Int) ≤ m
    · have g1 : ((t + 1 : Nat) : Int) ≤ (if m < 0 then 0 else m) := by rw [if_neg (by omega)]; exact c2
      have hwi : IntKind.wrap .i64 (((t + 1 : Nat) : Int) + 1) = ((t + 1 + 1 : Nat) : Int) := by rw [wrap_id (by omega) (by omega)]; omega
      obtain ⟨R0', R1', P0', P1', Rs', Rq', e1, e2, h'⟩ := dp_put (ms := ms) h (by omega) (t := ((t + 1 : Nat) : Int)) (by omega) (by omega) v0 v1
      obtain ⟨x, si', ms', la', R0'', R1'', H', P0'', P1'', Q', D', L', e3, e5, h'', hx⟩ := dp_next (ms := ms) h' (by omega) ((t + 1 : Nat) : Int) w
      have hcut : ∀ y : Dn, cutL A 0 t ++ cutL [y] 0 1 = A ++ [y] := by intro y; rw [← hA, cutL_all]; rfl
      have hlen : ∀ y : Dn, (A ++ [y]).length = t + 1 := by intro y; rw [List.length_append, hA]; rfl
      simp only [g1, c2, hlim, decide_true, cond_true, S.q_dcput_eq, S.q_rmput_eq, S.q_dcnext_eq, S.q_rdcnext_eq, e1, e2, e3, e5, optK, app_cell t (by omega) 9 14 rfl, app_cell t (by omega) 8 19 rfl, hcut, hlen, hwi]
      exact ih (t + 1) x.2.2.2.1 si' ms' la' R0'' R1'' H' P0'' P1'' Q' Rs' Rq' D' L' _ (by omega) (by omega) (by rw [show 2 * (t + 1) = 2 * t + 1 + 1 by omega]; exact h'') (hlen _)
    · have g1 : ¬ ((t + 1 : Nat) : Int) ≤ (if m < 0 then 0 else m) := by split <;> omega
      simp only [g1, c2, decide_false, cond_false]
      exact ⟨(w, ((t + 1 : Nat) : Int), false, c, si, ms, la, c, false, R0, R1, H), (w, ((t + 1 : Nat) : Int), false, c, si, ms, la, P0, P1, Q), A, by rw [hA], by rw [hA], by omega⟩

theorem both_ok {c : Cf} (hm : S.may c = true) (load r : Int) {m : Int} (hm2 : m ≤ 300) : ∃ A : List Dn, S.run 100000 c load r m = some (.inr (A.length, A)) ∧ S.rsteady 100000 c load r m = some (.inr (A.length, A)) ∧ A.length ≤ 300 := by
  obtain ⟨v, hv⟩ : ∃ v, S.snum load 1000000000 = v := ⟨_, rfl⟩
  have hvb := snum_b load 1000000000 (by omega)
  have hv2 : S.rclamp load 0 1000000000 = v := by rw [← hv, rclampD_eq]; unfold S.snum; rw [mclamp_eq]
  have hr : (if 100 < if 0 > r then 0 else r then 100 else if 0 > r then 0 else r) = S.snum1 r 100 := by
    unfold S.snum1; rw [mclamp_eq]; unfold clampF
    repeat' split
    all_goals omega
  obtain ⟨z, z2, A, e1, e2, hl⟩ := both_loop (c := c) (r := r) (m := m) hv hv2 (by omega) (by omega) hm2 100000 100000 0 (S.snum1 r 100) (-1) 0 0 (rg0 c.stable c.grain) (rg0 c.panic c.grain) ⟨0, 0, c.delay, 0, []⟩ _ _ _ [] [] [] [] [] (by omega) (by omega) (dp0 hm) rfl
  have e1' : S.run_l0 100000 c load r m 100000 0 (S.snum1 r 100) 1 c (-1) 0 0 c false (rg0 c.stable c.grain) (rg0 c.panic c.grain) ⟨0, 0, c.delay, 0, []⟩ [] = _ := e1
  have e2' : S.rsteady_l0 100000 c load r m 100000 0 (S.snum1 r 100) 1 c (-1) 0 0 (rrOf c.stable c.grain (-1) false []) (rrOf c.panic c.grain (-1) false []) (rdOf c.delay []) [] = _ := e2
  refine ⟨A, ?_, ?_, hl⟩
  · unfold S.run
    rw [S.q_dcnew_p_eq, dcnew_yes hm]
    simp only [optK, Sum.elim_inr]
    rw [e1']
    simp only [S.run_a0_0]
  · unfold S.rsteady
    rw [S.q_rdcnew_p_eq, rdcnew_yes hm, hr]
    simp only [optK, Sum.elim_inr]
    rw [e2']
    simp only [S.rsteady_a0_0]
theorem rsteady_no {c : Cf} (hm : S.may c = false) (load r m : Int) : S.rsteady 100000 c load r m = some (.inl ()) := by
  unfold S.rsteady
  rw [S.q_rdcnew_p_eq, rdcnew_no hm]
  simp only [optK, Sum.elim_inl]

theorem raim_eq (c : Cf) (load : Int) (h1 : load ≤ 9223372036854775807) : S.raim c load = S.aim c load := by
  unfold S.raim S.aim
  rw [S.q_rmay_eq, rmay_eq]
  cases hm : S.may c with
  | false => rfl
  | true =>
    have e : (if 0 > load then 0 else load) = max load 0 := by split <;> omega
    have hp := Pe_range c hm
    have er : S.rof c (max load 0) = some (Wn c (max load 0)) := by
      unfold S.rof Wn
      simp only [cf_etaW, rmay_eq, hm, Bool.not_true, cond_false, rperD_eq c hm, rup_eq, mup_all (a := max load 0) (b := Pe c) (by omega) (by omega) (by omega), optK, rclampD_eq]
    rw [e, er, wof_all c hm (max load 0) (by omega) (by omega)]
    rfl
theorem rtks_eq (c : Cf) : S.rtks c = S.tks c := by
  unfold S.rtks S.tks
  rw [S.q_rmay_eq, rmay_eq]

theorem Asks_loop (fu : Nat) (c : Cf) (load r m : Int) (A : List Dn) (hl : A.length ≤ 300) :
    ∀ (k i : Nat), i ≤ A.length → A.length < k + i → ∃ z, S.SteadyAsks_l0 fu c load r m k A.length A.length i c A A = some (.inr (A.length, A.length, (A.length : Int), z, c, A, A)) := by
  intro k
  induction k with
  | zero => intro i _ _; omega
  | succ k ih =>
    intro i hi hk
    unfold S.SteadyAsks_l0
    by_cases c2 : i < A.length
    · have g1 : ((i : Int) < ((A.length : Nat) : Int)) := by omega
      have g2 : inB (i : Int) A.length = true := by unfold inB; simp; omega
      obtain ⟨x, hx⟩ : ∃ x, A[i]? = some x := ⟨A[i]'(by omega), by simp⟩
      have g3 : A[Int.toNat (i : Int) + 0]? = some x := by simpa using hx
      have hwi : IntKind.wrap .i64 ((i : Int) + 1) = ((i + 1 : Nat) : Int) := by rw [wrap_id (by omega) (by omega)]; omega
      simp only [g1, g2, g3, decide_true, cond_true, optK, BEq.rfl, Bool.and_self, Bool.not_true, cond_false, hwi]
      exact ih (i + 1) (by omega) (by omega)
    · have g1 : ¬ ((i : Int) < ((A.length : Nat) : Int)) := by omega
      have e : i = A.length := by omega
      simp only [g1, decide_false, cond_false]
      rw [e]; exact ⟨_, rfl⟩

theorem a0_1_ok (c : Cf) (load r m : Int) (h1 : load ≤ 9223372036854775807) (z0 z1 : Nat) (z2 : Int) (z3 : Bool) (z5 z6 : List Dn) : S.SteadyAsks_a0_1 100000 c load r m z0 z1 z2 z3 c z5 z6 = some true := by
  unfold S.SteadyAsks_a0_1
  rw [S.q_told26_eq, told26_true, S.q_aim_eq, S.q_raim_eq, raim_eq c load h1]
  cases hm : S.may c with
  | false =>
    have e : S.aim c load = some 0 := by unfold S.aim; simp only [cf_etaW, hm, Bool.not_false, cond_true]
    rw [e]
    simp only [optK, cond_true, decide_true, rtks_eq]
  | true =>
    rw [aim_eq c hm load h1]
    simp only [optK, cond_true, decide_true, rtks_eq]

theorem SteadyAsks_true (c : Cf) (load r m : Int) (h1 : load ≤ 9223372036854775807) : S.SteadyAsks 100000 c load r m = some true := by
  have key : ∀ k : Int, k ≤ 300 → (optK (S.q_run 100000 c load r k) fun o3 =>
   (Sum.elim (fun o4 : Unit =>
    (optK (S.q_rsteady 100000 c load r k) fun o5 =>
   (Sum.elim (fun o6 : Unit =>
    optK (S.SteadyAsks_l0 100000 c load r m 100000 (0) (0) (0) (c) ([]) ([])) (Sum.elim (fun z : Cf × List (Int × Int × Int × Int × Bool × Int) × List (Int × Int × Int × Int × Bool × Int) => S.SteadyAsks_a0_0 100000 c load r m (z.1) (z.2.1) (z.2.2)) (fun z : Nat × Nat × Int × Bool × Cf × List (Int × Int × Int × Int × Bool × Int) × List (Int × Int × Int × Int × Bool × Int) => S.SteadyAsks_a0_1 100000 c load r m (z.1) (z.2.1) (z.2.2.1) (z.2.2.2.1) (z.2.2.2.2.1) (z.2.2.2.2.2.1) (z.2.2.2.2.2.2)))) (fun o6 : Nat × List (Int × Int × Int × Int × Bool × Int) =>
    bif !decide (0 = ((o6.1 : Nat) : Int)) then
   some (false)
 else
   optK (S.SteadyAsks_l0 100000 c load r m 100000 (0) (o6.1) (0) (c) ([]) (o6.2)) (Sum.elim (fun z : Cf × List (Int × Int × Int × Int × Bool × Int) × List (Int × Int × Int × Int × Bool × Int) => S.SteadyAsks_a0_0 100000 c load r m (z.1) (z.2.1) (z.2.2)) (fun z : Nat × Nat × Int × Bool × Cf × List (Int × Int × Int × Int × Bool × Int) × List (Int × Int × Int × Int × Bool × Int) => S.SteadyAsks_a0_1 100000 c load r m (z.1) (z.2.1) (z.2.2.1) (z.2.2.2.1) (z.2.2.2.2.1) (z.2.2.2.2.2.1) (z.2.2.2.2.2.2)))) (o5)))) (fun o4 : Nat × List (Int × Int × Int × Int × Bool × Int) =>
    (optK (S.q_rsteady 100000 c load r k) fun o5 =>
   (Sum.elim (fun o6 : Unit =>
    bif !decide (((o4.1 : Nat) : Int) = 0) then
   some (false)
 else
   optK (S.SteadyAsks_l0 100000 c load r m 100000 (o4.1) (0) (0) (c) (o4.2) ([])) (Sum.elim (fun z : Cf × List (Int × Int × Int × Int × Bool × Int) × List (Int × Int × Int × Int × Bool × Int) => S.SteadyAsks_a0_0 100000 c load r m (z.1) (z.2.1) (z.2.2)) (fun z : Nat × Nat × Int × Bool × Cf × List (Int × Int × Int × Int × Bool × Int) × List (Int × Int × Int × Int × Bool × Int) => S.SteadyAsks_a0_1 100000 c load r m (z.1) (z.2.1) (z.2.2.1) (z.2.2.2.1) (z.2.2.2.2.1) (z.2.2.2.2.2.1) (z.2.2.2.2.2.2)))) (fun o6 : Nat × List (Int × Int × Int × Int × Bool × Int) =>
    bif !decide (((o4.1 : Nat) : Int) = ((o6.1 : Nat) : Int)) then
   some (false)
 else
   optK (S.SteadyAsks_l0 100000 c load r m 100000 (o4.1) (o6.1) (0) (c) (o4.2) (o6.2)) (Sum.elim (fun z : Cf × List (Int × Int × Int × Int × Bool × Int) × List (Int × Int × Int × Int × Bool × Int) => S.SteadyAsks_a0_0 100000 c load r m (z.1) (z.2.1) (z.2.2)) (fun z : Nat × Nat × Int × Bool × Cf × List (Int × Int × Int × Int × Bool × Int) × List (Int × Int × Int × Int × Bool × Int) => S.SteadyAsks_a0_1 100000 c load r m (z.1) (z.2.1) (z.2.2.1) (z.2.2.2.1) (z.2.2.2.2.1) (z.2.2.2.2.2.1) (z.2.2.2.2.2.2)))) (o5)))) (o3))) = some true := by
    intro k hk
    rw [S.q_run_eq, S.q_rsteady_eq]
    cases hm : S.may c with
    | false =>
      rw [run_no hm, rsteady_no hm]
      obtain ⟨z, e⟩ := Asks_loop 100000 c load r m [] (by simp) 100000 0 (by simp) (by simp)
      have e' : S.SteadyAsks_l0 100000 c load r m 100000 0 0 0 c [] [] = some (.inr (0, 0, 0, z, c, [], [])) := e
      simp only [optK, Sum.elim_inl, e', Sum.elim_inr, a0_1_ok c load r m h1]
    | true =>
      obtain ⟨A, e1, e2, hl⟩ := both_ok hm load r hk
      rw [e1, e2]
      obtain ⟨z, e⟩ := Asks_loop 100000 c load r m A hl 100000 0 (by omega) (by omega)
      have e' : S.SteadyAsks_l0 100000 c load r m 100000 A.length A.length 0 c A A = some (.inr (A.length, A.length, (A.length : Int), z, c, A, A)) := e
      simp only [optK, Sum.elim_inr, decide_true, Bool.not_true, cond_false, e', a0_1_ok c load r m h1]
  unfold S.SteadyAsks
  by_cases hk : 300 < m
  · have h2 := Int.tmod_lt_of_pos m (b := 301) (by omega)
    simp only [hk, decide_true, cond_true]
    exact key (Int.tmod m 301) (by omega)
  · simp only [hk, decide_false, cond_false]
    exact key m (by omega)
end Go.Proofs.YtdgipcjigbagfaaGreat.AB
