/- DecideBounds answers true. -/
import Derived.Test.YtdgipcjigbagfaaPlDec
import Derived.Test.YtdgipcjigbagfaaPlRings
import Derived.Test.YtdgipcjigbagfaaSDecideBounds
namespace Go.Proofs.Ytdgipcjigbagfaa.AB
set_option linter.unusedVariables false
set_option linter.unusedSimpArgs false

theorem mostFromB_no {sp t : Int} {m : Int} : ∀ {q : List (Int × Int)}, (∀ x ∈ q, counts sp t x = false) → mostFrom sp t m q = m
  | [], _ => rfl
  | x :: q, h => by
    unfold mostFrom
    rw [h x (by simp)]
    simp only [Bool.false_eq_true, if_false]
    exact mostFromB_no (fun y hy => h y (by simp [hy]))
theorem mostFromB_append {sp t : Int} : ∀ (q r : List (Int × Int)) (m : Int), mostFrom sp t m (q ++ r) = mostFrom sp t (mostFrom sp t m q) r
  | [], r, m => rfl
  | x :: q, r, m => by
    show mostFrom sp t (if counts sp t x then (if x.2 > m then x.2 else m) else m) (q ++ r) = mostFrom sp t (mostFrom sp t (if counts sp t x then (if x.2 > m then x.2 else m) else m) q) r
    exact mostFromB_append q r _

theorem cmost_min (c : Cf) (hm : S.may c = true) : c.min ≤ S.cmost c := by
  have h := (may_iff c).mp hm
  have h1 := h.min; have h2 := h.max
  unfold S.cmost
  by_cases h0 : c.max = 0
  · simp only [h0, decide_true, cond_true]; omega
  · simp only [h0, decide_false, cond_false]; omega
theorem bnds_min (c : Cf) (w : Int) : c.min ≤ bnds c w := by unfold bnds; split <;> omega
theorem bnds_max (c : Cf) (hm : S.may c = true) (w : Int) : bnds c w ≤ S.cmost c := by
  have := cmost_min c hm
  unfold bnds
  revert this
  generalize S.cmost c = m
  intro this
  repeat' split
  all_goals omega
theorem bnds_mono (c : Cf) {v w : Int} (h : v ≤ w) : bnds c v ≤ bnds c w := by
  unfold bnds
  generalize S.cmost c = m
  repeat' split
  all_goals omega

theorem keep_eq (t m w : Int) : S.keep t m w = if 0 ≤ t then (t, if w > m then w else m, if w > m then w else m) else (t, m, w) := by
  unfold S.keep; rw [is_eq]
  by_cases h : 0 ≤ t <;> simp [h]

theorem bounds_step {c : Cf} (hm : S.may c = true) {si ms la lw : Int} {Rs Rq D : List (Int × Int)} {R0 R1 : Rg} {H : Dl} (h : DRel c la c R0 R1 H Rs Rq D) {t r : Int} (t0 : la ≤ t) (t1 : t ≤ 100000) (r0 : 0 ≤ r) (r1 : r ≤ 100)
    (h0 : Rs.length ≤ 70000) (h1 : Rq.length ≤ 70000) (hd : D.length ≤ 80000) (v0 : ∀ y ∈ Rs, y.2 ≤ 1000000000000) (v1 : ∀ y ∈ Rq, y.2 ≤ 1000000000000) (hD : ∀ x ∈ D, x.1 < t) (hl : 0 ≤ si → lw = bnds c ms) :
    ∃ s q W P ex si' ms' R0' R1' H' D', S.dcnext c si ms la c false R0 R1 H t r = some (t, s, q, W, P, ex, 0, c, si', ms', t, c, false, R0', R1', H') ∧ DRel c t c R0' R1' H' Rs Rq D' ∧ (∀ x ∈ D', x.1 ≤ t) ∧ D'.length ≤ D.length + 1 ∧
      c.min ≤ W ∧ W ≤ S.cmost c ∧ (P = true → 0 ≤ si → lw ≤ W) ∧ P = decide (0 ≤ si') ∧ (0 ≤ si' → W = bnds c ms') ∧
      (P = false → c.delay = 0 → W ≤ (if Mo c r > c.min then Mo c r else c.min) ∧ (if Le c r < S.cmost c then Le c r else S.cmost c) ≤ W) := by
  have hla := h.la0
  obtain ⟨p, hp⟩ : ∃ p, p = S.next c si ms t (S.wover c (Wn c (mn c.panic c.grain t Rq)) r) := ⟨_, rfl⟩
  obtain ⟨D', hD'⟩ : ∃ D', D' = D.filter (keepT t) ++ [(t, letN c p.1 (mn c.stable c.grain t Rs) (mn c.panic c.grain t Rq) r)] := ⟨_, rfl⟩
  obtain ⟨k, hk⟩ : ∃ k, k = S.keep p.1 p.2 (mostFrom c.delay t 0 D') := ⟨_, rfl⟩
  obtain ⟨R0', R1', H', e, hR, q⟩ := dcnext_ok (mo := false) (si := si) (ms := ms) hm h (t := t) (r := r) t0 (by omega) r0 r1 h0 h1 hd v0 v1 rfl rfl hp hD' hk
  have hn : 0 ≤ p.1 → 0 ≤ si → p.2 = ms := by
    rw [hp, next_eq, hm]
    have g1 : ¬ t < 0 := by omega
    have g2 : ¬ 1099511627776 < t := by omega
    simp only [g1, g2, Bool.not_true, decide_false, Bool.or_self, Bool.false_eq_true, if_false]
    intro a b
    generalize S.wover c (Wn c (mn c.panic c.grain t Rq)) r = ov at a ⊢
    cases ov with
    | true => simp only [b, if_true]
    | false =>
      simp only [Bool.false_eq_true, if_false] at a ⊢
      split at a
      · exact absurd a (by decide)
      · rename_i hx; rw [if_neg hx]
  rw [keep_eq] at hk
  have hr1 := Mo_gt c hm r r0 (by omega)
  have hr2 := Le_lt c hm r r0 (by omega)
  refine ⟨_, _, _, _, _, _, _, R0', R1', H', D', e, hR, ?_, ?_, bnds_min c _, bnds_max c hm _, ?_, rfl, ?_, ?_⟩
  · intro x hx
    rw [hD'] at hx
    rcases List.mem_append.mp hx with hx | hx
    · have := hD x (List.mem_filter.mp hx).1; omega
    · simp at hx; subst hx; simp
  · have := List.length_filter_le (keepT t) D
    rw [hD', List.length_append, List.length_singleton]; omega
  · intro hP hs
    have hP := of_decide_eq_true hP
    by_cases hc : 0 ≤ p.1
    · rw [if_pos hc] at hk
      rw [hk, hl hs]
      refine bnds_mono c ?_
      rw [hn hc hs]
      simp only
      split <;> omega
    · rw [if_neg hc] at hk
      rw [hk] at hP
      exact absurd hP hc
  · intro hP
    by_cases hc : 0 ≤ p.1
    · rw [if_pos hc] at hk
      rw [hk]
    · rw [if_neg hc] at hk
      rw [hk] at hP
      exact absurd hP hc
  · intro hP hdl
    have hP := of_decide_eq_false hP
    by_cases hc : 0 ≤ p.1
    · rw [if_pos hc] at hk
      rw [hk] at hP
      exact absurd hc hP
    · rw [if_neg hc] at hk
      have eLet : letN c p.1 (mn c.stable c.grain t Rs) (mn c.panic c.grain t Rq) r = Li c (Wn c (mn c.stable c.grain t Rs)) r := by unfold letN; rw [if_neg hc]
      have hw := Wn_range c (mn c.stable c.grain t Rs)
      have hLi := Li_range c hm (Wn c (mn c.stable c.grain t Rs)) r hw.1 hw.2 r0 (by omega)
      have eMost : mostFrom c.delay t 0 D' = Li c (Wn c (mn c.stable c.grain t Rs)) r := by
        rw [hD', mostFromB_append, mostFromB_no (m := 0), hdl, eLet]
        · unfold mostFrom mostFrom counts
          simp only [Int.le_refl, decide_true, Bool.true_or, if_true]
          split <;> omega
        · intro x hx
          have := hD x (List.mem_filter.mp hx).1
          unfold counts
          rw [hdl]
          simp only [Bool.or_eq_false_iff, decide_eq_false_iff_not]
          exact ⟨by omega, by omega⟩
      have ek : k.2.2 = Li c (Wn c (mn c.stable c.grain t Rs)) r := by rw [hk, ← eMost]
      rw [ek]
      have b1 : Li c (Wn c (mn c.stable c.grain t Rs)) r ≤ Mo c r := by unfold Li; split <;> omega
      have b2 : Le c r ≤ Li c (Wn c (mn c.stable c.grain t Rs)) r := by
        unfold Li; split
        · omega
        · split <;> omega
      have b3 := cmost_min c hm
      revert b1 b2 b3
      unfold bnds
      generalize Li c (Wn c (mn c.stable c.grain t Rs)) r = L
      generalize S.cmost c = M
      intro b1 b2 b3
      constructor
      · repeat' split
        all_goals omega
      · repeat' split
        all_goals omega

theorem DecideBounds_loop (fu : Nat) (c : Cf) (hm : S.may c = true) (l u : List Int) :
    ∀ (k i : Nat) (si ms la : Int) (R0 R1 : Rg) (H : Dl) (y11 y12 y13 lw : Int) (lp : Bool) (y16 : Int) (Rs Rq D : List (Int × Int)), i ≤ l.length → i ≤ 120 → 120 < k + i → DRel c la c R0 R1 H Rs Rq D → la ≤ i → Rs.length ≤ i → Rq.length ≤ i → D.length ≤ i → (∀ x ∈ D, x.1 ≤ i) →
    (∀ y ∈ Rs, y.2 ≤ 10000000) → (∀ y ∈ Rq, y.2 ≤ 10000000) → lp = decide (0 ≤ si) → (0 ≤ si → lw = bnds c ms) →
    ∃ z, S.DecideBounds_l0 fu c l l.length u u.length k i c c si ms la c false R0 R1 H y11 y12 y13 lw lp y16 = some (.inr (.inr z)) := by
  intro k
  induction k with
  | zero => intro i si ms la R0 R1 H y11 y12 y13 lw lp y16 Rs Rq D _ _; omega
  | succ k ih =>
    intro i si ms la R0 R1 H y11 y12 y13 lw lp y16 Rs Rq D hi h120 hk hD hla hRs hRq hDl hDt hv0 hv1 hlp hlw
    unfold S.DecideBounds_l0
    by_cases c2 : i < l.length
    · have g1 : ((i : Int) < ((l.length : Nat) : Int)) := by omega
      by_cases c3 : i < 120
      · have g0 : ((i : Int) < 120) := by omega
        have g2 : inB (i : Int) l.length = true := by unfold inB; simp; omega
        obtain ⟨o, ho⟩ : ∃ o, l[i]? = some o := ⟨l[i]'c2, by simp⟩
        have g3 : l[Int.toNat (i : Int) + 0]? = some o := by simpa using ho
        obtain ⟨v, hv, v0, v1⟩ := um o (m := 10000000) (by omega) (by omega)
        have hwi : IntKind.wrap .i64 ((i : Int) + 1) = ((i + 1 : Nat) : Int) := by rw [wrap_id (by omega) (by omega)]; omega
        have htk : Tk (((i + 1 : Nat) : Int), v) := mk_tk (by omega) (by omega) v0 (by unfold M63; omega)
        obtain ⟨R0', R1', e, hD', n0, n1, q0, q1⟩ := dcput_ok (mo := false) (si := si) (ms := ms) hm hD htk (by omega) (by omega)
        obtain ⟨Rs', hRs'⟩ : ∃ q, q = pR c.grain (NB c.stable c.grain) R0.nw (((i + 1 : Nat) : Int), v) Rs := ⟨_, rfl⟩
        obtain ⟨Rq', hRq'⟩ : ∃ q, q = pR c.grain (NB c.panic c.grain) R1.nw (((i + 1 : Nat) : Int), v) Rq := ⟨_, rfl⟩
        have l0 := pR_len c.grain (NB c.stable c.grain) R0.nw (((i + 1 : Nat) : Int), v) Rs
        have l1 := pR_len c.grain (NB c.panic c.grain) R1.nw (((i + 1 : Nat) : Int), v) Rq
        have hw0 : ∀ y ∈ Rs', y.2 ≤ 10000000 := by rw [hRs']; exact pR_all hv0 (by simp only; omega)
        have hw1 : ∀ y ∈ Rq', y.2 ≤ 10000000 := by rw [hRq']; exact pR_all hv1 (by simp only; omega)
        rw [← hRs'] at l0 hD'
        rw [← hRq'] at l1 hD'
        simp only at e
        have st := fun (r : Int) (r0 : 0 ≤ r) (r1 : r ≤ 100) => bounds_step hm (lw := lw) (si := si) (ms := ms) hD' (t := ((i + 1 : Nat) : Int)) (r := r) (by omega) (by omega) r0 r1 (by omega) (by omega) (by omega) (fun y hy => by have := hw0 y hy; omega) (fun y hy => by have := hw1 y hy; omega) (fun x hx => by have := hDt x hx; omega) hlw
        have ec : S.rcmost c = S.cmost c := rfl
        by_cases c4 : i < u.length
        · have g4 : ((i : Int) < ((u.length : Nat) : Int)) := by omega
          have g5 : inB (i : Int) u.length = true := by unfold inB; simp; omega
          obtain ⟨o', ho'⟩ : ∃ o, u[i]? = some o := ⟨u[i]'c4, by simp⟩
          have g6 : u[Int.toNat (i : Int) + 0]? = some o' := by simpa using ho'
          obtain ⟨r, hr, r0, r1⟩ := um o' (m := 101) (by omega) (by omega)
          obtain ⟨s, q, W, P, ex, si', ms', R0'', R1'', H', D', e2, hD2, hDt2, hDl2, f1, f2, f3, f4, f5, f6⟩ := st r r0 (by omega)
          obtain ⟨z, fin⟩ := ih (i + 1) si' ms' _ R0'' R1'' H' ((i + 1 : Nat) : Int) s q W P ex Rs' Rq' D' (by omega) (by omega) (by omega) hD2 (by omega) (by omega) (by omega) (by omega) hDt2 hw0 hw1 f4 f5
          refine ⟨z, ?_⟩
          have n1 : ¬ W < c.min := by omega
          have n2 : ¬ S.cmost c < W := by omega
          simp only [g1, g0, g2, g3, g4, g5, g6, decide_true, cond_true, optK, hv, hwi, hr]
          rw [S.q_dcput_eq, e]
          simp only [optK, decide_true, Bool.not_true, cond_false]
          rw [S.q_dcnext_eq, e2]
          simp only [optK, decide_true, Bool.not_true, cond_false, S.q_rcmost_eq, ec, n1, n2, decide_false, S.q_rmost_eq, rmost_eq, most_eq c hm, S.q_rleast_eq, rleast_eq, least_eq c hm]
          cases P with
          | true =>
            cases lp with
            | true =>
              have hs := of_decide_eq_true hlp.symm
              have n3 : ¬ W < lw := by have := f3 rfl hs; omega
              simp only [n3, decide_false, cond_true, cond_false, Bool.not_true]
              exact fin
            | false =>
              simp only [decide_false, cond_true, cond_false, Bool.not_true]
              exact fin
          | false =>
            by_cases hdl : c.delay = 0
            · have n4 := f6 rfl hdl
              have n5 : ¬ (if Mo c r > c.min then Mo c r else c.min) < W := by omega
              have n6 : ¬ W < (if Le c r < S.cmost c then Le c r else S.cmost c) := by omega
              cases lp <;> (simp only [hdl, n5, n6, decide_true, decide_false, cond_true, cond_false, Bool.not_false]; exact fin)
            · cases lp <;> (simp only [hdl, decide_false, cond_true, cond_false, Bool.not_false]; exact fin)
        · have g4 : ¬ ((i : Int) < ((u.length : Nat) : Int)) := by omega
          obtain ⟨s, q, W, P, ex, si', ms', R0'', R1'', H', D', e2, hD2, hDt2, hDl2, f1, f2, f3, f4, f5, f6⟩ := st 0 (by omega) (by omega)
          obtain ⟨z, fin⟩ := ih (i + 1) si' ms' _ R0'' R1'' H' ((i + 1 : Nat) : Int) s q W P ex Rs' Rq' D' (by omega) (by omega) (by omega) hD2 (by omega) (by omega) (by omega) (by omega) hDt2 hw0 hw1 f4 f5
          refine ⟨z, ?_⟩
          have n1 : ¬ W < c.min := by omega
          have n2 : ¬ S.cmost c < W := by omega
          simp only [g1, g0, g2, g3, g4, decide_true, decide_false, cond_true, cond_false, optK, hv, hwi]
          rw [S.q_dcput_eq, e]
          simp only [optK, decide_true, Bool.not_true, cond_false]
          rw [S.q_dcnext_eq, e2]
          simp only [optK, decide_true, Bool.not_true, cond_false, S.q_rcmost_eq, ec, n1, n2, decide_false, S.q_rmost_eq, rmost_eq, most_eq c hm, S.q_rleast_eq, rleast_eq, least_eq c hm]
          cases P with
          | true =>
            cases lp with
            | true =>
              have hs := of_decide_eq_true hlp.symm
              have n3 : ¬ W < lw := by have := f3 rfl hs; omega
              simp only [n3, decide_false, cond_true, cond_false, Bool.not_true]
              exact fin
            | false =>
              simp only [decide_false, cond_true, cond_false, Bool.not_true]
              exact fin
          | false =>
            by_cases hdl : c.delay = 0
            · have n4 := f6 rfl hdl
              have n5 : ¬ (if Mo c 0 > c.min then Mo c 0 else c.min) < W := by omega
              have n6 : ¬ W < (if Le c 0 < S.cmost c then Le c 0 else S.cmost c) := by omega
              cases lp <;> (simp only [hdl, n5, n6, decide_true, decide_false, cond_true, cond_false, Bool.not_false]; exact fin)
            · cases lp <;> (simp only [hdl, decide_false, cond_true, cond_false, Bool.not_false]; exact fin)
      · have g0 : ¬ ((i : Int) < 120) := by omega
        simp only [g1, g0, decide_true, decide_false, cond_true, cond_false]
        exact ⟨_, rfl⟩
    · have g1 : ¬ ((i : Int) < ((l.length : Nat) : Int)) := by omega
      simp only [g1, decide_false, cond_false]
      exact ⟨_, rfl⟩

theorem DecideBounds_true (c : Cf) (l u : List Int) : S.DecideBounds 100000 c l l.length u u.length = some true := by
  unfold S.DecideBounds
  rw [S.q_rmay_eq, rmay_eq]
  cases hm : S.may c with
  | false => simp
  | true =>
    rw [S.q_dcnew_p_eq, dcnew_yes hm]
    simp only [Bool.not_true, cond_false, optK, Sum.elim_inr]
    obtain ⟨z, e⟩ := DecideBounds_loop 100000 c hm l u 100000 0 (-1) 0 0 (rg0 c.stable c.grain) (rg0 c.panic c.grain) ⟨0, 0, c.delay, 0, []⟩ 0 0 0 0 false 0 [] [] [] (by omega) (by omega) (by omega) (drel0 c) (by omega) (by simp) (by simp) (by simp) (fun _ h => (by cases h)) (fun _ h => (by cases h)) (fun _ h => (by cases h)) rfl (fun h => by omega)
    have e' : S.DecideBounds_l0 100000 c l l.length u u.length 100000 0 c c (-1) 0 0 c false (rg0 c.stable c.grain) (rg0 c.panic c.grain) ⟨0, 0, c.delay, 0, []⟩ 0 0 0 0 false 0 = _ := e
    simp only [e', optK, Sum.elim_inr, S.DecideBounds_a0_2]
end Go.Proofs.Ytdgipcjigbagfaa.AB
