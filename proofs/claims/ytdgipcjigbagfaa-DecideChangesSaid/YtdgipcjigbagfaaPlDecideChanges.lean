/- DecideChanges answers true. -/
import Derived.Test.YtdgipcjigbagfaaPlDec
import Derived.Test.YtdgipcjigbagfaaPlRings
import Derived.Test.YtdgipcjigbagfaaSDecideChanges
namespace Go.Proofs.Ytdgipcjigbagfaa.AB
set_option linter.unusedVariables false
set_option linter.unusedSimpArgs false

theorem mchange_ok {c d : Cf} {mo : Bool} {Rs Rq : List (Int × Int)} {R0 R1 : Rg} (hd : S.may d = true) (hg : d.grain = c.grain) (h : MRel c Rs Rq R0 R1) (h0 : Rs.length ≤ 70000) (h1 : Rq.length ≤ 70000) :
    ∃ R0' R1', S.mchange c mo R0 R1 d = some (0, d, mo, R0', R1') ∧ MRel d (Rs.filter (Kp d.grain (NB d.stable d.grain) R0.nw)) (Rq.filter (Kp d.grain (NB d.panic d.grain) R1.nw)) R0' R1' := by
  obtain ⟨lo0, len0, w0, g0, n0, nw0, ov0, l0, f0⟩ := R0
  obtain ⟨lo1, len1, w1, g1, n1, nw1, ov1, l1, f1⟩ := R1
  obtain ⟨r0, hw0, hg0, hn0, b0, r1, hw1, hg1, hn1, b1⟩ := h
  simp only at r0 hw0 hg0 hn0 b0 r1 hw1 hg1 hn1 b1 ⊢
  rw [← hg] at r0 r1 hg0 hg1 hn0 hn1
  subst hw0; subst hn0; subst hw1; subst hn1
  obtain ⟨lo', len', l', f', e, hP⟩ := rr_ok r0 (rokS hd) b0.1 b0.2 h0 ov0
  obtain ⟨lo2, len2, l2, f2, e2, hP2⟩ := rr_ok r1 (rokP hd) b1.1 b1.2 h1 ov1
  unfold S.mchange
  rw [hg0, hg1]
  simp only [hd, hg, decide_true, Bool.not_true, cond_false]
  rw [hg] at e e2
  simp only [e, e2, optK]
  rw [hg] at hP hP2
  refine ⟨_, _, rfl, ⟨?_, rfl, hg.symm, by rw [hg], b0, ?_, rfl, hg.symm, by rw [hg], b1⟩⟩
  · rw [hg]; exact hP
  · rw [hg]; exact hP2

theorem dcchange_ok {c d : Cf} {si ms la : Int} {mo : Bool} {Rs Rq D : List (Int × Int)} {R0 R1 : Rg} {H : Dl} (hd : S.may d = true) (hg : d.grain = c.grain) (h : DRel c la c R0 R1 H Rs Rq D) (h0 : Rs.length ≤ 70000) (h1 : Rq.length ≤ 70000) :
    ∃ R0' R1' H', S.dcchange c si ms la c mo R0 R1 H d = some (0, d, si, (if S.cmost d < ms then S.cmost d else ms), la, d, mo, H', R0', R1') ∧ DRel d la d R0' R1' H' (Rs.filter (Kp d.grain (NB d.stable d.grain) R0.nw)) (Rq.filter (Kp d.grain (NB d.panic d.grain) R1.nw)) D := by
  obtain ⟨R0', R1', e, hM⟩ := mchange_ok (mo := mo) hd hg h.m h0 h1
  have hdl := ((may_iff d).mp hd).delay
  have p1 : ¬ d.delay < 0 := by omega
  have p2 : ¬ 600 < d.delay := by omega
  unfold S.dcchange
  simp only [hd, Bool.not_true, cond_false, e, optK, S.dspan, p1, p2, decide_false]
  exact ⟨R0', R1', _, rfl, ⟨hM, rfl, h.hold, h.times, h.la0, h.hla, rfl⟩⟩

theorem cmost_minC (c : Cf) (hm : S.may c = true) : c.min ≤ S.cmost c := by
  have h := (may_iff c).mp hm
  have h1 := h.min; have h2 := h.max
  unfold S.cmost
  by_cases h0 : c.max = 0
  · simp only [h0, decide_true, cond_true]; omega
  · simp only [h0, decide_false, cond_false]; omega

theorem DecideChanges_loop (fu : Nat) (a b x y : Int) (c : Cf) (hm : S.may c = true) :
    ∀ (k i : Nat) (si ms la : Int) (R0 R1 : Rg) (H : Dl) (Rs Rq D : List (Int × Int)), i ≤ 6 → 6 < k + i → DRel c la c R0 R1 H Rs Rq D → la ≤ i → Rs.length ≤ i → Rq.length ≤ i → D.length ≤ i →
    (∀ y ∈ Rs, y.2 ≤ 1000000) → (∀ y ∈ Rq, y.2 ≤ 1000000) →
    ∃ z0 z1 si' ms' la' R0' R1' H' Rs' Rq' D', S.DecideChanges_l0 fu a b x y k i c c si ms la c false R0 R1 H = some (.inr (.inr (z0, z1, c, c, si', ms', la', c, false, R0', R1', H'))) ∧ DRel c la' c R0' R1' H' Rs' Rq' D' ∧ la' ≤ 6 ∧ Rs'.length ≤ 6 ∧ Rq'.length ≤ 6 ∧ D'.length ≤ 6 ∧
      (∀ y ∈ Rs', y.2 ≤ 1000000) ∧ (∀ y ∈ Rq', y.2 ≤ 1000000) := by
  intro k
  induction k with
  | zero => intro i si ms la R0 R1 H Rs Rq D _ _; omega
  | succ k ih =>
    intro i si ms la R0 R1 H Rs Rq D hi hk hD hla hRs hRq hDl hv0 hv1
    unfold S.DecideChanges_l0
    by_cases c3 : i ≤ 5
    · have g0 : ((i : Int) ≤ 5) := by omega
      obtain ⟨v, hv, v0, v1⟩ := um a (m := 1000000) (by omega) (by omega)
      obtain ⟨r, hr, r0, r1⟩ := um b (m := 101) (by omega) (by omega)
      have hwi : IntKind.wrap .i64 ((i : Int) + 1) = ((i + 1 : Nat) : Int) := by rw [wrap_id (by omega) (by omega)]; omega
      have htk : Tk ((i : Int), v) := mk_tk (by omega) (by omega) v0 (by unfold M63; omega)
      obtain ⟨R0', R1', e, hD', n0, n1, q0, q1⟩ := dcput_ok (mo := false) (si := si) (ms := ms) hm hD htk (by omega) (by omega)
      obtain ⟨Rs', hRs'⟩ : ∃ q, q = pR c.grain (NB c.stable c.grain) R0.nw ((i : Int), v) Rs := ⟨_, rfl⟩
      obtain ⟨Rq', hRq'⟩ : ∃ q, q = pR c.grain (NB c.panic c.grain) R1.nw ((i : Int), v) Rq := ⟨_, rfl⟩
      have l0 := pR_len c.grain (NB c.stable c.grain) R0.nw ((i : Int), v) Rs
      have l1 := pR_len c.grain (NB c.panic c.grain) R1.nw ((i : Int), v) Rq
      have hw0 : ∀ y ∈ Rs', y.2 ≤ 1000000 := by rw [hRs']; exact pR_all hv0 (by simp only; omega)
      have hw1 : ∀ y ∈ Rq', y.2 ≤ 1000000 := by rw [hRq']; exact pR_all hv1 (by simp only; omega)
      rw [← hRs'] at l0 hD'
      rw [← hRq'] at l1 hD'
      obtain ⟨R0'', R1'', H', e2, hD2, m0, m1, q2, q3⟩ := dcnext_ok (mo := false) (si := si) (ms := ms) hm hD' (t := (i : Int)) (r := r) hla (by omega) r0 (by omega) (by omega) (by omega) (by omega) (fun y hy => by have := hw0 y hy; omega) (fun y hy => by have := hw1 y hy; omega) rfl rfl rfl rfl rfl
      simp only [g0, decide_true, cond_true, hv, hr, hwi]
      rw [S.q_dcput_eq, e]
      simp only [optK, decide_true, Bool.not_true, cond_false]
      rw [S.q_dcnext_eq, e2]
      simp only [decide_true, Bool.not_true, cond_false]
      refine ih (i + 1) _ _ _ R0'' R1'' H' Rs' Rq' _ (by omega) (by omega) hD2 (by omega) (by omega) (by omega) ?_ hw0 hw1
      have := List.length_filter_le (keepT (i : Int)) D
      rw [List.length_append, List.length_singleton]; omega
    · have g0 : ¬ ((i : Int) ≤ 5) := by omega
      simp only [g0, decide_false, cond_false]
      exact ⟨_, _, _, _, _, _, _, _, Rs, Rq, D, rfl, hD, by omega, by omega, by omega, by omega, hv0, hv1⟩

theorem DecideChanges_true (a b x y : Int) : S.DecideChanges 100000 a b x y = some true := by
  obtain ⟨X, hX, x0, x1⟩ := um x (m := 100) (by omega) (by omega)
  obtain ⟨r, hr, r0, r1⟩ := um b (m := 101) (by omega) (by omega)
  obtain ⟨B, hB, b0, b1⟩ := um y (m := 1 + X + 1) (by omega) (by omega)
  have w1 : IntKind.wrap .i64 (1 + X) = 1 + X := wrap_id (by omega) (by omega)
  have w2 : IntKind.wrap .i64 (1 + X + 1) = 1 + X + 1 := wrap_id (by omega) (by omega)
  have w3 : IntKind.wrap .u64 (1 + X + 1) = 1 + X + 1 := wrap_u (by omega) (by omega)
  have w4 : ¬ (1 + X + 1 = 0) := by omega
  unfold S.DecideChanges
  obtain ⟨c, hcd⟩ : ∃ c : Cf, c = ⟨10000, 700, 60, 6, 1, 2000, 10000, 2000, 0, 0, 1, 30, 0, 20000, 10, 100, 60, 3, 0, 0⟩ := ⟨_, rfl⟩
  have hm : S.may c = true := by
    rw [may_iff, hcd]
    constructor <;> (try simp only [eq_self, if_true, true_or]) <;> omega
  rw [← hcd, S.q_dcnew_p_eq, dcnew_yes hm]
  simp only [optK, Sum.elim_inr]
  obtain ⟨z0, z1, si, ms, la, R0, R1, H, Rs, Rq, D, e, hD, hla, hRs, hRq, hDl, hv0, hv1⟩ := DecideChanges_loop 100000 a b x y c hm 100000 1 (-1) 0 0 (rg0 c.stable c.grain) (rg0 c.panic c.grain) ⟨0, 0, c.delay, 0, []⟩ [] [] [] (by omega) (by omega) (drel0 c) (by omega) (by simp) (by simp) (by simp) (fun _ h => (by cases h)) (fun _ h => (by cases h))
  have e' : S.DecideChanges_l0 100000 a b x y 100000 1 c c (-1) 0 0 c false (rg0 c.stable c.grain) (rg0 c.panic c.grain) ⟨0, 0, c.delay, 0, []⟩ = _ := e
  simp only [e', optK, Sum.elim_inr, S.DecideChanges_a0_2, hX, w1, w2, w3, w4, hB, hr, decide_false, cond_false]
  obtain ⟨d, hdd⟩ : ∃ d : Cf, d = ⟨c.target, c.util, c.stable, c.panic, c.grain, c.threshold, c.up, c.down, B, 1 + X, 1 + X, c.grace, c.delay, c.burst, c.limit, c.queue, c.timeout, c.ready, c.subset, c.sample⟩ := ⟨_, rfl⟩
  have hd : S.may d = true := by
    rw [may_iff, hdd, hcd]
    have : ¬ (1 + X = 0) := by omega
    constructor <;> (try simp only [this, if_false]) <;> omega
  have hg : d.grain = c.grain := by rw [hdd]
  have hmin : d.min = B := by rw [hdd]
  have hmx : S.cmost d = 1 + X := by
    unfold S.cmost
    have e1 : d.max = 1 + X := by rw [hdd]
    have : ¬ (1 + X = 0) := by omega
    rw [e1]; simp only [this, decide_false, cond_false]
  rw [← hdd]
  obtain ⟨R0', R1', H', e2, hD2⟩ := dcchange_ok (mo := false) (si := si) (ms := ms) hd hg hD (by omega) (by omega)
  have f0 := List.length_filter_le (Kp d.grain (NB d.stable d.grain) R0.nw) Rs
  have f1 := List.length_filter_le (Kp d.grain (NB d.panic d.grain) R1.nw) Rq
  obtain ⟨Rs', hRs'⟩ : ∃ q, q = Rs.filter (Kp d.grain (NB d.stable d.grain) R0.nw) := ⟨_, rfl⟩
  obtain ⟨Rq', hRq'⟩ : ∃ q, q = Rq.filter (Kp d.grain (NB d.panic d.grain) R1.nw) := ⟨_, rfl⟩
  have hw0 : ∀ y ∈ Rs', y.2 ≤ 1000000 := fun y hy => hv0 y (by rw [hRs'] at hy; exact (List.mem_filter.mp hy).1)
  have hw1 : ∀ y ∈ Rq', y.2 ≤ 1000000 := fun y hy => hv1 y (by rw [hRq'] at hy; exact (List.mem_filter.mp hy).1)
  rw [← hRs', ← hRq'] at hD2
  rw [← hRs'] at f0
  rw [← hRq'] at f1
  obtain ⟨R0'', R1'', H'', e3, hD3, m0, m1, q2, q3⟩ := dcnext_ok (mo := false) (si := si) (ms := if S.cmost d < ms then S.cmost d else ms) hd hD2 (t := 6) (r := r) hla (by omega) r0 (by omega) (by omega) (by omega) (by omega) (fun y hy => by have := hw0 y hy; omega) (fun y hy => by have := hw1 y hy; omega) rfl rfl rfl rfl rfl
  rw [S.q_dcchange_eq, e2]
  have p1 : ¬ 1 + X < (if S.cmost d < ms then S.cmost d else ms) := by rw [hmx]; split <;> omega
  simp only [decide_true, Bool.not_true, cond_false, S.dcmode, p1, decide_false]
  rw [S.q_dcnext_eq, e3]
  have hb : ∀ w, B ≤ bnds d w ∧ bnds d w ≤ 1 + X := by
    intro w
    have := cmost_minC d hd
    rw [hmx, hmin] at this
    unfold bnds
    rw [hmx, hmin]
    constructor
    · split <;> omega
    · split
      · omega
      · split <;> omega
  simp only [(hb _).1, (hb _).2, decide_true, cond_true]
  rw [S.q_dcchange_eq]
  have e4 : S.may (Cf.mk 0 0 0 0 0 0 0 0 0 0 0 0 0 0 0 0 0 0 0 0) = false := by
    cases hh : S.may (Cf.mk 0 0 0 0 0 0 0 0 0 0 0 0 0 0 0 0 0 0 0 0) with
    | false => rfl
    | true => have := ((may_iff _).mp hh).target; simp only at this; omega
  unfold S.dcchange
  simp only [e4, Bool.not_false, cond_true, decide_true]
end Go.Proofs.Ytdgipcjigbagfaa.AB
