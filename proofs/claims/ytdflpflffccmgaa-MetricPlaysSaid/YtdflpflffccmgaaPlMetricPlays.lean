/- MetricPlays answers true. -/
import Derived.Test.YtdflpflffccmgaaPlMet
import Derived.Test.YtdflpflffccmgaaPlRref
import Derived.Test.YtdflpflffccmgaaSMetricPlays
namespace Go.Proofs.Ytdflpflffccmgaa.AB
set_option linter.unusedVariables false
set_option linter.unusedSimpArgs false

/-- the document's ring that bears these records -/
def rrOf (w g nw : Int) (ov : Bool) (R : List (Int × Int)) : Rr := ⟨w, g, 0, R.length, nw, ov, R⟩

/-- the program's windows and the document's are alike -/
structure MP (c : Cf) (mo : Bool) (R0 R1 : Rg) (P0 P1 : Rr) (Rs Rq : List (Int × Int)) (i : Nat) : Prop where
  may : S.may c = true
  rel : MRel c Rs Rq R0 R1
  p0 : P0 = rrOf c.stable c.grain R0.nw P0.ov Rs
  p1 : P1 = rrOf c.panic c.grain R1.nw P1.ov Rq
  ov : (mo || R0.ov || R1.ov) = (P0.ov || P1.ov)
  l0 : Rs.length ≤ i
  l1 : Rq.length ≤ i

theorem mover_eq (c : Cf) (mo : Bool) (R0 R1 : Rg) : S.mover c mo R0 R1 = (mo || R0.ov || R1.ov) := by
  unfold S.mover S.ro; cases mo <;> cases R0.ov <;> rfl
theorem rmover_eq (w0 g0 : Int) (lo0 len0 : Nat) (nw0 : Int) (ov0 : Bool) (r0 : RL) (w1 g1 : Int) (lo1 len1 : Nat) (nw1 : Int) (ov1 : Bool) (r1 : RL) : S.rmover w0 g0 lo0 len0 nw0 ov0 r0 w1 g1 lo1 len1 nw1 ov1 r1 = (ov0 || ov1) := by
  unfold S.rmover; cases ov0 <;> rfl

theorem mmeans_any {c mc : Cf} {mo : Bool} {Rs Rq : List (Int × Int)} {R0 R1 : Rg} (hm : S.may c = true) (h : MRel c Rs Rq R0 R1) {t : Int} (t0 : 0 ≤ t) (t1 : t < 9223372036854775808) (h0 : Rs.length ≤ 70000) (h1 : Rq.length ≤ 70000) :
    ∃ R0' R1', S.mmeans mc mo R0 R1 t = some (mn c.stable c.grain t Rs, mn c.panic c.grain t Rq, mc, mo, R0', R1') ∧ MRel c Rs Rq R0' R1' ∧
      R0'.nw = R0.nw ∧ R1'.nw = R1.nw ∧ R0'.ov = (R0.ov || mov c.stable c.grain t Rs) ∧ R1'.ov = (R1.ov || mov c.panic c.grain t Rq) := by
  obtain ⟨lo0, len0, w0, g0, n0, nw0, ov0, l0, f0⟩ := R0
  obtain ⟨lo1, len1, w1, g1, n1, nw1, ov1, l1, f1⟩ := R1
  obtain ⟨r0, hw0, hg0, hn0, b0, r1, hw1, hg1, hn1, b1⟩ := h
  simp only at r0 hw0 hg0 hn0 b0 r1 hw1 hg1 hn1 b1 ⊢
  subst hw0; subst hg0; subst hn0; subst hw1; subst hn1
  have hk := (rokS hm).1.1
  have e := rm_ok r0 hk h0 c.stable ov0 (t := t) t0 t1
  have e2 := rm_ok r1 hk h1 c.panic ov1 (t := t) t0 t1
  unfold S.mmeans
  rw [hg1]
  simp only [e, e2, optK]
  exact ⟨_, _, rfl, ⟨r0, rfl, rfl, rfl, b0, r1, rfl, rfl, rfl, b1⟩, rfl, rfl, rfl, rfl⟩
theorem mmeans_neg {c : Cf} {mo : Bool} {R0 R1 : Rg} {t : Int} (h : t < 0) : S.mmeans c mo R0 R1 t = some (0, 0, c, mo, R0, R1) := by
  unfold S.mmeans
  rw [rm_neg _ _ _ _ _ _ _ _ _ _ h]
  simp only [optK]
  rw [rm_neg _ _ _ _ _ _ _ _ _ _ h]

/-- what a mean leaves of the document's ring -/
def rrB (P : Rr) (b : Bool) : Rr := ⟨P.w, P.g, P.lo, P.len, P.nw, P.ov || b, P.r⟩

theorem mp_means {c : Cf} {mo : Bool} {R0 R1 : Rg} {P0 P1 : Rr} {Rs Rq : List (Int × Int)} {i : Nat} (h : MP c mo R0 R1 P0 P1 Rs Rq i) (hi : i ≤ 200) {t : Int} (t1 : t < 9223372036854775808) :
    ∃ (a b : Int) (x y : Bool) (R0' R1' : Rg), S.mmeans c mo R0 R1 t = some (a, b, c, mo, R0', R1') ∧
      S.rmean P0.r P0.lo P0.len P0.w P0.g P0.nw P0.ov t = some (a, P0.w, P0.g, P0.lo, P0.len, P0.nw, P0.ov || x, P0.r) ∧
      S.rmean P1.r P1.lo P1.len P1.w P1.g P1.nw P1.ov t = some (b, P1.w, P1.g, P1.lo, P1.len, P1.nw, P1.ov || y, P1.r) ∧
      MP c mo R0' R1' (rrB P0 x) (rrB P1 y) Rs Rq i := by
  have hm := h.may
  have hl0 := h.l0; have hl1 := h.l1
  by_cases ht : t < 0
  · have e0 := rmean_neg P0.r P0.w P0.g P0.nw t P0.ov ht
    have e1 := rmean_neg P1.r P1.w P1.g P1.nw t P1.ov ht
    have q0 : P0.lo = 0 ∧ P0.len = P0.r.length := by rw [h.p0]; exact ⟨rfl, rfl⟩
    have q1 : P1.lo = 0 ∧ P1.len = P1.r.length := by rw [h.p1]; exact ⟨rfl, rfl⟩
    refine ⟨0, 0, false, false, R0, R1, mmeans_neg ht, ?_, ?_, ?_⟩
    · rw [q0.1, q0.2, e0, Bool.or_false]
    · rw [q1.1, q1.2, e1, Bool.or_false]
    · have u0 : rrB P0 false = P0 := by unfold rrB; rw [Bool.or_false]
      have u1 : rrB P1 false = P1 := by unfold rrB; rw [Bool.or_false]
      rw [u0, u1]; exact h
  · obtain ⟨R0', R1', e, hM, n0, n1, o0, o1⟩ := mmeans_any (mc := c) (mo := mo) hm h.rel (t := t) (by omega) t1 (by omega) (by omega)
    have f0 := rmean_ok (w := c.stable) (g := c.grain) (nw := R0.nw) (R := Rs) (rokS hm) h.rel.r0.tk (by omega) P0.ov (t := t) (by omega) t1
    have f1 := rmean_ok (w := c.panic) (g := c.grain) (nw := R1.nw) (R := Rq) (rokP hm) h.rel.r1.tk (by omega) P1.ov (t := t) (by omega) t1
    have k0 := h.p0; have k1 := h.p1; have hov := h.ov
    obtain ⟨pw0, pg0, plo0, plen0, pnw0, pov0, pr0⟩ := P0
    obtain ⟨pw1, pg1, plo1, plen1, pnw1, pov1, pr1⟩ := P1
    unfold rrOf at k0 k1
    simp only [Rr.mk.injEq] at k0 k1
    obtain ⟨rfl, rfl, rfl, rfl, rfl, -, rfl⟩ := k0
    obtain ⟨rfl, rfl, rfl, rfl, rfl, -, rfl⟩ := k1
    refine ⟨_, _, mov c.stable c.grain t pr0, mov c.panic c.grain t pr1, R0', R1', e, f0, f1, ⟨hm, hM, ?_, ?_, ?_, hl0, hl1⟩⟩
    · unfold rrB rrOf; rw [n0]
    · unfold rrB rrOf; rw [n1]
    · simp only [rrB, o0, o1]
      simp only at hov
      revert hov
      cases mo <;> cases R0.ov <;> cases R1.ov <;> cases pov0 <;> cases pov1 <;> cases (mov c.stable c.grain t pr0) <;> cases (mov c.panic c.grain t pr1) <;> decide

theorem mput_no {c : Cf} {mo : Bool} {R0 R1 : Rg} {t v : Int} (h : ¬ Takes (t, v)) : S.mput c mo R0 R1 t v = some (1, c, mo, R0, R1) := by
  unfold S.mput
  rw [rp_no _ _ _ _ _ _ _ _ _ _ _ h]
  simp only [optK]
  rw [rp_no _ _ _ _ _ _ _ _ _ _ _ h]

theorem mp_put {c : Cf} {mo : Bool} {R0 R1 : Rg} {P0 P1 : Rr} {Rs Rq : List (Int × Int)} {i : Nat} (h : MP c mo R0 R1 P0 P1 Rs Rq i) (hi : i ≤ 200) {t v : Int} (v1 : v ≤ M63) :
    ∃ (e : Int) (R0' R1' : Rg) (P0' P1' : Rr) (Rs' Rq' : List (Int × Int)), S.mput c mo R0 R1 t v = some (e, c, mo, R0', R1') ∧
      S.rmput P0.w P0.g P0.lo P0.len P0.nw P0.ov P0.r P1.w P1.g P1.lo P1.len P1.nw P1.ov P1.r t v = some (e, P0', P1') ∧ MP c mo R0' R1' P0' P1' Rs' Rq' (i + 1) := by
  have hm := h.may
  have hl0 := h.l0; have hl1 := h.l1
  by_cases ht : Takes (t, v)
  · obtain ⟨R0', R1', e, hM, n0, n1, o0, o1⟩ := mput_ok (mc := c) (mo := mo) (x := (t, v)) hm h.rel ⟨ht, v1⟩ (by omega) (by omega)
    have f0 := rput_ok (x := (t, v)) (rokS hm) h.rel.r0.tk (by omega) h.rel.b0.1 h.rel.b0.2 ht P0.ov
    have f1 := rput_ok (x := (t, v)) (rokP hm) h.rel.r1.tk (by omega) h.rel.b1.1 h.rel.b1.2 ht P1.ov
    have k0 := h.p0; have k1 := h.p1; have hov := h.ov
    have ln0 := pR_len c.grain (NB c.stable c.grain) R0.nw (t, v) Rs
    have ln1 := pR_len c.grain (NB c.panic c.grain) R1.nw (t, v) Rq
    obtain ⟨pw0, pg0, plo0, plen0, pnw0, pov0, pr0⟩ := P0
    obtain ⟨pw1, pg1, plo1, plen1, pnw1, pov1, pr1⟩ := P1
    unfold rrOf at k0 k1
    simp only [Rr.mk.injEq] at k0 k1
    obtain ⟨rfl, rfl, rfl, rfl, rfl, -, rfl⟩ := k0
    obtain ⟨rfl, rfl, rfl, rfl, rfl, -, rfl⟩ := k1
    refine ⟨0, R0', R1', rrOf c.stable c.grain R0'.nw pov0 (pR c.grain (NB c.stable c.grain) R0.nw (t, v) pr0), rrOf c.panic c.grain R1'.nw pov1 (pR c.grain (NB c.panic c.grain) R1.nw (t, v) pr1), _, _, e, ?_, ⟨hm, hM, rfl, rfl, ?_, by omega, by omega⟩⟩
    · unfold S.rmput
      simp only at f0 f1
      simp only [f0, f1, optK, n0, n1]
      rfl
    · rw [o0, o1]; exact hov
  · refine ⟨1, R0, R1, P0, P1, Rs, Rq, mput_no ht, ?_, ⟨hm, h.rel, h.p0, h.p1, h.ov, by omega, by omega⟩⟩
    unfold S.rmput
    rw [rput_no _ _ _ _ _ _ _ _ _ ht]
    simp only [optK]
    rw [rput_no _ _ _ _ _ _ _ _ _ ht]

theorem mp_new {c : Cf} {mo ov : Bool} {i : Nat} (hm : S.may c = true) (ho : mo = ov) : MP c mo (rg0 c.stable c.grain) (rg0 c.panic c.grain) (rrOf c.stable c.grain (-1) ov []) (rrOf c.panic c.grain (-1) false []) [] [] i :=
  ⟨hm, mrel0 c, rfl, rfl, by rw [ho]; simp [rg0, rrOf], by simp, by simp⟩

theorem mp_change {c : Cf} {mo : Bool} {R0 R1 : Rg} {P0 P1 : Rr} {Rs Rq : List (Int × Int)} {i : Nat} (h : MP c mo R0 R1 P0 P1 Rs Rq i) (hi : i ≤ 200) (d : Cf) :
    ∃ (e : Int) (c' : Cf) (mo' : Bool) (R0' R1' : Rg) (P0' P1' : Rr) (Rs' Rq' : List (Int × Int)), S.mchange c mo R0 R1 d = some (e, c', mo', R0', R1') ∧
      S.rmchange_p P0.w P0.g P0.lo P0.len P0.nw P0.ov P0.r P1.w P1.g P1.lo P1.len P1.nw P1.ov P1.r d = some (e, P0', P1') ∧ MP c' mo' R0' R1' P0' P1' Rs' Rq' (i + 1) := by
  have hm := h.may
  have hl0 := h.l0; have hl1 := h.l1
  have pg : P0.g = c.grain := by rw [h.p0]; rfl
  cases hd : S.may d with
  | false =>
    refine ⟨1, c, mo, R0, R1, P0, P1, Rs, Rq, ?_, ?_, ⟨hm, h.rel, h.p0, h.p1, h.ov, by omega, by omega⟩⟩
    · unfold S.mchange; rw [hd]; rfl
    · unfold S.rmchange_p S.rmchange; rw [rmay_eq, hd]; rfl
  | true =>
    by_cases hg : d.grain = c.grain
    · obtain ⟨R0', R1', e, hM, n0, n1, o0, o1⟩ := mchange_ok (mo := mo) hd hg h.rel (by omega) (by omega)
      have f0 := rresize_ok (w := c.stable) (w' := d.stable) (g := d.grain) (nw := R0.nw) (R := Rs) (rokS hd) h.rel.r0.tk (by omega) h.rel.b0.1 h.rel.b0.2 P0.ov
      have f1 := rresize_ok (w := c.panic) (w' := d.panic) (g := d.grain) (nw := R1.nw) (R := Rq) (rokP hd) h.rel.r1.tk (by omega) h.rel.b1.1 h.rel.b1.2 P1.ov
      have ln0 := List.length_filter_le (Kp d.grain (NB d.stable d.grain) R0.nw) Rs
      have ln1 := List.length_filter_le (Kp d.grain (NB d.panic d.grain) R1.nw) Rq
      have k0 := h.p0; have k1 := h.p1; have hov := h.ov
      obtain ⟨pw0, pg0, plo0, plen0, pnw0, pov0, pr0⟩ := P0
      obtain ⟨pw1, pg1, plo1, plen1, pnw1, pov1, pr1⟩ := P1
      unfold rrOf at k0 k1
      simp only [Rr.mk.injEq] at k0 k1
      obtain ⟨rfl, rfl, rfl, rfl, rfl, -, rfl⟩ := k0
      obtain ⟨rfl, rfl, rfl, rfl, rfl, -, rfl⟩ := k1
      refine ⟨0, d, mo, R0', R1', rrOf d.stable d.grain R0'.nw pov0 (pr0.filter (Kp d.grain (NB d.stable d.grain) R0.nw)), rrOf d.panic d.grain R1'.nw pov1 (pr1.filter (Kp d.grain (NB d.panic d.grain) R1.nw)), _, _, e, ?_, ⟨hd, hM, rfl, rfl, ?_, by omega, by omega⟩⟩
      · unfold S.rmchange_p S.rmchange
        simp only at f0 f1
        rw [hg] at f0 f1
        simp only [rmay_eq, hd, hg, f0, f1, n0, n1, optK, Bool.not_true, decide_true, cond_false, Option.bind_some, Sum.elim_inl]
        rfl
      · rw [o0, o1]; exact hov
    · have hg' : ¬ d.grain = P0.g := by rw [pg]; exact hg
      refine ⟨0, d, (mo || R0.ov || R1.ov), rg0 d.stable d.grain, rg0 d.panic d.grain, rrOf d.stable d.grain (-1) (P0.ov || P1.ov) [], rrOf d.panic d.grain (-1) false [], [], [], ?_, ?_, mp_new (i := i + 1) hd (ov := P0.ov || P1.ov) h.ov⟩
      · unfold S.mchange
        simp only [hd, hg, mnew_yes hd, optK, Bool.not_true, Bool.not_false, decide_false, cond_true, cond_false, Sum.elim_inr, mover_eq]
      · unfold S.rmchange_p S.rmchange
        simp only [rmay_eq, hd, hg', rnew_yes (rokS hd), rnew_yes (rokP hd), optK, Bool.not_true, Bool.not_false, decide_false, cond_true, cond_false, Sum.elim_inr, rmover_eq, Option.bind_some, Sum.elim_inl]
        rfl

theorem MetricPlays_loop (fu : Nat) (c0 : Cf) (l : OL) (hT : ∀ o ∈ l, o.2.1 < 9223372036854775808) (hV : ∀ o ∈ l, o.2.2.1 < 9223372036854775808) (hl : l.length ≤ 100) :
    ∀ (k i : Nat) (c : Cf) (mo : Bool) (R0 R1 : Rg) (P0 P1 : Rr) (Rs Rq : List (Int × Int)), i ≤ l.length → l.length < k + i → MP c mo R0 R1 P0 P1 Rs Rq i →
    ∃ z, S.MetricPlays_l0 fu c0 l l.length k i c mo R0 R1 P0 P1 = some (.inr (.inr (.inr z))) := by
  intro k
  induction k with
  | zero => intro i c mo R0 R1 P0 P1 Rs Rq _ _; omega
  | succ k ih =>
    intro i c mo R0 R1 P0 P1 Rs Rq hi hk h
    unfold S.MetricPlays_l0
    by_cases c2 : i < l.length
    · have g1 : ((i : Int) < ((l.length : Nat) : Int)) := by omega
      have g2 : inB (i : Int) l.length = true := by unfold inB; simp; omega
      obtain ⟨o, ho⟩ : ∃ o, l[i]? = some o := ⟨l[i]'c2, by simp⟩
      have g3 : l[Int.toNat (i : Int) + 0]? = some o := by simpa using ho
      have hwi : IntKind.wrap .i64 ((i : Int) + 1) = ((i + 1 : Nat) : Int) := by rw [wrap_id (by omega) (by omega)]; omega
      have hoT := hT o (List.mem_of_getElem? ho)
      have hoV := hV o (List.mem_of_getElem? ho)
      have hM : M63 = 9223372036854775807 := rfl
      simp only [g1, g2, g3, decide_true, cond_true, optK, hwi]
      by_cases k1 : bitsA BinOp.and .i64 o.1 7 < 6
      · simp only [k1, decide_true, cond_true]
        obtain ⟨e, R0', R1', P0', P1', Rs', Rq', e1, e2, h'⟩ := mp_put h (by omega) (t := o.2.1) (v := o.2.2.1) (by omega)
        obtain ⟨a, b, x, y, R0'', R1'', e3, e4, e5, h''⟩ := mp_means h' (by omega) hoT
        simp only [S.q_mput_eq, S.q_rmput_eq, S.q_mmeans_eq, S.q_rmean_eq, e1, e2, e3, e4, e5, optK, decide_true, Bool.not_true, cond_false, mover_eq, rmover_eq]
        have hov := h''.ov
        simp only [rrB] at hov
        rw [hov]
        simp only [BEq.rfl, Bool.not_true, cond_false]
        exact ih (i + 1) c mo R0'' R1'' _ _ Rs' Rq' (by omega) (by omega) h''
      · simp only [k1, decide_false, cond_false]
        by_cases k2 : bitsA BinOp.and .i64 o.1 7 = 7
        · simp only [k2, decide_true, cond_true]
          obtain ⟨d, hd⟩ : ∃ d : Cf, d = ⟨o.2.2.2.1, o.2.2.2.2.1, o.2.2.2.2.2.1, o.2.2.2.2.2.2.1, o.2.2.2.2.2.2.2.1, o.2.2.2.2.2.2.2.2.1, o.2.2.2.2.2.2.2.2.2.1, o.2.2.2.2.2.2.2.2.2.2.1, o.2.2.2.2.2.2.2.2.2.2.2.1, o.2.2.2.2.2.2.2.2.2.2.2.2.1, o.2.2.2.2.2.2.2.2.2.2.2.2.2.1, o.2.2.2.2.2.2.2.2.2.2.2.2.2.2.1, o.2.2.2.2.2.2.2.2.2.2.2.2.2.2.2.1, o.2.2.2.2.2.2.2.2.2.2.2.2.2.2.2.2.1, o.2.2.2.2.2.2.2.2.2.2.2.2.2.2.2.2.2.1, o.2.2.2.2.2.2.2.2.2.2.2.2.2.2.2.2.2.2.1, o.2.2.2.2.2.2.2.2.2.2.2.2.2.2.2.2.2.2.2.1, o.2.2.2.2.2.2.2.2.2.2.2.2.2.2.2.2.2.2.2.2.1, o.2.2.2.2.2.2.2.2.2.2.2.2.2.2.2.2.2.2.2.2.2.1, o.2.2.2.2.2.2.2.2.2.2.2.2.2.2.2.2.2.2.2.2.2.2⟩ := ⟨_, rfl⟩
          rw [← hd]
          obtain ⟨e, c', mo', R0', R1', P0', P1', Rs', Rq', e1, e2, h'⟩ := mp_change h (by omega) d
          obtain ⟨a, b, x, y, R0'', R1'', e3, e4, e5, h''⟩ := mp_means h' (by omega) hoT
          simp only [S.q_mchange_eq, S.q_rmchange_p_eq, S.q_mmeans_eq, S.q_rmean_eq, e1, e2, e3, e4, e5, optK, decide_true, Bool.not_true, cond_false, mover_eq, rmover_eq]
          have hov := h''.ov
          simp only [rrB] at hov
          rw [hov]
          simp only [BEq.rfl, Bool.not_true, cond_false]
          exact ih (i + 1) c' mo' R0'' R1'' _ _ Rs' Rq' (by omega) (by omega) h''
        · simp only [k2, decide_false, cond_false]
          obtain ⟨a, b, x, y, R0'', R1'', e3, e4, e5, h''⟩ := mp_means h (by omega) hoT
          simp only [S.q_mmeans_eq, S.q_rmean_eq, e3, e4, e5, optK, decide_true, Bool.not_true, cond_false, mover_eq, rmover_eq]
          have hov := h''.ov
          simp only [rrB] at hov
          rw [hov]
          simp only [BEq.rfl, Bool.not_true, cond_false]
          exact ih (i + 1) c mo R0'' R1'' _ _ Rs Rq (by omega) (by omega) ⟨h''.may, h''.rel, h''.p0, h''.p1, h''.ov, by have := h''.l0; omega, by have := h''.l1; omega⟩
    · have g1 : ¬ ((i : Int) < ((l.length : Nat) : Int)) := by omega
      simp only [g1, decide_false, cond_false]
      exact ⟨_, rfl⟩

theorem MetricPlays_true (c : Cf) (l : OL) (hT : ∀ o ∈ l, o.2.1 < 9223372036854775808) (hV : ∀ o ∈ l, o.2.2.1 < 9223372036854775808) : S.MetricPlays 100000 c l l.length = some true := by
  unfold S.MetricPlays
  rw [S.q_mnew_p_eq, S.q_rmnew_p_eq]
  cases hm : S.may c with
  | false =>
    have e1 : S.mnew_p c = some (.inl ()) := by
      unfold S.mnew_p S.mnew
      simp only [cf_etaM, hm, Bool.not_false, cond_true, Option.bind_some, Sum.elim_inl]
    have e2 : S.rmnew_p c = some (.inl ()) := by
      unfold S.rmnew_p S.rmnew
      simp only [cf_etaM, rmay_eq, hm, Bool.not_false, cond_true, Option.bind_some, Sum.elim_inl]
    rw [e1, e2]
    simp only [optK, Sum.elim_inl]
  | true =>
    have e2 : S.rmnew_p c = some (.inr (rrOf c.stable c.grain (-1) false [], rrOf c.panic c.grain (-1) false [])) := by
      unfold S.rmnew_p S.rmnew
      simp only [cf_etaM, rmay_eq, hm, Bool.not_true, cond_false, rnew_yes (rokS hm), rnew_yes (rokP hm), Option.bind_some, Sum.elim_inr]
      rfl
    rw [mnew_yes hm, e2]
    simp only [optK, Sum.elim_inr]
    by_cases hl : (100 : Int) < ((l.length : Nat) : Int)
    · simp only [hl, decide_true, cond_true]
    · obtain ⟨z, e⟩ := MetricPlays_loop 100000 c l hT hV (by omega) 100000 0 c false (rg0 c.stable c.grain) (rg0 c.panic c.grain) _ _ [] [] (by omega) (by omega) (mp_new (i := 0) hm (ov := false) rfl)
      have e' : S.MetricPlays_l0 100000 c l l.length 100000 0 c false (rg0 c.stable c.grain) (rg0 c.panic c.grain) (rrOf c.stable c.grain (-1) false []) (rrOf c.panic c.grain (-1) false []) = some (.inr (.inr (.inr z))) := e
      simp only [hl, decide_false, cond_false, e', optK, Sum.elim_inr, S.MetricPlays_a0_3]
end Go.Proofs.Ytdflpflffccmgaa.AB
