/- DecidePlays answers true. -/
import Derived.Test.YtdgipcjigbagfaaGreatPlDec12
import Derived.Test.YtdgipcjigbagfaaGreatSDecidePlays
namespace Go.Proofs.YtdgipcjigbagfaaGreat.AB
set_option linter.unusedVariables false
set_option linter.unusedSimpArgs false

theorem DecidePlays_loop (fu : Nat) (c0 : Cf) (l : OL) (hl : l.length ≤ 100) :
    ∀ (k i : Nat) (now : Int) (c : Cf) (si ms la : Int) (mo : Bool) (R0 R1 : Rg) (H : Dl) (P0 P1 : Rr) (Q : Rd) (Rs Rq D L : List (Int × Int)), i ≤ l.length → l.length < k + i → 0 ≤ now → now ≤ 1099511627776 → DP c si la mo R0 R1 H P0 P1 Q Rs Rq D L (2 * i) →
    ∃ z, S.DecidePlays_l0 fu c0 l l.length k now i c si ms la c mo R0 R1 H c si ms la P0 P1 Q = some (.inr (.inr (.inr (.inr (.inr z))))) := by
  intro k
  induction k with
  | zero => intro i now c si ms la mo R0 R1 H P0 P1 Q Rs Rq D L _ _; omega
  | succ k ih =>
    intro i now c si ms la mo R0 R1 H P0 P1 Q Rs Rq D L hi hk hn0 hn1 h
    unfold S.DecidePlays_l0
    by_cases c2 : i < l.length
    · have g1 : ((i : Int) < ((l.length : Nat) : Int)) := by omega
      have g2 : inB (i : Int) l.length = true := by unfold inB; simp; omega
      obtain ⟨o, ho⟩ : ∃ o, l[i]? = some o := ⟨l[i]'c2, by simp⟩
      have g3 : l[Int.toNat (i : Int) + 0]? = some o := by simpa using ho
      have hwi : IntKind.wrap .i64 ((i : Int) + 1) = ((i + 1 : Nat) : Int) := by rw [wrap_id (by omega) (by omega)]; omega
      obtain ⟨n4, e4, n40, n41⟩ := um o.2.1 (m := 4) (by omega) (by omega)
      obtain ⟨r, er, r0, r1⟩ := um o.2.2.1 (m := 101) (by omega) (by omega)
      obtain ⟨v, ev, v0, v1⟩ := um o.2.2.2.2.1 (m := 2000000) (by omega) (by omega)
      have ew : IntKind.wrap .i64 (now + n4) = now + n4 := wrap_id (by omega) (by omega)
      obtain ⟨t, ht⟩ : ∃ t, t = (if 1099511627776 < now + n4 then 1099511627776 else now + n4) := ⟨_, rfl⟩
      have t0 : 0 ≤ t := by rw [ht]; split <;> omega
      have t1 : t ≤ 1099511627776 := by rw [ht]; split <;> omega
      simp only [opN, opC, g1, g2, g3, decide_true, cond_true, optK, e4, er, ev, ew, ← ht, hwi]
      by_cases k1 : bitsA BinOp.and .i64 o.1 7 < 6
      · simp only [k1, decide_true, cond_true]
        obtain ⟨R0', R1', P0', P1', Rs', Rq', e1, e2, h'⟩ := dp_put (ms := ms) h (by omega) t0 t1 v0 (show v ≤ 1000000000 by omega)
        obtain ⟨x, si', ms', la', R0'', R1'', H', P0'', P1'', Q', D', L', e3, e5, h'', hx⟩ := dp_next (ms := ms) h' (by omega) t r
        have hov := h''.ov
        simp only [S.q_dcput_eq, S.q_rmput_eq, S.q_dcnext_eq, S.q_rdcnext_eq, e1, e2, e3, e5, optK, decide_true, BEq.rfl, Bool.and_self, Bool.not_true, cond_false, S.dcmode, S.dcover, moverD_eq, rmoverD_eq, hov]
        have hrec := ih (i + 1) t c si' ms' la' mo R0'' R1'' H' P0'' P1'' Q' Rs' Rq' D' L' (by omega) (by omega) t0 t1 (by rw [show 2 * (i + 1) = 2 * i + 1 + 1 by omega]; exact h'')
        cases decide (x.2.2.2.2.2.2 = 0)
        · exact hrec
        · exact hrec
      · simp only [k1, decide_false, cond_false]
        by_cases k2 : bitsA BinOp.and .i64 o.1 7 = 6
        · simp only [k2, decide_true, cond_true]
          obtain ⟨x, si', ms', la', R0'', R1'', H', P0'', P1'', Q', D', L', e3, e5, h'', hx⟩ := dp_next (ms := ms) h (by omega) o.2.2.2.1 o.2.2.1
          have hov := h''.ov
          have h3 : DP c si' la' mo R0'' R1'' H' P0'' P1'' Q' Rs Rq D' L' (2 * (i + 1)) := ⟨h''.may, h''.d, h''.p0, h''.p1, h''.ov, h''.q, h''.dl, h''.tm, h''.z, h''.z0, h''.sb, by have := h''.l0; omega, by have := h''.l1; omega, by have := h''.l2; omega, h''.v0, h''.v1⟩
          simp only [S.q_dcnext_eq, S.q_rdcnext_eq, e3, e5, optK, decide_true, BEq.rfl, Bool.and_self, Bool.not_true, cond_false, S.dcmode, S.dcover, moverD_eq, rmoverD_eq, hov]
          by_cases he : x.2.2.2.2.2.2 = 0
          · obtain ⟨u0, u1⟩ := hx he
            simp only [he, decide_true, cond_true]
            exact ih (i + 1) o.2.2.2.1 c si' ms' la' mo R0'' R1'' H' P0'' P1'' Q' Rs Rq D' L' (by omega) (by omega) u0 u1 h3
          · simp only [he, decide_false, cond_false]
            exact ih (i + 1) t c si' ms' la' mo R0'' R1'' H' P0'' P1'' Q' Rs Rq D' L' (by omega) (by omega) t0 t1 h3
        · simp only [k2, decide_false, cond_false]
          obtain ⟨d, hd⟩ : ∃ d : Cf, d = ⟨o.2.2.2.2.2.1, o.2.2.2.2.2.2.1, o.2.2.2.2.2.2.2.1, o.2.2.2.2.2.2.2.2.1, o.2.2.2.2.2.2.2.2.2.1, o.2.2.2.2.2.2.2.2.2.2.1, o.2.2.2.2.2.2.2.2.2.2.2.1, o.2.2.2.2.2.2.2.2.2.2.2.2.1, o.2.2.2.2.2.2.2.2.2.2.2.2.2.1, o.2.2.2.2.2.2.2.2.2.2.2.2.2.2.1, o.2.2.2.2.2.2.2.2.2.2.2.2.2.2.2.1, o.2.2.2.2.2.2.2.2.2.2.2.2.2.2.2.2.1, o.2.2.2.2.2.2.2.2.2.2.2.2.2.2.2.2.2.1, o.2.2.2.2.2.2.2.2.2.2.2.2.2.2.2.2.2.2.1, o.2.2.2.2.2.2.2.2.2.2.2.2.2.2.2.2.2.2.2.1, o.2.2.2.2.2.2.2.2.2.2.2.2.2.2.2.2.2.2.2.2.1, o.2.2.2.2.2.2.2.2.2.2.2.2.2.2.2.2.2.2.2.2.2.1, o.2.2.2.2.2.2.2.2.2.2.2.2.2.2.2.2.2.2.2.2.2.2.1, o.2.2.2.2.2.2.2.2.2.2.2.2.2.2.2.2.2.2.2.2.2.2.2.1, o.2.2.2.2.2.2.2.2.2.2.2.2.2.2.2.2.2.2.2.2.2.2.2.2⟩ := ⟨_, rfl⟩
          rw [← hd]
          obtain ⟨e, c', ms1, mo', R0', R1', H1, P0', P1', Q1, Rs', Rq', e1, e2, h'⟩ := dp_change (ms := ms) h (by omega) d
          obtain ⟨x, si', ms', la', R0'', R1'', H', P0'', P1'', Q', D', L', e3, e5, h'', hx⟩ := dp_next (ms := ms1) h' (by omega) t r
          have hov := h''.ov
          simp only [S.q_dcchange_eq, S.q_rdcchange_eq, S.q_dcnext_eq, S.q_rdcnext_eq, e1, e2, e3, e5, optK, decide_true, BEq.rfl, Bool.and_self, Bool.not_true, cond_false, S.dcmode, S.dcover, moverD_eq, rmoverD_eq, hov]
          have hrec := ih (i + 1) t c' si' ms' la' mo' R0'' R1'' H' P0'' P1'' Q' Rs' Rq' D' L' (by omega) (by omega) t0 t1 (by rw [show 2 * (i + 1) = 2 * i + 1 + 1 by omega]; exact h'')
          cases decide (x.2.2.2.2.2.2 = 0)
          · exact hrec
          · exact hrec
    · have g1 : ¬ ((i : Int) < ((l.length : Nat) : Int)) := by omega
      simp only [g1, decide_false, cond_false]
      exact ⟨_, rfl⟩

theorem DecidePlays_true (c : Cf) (l : OL) : S.DecidePlays 100000 c l l.length = some true := by
  unfold S.DecidePlays
  rw [S.q_dcnew_p_eq, S.q_rdcnew_p_eq]
  cases hm : S.may c with
  | false =>
    rw [dcnew_no hm, rdcnew_no hm]
    simp only [optK, Sum.elim_inl]
  | true =>
    rw [dcnew_yes hm, rdcnew_yes hm]
    simp only [optK, Sum.elim_inr]
    by_cases hl : (100 : Int) < ((l.length : Nat) : Int)
    · simp only [hl, decide_true, cond_true]
    · obtain ⟨z, e⟩ := DecidePlays_loop 100000 c l (by omega) 100000 0 0 c (-1) 0 0 false (rg0 c.stable c.grain) (rg0 c.panic c.grain) _ _ _ _ [] [] [] [] (by omega) (by omega) (by omega) (by omega) (dp0 hm)
      have e' : S.DecidePlays_l0 100000 c l l.length 100000 0 0 c (-1) 0 0 c false (rg0 c.stable c.grain) (rg0 c.panic c.grain) ⟨0, 0, c.delay, 0, []⟩ c (-1) 0 0 (rrOf c.stable c.grain (-1) false []) (rrOf c.panic c.grain (-1) false []) (rdOf c.delay []) = _ := e
      simp only [hl, decide_false, cond_false, e', optK, Sum.elim_inr, S.DecidePlays_a0_5]
end Go.Proofs.YtdgipcjigbagfaaGreat.AB
