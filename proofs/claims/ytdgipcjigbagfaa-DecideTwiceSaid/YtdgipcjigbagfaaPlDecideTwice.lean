/- DecideTwice answers true. -/
import Derived.Test.YtdgipcjigbagfaaPlDec
import Derived.Test.YtdgipcjigbagfaaPlRings
import Derived.Test.YtdgipcjigbagfaaSDecideTwice
namespace Go.Proofs.Ytdgipcjigbagfaa.AB
set_option linter.unusedVariables false
set_option linter.unusedSimpArgs false

theorem DecideTwice_loop (fu : Nat) (c : Cf) (hm : S.may c = true) (l u : List Int) :
    ∀ (k i : Nat) (si ms la : Int) (R0 R1 : Rg) (H : Dl) (Rs Rq D : List (Int × Int)), i ≤ l.length → i ≤ 80 → 80 < k + i → DRel c la c R0 R1 H Rs Rq D → la ≤ i → Rs.length ≤ i → Rq.length ≤ i → D.length ≤ i →
    (∀ y ∈ Rs, y.2 ≤ 1000000) → (∀ y ∈ Rq, y.2 ≤ 1000000) → R0.ov = false → R1.ov = false →
    ∃ z0 z1 si' ms' la' R0' R1' H', S.DecideTwice_l0 fu c l l.length u u.length k i c si ms la c false R0 R1 H c si ms la c false R0 R1 H = some (.inr (.inr (.inr (z0, z1, c, si', ms', la', c, false, R0', R1', H', c, si', ms', la', c, false, R0', R1', H')))) ∧ R0'.ov = false ∧ R1'.ov = false := by
  intro k
  induction k with
  | zero => intro i si ms la R0 R1 H Rs Rq D _ _; omega
  | succ k ih =>
    intro i si ms la R0 R1 H Rs Rq D hi h80 hk hD hla hRs hRq hDl hv0 hv1 o0 o1
    unfold S.DecideTwice_l0
    by_cases c2 : i < l.length
    · have g1 : ((i : Int) < ((l.length : Nat) : Int)) := by omega
      by_cases c3 : i < 80
      · have g0 : ((i : Int) < 80) := by omega
        have g2 : inB (i : Int) l.length = true := by unfold inB; simp; omega
        obtain ⟨o, ho⟩ : ∃ o, l[i]? = some o := ⟨l[i]'c2, by simp⟩
        have g3 : l[Int.toNat (i : Int) + 0]? = some o := by simpa using ho
        obtain ⟨v, hv, v0, v1⟩ := um o (m := 1000000) (by omega) (by omega)
        have hwi : IntKind.wrap .i64 ((i : Int) + 1) = ((i + 1 : Nat) : Int) := by rw [wrap_id (by omega) (by omega)]; omega
        have htk : Tk ((i : Int), v) := mk_tk (by omega) (by omega) v0 (by unfold M63; omega)
        obtain ⟨R0', R1', e, hD', n0, n1, q0, q1⟩ := dcput_ok (mo := false) (si := si) (ms := ms) hm hD htk (by omega) (by omega)
        obtain ⟨Rs', hRs'⟩ : ∃ q, q = pR c.grain (NB c.stable c.grain) R0.nw ((i : Int), v) Rs := ⟨_, rfl⟩
        obtain ⟨Rq', hRq'⟩ : ∃ q, q = pR c.grain (NB c.panic c.grain) R1.nw ((i : Int), v) Rq := ⟨_, rfl⟩
        have l0 := pR_len c.grain (NB c.stable c.grain) R0.nw ((i : Int), v) Rs
        have l1 := pR_len c.grain (NB c.panic c.grain) R1.nw ((i : Int), v) Rq
        have hw0 : ∀ y ∈ Rs', y.2 ≤ 1000000 := by rw [hRs']; exact pR_all hv0 (by simp only; omega)
        have hw1 : ∀ y ∈ Rq', y.2 ≤ 1000000 := by rw [hRq']; exact pR_all hv1 (by simp only; omega)
        rw [← hRs'] at l0 hD'
        rw [← hRq'] at l1 hD'
        have key : ∀ (r : Int), 0 ≤ r → r ≤ 100 → ∃ z0 z1 si' ms' la' R0'' R1'' H', (optK (S.q_dcnext c si ms la c false R0' R1' H (i : Int) r) fun o13 =>
            (optK (S.q_dcnext c si ms la c false R0' R1' H (i : Int) r) fun o14 =>
              bif !(decide (o13.1 = o14.1) && (decide (o13.2.1 = o14.2.1) && (decide (o13.2.2.1 = o14.2.2.1) && (decide (o13.2.2.2.1 = o14.2.2.2.1) && (o13.2.2.2.2.1 == o14.2.2.2.2.1 && (decide (o13.2.2.2.2.2.1 = o14.2.2.2.2.2.1) && true)))))) then
                some (.inr (.inr (.inl (o13.2.2.2.2.2.2.2.1, o13.2.2.2.2.2.2.2.2.1, o13.2.2.2.2.2.2.2.2.2.1, o13.2.2.2.2.2.2.2.2.2.2.1, o13.2.2.2.2.2.2.2.2.2.2.2.1, o13.2.2.2.2.2.2.2.2.2.2.2.2.1, o13.2.2.2.2.2.2.2.2.2.2.2.2.2.1, o13.2.2.2.2.2.2.2.2.2.2.2.2.2.2.1, o13.2.2.2.2.2.2.2.2.2.2.2.2.2.2.2, o14.2.2.2.2.2.2.2.1, o14.2.2.2.2.2.2.2.2.1, o14.2.2.2.2.2.2.2.2.2.1, o14.2.2.2.2.2.2.2.2.2.2.1, o14.2.2.2.2.2.2.2.2.2.2.2.1, o14.2.2.2.2.2.2.2.2.2.2.2.2.1, o14.2.2.2.2.2.2.2.2.2.2.2.2.2.1, o14.2.2.2.2.2.2.2.2.2.2.2.2.2.2.1, o14.2.2.2.2.2.2.2.2.2.2.2.2.2.2.2, o13.1, o13.2.1, o13.2.2.1, o13.2.2.2.1, o13.2.2.2.2.1, o13.2.2.2.2.2.1, o14.1, o14.2.1, o14.2.2.1, o14.2.2.2.1, o14.2.2.2.2.1, o14.2.2.2.2.2.1))))
              else
                bif !decide (o13.2.2.2.2.2.2.1 = 0) then
                  some (.inr (.inr (.inl (o13.2.2.2.2.2.2.2.1, o13.2.2.2.2.2.2.2.2.1, o13.2.2.2.2.2.2.2.2.2.1, o13.2.2.2.2.2.2.2.2.2.2.1, o13.2.2.2.2.2.2.2.2.2.2.2.1, o13.2.2.2.2.2.2.2.2.2.2.2.2.1, o13.2.2.2.2.2.2.2.2.2.2.2.2.2.1, o13.2.2.2.2.2.2.2.2.2.2.2.2.2.2.1, o13.2.2.2.2.2.2.2.2.2.2.2.2.2.2.2, o14.2.2.2.2.2.2.2.1, o14.2.2.2.2.2.2.2.2.1, o14.2.2.2.2.2.2.2.2.2.1, o14.2.2.2.2.2.2.2.2.2.2.1, o14.2.2.2.2.2.2.2.2.2.2.2.1, o14.2.2.2.2.2.2.2.2.2.2.2.2.1, o14.2.2.2.2.2.2.2.2.2.2.2.2.2.1, o14.2.2.2.2.2.2.2.2.2.2.2.2.2.2.1, o14.2.2.2.2.2.2.2.2.2.2.2.2.2.2.2, o13.1, o13.2.1, o13.2.2.1, o13.2.2.2.1, o13.2.2.2.2.1, o13.2.2.2.2.2.1, o14.1, o14.2.1, o14.2.2.1, o14.2.2.2.1, o14.2.2.2.2.1, o14.2.2.2.2.2.1))))
                else
                  bif !decide (o14.2.2.2.2.2.2.1 = 0) then
                    some (.inr (.inr (.inl (o13.2.2.2.2.2.2.2.1, o13.2.2.2.2.2.2.2.2.1, o13.2.2.2.2.2.2.2.2.2.1, o13.2.2.2.2.2.2.2.2.2.2.1, o13.2.2.2.2.2.2.2.2.2.2.2.1, o13.2.2.2.2.2.2.2.2.2.2.2.2.1, o13.2.2.2.2.2.2.2.2.2.2.2.2.2.1, o13.2.2.2.2.2.2.2.2.2.2.2.2.2.2.1, o13.2.2.2.2.2.2.2.2.2.2.2.2.2.2.2, o14.2.2.2.2.2.2.2.1, o14.2.2.2.2.2.2.2.2.1, o14.2.2.2.2.2.2.2.2.2.1, o14.2.2.2.2.2.2.2.2.2.2.1, o14.2.2.2.2.2.2.2.2.2.2.2.1, o14.2.2.2.2.2.2.2.2.2.2.2.2.1, o14.2.2.2.2.2.2.2.2.2.2.2.2.2.1, o14.2.2.2.2.2.2.2.2.2.2.2.2.2.2.1, o14.2.2.2.2.2.2.2.2.2.2.2.2.2.2.2, o13.1, o13.2.1, o13.2.2.1, o13.2.2.2.1, o13.2.2.2.2.1, o13.2.2.2.2.2.1, o14.1, o14.2.1, o14.2.2.1, o14.2.2.2.1, o14.2.2.2.2.1, o14.2.2.2.2.2.1))))
                  else
                    (S.DecideTwice_l0 fu c l l.length u u.length k) ((i + 1 : Nat) : Int) (o13.2.2.2.2.2.2.2.1) (o13.2.2.2.2.2.2.2.2.1) (o13.2.2.2.2.2.2.2.2.2.1) (o13.2.2.2.2.2.2.2.2.2.2.1) (o13.2.2.2.2.2.2.2.2.2.2.2.1) (o13.2.2.2.2.2.2.2.2.2.2.2.2.1) (o13.2.2.2.2.2.2.2.2.2.2.2.2.2.1) (o13.2.2.2.2.2.2.2.2.2.2.2.2.2.2.1) (o13.2.2.2.2.2.2.2.2.2.2.2.2.2.2.2) (o14.2.2.2.2.2.2.2.1) (o14.2.2.2.2.2.2.2.2.1) (o14.2.2.2.2.2.2.2.2.2.1) (o14.2.2.2.2.2.2.2.2.2.2.1) (o14.2.2.2.2.2.2.2.2.2.2.2.1) (o14.2.2.2.2.2.2.2.2.2.2.2.2.1) (o14.2.2.2.2.2.2.2.2.2.2.2.2.2.1) (o14.2.2.2.2.2.2.2.2.2.2.2.2.2.2.1) (o14.2.2.2.2.2.2.2.2.2.2.2.2.2.2.2))) = some (.inr (.inr (.inr (z0, z1, c, si', ms', la', c, false, R0'', R1'', H', c, si', ms', la', c, false, R0'', R1'', H')))) ∧ R0''.ov = false ∧ R1''.ov = false := by
          intro r r0 r1
          obtain ⟨R0'', R1'', H', e2, hD2, m0, m1, q2, q3⟩ := dcnext_ok (mo := false) (si := si) (ms := ms) hm hD' (t := (i : Int)) (r := r) hla (by omega) r0 r1 (by omega) (by omega) (by omega) (fun y hy => by have := hw0 y hy; omega) (fun y hy => by have := hw1 y hy; omega) rfl rfl rfl rfl rfl
          rw [S.q_dcnext_eq, e2]
          simp only [optK, decide_true, Bool.and_self, BEq.rfl, Bool.not_true, cond_false]
          refine ih (i + 1) _ _ _ R0'' R1'' H' Rs' Rq' _ (by omega) (by omega) (by omega) hD2 (by omega) (by omega) (by omega) ?_ hw0 hw1 (by rw [q2, q0, o0]) (by rw [q3, q1, o1])
          have := List.length_filter_le (keepT (i : Int)) D
          rw [List.length_append, List.length_singleton]; omega
        simp only [g1, g0, g2, g3, decide_true, cond_true, optK, hv, hwi]
        by_cases c4 : i < u.length
        · have g4 : ((i : Int) < ((u.length : Nat) : Int)) := by omega
          have g5 : inB (i : Int) u.length = true := by unfold inB; simp; omega
          obtain ⟨o', ho'⟩ : ∃ o, u[i]? = some o := ⟨u[i]'c4, by simp⟩
          have g6 : u[Int.toNat (i : Int) + 0]? = some o' := by simpa using ho'
          obtain ⟨r, hr, r0, r1⟩ := um o' (m := 101) (by omega) (by omega)
          simp only [g4, g5, g6, decide_true, cond_true, hr]
          rw [S.q_dcput_eq, e]
          simp only [optK, decide_true, Bool.not_true, cond_false]
          exact key r r0 (by omega)
        · have g4 : ¬ ((i : Int) < ((u.length : Nat) : Int)) := by omega
          simp only [g4, decide_false, cond_false]
          rw [S.q_dcput_eq, e]
          simp only [optK, decide_true, Bool.not_true, cond_false]
          exact key 1 (by omega) (by omega)
      · have g0 : ¬ ((i : Int) < 80) := by omega
        simp only [g1, g0, decide_true, decide_false, cond_true, cond_false]
        exact ⟨_, _, _, _, _, _, _, _, rfl, o0, o1⟩
    · have g1 : ¬ ((i : Int) < ((l.length : Nat) : Int)) := by omega
      simp only [g1, decide_false, cond_false]
      exact ⟨_, _, _, _, _, _, _, _, rfl, o0, o1⟩

theorem DecideTwice_true (c : Cf) (l u : List Int) : S.DecideTwice 100000 c l l.length u u.length = some true := by
  unfold S.DecideTwice
  rw [S.q_rmay_eq, rmay_eq]
  cases hm : S.may c with
  | false => simp
  | true =>
    rw [S.q_dcnew_p_eq, dcnew_yes hm]
    simp only [Bool.not_true, cond_false, optK, Sum.elim_inr]
    obtain ⟨z0, z1, si', ms', la', R0', R1', H', e, o0, o1⟩ := DecideTwice_loop 100000 c hm l u 100000 0 (-1) 0 0 (rg0 c.stable c.grain) (rg0 c.panic c.grain) ⟨0, 0, c.delay, 0, []⟩ [] [] [] (by omega) (by omega) (by omega) (drel0 c) (by omega) (by simp) (by simp) (by simp) (fun _ h => (by cases h)) (fun _ h => (by cases h)) rfl rfl
    have e' : S.DecideTwice_l0 100000 c l l.length u u.length 100000 0 c (-1) 0 0 c false (rg0 c.stable c.grain) (rg0 c.panic c.grain) ⟨0, 0, c.delay, 0, []⟩ c (-1) 0 0 c false (rg0 c.stable c.grain) (rg0 c.panic c.grain) ⟨0, 0, c.delay, 0, []⟩ = _ := e
    simp only [e', optK, Sum.elim_inr, S.DecideTwice_a0_3, S.dcmode, S.dcover, S.mover, S.ro, o0, o1, decide_true, Bool.and_self, cond_true, cond_false, Bool.not_false]
end Go.Proofs.Ytdgipcjigbagfaa.AB
