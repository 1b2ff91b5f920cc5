/- RingNear answers true. -/
import Derived.Test.YtmgnfjiogfcieaaPlRingL
import Derived.Test.YtmgnfjiogfcieaaPlRref
import Derived.Test.YtmgnfjiogfcieaaSRingNear
namespace Go.Proofs.Ytmgnfjiogfcieaa.AB
set_option linter.unusedVariables false
set_option linter.unusedSimpArgs false

theorem wrap_b (n : Int) : -9223372036854775808 ≤ IntKind.wrap .i64 n ∧ IntKind.wrap .i64 n < 9223372036854775808 := by rw [IntKind.wrap_i64]; omega

theorem RingNear_loop (fu : Nat) (w0 g0 G W : Int) (y z : Int) (hy : IntKind.wrap .i64 (Int.tmod (IntKind.wrap .u64 w0) 40) = y) (y0 : 0 ≤ y) (y1 : y < 40) (hW : W = 1 + y)
    (hz : IntKind.wrap .i64 (Int.tmod (IntKind.wrap .u64 g0) W) = z) (z0 : 0 ≤ z) (z1 : z < W) (hG : G = 1 + z) (l : OL) (hl : l.length ≤ 120) :
    ∀ (k i : Nat) (now w nw : Int) (R : List (Int × Int)) (lo len : Nat) (L : FL) (f : BL) (ov : Bool), i ≤ l.length → l.length < k + i → Rok w G → PRel G (NB w G) nw R lo len L f → -1 ≤ nw → nw ≤ 1099511627776 → R.length ≤ i → 0 ≤ now → now ≤ 4 * i →
    ∃ z, S.RingNear_l0 fu w0 g0 l l.length k now i lo len w G (NB w G) nw ov L f w G 0 R.length nw ov R = some (.inr (.inr z)) := by
  intro k
  induction k with
  | zero => intro i now w nw R lo len L f ov _ _; omega
  | succ k ih =>
    intro i now w nw R lo len L f ov hi hk hw hP n0 n1 hRl nw0 nw1
    have hg1 := hw.1.1
    have hN := NB_b hw.1.1 hw.1.2 hw.2
    unfold S.RingNear_l0
    by_cases c2 : i < l.length
    · have g1 : ((i : Int) < ((l.length : Nat) : Int)) := by omega
      have g2 : inB (i : Int) l.length = true := by unfold inB; simp; omega
      obtain ⟨o, ho⟩ : ∃ o, l[i]? = some o := ⟨l[i]'c2, by simp⟩
      have g3 : l[Int.toNat (i : Int) + 0]? = some o := by simpa using ho
      have hwi : IntKind.wrap .i64 ((i : Int) + 1) = ((i + 1 : Nat) : Int) := by rw [wrap_id (by omega) (by omega)]; omega
      have hM : M63 = 9223372036854775807 := rfl
      have hWw : IntKind.wrap .i64 (1 + y) = W := by rw [wrap_id (by omega) (by omega), hW]
      have h2W : IntKind.wrap .u64 (IntKind.wrap .i64 (2 * W)) = 2 * W := by rw [wrap_id (n := 2 * W) (by omega) (by omega), wrap_u (by omega) (by omega)]
      have hWu : IntKind.wrap .u64 W = W := wrap_u (by omega) (by omega)
      have hGw : IntKind.wrap .i64 (1 + z) = G := by rw [wrap_id (by omega) (by omega), hG]
      have nz : ¬ 2 * W = 0 := by omega
      obtain ⟨a, ha, a0, a1⟩ := um o.2.2.1 (m := 5) (by omega) (by omega)
      obtain ⟨b, hb, b0, b1⟩ : ∃ b, IntKind.wrap .i64 (Int.tmod (IntKind.wrap .u64 (Int.tdiv (IntKind.wrap .u64 o.2.2.1) 5)) (2 * W)) = b ∧ 0 ≤ b ∧ b < 2 * W := um _ (by omega) (by omega)
      obtain ⟨v, hv, v0, v1⟩ := um o.2.2.2 (m := 1000000) (by omega) (by omega)
      obtain ⟨c, hc, c0, c1⟩ := um o.2.1 (m := 60) (by omega) (by omega)
      have hna : IntKind.wrap .i64 (now + a) = now + a := wrap_id (by omega) (by omega)
      have hnb : IntKind.wrap .i64 (now + a - b) = now + a - b := wrap_id (by omega) (by omega)
      have hgc : IntKind.wrap .i64 (G + c) = G + c := wrap_id (by omega) (by omega)
      obtain ⟨t, htd⟩ : ∃ t, t = (if now + a - b > 0 then now + a - b else 0) := ⟨_, rfl⟩
      have ht0 : 0 ≤ t ∧ t ≤ now + a := by subst htd; split <;> omega
      have htk : Tk (t, v) := mk_tk (by omega) (by omega) v0 (by omega)
      obtain ⟨T, hTd⟩ : ∃ T, T = IntKind.wrap .i64 (now + a + bitsA BinOp.and .i64 o.1 3) := ⟨_, rfl⟩
      have hTb : -9223372036854775808 ≤ T ∧ T < 9223372036854775808 := by rw [hTd]; exact wrap_b _
      simp only [g1, g2, g3, decide_true, cond_true, optK, hwi, hy, hWw, hWu, hz, hGw, h2W, nz, decide_false, cond_false, ha, hna, hb, hnb, hv, hc, hgc, ← htd, ← hTd]
      obtain ⟨lo', len', L', f', e, hP'⟩ := rp_ok hP hw n0 n1 htk (by omega) ov
      have e2 := rput_ok hw hP.tk (by omega) n0 n1 htk.1 ov
      have hpb := pnw_b (nw := nw) hg1 htk.1 n0 n1
      have hln := pR_len G (NB w G) nw (t, v) R
      rw [S.q_rp_eq, S.q_rput_eq, e]
      simp only [optK]
      rw [e2]
      simp only [optK, decide_true, Bool.not_true, cond_false]
      obtain ⟨nw2, hnw2⟩ : ∃ q, q = pnw G nw (t, v) := ⟨_, rfl⟩
      obtain ⟨R2, hR2⟩ : ∃ q, q = pR G (NB w G) nw (t, v) R := ⟨_, rfl⟩
      rw [← hnw2, ← hR2] at hP'
      rw [← hnw2] at hpb
      rw [← hR2] at hln
      rw [← hnw2, ← hR2]
      -- what follows the sums
      have key : ∀ (ov' : Bool), ∃ z, (optK (S.q_rm L' f' lo' len' w G (NB w G) nw2 ov' t) fun o13 =>
          (optK (S.q_rmean R2 0 R2.length w G nw2 ov' t) fun o14 =>
            bif !decide (o13.1 = o14.1) then
              some (.inl (o13.2.1, o13.2.2.1, o13.2.2.2.1, o13.2.2.2.2.1, o13.2.2.2.2.2.1, o13.2.2.2.2.2.2.1, o13.2.2.2.2.2.2.2.1, o14.2.1, o14.2.2.1, o14.2.2.2.1, o14.2.2.2.2.1, o14.2.2.2.2.2.1, o14.2.2.2.2.2.2.1, o.1, o.2.1, o.2.2.1, o.2.2.2, o13.2.2.2.2.2.2.2.2.1, o13.2.2.2.2.2.2.2.2.2, o14.2.2.2.2.2.2.2))
            else
              bif decide (bitsA Go.BinOp.and .i64 o.1 31 = 31) then
                (optK (S.q_rr o13.2.2.2.2.2.2.2.2.1 o13.2.2.2.2.2.2.2.2.2 o13.2.1 o13.2.2.1 o13.2.2.2.1 o13.2.2.2.2.1 o13.2.2.2.2.2.1 o13.2.2.2.2.2.2.1 o13.2.2.2.2.2.2.2.1 (G + c)) fun o17 =>
                  (optK (S.q_rresize o14.2.2.2.2.2.2.2 o14.2.2.2.1 o14.2.2.2.2.1 o14.2.1 o14.2.2.1 o14.2.2.2.2.2.1 o14.2.2.2.2.2.2.1 (G + c)) fun o18 =>
                    bif !decide (o17.1 = o18.1) then
                      some (.inr (.inl (o17.2.1, o17.2.2.1, o17.2.2.2.1, o17.2.2.2.2.1, o17.2.2.2.2.2.1, o17.2.2.2.2.2.2.1, o17.2.2.2.2.2.2.2.1, o18.2.1, o18.2.2.1, o18.2.2.2.1, o18.2.2.2.2.1, o18.2.2.2.2.2.1, o18.2.2.2.2.2.2.1, o.1, o.2.1, o.2.2.1, o.2.2.2, o17.2.2.2.2.2.2.2.2.1, o17.2.2.2.2.2.2.2.2.2, o18.2.2.2.2.2.2.2)))
                    else
                      (S.RingNear_l0 fu w0 g0 l l.length k) (now + a) ((i + 1 : Nat) : Int) (o17.2.1) (o17.2.2.1) (o17.2.2.2.1) (o17.2.2.2.2.1) (o17.2.2.2.2.2.1) (o17.2.2.2.2.2.2.1) (o17.2.2.2.2.2.2.2.1) (o17.2.2.2.2.2.2.2.2.1) (o17.2.2.2.2.2.2.2.2.2) (o18.2.1) (o18.2.2.1) (o18.2.2.2.1) (o18.2.2.2.2.1) (o18.2.2.2.2.2.1) (o18.2.2.2.2.2.2.1) (o18.2.2.2.2.2.2.2)))
              else
                (S.RingNear_l0 fu w0 g0 l l.length k) (now + a) ((i + 1 : Nat) : Int) (o13.2.1) (o13.2.2.1) (o13.2.2.2.1) (o13.2.2.2.2.1) (o13.2.2.2.2.2.1) (o13.2.2.2.2.2.2.1) (o13.2.2.2.2.2.2.2.1) (o13.2.2.2.2.2.2.2.2.1) (o13.2.2.2.2.2.2.2.2.2) (o14.2.1) (o14.2.2.1) (o14.2.2.2.1) (o14.2.2.2.2.1) (o14.2.2.2.2.2.1) (o14.2.2.2.2.2.2.1) (o14.2.2.2.2.2.2.2))) = some (.inr (.inr z)) := by
        intro ov'
        rw [S.q_rm_eq, S.q_rmean_eq, rm_ok hP' hg1 (by omega) w ov' (by omega) (by omega)]
        simp only [optK]
        rw [rmean_ok hw hP'.tk (by omega) ov' (by omega) (by omega)]
        simp only [optK, decide_true, Bool.not_true, cond_false]
        by_cases k3 : bitsA BinOp.and .i64 o.1 31 = 31
        · have hw' : Rok (G + c) G := ⟨⟨hg1, by omega⟩, by omega⟩
          obtain ⟨lo3, len3, L3, f3, e3, hP3⟩ := rr_ok hP' hw' hpb.1 hpb.2.1 (by omega) (ov' || over (vs G (inW (NB w G) (t.tdiv G)) R2))
          have hln3 := List.length_filter_le (Kp G (NB (G + c) G) nw2) R2
          simp only [k3, decide_true, cond_true]
          rw [S.q_rr_eq, S.q_rresize_eq, e3]
          simp only [optK]
          rw [rresize_ok hw' hP'.tk (by omega) hpb.1 hpb.2.1]
          simp only [optK, decide_true, Bool.not_true, cond_false]
          exact ih (i + 1) (now + a) (G + c) nw2 _ lo3 len3 L3 f3 _ (by omega) (by omega) hw' hP3 hpb.1 hpb.2.1 (by omega) (by omega) (by omega)
        · simp only [k3, decide_false, cond_false]
          exact ih (i + 1) (now + a) w nw2 R2 lo' len' L' f' _ (by omega) (by omega) hw hP' hpb.1 hpb.2.1 (by omega) (by omega) (by omega)
      by_cases ht : T < 0
      · rw [S.q_rs_eq, S.q_rsum_eq, rs_neg _ _ _ _ _ _ _ _ _ _ ht]
        simp only [optK]
        rw [rsum_neg _ _ _ _ _ _ ht]
        simp only [optK, decide_true, Bool.not_true, cond_false]
        exact key ov
      · rw [S.q_rs_eq, S.q_rsum_eq, rs_ok hP' hg1 (by omega) w ov (by omega) (by omega)]
        simp only [optK]
        rw [rsum_ok hw hP'.tk (by omega) ov (by omega) (by omega)]
        simp only [optK, decide_true, Bool.not_true, cond_false]
        exact key _
    · have g1 : ¬ ((i : Int) < ((l.length : Nat) : Int)) := by omega
      simp only [g1, decide_false, cond_false]
      exact ⟨_, rfl⟩

theorem RingNear_true (w g : Int) (l : OL) : S.RingNear 100000 w g l l.length = some true := by
  obtain ⟨y, hy, y0, y1⟩ := um w (m := 40) (by omega) (by omega)
  obtain ⟨W, hW⟩ : ∃ W, W = 1 + y := ⟨_, rfl⟩
  obtain ⟨z, hz, z0, z1⟩ := um g (m := W) (by omega) (by omega)
  obtain ⟨G, hG⟩ : ∃ G, G = 1 + z := ⟨_, rfl⟩
  have hWw : IntKind.wrap .i64 (1 + y) = W := by rw [wrap_id (by omega) (by omega), hW]
  have hWu : IntKind.wrap .u64 W = W := wrap_u (by omega) (by omega)
  have hGw : IntKind.wrap .i64 (1 + z) = G := by rw [wrap_id (by omega) (by omega), hG]
  have nz : ¬ W = 0 := by omega
  have hw : Rok W G := ⟨⟨by omega, by omega⟩, by omega⟩
  unfold S.RingNear
  rw [hy, hWw, hWu, hz, hGw, S.q_pring_eq, S.q_rnewring_eq, new_yes hw, rnew_yes hw]
  simp only [optK, Sum.elim_inr, nz, decide_false, cond_false]
  by_cases hl : (120 : Int) < ((l.length : Nat) : Int)
  · simp only [hl, decide_true, cond_true]
  · obtain ⟨q, e⟩ := RingNear_loop 100000 w g G W y z hy y0 y1 hW hz z0 z1 hG l (by omega) 100000 0 0 W (-1) [] 0 0 [] [] false (by omega) (by omega) hw (PRel.nil ..) (by omega) (by omega) (by simp) (by omega) (by omega)
    have e' : S.RingNear_l0 100000 w g l l.length 100000 0 0 0 0 W G (NB W G) (-1) false [] [] W G 0 0 (-1) false [] = some (.inr (.inr q)) := e
    simp only [hl, decide_false, cond_false, e', optK, Sum.elim_inr, S.RingNear_a0_2]
end Go.Proofs.Ytmgnfjiogfcieaa.AB
