/- RingPlays answers true. -/
import Derived.Test.YtmgnfjiogfcieaaPlRingL
import Derived.Test.YtmgnfjiogfcieaaPlRref
import Derived.Test.YtmgnfjiogfcieaaSRingPlays
namespace Go.Proofs.Ytmgnfjiogfcieaa.AB
set_option linter.unusedVariables false
set_option linter.unusedSimpArgs false

theorem filt_tk {g n e : Int} {R : List (Int × Int)} (h : ∀ y ∈ R, Tk y) : ∀ y ∈ R.filter (Kp g n e), Tk y := fun y hy => h y (List.mem_filter.mp hy).1

theorem RingPlays_loop (fu : Nat) (w0 g : Int) (l : OL) (hT : ∀ o ∈ l, -9223372036854775808 ≤ o.2.2.1 ∧ o.2.2.1 < 9223372036854775808) (hV : ∀ o ∈ l, -9223372036854775808 ≤ o.2.2.2 ∧ o.2.2.2 < 9223372036854775808) (hl : l.length ≤ 120) :
    ∀ (k i : Nat) (w nw : Int) (R : List (Int × Int)) (lo len : Nat) (L : FL) (f : BL) (ov : Bool), i ≤ l.length → l.length < k + i → Rok w g → PRel g (NB w g) nw R lo len L f → -1 ≤ nw → nw ≤ 1099511627776 → R.length ≤ i →
    ∃ z, S.RingPlays_l0 fu w0 g l l.length k i lo len w g (NB w g) nw ov L f w g 0 R.length nw ov R = some (.inr (.inr (.inr z))) := by
  intro k
  induction k with
  | zero => intro i w nw R lo len L f ov _ _; omega
  | succ k ih =>
    intro i w nw R lo len L f ov hi hk hw hP n0 n1 hRl
    have hg1 := hw.1.1
    have hN := NB_b hw.1.1 hw.1.2 hw.2
    unfold S.RingPlays_l0
    by_cases c2 : i < l.length
    · have g1 : ((i : Int) < ((l.length : Nat) : Int)) := by omega
      have g2 : inB (i : Int) l.length = true := by unfold inB; simp; omega
      obtain ⟨o, ho⟩ : ∃ o, l[i]? = some o := ⟨l[i]'c2, by simp⟩
      have g3 : l[Int.toNat (i : Int) + 0]? = some o := by simpa using ho
      have hwi : IntKind.wrap .i64 ((i : Int) + 1) = ((i + 1 : Nat) : Int) := by rw [wrap_id (by omega) (by omega)]; omega
      have hoT := hT o (List.mem_of_getElem? ho)
      have hoV := hV o (List.mem_of_getElem? ho)
      have hM : M63 = 9223372036854775807 := rfl
      simp only [g1, g2, g3, decide_true, cond_true, optK, hwi]
      by_cases k1 : bitsA BinOp.and .i64 o.1 7 < 5
      · simp only [k1, decide_true, cond_true]
        by_cases ht : Takes (o.2.2.1, o.2.2.2)
        · have htk : Tk (o.2.2.1, o.2.2.2) := ⟨ht, by simp only; omega⟩
          obtain ⟨lo', len', L', f', e, hP'⟩ := rp_ok hP hw n0 n1 htk (by omega) ov
          have e2 := rput_ok hw hP.tk (by omega) n0 n1 ht ov
          have hb := pnw_b (nw := nw) hg1 ht n0 n1
          have hln := pR_len g (NB w g) nw (o.2.2.1, o.2.2.2) R
          rw [S.q_rp_eq, S.q_rput_eq, e]
          simp only [optK]
          rw [e2]
          simp only [optK, S.rz, S.ro, rN_eq hw, decide_true, Bool.not_true, cond_false, BEq.rfl]
          exact ih (i + 1) w _ _ lo' len' L' f' ov (by omega) (by omega) hw hP' hb.1 hb.2.1 (by omega)
        · rw [S.q_rp_eq, S.q_rput_eq, rp_no _ _ _ _ _ _ _ _ _ _ _ ht]
          simp only [optK]
          rw [rput_no _ _ _ _ _ _ _ _ _ ht]
          simp only [optK, S.rz, S.ro, rN_eq hw, decide_true, Bool.not_true, cond_false, BEq.rfl]
          exact ih (i + 1) w nw R lo len L f ov (by omega) (by omega) hw hP n0 n1 (by omega)
      · simp only [k1, decide_false, cond_false]
        by_cases k2 : bitsA BinOp.and .i64 o.1 7 < 7
        · simp only [k2, decide_true, cond_true]
          by_cases ht : o.2.2.1 < 0
          · rw [S.q_rs_eq, S.q_rsum_eq, rs_neg _ _ _ _ _ _ _ _ _ _ ht]
            simp only [optK]
            rw [rsum_neg _ _ _ _ _ _ ht]
            simp only [optK, decide_true, Bool.not_true, cond_false]
            rw [S.q_rm_eq, S.q_rmean_eq, rm_neg _ _ _ _ _ _ _ _ _ _ ht]
            simp only [optK]
            rw [rmean_neg _ _ _ _ _ _ ht]
            simp only [optK, S.rz, S.ro, rN_eq hw, decide_true, Bool.not_true, cond_false, BEq.rfl]
            exact ih (i + 1) w nw R lo len L f ov (by omega) (by omega) hw hP n0 n1 (by omega)
          · rw [S.q_rs_eq, S.q_rsum_eq, rs_ok hP hg1 (by omega) w ov (by omega) (by omega)]
            simp only [optK]
            rw [rsum_ok hw hP.tk (by omega) ov (by omega) (by omega)]
            simp only [optK, decide_true, Bool.not_true, cond_false]
            rw [S.q_rm_eq, S.q_rmean_eq, rm_ok hP hg1 (by omega) w _ (by omega) (by omega)]
            simp only [optK]
            rw [rmean_ok hw hP.tk (by omega) _ (by omega) (by omega)]
            simp only [optK, S.rz, S.ro, rN_eq hw, decide_true, Bool.not_true, cond_false, BEq.rfl]
            exact ih (i + 1) w nw R lo len L f _ (by omega) (by omega) hw hP n0 n1 (by omega)
        · simp only [k2, decide_false, cond_false]
          by_cases hz : o.2.1 < g ∨ 600 < o.2.1
          · rw [S.q_rr_eq, S.q_rresize_eq, rr_no _ _ _ _ _ _ _ _ _ _ hz]
            simp only [optK]
            rw [rresize_no _ _ _ _ _ _ _ _ hz]
            simp only [optK, S.rz, S.ro, rN_eq hw, decide_true, Bool.not_true, cond_false, BEq.rfl]
            exact ih (i + 1) w nw R lo len L f ov (by omega) (by omega) hw hP n0 n1 (by omega)
          · have hw' : Rok o.2.1 g := ⟨⟨hg1, by omega⟩, by omega⟩
            obtain ⟨lo', len', L', f', e, hP'⟩ := rr_ok hP hw' n0 n1 (by omega) ov
            have hln := List.length_filter_le (Kp g (NB o.2.1 g) nw) R
            rw [S.q_rr_eq, S.q_rresize_eq, e]
            simp only [optK]
            rw [rresize_ok hw' hP.tk (by omega) n0 n1 ov]
            simp only [optK, S.rz, S.ro, rN_eq hw', decide_true, Bool.not_true, cond_false, BEq.rfl]
            exact ih (i + 1) o.2.1 nw _ lo' len' L' f' ov (by omega) (by omega) hw' hP' n0 n1 (by omega)
    · have g1 : ¬ ((i : Int) < ((l.length : Nat) : Int)) := by omega
      simp only [g1, decide_false, cond_false]
      exact ⟨_, rfl⟩

theorem RingPlays_true (w g : Int) (l : OL) (hT : ∀ o ∈ l, -9223372036854775808 ≤ o.2.2.1 ∧ o.2.2.1 < 9223372036854775808) (hV : ∀ o ∈ l, -9223372036854775808 ≤ o.2.2.2 ∧ o.2.2.2 < 9223372036854775808) :
    S.RingPlays 100000 w g l l.length = some true := by
  unfold S.RingPlays
  rw [S.q_pring_eq, S.q_rnewring_eq]
  by_cases hw : Rok w g
  · rw [new_yes hw, rnew_yes hw]
    simp only [optK, Sum.elim_inr]
    by_cases hl : (120 : Int) < ((l.length : Nat) : Int)
    · simp only [hl, decide_true, cond_true]
    · obtain ⟨z, e⟩ := RingPlays_loop 100000 w g l hT hV (by omega) 100000 0 w (-1) [] 0 0 [] [] false (by omega) (by omega) hw (PRel.nil ..) (by omega) (by omega) (by simp)
      have e' : S.RingPlays_l0 100000 w g l l.length 100000 0 0 0 w g (NB w g) (-1) false [] [] w g 0 0 (-1) false [] = some (.inr (.inr (.inr z))) := e
      simp only [hl, decide_false, cond_false, e', optK, Sum.elim_inr, S.RingPlays_a0_3]
  · rw [new_no hw, rnew_no hw]
    simp only [optK, Sum.elim_inl]
end Go.Proofs.Ytmgnfjiogfcieaa.AB
