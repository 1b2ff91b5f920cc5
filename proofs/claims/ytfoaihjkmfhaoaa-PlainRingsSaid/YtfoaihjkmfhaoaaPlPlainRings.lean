/- PlainRings answers true. -/
import Derived.Test.YtfoaihjkmfhaoaaPlPlainB
import Derived.Test.YtfoaihjkmfhaoaaPlRingL
import Derived.Test.YtfoaihjkmfhaoaaSPlainRings
namespace Go.Proofs.Ytfoaihjkmfhaoaa.AB
set_option linter.unusedVariables false
set_option linter.unusedSimpArgs false

theorem wrap_b (n : Int) : -9223372036854775808 ≤ IntKind.wrap .i64 n ∧ IntKind.wrap .i64 n < 9223372036854775808 := by rw [IntKind.wrap_i64]; omega

theorem PlainRings_loop (fu : Nat) (w0 g0 q0 G W : Int) (y z : Int) (hy : IntKind.wrap .i64 (Int.tmod (IntKind.wrap .u64 w0) 40) = y) (y0 : 0 ≤ y) (y1 : y < 40) (hW : W = 1 + y)
    (hz : IntKind.wrap .i64 (Int.tmod (IntKind.wrap .u64 g0) W) = z) (z0 : 0 ≤ z) (z1 : z < W) (hG : G = 1 + z) (l : RL) (hl : l.length ≤ 60)
    (hT : ∀ o ∈ l, -9223372036854775808 ≤ o.1 ∧ o.1 < 9223372036854775808) (hV : ∀ o ∈ l, -9223372036854775808 ≤ o.2 ∧ o.2 < 9223372036854775808) :
    ∀ (k i : Nat) (lo len : Nat) (L : FL) (f : BL) (ov : Bool), i ≤ l.length → l.length < k + i → PRel G (NB W G) (nbF G (-1) (l.take i)) (KR G (NB W G) (l.take i)) lo len L f →
    ∃ z, S.PlainRings_l0 fu l l.length w0 g0 q0 k i lo len W G (NB W G) (nbF G (-1) (l.take i)) ov L f = some (.inr z) := by
  have hw : Rok W G := ⟨⟨by omega, by omega⟩, by omega⟩
  have hg1 := hw.1.1
  have hN := NB_b hw.1.1 hw.1.2 hw.2
  have hM : M63 = 9223372036854775807 := rfl
  have hv : ∀ x ∈ l, x.2 ≤ M63 := fun x hx => by have := hV x hx; omega
  intro k
  induction k with
  | zero => intro i lo len L f ov _ _; omega
  | succ k ih =>
    intro i lo len L f ov hi hk hP
    unfold S.PlainRings_l0
    by_cases c2 : i < l.length
    · have g1 : ((i : Int) < ((l.length : Nat) : Int)) := by omega
      have g2 : inB (i : Int) l.length = true := by unfold inB; simp; omega
      obtain ⟨o, ho⟩ : ∃ o, l[i]? = some o := ⟨l[i]'c2, by simp⟩
      have g3 : l[i + 0]? = some o := by simpa using ho
      have hwi : IntKind.wrap .i64 ((i : Int) + 1) = ((i + 1 : Nat) : Int) := by rw [wrap_id (by omega) (by omega)]; omega
      have hin : (0 ≤ ((i + 1 : Nat) : Int) ∧ ((i + 1 : Nat) : Int) ≤ ((l.length : Nat) : Int)) := by omega
      have hWw : IntKind.wrap .i64 (1 + y) = W := by rw [wrap_id (by omega) (by omega), hW]
      have hWu : IntKind.wrap .u64 W = W := wrap_u (by omega) (by omega)
      have hGw : IntKind.wrap .i64 (1 + z) = G := by rw [wrap_id (by omega) (by omega), hG]
      have hoT := hT o (List.mem_of_getElem? ho)
      have hoV := hV o (List.mem_of_getElem? ho)
      have htake : l.take (i + 1) = l.take i ++ [o] := by rw [List.take_add_one, ho]; rfl
      have hb := nbF_b G hg1 (l.take i) (-1) (by omega) (by omega)
      have hRl : (KR G (NB W G) (l.take i)).length ≤ 60 := by
        have := List.length_filter_le (fun x => decide (Takes x) && Kp G (NB W G) (nbF G (-1) (l.take i)) x) (l.take i)
        rw [List.length_take] at this
        unfold KR; omega
      have hRl2 : (KR G (NB W G) (l.take (i + 1))).length ≤ 60 := by
        have := List.length_filter_le (fun x => decide (Takes x) && Kp G (NB W G) (nbF G (-1) (l.take (i + 1))) x) (l.take (i + 1))
        rw [List.length_take] at this
        unfold KR; omega
      simp only [g1, g2, g3, hin, decide_true, cond_true, optK, hwi, hy, hWw, hWu, hz, hGw, Int.toNat_natCast, and_self]
      obtain ⟨cd, lo', len', L', f', e, hP'⟩ : ∃ cd lo' len' L' f', S.rp L f lo len W G (NB W G) (nbF G (-1) (l.take i)) ov o.1 o.2 = some (cd, lo', len', W, G, NB W G, nbF G (-1) (l.take (i + 1)), ov, L', f') ∧ PRel G (NB W G) (nbF G (-1) (l.take (i + 1))) (KR G (NB W G) (l.take (i + 1))) lo' len' L' f' := by
        by_cases ht : Takes o
        · obtain ⟨lo', len', L', f', e, hP'⟩ := rp_ok hP hw hb.1 hb.2 (x := o) ⟨ht, by omega⟩ (by omega) ov
          obtain ⟨k1, k2⟩ := KR_put (g := G) (n := NB W G) (q := l.take i) ht hN.1
          rw [k1, k2, ← htake] at hP'
          rw [k1, ← htake] at e
          exact ⟨_, lo', len', L', f', e, hP'⟩
        · obtain ⟨k1, k2⟩ := KR_no (g := G) (n := NB W G) (q := l.take i) ht
          rw [← htake] at k1 k2
          rw [k1, k2]
          exact ⟨1, lo, len, L, f, rp_no _ _ _ _ _ _ _ _ _ _ _ ht, hP⟩
      rw [S.q_rp_eq, e]
      simp only [optK]
      have key : ∀ (T : Int), -9223372036854775808 ≤ T → T < 9223372036854775808 → ∃ z, (optK (S.q_rs 100000 L' f' lo' len' W G (NB W G) (nbF G (-1) (l.take (i + 1))) ov T) fun o15 =>
          (optK (S.q_psum 100000 l 0 (i + 1) true W G T) fun o17 =>
            bif !decide (o15.1 = o17.1) then
              some (.inl (o15.2.2.1, o15.2.2.2.1, o15.2.2.2.2.1, o15.2.2.2.2.2.1, o15.2.2.2.2.2.2.1, o15.2.2.2.2.2.2.2.1, o15.2.2.2.2.2.2.2.2.1, o15.2.2.2.2.2.2.2.2.2.1, o15.2.2.2.2.2.2.2.2.2.2))
            else
              bif !decide (o15.2.1 = o17.2) then
                some (.inl (o15.2.2.1, o15.2.2.2.1, o15.2.2.2.2.1, o15.2.2.2.2.2.1, o15.2.2.2.2.2.2.1, o15.2.2.2.2.2.2.2.1, o15.2.2.2.2.2.2.2.2.1, o15.2.2.2.2.2.2.2.2.2.1, o15.2.2.2.2.2.2.2.2.2.2))
              else
                (optK (S.q_rm o15.2.2.2.2.2.2.2.2.2.1 o15.2.2.2.2.2.2.2.2.2.2 o15.2.2.1 o15.2.2.2.1 o15.2.2.2.2.1 o15.2.2.2.2.2.1 o15.2.2.2.2.2.2.1 o15.2.2.2.2.2.2.2.1 o15.2.2.2.2.2.2.2.2.1 T) fun o20 =>
                  (optK (S.q_pmean l 0 (i + 1) true W G T) fun o22 =>
                    bif !decide (o20.1 = o22) then
                      some (.inl (o20.2.1, o20.2.2.1, o20.2.2.2.1, o20.2.2.2.2.1, o20.2.2.2.2.2.1, o20.2.2.2.2.2.2.1, o20.2.2.2.2.2.2.2.1, o20.2.2.2.2.2.2.2.2.1, o20.2.2.2.2.2.2.2.2.2))
                    else
                      (S.PlainRings_l0 fu l l.length w0 g0 q0 k) ((i + 1 : Nat) : Int) (o20.2.1) (o20.2.2.1) (o20.2.2.2.1) (o20.2.2.2.2.1) (o20.2.2.2.2.2.1) (o20.2.2.2.2.2.2.1) (o20.2.2.2.2.2.2.2.1) (o20.2.2.2.2.2.2.2.2.1) (o20.2.2.2.2.2.2.2.2.2))))) = some (.inr z) := by
        intro T t0 t1
        by_cases ht : T < 0
        · rw [S.q_rs_eq, S.q_psum_eq, S.q_pmean_eq, rs_neg _ _ _ _ _ _ _ _ _ _ ht, psumB_neg l (i + 1) true W G T hw ht, pmean_neg l (i + 1) true W G T hw ht]
          simp only [optK, decide_true, Bool.not_true, cond_false]
          rw [S.q_rm_eq, rm_neg _ _ _ _ _ _ _ _ _ _ ht]
          simp only [optK, decide_true, Bool.not_true, cond_false]
          exact ih (i + 1) lo' len' L' f' ov (by omega) (by omega) hP'
        · rw [S.q_rs_eq, S.q_psum_eq, S.q_pmean_eq, rs_ok hP' hg1 (by omega) W ov (by omega) t1, psum_ok l (i + 1) true W G T hv (by omega) (by omega) hw (by omega) t1, pmean_ok l (i + 1) true W G T hv (by omega) (by omega) hw (by omega) t1]
          simp only [optK, decide_true, Bool.not_true, cond_false]
          rw [S.q_rm_eq, rm_ok hP' hg1 (by omega) W _ (by omega) t1]
          simp only [optK, decide_true, Bool.not_true, cond_false]
          exact ih (i + 1) lo' len' L' f' _ (by omega) (by omega) hP'
      by_cases k1 : 1099511627776 < o.1
      · simp only [k1, decide_true, cond_true]
        exact key o.1 hoT.1 hoT.2
      · by_cases k2 : o.1 < -1099511627776
        · simp only [k1, k2, decide_true, decide_false, cond_true, cond_false]
          exact key o.1 hoT.1 hoT.2
        · simp only [k1, k2, decide_false, cond_false]
          exact key _ (wrap_b _).1 (wrap_b _).2
    · have g1 : ¬ ((i : Int) < ((l.length : Nat) : Int)) := by omega
      simp only [g1, decide_false, cond_false]
      exact ⟨_, rfl⟩

theorem PlainRings_true (w g q : Int) (l : RL) (hT : ∀ o ∈ l, -9223372036854775808 ≤ o.1 ∧ o.1 < 9223372036854775808) (hV : ∀ o ∈ l, -9223372036854775808 ≤ o.2 ∧ o.2 < 9223372036854775808) :
    S.PlainRings 100000 l l.length w g q = some true := by
  obtain ⟨y, hy, y0, y1⟩ := um w (m := 40) (by omega) (by omega)
  obtain ⟨W, hW⟩ : ∃ W, W = 1 + y := ⟨_, rfl⟩
  obtain ⟨z, hz, z0, z1⟩ := um g (m := W) (by omega) (by omega)
  obtain ⟨G, hG⟩ : ∃ G, G = 1 + z := ⟨_, rfl⟩
  have hWw : IntKind.wrap .i64 (1 + y) = W := by rw [wrap_id (by omega) (by omega), hW]
  have hWu : IntKind.wrap .u64 W = W := wrap_u (by omega) (by omega)
  have hGw : IntKind.wrap .i64 (1 + z) = G := by rw [wrap_id (by omega) (by omega), hG]
  have nz : ¬ W = 0 := by omega
  have hw : Rok W G := ⟨⟨by omega, by omega⟩, by omega⟩
  unfold S.PlainRings
  by_cases hl : (60 : Int) < ((l.length : Nat) : Int)
  · simp only [hl, decide_true, cond_true]
  · rw [hy, hWw, hWu, hz, hGw, S.q_pring_eq, new_yes hw]
    simp only [optK, Sum.elim_inr, nz, hl, decide_false, cond_false]
    obtain ⟨q', e⟩ := PlainRings_loop 100000 w g q G W y z hy y0 y1 hW hz z0 z1 hG l (by omega) hT hV 100000 0 0 0 [] [] false (by omega) (by omega) (PRel.nil ..)
    have e' : S.PlainRings_l0 100000 l l.length w g q 100000 0 0 0 W G (NB W G) (-1) false [] [] = some (.inr q') := e
    simp only [e', optK, Sum.elim_inr, S.PlainRings_a0_1]
end Go.Proofs.Ytfoaihjkmfhaoaa.AB
