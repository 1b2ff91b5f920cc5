/- RingResizes answers true. -/
import Derived.Test.YtmgnfjiogfcieaaPlRingL
import Derived.Test.YtmgnfjiogfcieaaSRingResizes
namespace Go.Proofs.Ytmgnfjiogfcieaa.AB
set_option linter.unusedVariables false
set_option linter.unusedSimpArgs false

/-- one at each of some times, one behind the other -/
def rng (a : Int) : Nat → List (Int × Int)
  | 0 => []
  | n + 1 => (a, 1) :: rng (a + 1) n
theorem rng_snoc : ∀ (n : Nat) (a : Int), rng a n ++ [(a + n, 1)] = rng a (n + 1)
  | 0, a => by simp [rng]
  | n + 1, a => by
    have := rng_snoc n (a + 1)
    rw [show a + 1 + (n : Int) = a + ((n + 1 : Nat) : Int) by omega] at this
    simp only [rng, List.cons_append]
    rw [this]; rfl
theorem rng_mem : ∀ (n : Nat) (a : Int) (x : Int × Int), x ∈ rng a n → a ≤ x.1 ∧ x.1 < a + n ∧ x.2 = 1
  | 0, a, x, h => by simp [rng] at h
  | n + 1, a, x, h => by
    simp only [rng] at h
    rcases List.mem_cons.mp h with h | h
    · subst h; exact ⟨by simp, by simp; omega, rfl⟩
    · have := rng_mem n (a + 1) x h; exact ⟨by omega, by omega, this.2.2⟩
theorem rng_len : ∀ (n : Nat) (a : Int), (rng a n).length = n
  | 0, _ => rfl
  | n + 1, a => by simp [rng, rng_len n]
theorem rng_filter {Y : Nat} : ∀ (n : Nat) (a : Int), (rng a n).filter (Kp 1 Y (a + n - 1)) = rng (a + (n - min n Y : Nat)) (min n Y)
  | 0, a => by simp [rng]
  | n + 1, a => by
    by_cases h : n + 1 ≤ Y
    · have e1 : min (n + 1) Y = n + 1 := by omega
      rw [e1, Nat.sub_self]
      rw [List.filter_eq_self.mpr]
      · simp
      · intro x hx
        have := rng_mem _ _ _ hx
        unfold Kp; rw [bk_one]; simp; omega
    · have ih := rng_filter (Y := Y) n (a + 1)
      have e2 : a + 1 + (n : Int) - 1 = a + ((n + 1 : Nat) : Int) - 1 := by omega
      rw [e2] at ih
      have hno : Kp 1 (Y : Int) (a + ((n + 1 : Nat) : Int) - 1) (a, 1) = false := by unfold Kp; rw [bk_one]; simp; omega
      have e3 : min (n + 1) Y = min n Y := by omega
      simp only [rng, List.filter_cons, hno, Bool.false_eq_true, if_false]
      rw [ih, e3, show a + 1 + ((n - min n Y : Nat) : Int) = a + ((n + 1 - min n Y : Nat) : Int) by omega]
theorem rng_ns {N last : Int} {a : Int} {n : Nat} (h1 : a + n ≤ last + 1) (h2 : last - a < N) : ns 1 (inW N last) (rng a n) = n := by
  have : ∀ (m : Nat) (b : Int), a ≤ b → b + m ≤ a + n → ns 1 (inW N last) (rng b m) = m := by
    intro m
    induction m with
    | zero => intro b _ _; rfl
    | succ m ih =>
      intro b hb hm
      have := ih (b + 1) (by omega) (by omega)
      unfold ns at this ⊢
      simp only [rng]
      rw [in1 (inW_t (by rw [bk_one]; simp only; omega) (by rw [bk_one]; simp only; omega)), this]; omega
  exact this n a (by omega) (by omega)

theorem put_rng {W a nw : Int} {n : Nat} {V : Nat} (hV : (V : Int) = W) (V1 : 1 ≤ V) (hn : n ≤ V) (hnw : nw = a + n - 1) : pnw 1 nw (a + n, 1) = a + n ∧ pR 1 (NB W 1) nw (a + n, 1) (rng a n) = rng (a + (n + 1 - min (n + 1) V : Nat)) (min (n + 1) V) := by
  have hb : bk 1 (a + (n : Int), (1 : Int)) = a + n := bk_one _
  have hN := NB_one W
  have hp : pnw 1 nw (a + n, 1) = a + n := by rw [pnw_new (by rw [hb]; omega), hb]
  refine ⟨hp, ?_⟩
  unfold pR
  rw [if_pos (by rw [hb, hN]; omega), hp, rng_snoc, hN, ← hV]
  have := rng_filter (Y := V) (n + 1) a
  rw [show a + ((n + 1 : Nat) : Int) - 1 = a + (n : Int) by omega] at this
  exact this

theorem RingResizes_loop0 (fu : Nat) (a b c : Int) (W : Int) (V K : Nat) (hV : (V : Int) = W) (V1 : 1 ≤ V) (V2 : V ≤ 60) (hK : IntKind.wrap .i64 (1 + IntKind.wrap .i64 (Int.tmod (IntKind.wrap .u64 c) 100)) = (K : Int)) (K1 : K ≤ 100) :
    ∀ (k i : Nat) (s : Int) (n lo len : Nat) (L : FL) (f : BL), i ≤ K → K < k + i → PRel 1 (NB W 1) ((i : Int) - 1) (rng s n) lo len L f → s + n = i → 0 ≤ s → n = min i V →
    ∃ s' lo' len' L' f', S.RingResizes_l0 fu a b c k i lo len W 1 (NB W 1) ((i : Int) - 1) false L f = some ((K : Int), false, lo', len', W, 1, NB W 1, (K : Int) - 1, false, L', f') ∧ PRel 1 (NB W 1) ((K : Int) - 1) (rng s' (min K V)) lo' len' L' f' ∧ s' + (min K V : Nat) = K ∧ 0 ≤ s' := by
  have hw : Rok W 1 := rok1 (by omega) (by omega)
  have hM : M63 = 9223372036854775807 := rfl
  intro k
  induction k with
  | zero => intro i s n lo len L f _ _; omega
  | succ k ih =>
    intro i s n lo len L f hi hk hP hs s0 hn
    unfold S.RingResizes_l0
    by_cases c2 : i < K
    · have g1 : ((i : Int) < (K : Int)) := by omega
      have hwi : IntKind.wrap .i64 ((i : Int) + 1) = ((i + 1 : Nat) : Int) := by rw [wrap_id (by omega) (by omega)]; omega
      have htk : Tk ((i : Int), 1) := mk_tk (by omega) (by omega) (by omega) (by omega)
      obtain ⟨lo', len', L', f', e, hP'⟩ := rp_ok hP hw (by omega) (by omega) htk (by rw [rng_len]; omega) false
      have hpr := put_rng (W := W) (a := s) (nw := (i : Int) - 1) (n := n) hV V1 (by omega) (by omega)
      rw [hs] at hpr
      rw [hpr.1, hpr.2] at hP'
      rw [hpr.1] at e
      simp only [hK, g1, decide_true, cond_true, hwi]
      rw [S.q_rp_eq, e]
      simp only [optK]
      have e3 : (i : Int) = ((i + 1 : Nat) : Int) - 1 := by omega
      rw [e3] at hP' ⊢
      have e4 : IntKind.wrap .i64 (((i + 1 : Nat) : Int) - 1 + 1) = ((i + 1 : Nat) : Int) := by rw [wrap_id (by omega) (by omega)]; omega
      exact ih (i + 1) _ _ lo' len' L' f' (by omega) (by omega) hP' (by omega) (by omega) (by omega)
    · have g1 : ¬ ((i : Int) < (K : Int)) := by omega
      have hiK : i = K := by omega
      subst hiK
      simp only [hK, g1, decide_false, cond_false]
      exact ⟨s, lo, len, L, f, rfl, by rw [← hn]; exact hP, by rw [← hn]; exact hs, s0⟩

theorem RingResizes_loop1 (fu : Nat) (a b c : Int) (W : Int) (V K n0 : Nat) (hV : (V : Int) = W) (V1 : 1 ≤ V) (V2 : V ≤ 60) (hn0 : n0 ≤ V)
    (h2K : IntKind.wrap .i64 (2 * IntKind.wrap .i64 (1 + IntKind.wrap .i64 (Int.tmod (IntKind.wrap .u64 c) 100))) = ((2 * K : Nat) : Int)) (K1 : K ≤ 100) :
    ∀ (k i : Nat) (s : Int) (n lo len : Nat) (L : FL) (f : BL), K ≤ i → i ≤ 2 * K → 2 * K < k + i → PRel 1 (NB W 1) ((i : Int) - 1) (rng s n) lo len L f → s + n = i → 0 ≤ s → n = min (n0 + (i - K)) V →
    ∃ s' lo' len' L' f', S.RingResizes_l1 fu a b c k i lo len W 1 (NB W 1) ((i : Int) - 1) false L f = some (((2 * K : Nat) : Int), false, lo', len', W, 1, NB W 1, ((2 * K : Nat) : Int) - 1, false, L', f') ∧ PRel 1 (NB W 1) (((2 * K : Nat) : Int) - 1) (rng s' (min (n0 + K) V)) lo' len' L' f' ∧ s' + (min (n0 + K) V : Nat) = (2 * K : Nat) ∧ 0 ≤ s' := by
  have hw : Rok W 1 := rok1 (by omega) (by omega)
  have hM : M63 = 9223372036854775807 := rfl
  intro k
  induction k with
  | zero => intro i s n lo len L f _ _ _; omega
  | succ k ih =>
    intro i s n lo len L f hKi hi hk hP hs s0 hn
    unfold S.RingResizes_l1
    by_cases c2 : i < 2 * K
    · have g1 : ((i : Int) < ((2 * K : Nat) : Int)) := by omega
      have hwi : IntKind.wrap .i64 ((i : Int) + 1) = ((i + 1 : Nat) : Int) := by rw [wrap_id (by omega) (by omega)]; omega
      have htk : Tk ((i : Int), 1) := mk_tk (by omega) (by omega) (by omega) (by omega)
      obtain ⟨lo', len', L', f', e, hP'⟩ := rp_ok hP hw (by omega) (by omega) htk (by rw [rng_len]; omega) false
      have hpr := put_rng (W := W) (a := s) (nw := (i : Int) - 1) (n := n) hV V1 (by omega) (by omega)
      rw [hs] at hpr
      rw [hpr.1, hpr.2] at hP'
      rw [hpr.1] at e
      simp only [h2K, g1, decide_true, cond_true, hwi]
      rw [S.q_rp_eq, e]
      simp only [optK]
      have e3 : (i : Int) = ((i + 1 : Nat) : Int) - 1 := by omega
      rw [e3] at hP' ⊢
      exact ih (i + 1) _ _ lo' len' L' f' (by omega) (by omega) (by omega) hP' (by omega) (by omega) (by omega)
    · have g1 : ¬ ((i : Int) < ((2 * K : Nat) : Int)) := by omega
      have hiK : i = 2 * K := by omega
      have hnn : n = min (n0 + K) V := by omega
      subst hiK; subst hnn
      simp only [h2K, g1, decide_false, cond_false]
      exact ⟨s, lo, len, L, f, rfl, hP, hs, s0⟩

theorem RingResizes_true (a b c : Int) : S.RingResizes 100000 a b c = some true := by
  obtain ⟨x, hx, x0, x1⟩ := um a (m := 60) (by omega) (by omega)
  obtain ⟨y, hy, y0, y1⟩ := um b (m := 60) (by omega) (by omega)
  obtain ⟨q, hq, q0, q1⟩ := um c (m := 100) (by omega) (by omega)
  obtain ⟨X, hXd⟩ : ∃ K : Nat, (K : Int) = 1 + x := ⟨(1 + x).toNat, by omega⟩
  obtain ⟨Y, hYd⟩ : ∃ K : Nat, (K : Int) = 1 + y := ⟨(1 + y).toNat, by omega⟩
  obtain ⟨K, hKd⟩ : ∃ K : Nat, (K : Int) = 1 + q := ⟨(1 + q).toNat, by omega⟩
  have hX : IntKind.wrap .i64 (1 + IntKind.wrap .i64 (Int.tmod (IntKind.wrap .u64 a) 60)) = (X : Int) := by rw [hx, wrap_id (by omega) (by omega), hXd]
  have hY : IntKind.wrap .i64 (1 + IntKind.wrap .i64 (Int.tmod (IntKind.wrap .u64 b) 60)) = (Y : Int) := by rw [hy, wrap_id (by omega) (by omega), hYd]
  have hK : IntKind.wrap .i64 (1 + IntKind.wrap .i64 (Int.tmod (IntKind.wrap .u64 c) 100)) = (K : Int) := by rw [hq, wrap_id (by omega) (by omega), hKd]
  have h2K : IntKind.wrap .i64 (2 * IntKind.wrap .i64 (1 + IntKind.wrap .i64 (Int.tmod (IntKind.wrap .u64 c) 100))) = ((2 * K : Nat) : Int) := by rw [hK, wrap_id (by omega) (by omega)]; omega
  have hM : M63 = 9223372036854775807 := rfl
  have hw : Rok (X : Int) 1 := rok1 (by omega) (by omega)
  have hw' : Rok (Y : Int) 1 := rok1 (by omega) (by omega)
  unfold S.RingResizes
  rw [hX, S.q_pring_eq, new_yes hw]
  simp only [optK, Sum.elim_inr]
  obtain ⟨s1, lo1, n1, L1, f1, e1, hP1, hs1, hs10⟩ := RingResizes_loop0 100000 a b c X X K rfl (by omega) (by omega) hK (by omega) 100000 0 0 0 0 0 [] [] (by omega) (by omega) (PRel.nil ..) (by omega) (by omega) (by omega)
  have e1' : S.RingResizes_l0 100000 a b c 100000 0 0 0 X 1 (NB X 1) (-1) false [] [] = _ := e1
  simp only [e1', optK, S.RingResizes_a0_0, hY, hK, hX]
  obtain ⟨lo2, n2, L2, f2, e2, hP2⟩ := rr_ok hP1 hw' (by omega) (by omega) (by rw [rng_len]; omega) false
  have hfil : (rng s1 (min K X)).filter (Kp 1 (NB (Y : Int) 1) ((K : Int) - 1)) = rng (s1 + (min K X - min (min K X) Y : Nat)) (min (min K X) Y) := by
    have := rng_filter (Y := Y) (min K X) s1
    rw [hs1] at this
    rw [NB_one]; exact this
  rw [hfil] at hP2
  rw [S.q_rr_eq, e2]
  simp only [optK, decide_true, Bool.not_true, cond_false]
  rw [wrap_id (n := (K : Int) - 1) (by omega) (by omega)]
  have c1 : ns 1 (inW (NB (Y : Int) 1) (((K : Int) - 1).tdiv 1)) (rng (s1 + (min K X - min (min K X) Y : Nat)) (min (min K X) Y)) = ((min (min K X) Y : Nat) : Int) := by
    rw [tdiv_one', NB_one]; exact rng_ns (by omega) (by omega)
  have v1 : vs 1 (inW (NB (Y : Int) 1) (((K : Int) - 1).tdiv 1)) (rng (s1 + (min K X - min (min K X) Y : Nat)) (min (min K X) Y)) = ((min (min K X) Y : Nat) : Int) := by
    rw [← c1]
    refine wsum_same fun z hz => ?_
    exact (rng_mem _ _ _ hz).2.2
  rw [S.q_rs_eq, rs_ok hP2 (by omega) (by rw [rng_len]; omega) (Y : Int) false (by omega) (by omega), c1, v1, over_small (by omega), min_small (by omega)]
  simp only [optK, Bool.or_false]
  have hm : ((min (min K X) Y : Nat) : Int) = (if (if (Y : Int) < (X : Int) then (Y : Int) else (X : Int)) < (K : Int) then (if (Y : Int) < (X : Int) then (Y : Int) else (X : Int)) else (K : Int)) := by
    repeat' split
    all_goals omega
  simp only [hm.symm, decide_true, Bool.not_true, cond_false]
  obtain ⟨s3, lo3, n3, L3, f3, e3, hP3, hs3, hs30⟩ := RingResizes_loop1 100000 a b c Y Y K (min (min K X) Y) rfl (by omega) (by omega) (by omega) h2K (by omega) 100000 K _ _ lo2 n2 L2 f2 (by omega) (by omega) (by omega) hP2 (by omega) (by omega) (by omega)
  simp only [e3, optK, S.RingResizes_a1_0, hK, hX, hY]
  have w2 : IntKind.wrap .i64 (2 * (K : Int)) = ((2 * K : Nat) : Int) := by rw [wrap_id (by omega) (by omega)]; omega
  rw [w2, wrap_id (n := ((2 * K : Nat) : Int) - 1) (by omega) (by omega)]
  have c3 : ns 1 (inW (NB (Y : Int) 1) ((((2 * K : Nat) : Int) - 1).tdiv 1)) (rng s3 (min (min (min K X) Y + K) Y)) = ((min (min (min K X) Y + K) Y : Nat) : Int) := by
    rw [tdiv_one', NB_one]; exact rng_ns (by omega) (by omega)
  rw [S.q_rs_eq, rs_ok hP3 (by omega) (by rw [rng_len]; omega) (Y : Int) false (by omega) (by omega), c3]
  simp only [optK]
  rw [← hm, wrap_id (n := ((min (min K X) Y : Nat) : Int) + (K : Int)) (by omega) (by omega)]
  have hm2 : ((min (min (min K X) Y + K) Y : Nat) : Int) = (if ((min (min K X) Y : Nat) : Int) + (K : Int) < (Y : Int) then ((min (min K X) Y : Nat) : Int) + (K : Int) else (Y : Int)) := by split <;> omega
  simp only [hm2.symm, decide_true, cond_true]
  rw [S.q_rr_eq, rr_no _ _ _ _ _ _ _ _ _ _ (.inr (by omega))]
  rfl
where
  wsum_same {g : Int} {W : Int → Bool} {R : List (Int × Int)} (h : ∀ z ∈ R, z.2 = 1) : vs g W R = ns g W R := by
    induction R with
    | nil => rfl
    | cons x R ih =>
      have := ih fun z hz => h z (by simp [hz])
      unfold vs ns at this ⊢
      simp only [wsum, this, h x (by simp)]
end Go.Proofs.Ytmgnfjiogfcieaa.AB
