/- RingCounts answers true. -/
import Derived.Test.YtmgnfjiogfcieaaPlRingL
import Derived.Test.YtmgnfjiogfcieaaSRingCounts
namespace Go.Proofs.Ytmgnfjiogfcieaa.AB
set_option linter.unusedVariables false
set_option linter.unusedSimpArgs false

/-- values at their ticks -/
def idxL (a : Int) : List Int → List (Int × Int)
  | [] => []
  | v :: r => (a, v) :: idxL (a + 1) r
theorem idxL_snoc : ∀ (V : List Int) (a v : Int), idxL a (V ++ [v]) = idxL a V ++ [(a + V.length, v)]
  | [], a, v => by simp [idxL]
  | x :: V, a, v => by
    have := idxL_snoc V (a + 1) v
    simp only [List.cons_append, idxL, List.length_cons, this]
    rw [show a + 1 + (V.length : Int) = a + ((V.length + 1 : Nat) : Int) by omega]
theorem idxL_mem : ∀ (V : List Int) (a : Int) (x : Int × Int), x ∈ idxL a V → a ≤ x.1 ∧ x.1 < a + V.length ∧ x.2 ∈ V
  | [], a, x, h => by simp [idxL] at h
  | v :: V, a, x, h => by
    simp only [idxL] at h
    rcases List.mem_cons.mp h with h | h
    · subst h; exact ⟨by simp, by simp; omega, by simp⟩
    · have := idxL_mem V (a + 1) x h
      simp only [List.length_cons]
      exact ⟨by omega, by omega, by simp [this.2.2]⟩
theorem idxL_len : ∀ (V : List Int) (a : Int), (idxL a V).length = V.length
  | [], _ => rfl
  | _ :: V, a => by simp [idxL, idxL_len V]
def sumL : List Int → Int
  | [] => 0
  | v :: r => v + sumL r
theorem sumL_b : ∀ (V : List Int), (∀ v ∈ V, 0 ≤ v ∧ v < 1000000000) → 0 ≤ sumL V ∧ sumL V ≤ V.length * 1000000000
  | [], _ => by simp [sumL]
  | v :: V, h => by
    have h1 := h v (by simp)
    have h2 := sumL_b V (fun x hx => h x (by simp [hx]))
    simp only [sumL, List.length_cons]; omega
/-- from a tick on -/
theorem idxL_from (s : Nat) : ∀ (V : List Int) (b : Nat), wsum (fun x => x.2) 1 (fun a => decide ((s : Int) ≤ a)) (idxL b V) = sumL (V.drop (s - b)) ∧ wsum (fun _ => 1) 1 (fun a => decide ((s : Int) ≤ a)) (idxL b V) = ((V.length - (s - b) : Nat) : Int)
  | [], b => by simp [idxL, wsum, sumL]
  | v :: V, b => by
    obtain ⟨h1, h2⟩ := idxL_from s V (b + 1)
    rw [show (((b + 1 : Nat)) : Int) = (b : Int) + 1 by omega] at h1 h2
    simp only [idxL]
    by_cases c : s ≤ b
    · rw [in1 (by rw [bk_one]; simp only; exact decide_eq_true (by omega)), in1 (by rw [bk_one]; simp only; exact decide_eq_true (by omega)), h1, h2]
      rw [show s - b = 0 by omega, show s - (b + 1) = 0 by omega, List.drop_zero, List.drop_zero]
      refine ⟨rfl, ?_⟩
      rw [Nat.sub_zero, Nat.sub_zero, List.length_cons]
      show 1 + ((V.length : Nat) : Int) = _
      omega
    · rw [out1 (by rw [bk_one]; simp only; exact decide_eq_false (by omega)), out1 (by rw [bk_one]; simp only; exact decide_eq_false (by omega)), h1, h2]
      rw [show s - b = (s - (b + 1)) + 1 by omega, List.drop_succ_cons, List.length_cons]
      exact ⟨rfl, by omega⟩

theorem Counts_inner (fu : Nat) (w : Int) (l : List Int) (V : List Int) (hV : ∀ v ∈ V, 0 ≤ v ∧ v < 1000000000) (hl : V.length ≤ 200) (i : Nat) (hi : V.length = i + 1) (lo len : Nat) (rw_ rg rn nw : Int) (ov : Bool) (L : FL) (f : BL) :
    ∀ (k j : Nat) (q c : Int), j ≤ i + 1 → i + 1 < k + j → 0 ≤ q → q ≤ j * 1000000000 → 0 ≤ c → c ≤ j →
    S.RingCounts_l1 fu w l l.length k V.length i q c j lo len rw_ rg rn nw ov L f V = some (V.length, (i : Int), q + sumL (V.drop j), c + ((V.length - j : Nat) : Int), ((i + 1 : Nat) : Int), false, lo, len, rw_, rg, rn, nw, ov, L, f, V) := by
  intro k
  induction k with
  | zero => intro j q c _ _; omega
  | succ k ih =>
    intro j q c hj hk q0 q1 c0 c1
    unfold S.RingCounts_l1
    by_cases c2 : j ≤ i
    · have g1 : ((j : Int) ≤ (i : Int)) := by omega
      have g2 : inB (j : Int) V.length = true := by unfold inB; simp; omega
      obtain ⟨v, hv⟩ : ∃ v, V[j]? = some v := ⟨V[j]'(by omega), by simp⟩
      have g3 : V[Int.toNat (j : Int) + 0]? = some v := by simpa using hv
      have hvb := hV v (List.mem_of_getElem? hv)
      have hd : V.drop j = v :: V.drop (j + 1) := by
        rw [List.drop_eq_getElem_cons (by omega)]; congr 1; rw [List.getElem?_eq_getElem (by omega)] at hv; injection hv
      have w1 : IntKind.wrap .i64 ((j : Int) + 1) = ((j + 1 : Nat) : Int) := by rw [wrap_id (by omega) (by omega)]; omega
      have w2 : IntKind.wrap .i64 (q + v) = q + v := wrap_id (by omega) (by omega)
      have w3 : IntKind.wrap .i64 (c + 1) = c + 1 := wrap_id (by omega) (by omega)
      simp only [g1, g2, g3, decide_true, cond_true, optK, w1, w2, w3]
      rw [ih (j + 1) (q + v) (c + 1) (by omega) (by omega) (by omega) (by omega) (by omega) (by omega), hd]
      simp only [sumL]
      rw [Int.add_assoc, show c + 1 + ((V.length - (j + 1) : Nat) : Int) = c + ((V.length - j : Nat) : Int) by omega]
    · have g1 : ¬ ((j : Int) ≤ (i : Int)) := by omega
      have hj2 : j = i + 1 := by omega
      subst hj2
      simp only [g1, decide_false, cond_false]
      rw [List.drop_eq_nil_of_le (by omega), hi, Nat.sub_self]; simp [sumL]

theorem RingCounts_loop (fu : Nat) (hfu : fu = 100000) (w : Int) (l : List Int) (W : Nat) (hW : IntKind.wrap .i64 (1 + IntKind.wrap .i64 (Int.tmod (IntKind.wrap .u64 w) 60)) = (W : Int)) (W1 : 1 ≤ W) (W2 : W ≤ 60) :
    ∀ (k i : Nat) (V : List Int) (lo len : Nat) (L : FL) (f : BL), V.length = i → i ≤ 150 → 150 < k + i → i ≤ l.length → (∀ v ∈ V, 0 ≤ v ∧ v < 1000000000) → PRel 1 (NB (W : Int) 1) ((i : Int) - 1) ((idxL 0 V).filter (Kp 1 (NB (W : Int) 1) ((i : Int) - 1))) lo len L f →
    ∃ z0 z1 z2 lo' len' nw' L' f' V', S.RingCounts_l0 fu w l l.length k i i lo len W 1 (NB (W : Int) 1) ((i : Int) - 1) false L f V = some (.inr (.inl (z0, z1, z2, lo', len', (W : Int), 1, NB (W : Int) 1, nw', false, L', f', V'))) := by
  have hw : Rok (W : Int) 1 := rok1 (by omega) (by omega)
  have hN := NB_one (W : Int)
  have hM : M63 = 9223372036854775807 := rfl
  intro k
  induction k with
  | zero => intro i V lo len L f _ _ _; omega
  | succ k ih =>
    intro i V lo len L f hVl hi hk hil hV hP
    unfold S.RingCounts_l0
    by_cases c2 : i < l.length
    · have g1 : ((i : Int) < ((l.length : Nat) : Int)) := by omega
      by_cases c3 : i < 150
      · have g0 : ((i : Int) < 150) := by omega
        have g2 : inB (i : Int) l.length = true := by unfold inB; simp; omega
        obtain ⟨o, ho⟩ : ∃ o, l[i]? = some o := ⟨l[i]'c2, by simp⟩
        have g3 : l[Int.toNat (i : Int) + 0]? = some o := by simpa using ho
        obtain ⟨v, hv, v0, v1⟩ := um o (m := 1000000000) (by omega) (by omega)
        have hwi : IntKind.wrap .i64 ((i : Int) + 1) = ((i + 1 : Nat) : Int) := by rw [wrap_id (by omega) (by omega)]; omega
        have b1 : (Nat.beq 1 1 && Nat.blt 0 8 && Nat.beq 1 1 && Nat.beq 1 1 && Nat.beq 1 1 && Nat.blt 0 1 && !Nat.beq 3 4 && Nat.ble ((i + 1) * 8) 35184372088832) = true := by
          have : Nat.ble ((i + 1) * 8) 35184372088832 = true := Nat.ble_eq.mpr (by omega)
          rw [this]; rfl
        have hc : cutL V 0 i ++ cutL [v] 0 1 = V ++ [v] := by rw [← hVl, cutL_all]; rfl
        have g4 : inB (i : Int) (V ++ [v]).length = true := by unfold inB; simp; omega
        have g5 : (V ++ [v])[Int.toNat (i : Int) + 0]? = some v := by
          rw [Int.toNat_natCast, Nat.add_zero, ← hVl]; simp
        have htk : Tk ((i : Int), v) := mk_tk (by omega) (by omega) v0 (by omega)
        have hRl : ((idxL 0 V).filter (Kp 1 (NB (W : Int) 1) ((i : Int) - 1))).length ≤ 150 := by
          have := List.length_filter_le (Kp 1 (NB (W : Int) 1) ((i : Int) - 1)) (idxL 0 V)
          rw [idxL_len] at this; omega
        obtain ⟨lo', len', L', f', e, hP'⟩ := rp_ok hP hw (by omega) (by omega) htk (by omega) false
        have hbx : bk 1 ((i : Int), v) = i := bk_one _
        have hpn : pnw 1 ((i : Int) - 1) ((i : Int), v) = i := by rw [pnw_new (by rw [hbx]; omega), hbx]
        have hpR : pR 1 (NB (W : Int) 1) ((i : Int) - 1) ((i : Int), v) ((idxL 0 V).filter (Kp 1 (NB (W : Int) 1) ((i : Int) - 1))) = (idxL 0 (V ++ [v])).filter (Kp 1 (NB (W : Int) 1) i) := by
          unfold pR
          rw [if_pos (by rw [hbx, hN]; omega), hpn, idxL_snoc, Int.zero_add, hVl, List.filter_append, List.filter_append, List.filter_filter]
          congr 1
          refine List.filter_congr fun x _ => ?_
          unfold Kp
          by_cases hx : (i : Int) - bk 1 x < NB (W : Int) 1
          · have : (i : Int) - 1 - bk 1 x < NB (W : Int) 1 := by omega
            simp [hx, this]
          · simp [hx]
        rw [hpn, hpR] at hP'
        rw [hpn] at e
        have hV' : ∀ x ∈ V ++ [v], 0 ≤ x ∧ x < 1000000000 := by
          intro x hx
          rcases List.mem_append.mp hx with h | h
          · exact hV x h
          · simp at h; subst h; exact ⟨v0, v1⟩
        have hV'l : (V ++ [v]).length = i + 1 := by simp [hVl]
        -- where the window begins
        obtain ⟨s, hs⟩ : ∃ s : Nat, (s : Int) = (if (i : Int) - (W : Int) + 1 > 0 then (i : Int) - (W : Int) + 1 else 0) := ⟨(if (i : Int) - (W : Int) + 1 > 0 then (i : Int) - (W : Int) + 1 else 0).toNat, by split <;> omega⟩
        have hsi : s ≤ i := by split at hs <;> omega
        have hwW : IntKind.wrap .i64 ((i : Int) - (W : Int)) = (i : Int) - (W : Int) := wrap_id (by omega) (by omega)
        have hwW1 : IntKind.wrap .i64 ((i : Int) - (W : Int) + 1) = (i : Int) - (W : Int) + 1 := wrap_id (by omega) (by omega)
        have hinner := Counts_inner fu w l (V ++ [v]) hV' (by omega) i hV'l lo' len' W 1 (NB (W : Int) 1) i false L' f' fu s 0 0 (by omega) (by omega) (by omega) (by omega) (by omega) (by omega)
        rw [Int.zero_add, Int.zero_add] at hinner
        obtain ⟨f1, f2⟩ := idxL_from s (V ++ [v]) 0
        rw [Nat.sub_zero] at f1 f2
        have hwin : ∀ (wt : Int × Int → Int), wsum wt 1 (inW (NB (W : Int) 1) ((i : Int).tdiv 1)) ((idxL 0 (V ++ [v])).filter (Kp 1 (NB (W : Int) 1) i)) = wsum wt 1 (fun a => decide ((s : Int) ≤ a)) (idxL 0 (V ++ [v])) := by
          intro wt
          have e0 := wsum_filter wt 1 (inW (NB (W : Int) 1) ((i : Int).tdiv 1)) (fun a => decide ((i : Int) - a < NB (W : Int) 1)) (idxL 0 (V ++ [v]))
          have e1 : (idxL 0 (V ++ [v])).filter (Kp 1 (NB (W : Int) 1) i) = (idxL 0 (V ++ [v])).filter (fun x => (fun a => decide ((i : Int) - a < NB (W : Int) 1)) (bk 1 x)) := rfl
          rw [e1, e0]
          refine wsum_congr wt 1 fun x hx => ?_
          have hm := idxL_mem _ _ _ hx
          rw [bk_one, tdiv_one', hN]
          unfold inW
          rw [hV'l] at hm
          by_cases h : (s : Int) ≤ x.1
          · have h1 : x.1 ≤ (i : Int) := by omega
            have h2 : (i : Int) - x.1 < (W : Int) := by split at hs <;> omega
            simp [h, h1, h2]
          · have h2 : ¬ (i : Int) - x.1 < (W : Int) := by split at hs <;> omega
            simp [h, h2]
        have hvs : vs 1 (inW (NB (W : Int) 1) ((i : Int).tdiv 1)) ((idxL 0 (V ++ [v])).filter (Kp 1 (NB (W : Int) 1) i)) = sumL ((V ++ [v]).drop s) := (hwin _).trans f1
        have hns : ns 1 (inW (NB (W : Int) 1) ((i : Int).tdiv 1)) ((idxL 0 (V ++ [v])).filter (Kp 1 (NB (W : Int) 1) i)) = (((V ++ [v]).length - s : Nat) : Int) := (hwin _).trans f2
        have hsb := sumL_b ((V ++ [v]).drop s) (fun x hx => hV' x (List.mem_of_mem_drop hx))
        have hdl : ((V ++ [v]).drop s).length ≤ 151 := by rw [List.length_drop, hV'l]; omega
        have hsb2 : sumL ((V ++ [v]).drop s) ≤ 151000000000 := by
          have : ((((V ++ [v]).drop s).length : Nat) : Int) ≤ 151 := by omega
          omega
        have hcnt : ¬ ((((V ++ [v]).length - s : Nat) : Int)) = 0 := by rw [hV'l]; omega
        simp only [g1, g0, g2, g3, decide_true, cond_true, optK, hv, b1, hc, g4, g5]
        rw [S.q_rp_eq, e]
        simp only [optK, decide_true, Bool.not_true, cond_false, hW, hwW, hwW1, ← hs, hinner]
        unfold S.RingCounts_a1_0
        have hRl2 : ((idxL 0 (V ++ [v])).filter (Kp 1 (NB (W : Int) 1) (i : Int))).length ≤ 200 := by
          have := List.length_filter_le (Kp 1 (NB (W : Int) 1) (i : Int)) (idxL 0 (V ++ [v]))
          rw [idxL_len, hV'l] at this; omega
        rw [S.q_rs_eq, rs_ok hP' (by omega) (by omega) (W : Int) false (by omega) (by omega), hvs, hns, over_small (by omega), min_small (by omega)]
        simp only [optK, decide_true, Bool.not_true, cond_false, Bool.or_false]
        rw [S.q_rm_eq, rm_ok hP' (by omega) (by omega) (W : Int) false (by omega) (by omega), hvs, hns, over_small (by omega), min_small (by omega)]
        have hmean := meanOf_b (s := sumL ((V ++ [v]).drop s)) (c := (((V ++ [v]).length - s : Nat) : Int)) hsb.1 (by omega) (by omega)
        unfold meanOf at hmean ⊢
        rw [if_neg hcnt] at hmean ⊢
        have hwm : IntKind.wrap .i64 ((sumL ((V ++ [v]).drop s)).tdiv (((V ++ [v]).length - s : Nat) : Int)) = (sumL ((V ++ [v]).drop s)).tdiv (((V ++ [v]).length - s : Nat) : Int) := wrap_id (by omega) (by omega)
        simp only [optK, hcnt, hwm, decide_true, decide_false, Bool.not_true, cond_false, Bool.or_false, hwi]
        have hP2 : PRel 1 (NB (W : Int) 1) (((i + 1 : Nat) : Int) - 1) ((idxL 0 (V ++ [v])).filter (Kp 1 (NB (W : Int) 1) (((i + 1 : Nat) : Int) - 1))) lo' len' L' f' := by
          rw [show ((i + 1 : Nat) : Int) - 1 = (i : Int) by omega]; exact hP'
        have := ih (i + 1) (V ++ [v]) lo' len' L' f' hV'l (by omega) (by omega) (by omega) hV' hP2
        rw [show ((i + 1 : Nat) : Int) - 1 = (i : Int) by omega] at this
        rw [hV'l]
        exact this
      · have g0 : ¬ ((i : Int) < 150) := by omega
        simp only [g1, g0, decide_true, decide_false, cond_true, cond_false]
        exact ⟨_, _, _, _, _, _, _, _, _, rfl⟩
    · have g1 : ¬ ((i : Int) < ((l.length : Nat) : Int)) := by omega
      simp only [g1, decide_false, cond_false]
      exact ⟨_, _, _, _, _, _, _, _, _, rfl⟩

theorem RingCounts_true (w : Int) (l : List Int) : S.RingCounts 100000 w l l.length = some true := by
  obtain ⟨y, hy, y0, y1⟩ := um w (m := 60) (by omega) (by omega)
  obtain ⟨W, hWd⟩ : ∃ K : Nat, (K : Int) = 1 + y := ⟨(1 + y).toNat, by omega⟩
  have hW : IntKind.wrap .i64 (1 + IntKind.wrap .i64 (Int.tmod (IntKind.wrap .u64 w) 60)) = (W : Int) := by rw [hy, wrap_id (by omega) (by omega), hWd]
  have hw : Rok (W : Int) 1 := rok1 (by omega) (by omega)
  unfold S.RingCounts
  rw [hW, S.q_pring_eq, new_yes hw]
  simp only [optK, Sum.elim_inr]
  obtain ⟨z0, z1, z2, lo', len', nw', L', f', V', e⟩ := RingCounts_loop 100000 rfl w l W hW (by omega) (by omega) 100000 0 [] 0 0 [] [] rfl (by omega) (by omega) (by omega) (fun _ h => (by cases h)) (PRel.nil ..)
  have e' : S.RingCounts_l0 100000 w l l.length 100000 0 0 0 0 W 1 (NB (W : Int) 1) (-1) false [] [] [] = _ := e
  simp only [e', optK, Sum.elim_inr, Sum.elim_inl, S.RingCounts_a0_1, S.ro, Bool.not_false]
end Go.Proofs.Ytmgnfjiogfcieaa.AB
