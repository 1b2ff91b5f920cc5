/- The document's rings, told by what is kept. -/
import Derived.Test.YtdgipcjigbagfaaGreatPlRings
import Derived.Test.YtdgipcjigbagfaaGreatSrref
namespace Go.Proofs.YtdgipcjigbagfaaGreat.AB
set_option linter.unusedVariables false
set_option linter.unusedSimpArgs false

theorem radd_eq (a b : Int) : S.radd a b = S.madd a b := by
  unfold S.radd S.madd S.mend
  by_cases h : 0 < b
  · have h2 : ¬ b < 0 := by omega
    simp [h, h2]
  · simp [h]
theorem rN_eq {w g : Int} (h : Rok w g) (r : RL) (lo len : Nat) (nw : Int) (ov : Bool) : S.rN r lo len w g nw ov = some (NB w g) := by
  obtain ⟨⟨g1, gw⟩, w1⟩ := h
  have h := NB_b g1 gw w1
  have z : ¬ g = 0 := by omega
  unfold S.rN
  rw [wrap_id (n := w + g) (by omega) (by omega), wrap_id (n := w + g - 1) (by omega) (by omega), wrap_id (n := (w + g - 1).tdiv g) (by unfold NB at h; omega) (by unfold NB at h; omega)]
  simp only [z, decide_false, cond_false]; rfl
theorem rbucket_eq {w g t : Int} (g1 : 1 ≤ g) (t0 : 0 ≤ t) (t1 : t < 9223372036854775808) (r : RL) (lo len : Nat) (nw : Int) (ov : Bool) : S.rbucket r lo len w g nw ov t = some (t.tdiv g) := by
  have h := tdv t0 g1
  have z : ¬ g = 0 := by omega
  unfold S.rbucket
  rw [wrap_id (n := t.tdiv g) (by omega) (by omega)]
  simp only [z, decide_false, cond_false]

theorem rforget_loop (fu : Nat) (r : RL) (w g nw : Int) (ov : Bool) (h : Rok w g) (hr : ∀ x ∈ r, Takes x) (hl : r.length ≤ 10000) (w0 : -1 ≤ nw) (w1 : nw ≤ 1099511627776) : ∀ (k i : Nat) (y : List (Int × Int)), i ≤ r.length → r.length < k + i → y.length ≤ i →
    S.rforget_l0 fu r 0 r.length w g nw ov k y.length i y = some ((y ++ (r.drop i).filter (Kp g (NB w g) nw)).length, (r.length : Int), false, y ++ (r.drop i).filter (Kp g (NB w g) nw)) := by
  have hR := h
  obtain ⟨⟨h1, h2⟩, h3⟩ := h
  have hN := NB_b h1 h2 h3
  intro k
  induction k with
  | zero => intro i y _ _ _; omega
  | succ k ih =>
    intro i y hi hk hy
    unfold S.rforget_l0
    by_cases c2 : i < r.length
    · have g1' : ((i : Int) < ((r.length : Nat) : Int)) := by omega
      have g2 : inB (i : Int) r.length = true := by unfold inB; simp; omega
      obtain ⟨x, hx⟩ : ∃ x, r[i]? = some x := ⟨r[i]'c2, by simp⟩
      have g3 : r[Int.toNat (i : Int) + 0]? = some x := by simpa using hx
      have hw : IntKind.wrap .i64 ((i : Int) + 1) = ((i + 1 : Nat) : Int) := by rw [wrap_id (by omega) (by omega)]; omega
      have ht := hr x (List.mem_of_getElem? hx)
      have hb := bk_b h1 ht
      have hbe : S.rbucket r 0 r.length w g nw ov x.1 = some (bk g x) := rbucket_eq h1 ht.1.1 (by have := ht.1.2; omega) ..
      have b1 : (Nat.beq 2 2 && Nat.blt 0 16 && Nat.beq 2 2 && Nat.beq 2 2 && Nat.beq 2 2 && Nat.blt 0 1 && !Nat.beq 2 3 && Nat.ble ((y.length + 1) * 16) 35184372088832) = true := by
        have : Nat.ble ((y.length + 1) * 16) 35184372088832 = true := Nat.ble_eq.mpr (by omega)
        rw [this]; rfl
      simp only [g1', g2, g3, decide_true, cond_true, optK, hw, hbe, rN_eq hR, b1]
      rw [wrap_id (n := nw - bk g x) (by omega) (by omega), getD_drop hx c2, List.filter_cons]
      by_cases kk : nw - bk g x < NB w g
      · have kp : Kp g (NB w g) nw x = true := by unfold Kp; simp [kk]
        have hc : cutL y 0 y.length ++ cutL [(x.1, x.2)] 0 1 = y ++ [x] := by rw [cutL_all]; rfl
        simp only [kk, kp, decide_true, cond_true, if_true]
        rw [hc, ih (i + 1) (y ++ [x]) (by omega) (by omega) (by simp; omega)]
        simp only [List.append_assoc, List.singleton_append]
      · have kp : Kp g (NB w g) nw x = false := by unfold Kp; simp [kk]
        simp only [kk, kp, decide_false, cond_false, Bool.false_eq_true, if_false]
        exact ih (i + 1) y (by omega) (by omega) (by omega)
    · have g1' : ¬ ((i : Int) < ((r.length : Nat) : Int)) := by omega
      have hk2 : i = r.length := by omega
      simp only [g1', decide_false, cond_false]
      rw [List.drop_eq_nil_of_le (by omega), hk2]; simp

theorem rforget_eq (r : RL) (w g nw : Int) (ov : Bool) (h : Rok w g) (hr : ∀ x ∈ r, Takes x) (hl : r.length ≤ 10000) (w0 : -1 ≤ nw) (w1 : nw ≤ 1099511627776) :
    S.rforget 100000 r 0 r.length w g nw ov = some (w, g, (r.filter (Kp g (NB w g) nw)).length, nw, ov, r, r.filter (Kp g (NB w g) nw)) := by
  have e := rforget_loop 100000 r w g nw ov h hr hl w0 w1 100000 0 [] (by omega) (by omega) (by simp)
  have e' : S.rforget_l0 100000 r 0 r.length w g nw ov 100000 0 0 [] = some ((r.filter (Kp g (NB w g) nw)).length, (r.length : Int), false, r.filter (Kp g (NB w g) nw)) := e
  unfold S.rforget S.rforget_a0_0
  rw [e']; rfl

theorem rput_ok {w g nw : Int} {R : RL} (hw : Rok w g) (hR : ∀ y ∈ R, Tk y) (hl : R.length ≤ 9000) (w0 : -1 ≤ nw) (w1 : nw ≤ 1099511627776) {x : Int × Int} (hx : Takes x) (ov : Bool) :
    S.rput R 0 R.length w g nw ov x.1 x.2 = some (0, w, g, 0, (pR g (NB w g) nw x R).length, pnw g nw x, ov, pR g (NB w g) nw x R) := by
  have hW := hw
  obtain ⟨⟨g1, gw⟩, w6⟩ := hw
  have hN := NB_b g1 gw w6
  obtain ⟨⟨t0, t1⟩, v0⟩ := hx
  have hx : Takes x := ⟨⟨t0, t1⟩, v0⟩
  have hb := bk_b g1 hx
  have hp := pnw_b (nw := nw) g1 hx w0 w1
  have p1 : ¬ x.1 < 0 := by omega
  have p2 : ¬ 1099511627776 < x.1 := by omega
  have p3 : ¬ x.2 < 0 := by omega
  have hbe : S.rbucket R 0 R.length w g nw ov x.1 = some (bk g x) := rbucket_eq g1 t0 (by omega) ..
  have b1 : (Nat.beq 2 2 && Nat.blt 0 16 && Nat.beq 2 2 && Nat.beq 2 2 && Nat.beq 2 2 && Nat.blt 0 1 && !Nat.beq 1 2 && Nat.ble ((R.length + 1) * 16) 35184372088832) = true := by
    have : Nat.ble ((R.length + 1) * 16) 35184372088832 = true := Nat.ble_eq.mpr (by omega)
    rw [this]; rfl
  unfold S.rput
  simp only [p1, p2, p3, decide_false, cond_false, hbe, rN_eq hW, optK]
  rw [wrap_id (n := nw - bk g x) (by omega) (by omega)]
  by_cases c : nw - bk g x < NB w g
  · have c2 : ¬ NB w g ≤ nw - bk g x := by omega
    have hc : cutL R 0 R.length ++ cutL [(x.1, x.2)] 0 1 = R ++ [x] := by rw [cutL_all]; rfl
    have epn : (if bk g x > nw then bk g x else nw) = pnw g nw x := rfl
    have hf := rforget_eq (R ++ [x]) w g (pnw g nw x) ov hW (fun y hy => by
      rcases List.mem_append.mp hy with h | h
      · exact (hR y h).1
      · simp at h; subst h; exact hx) (by simp; omega) hp.1 hp.2.1
    simp only [c2, decide_false, cond_false, b1, cond_true, hc, epn, hf]
    unfold pR; rw [if_pos c]
  · have c2 : NB w g ≤ nw - bk g x := by omega
    simp only [c2, decide_true, cond_true]
    have epw : pnw g nw x = nw := pnw_late c hN.1
    unfold pR; rw [if_neg c, epw]
where
  pnw_late {g n nw : Int} {x : Int × Int} (h : ¬ nw - bk g x < n) (n1 : 1 ≤ n) : pnw g nw x = nw := by unfold pnw; rw [if_neg (by omega)]
theorem rput_no (R : RL) (lo len : Nat) (w g nw t v : Int) (ov : Bool) (h : ¬ Takes (t, v)) : S.rput R lo len w g nw ov t v = some (1, w, g, lo, len, nw, ov, R) := by
  unfold S.rput
  by_cases p1 : t < 0
  · simp [p1]
  by_cases p2 : 1099511627776 < t
  · simp [p1, p2]
  by_cases p3 : v < 0
  · simp [p1, p2, p3]
  exact absurd ⟨⟨by simp only; omega, by simp only; omega⟩, by simp only; omega⟩ h

theorem rsum_loop (fu : Nat) (R : RL) (w g nw t : Int) (ov0 ov : Bool) (hw : Rok w g) (hR : ∀ y ∈ R, Tk y) (hl : R.length ≤ 90000) (t0 : 0 ≤ t) (t1 : t < 9223372036854775808) :
    ∀ (n i : Nat) (Q c : Int), i ≤ R.length → R.length < n + i → 0 ≤ Q → 0 ≤ c → c ≤ i →
    S.rsum_l0 fu R 0 R.length w g nw ov0 t n (min M63 Q) c i (ov || over Q) = some (min M63 (Q + vs g (inW (NB w g) (t.tdiv g)) (R.drop i)), c + ns g (inW (NB w g) (t.tdiv g)) (R.drop i), (R.length : Int), false, ov || over (Q + vs g (inW (NB w g) (t.tdiv g)) (R.drop i))) := by
  have hW := hw
  obtain ⟨⟨g1, gw⟩, w6⟩ := hw
  have hN := NB_b g1 gw w6
  have hM : (0 : Int) ≤ M63 := by unfold M63; omega
  have htd := tdv t0 g1
  intro n
  induction n with
  | zero => intro i Q c _ _; omega
  | succ n ih =>
    intro i Q c hi hn Q0 c0 c1
    unfold S.rsum_l0
    by_cases c2 : i < R.length
    · have g1' : ((i : Int) < ((R.length : Nat) : Int)) := by omega
      have g2 : inB (i : Int) R.length = true := by unfold inB; simp; omega
      obtain ⟨x, hx⟩ : ∃ x, R[i]? = some x := ⟨R[i]'c2, by simp⟩
      have g3 : R[Int.toNat (i : Int) + 0]? = some x := by simpa using hx
      have hw : IntKind.wrap .i64 ((i : Int) + 1) = ((i + 1 : Nat) : Int) := by rw [wrap_id (by omega) (by omega)]; omega
      have hwc : IntKind.wrap .i64 (c + 1) = c + 1 := wrap_id (by omega) (by omega)
      have ht := hR x (List.mem_of_getElem? hx)
      have hb := bk_b g1 ht.1
      have hbe : ∀ o, S.rbucket R 0 R.length w g nw o x.1 = some (bk g x) := fun o => rbucket_eq g1 ht.1.1.1 (by have := ht.1.1.2; omega) ..
      have hte : ∀ o, S.rbucket R 0 R.length w g nw o t = some (t.tdiv g) := fun o => rbucket_eq g1 t0 t1 ..
      have hwd : IntKind.wrap .i64 (t.tdiv g - bk g x) = t.tdiv g - bk g x := wrap_id (by omega) (by omega)
      simp only [g1', g2, g3, t0, decide_true, cond_true, optK, hw, hwc, hbe, hte, rN_eq hW, radd_eq, hwd]
      rw [getD_drop hx c2]
      unfold vs ns
      by_cases k1 : t.tdiv g - bk g x < 0
      · have k : inW (NB w g) (t.tdiv g) (bk g x) = false := by unfold inW; simp; omega
        simp only [k1, decide_true, cond_true, wsum, k, Bool.false_eq_true, if_false, Int.zero_add]
        exact ih (i + 1) Q c (by omega) (by omega) Q0 c0 (by omega)
      · by_cases k2 : NB w g ≤ t.tdiv g - bk g x
        · have k : inW (NB w g) (t.tdiv g) (bk g x) = false := by unfold inW; simp; omega
          simp only [k1, k2, decide_true, decide_false, cond_true, cond_false, wsum, k, Bool.false_eq_true, if_false, Int.zero_add]
          exact ih (i + 1) Q c (by omega) (by omega) Q0 c0 (by omega)
        · have k : inW (NB w g) (t.tdiv g) (bk g x) = true := by unfold inW; simp; omega
          simp only [k1, k2, decide_false, cond_false, wsum, k, if_true]
          have hm := madd_nn (a := min M63 Q) (b := x.2) (by omega) (by omega) ht.1.2 ht.2
          have e1 : (S.madd (min M63 Q) x.2).1 = min M63 (Q + x.2) := by rw [hm]; have := ht.1.2; have := ht.2; split <;> simp only <;> omega
          have e2 : (bif (ov || over Q) then true else !decide ((S.madd (min M63 Q) x.2).2 = 0)) = (ov || over (Q + x.2)) := by
            rw [hm]
            have := ht.1.2; have := ht.2
            unfold over
            cases ov with
            | true => simp
            | false =>
              by_cases h1 : M63 < Q
              · have h2 : M63 < Q + x.2 := by omega
                simp [h1, h2]
              · by_cases h2 : M63 < Q + x.2
                · have h3 : M63 < min M63 Q + x.2 := by omega
                  simp [h1, h2, h3]
                · have h3 : ¬ M63 < min M63 Q + x.2 := by omega
                  simp [h1, h2, h3]
          have hih := ih (i + 1) (Q + x.2) (c + 1) (by omega) (by omega) (by have := ht.1.2; omega) (by omega) (by omega)
          rw [← e2, ← e1] at hih
          rw [← Int.add_assoc, ← Int.add_assoc]
          have e3 : (ov || over (Q + x.2)) = (bif (ov || over Q) then true else !decide ((S.madd (min M63 Q) x.2).2 = 0)) := e2.symm
          unfold vs ns at hih
          cases hov : (ov || over Q) with
          | true => rw [hov] at hih; simp only [cond_true] at hih ⊢; exact hih
          | false => rw [hov] at hih; simp only [cond_false] at hih ⊢; exact hih
    · have g1' : ¬ ((i : Int) < ((R.length : Nat) : Int)) := by omega
      have hk2 : i = R.length := by omega
      simp only [g1', decide_false, cond_false]
      rw [List.drop_eq_nil_of_le (by omega), hk2]; simp [vs, ns, wsum]

theorem rsum_ok {w g nw : Int} {R : RL} (hw : Rok w g) (hR : ∀ y ∈ R, Tk y) (hl : R.length ≤ 90000) (ov : Bool) {t : Int} (t0 : 0 ≤ t) (t1 : t < 9223372036854775808) :
    S.rsum 100000 R 0 R.length w g nw ov t = some (min M63 (vs g (inW (NB w g) (t.tdiv g)) R), ns g (inW (NB w g) (t.tdiv g)) R, w, g, 0, R.length, nw, ov || over (vs g (inW (NB w g) (t.tdiv g)) R), R) := by
  have hM : (0 : Int) ≤ M63 := by unfold M63; omega
  have e0 : over 0 = false := by unfold over M63; rfl
  have e := rsum_loop 100000 R w g nw t ov ov hw hR hl t0 t1 100000 0 0 0 (by omega) (by omega) (by omega) (by omega) (by omega)
  rw [show min M63 0 = 0 by omega, e0, Bool.or_false, List.drop_zero, Int.zero_add, Int.zero_add] at e
  have e' : S.rsum_l0 100000 R 0 R.length w g nw ov t 100000 0 0 0 ov = _ := e
  unfold S.rsum S.rsum_a0_0
  rw [e']; rfl
theorem rsum_neg (R : RL) (w g nw t : Int) (ov : Bool) (h : t < 0) : S.rsum 100000 R 0 R.length w g nw ov t = some (0, 0, w, g, 0, R.length, nw, ov, R) := by
  have h2 : ¬ 0 ≤ t := by omega
  have e : ∃ z, S.rsum_l0 100000 R 0 R.length w g nw ov t 100000 0 0 0 ov = some (0, 0, 0, z, ov) := by
    unfold S.rsum_l0
    by_cases c : (0 : Int) < ((R.length : Nat) : Int)
    · simp only [c, h2, decide_true, decide_false, cond_true, cond_false]; exact ⟨_, rfl⟩
    · simp only [c, decide_false, cond_false]; exact ⟨_, rfl⟩
  obtain ⟨z, e⟩ := e
  unfold S.rsum S.rsum_a0_0
  rw [e]; rfl
theorem rmean_ok {w g nw : Int} {R : RL} (hw : Rok w g) (hR : ∀ y ∈ R, Tk y) (hl : R.length ≤ 90000) (ov : Bool) {t : Int} (t0 : 0 ≤ t) (t1 : t < 9223372036854775808) :
    S.rmean R 0 R.length w g nw ov t = some (meanOf (min M63 (vs g (inW (NB w g) (t.tdiv g)) R)) (ns g (inW (NB w g) (t.tdiv g)) R), w, g, 0, R.length, nw, ov || over (vs g (inW (NB w g) (t.tdiv g)) R), R) := by
  have hM : (0 : Int) ≤ M63 := by unfold M63; omega
  have hv : 0 ≤ vs g (inW (NB w g) (t.tdiv g)) R := wsum_nn g _ (fun y hy => (hR y hy).1.2)
  have hc : 0 ≤ ns g (inW (NB w g) (t.tdiv g)) R := wsum_nn g _ (fun _ _ => by omega)
  unfold S.rmean
  rw [rsum_ok hw hR hl ov t0 t1]
  simp only [optK]
  by_cases c : ns g (inW (NB w g) (t.tdiv g)) R = 0
  · simp only [c, decide_true, cond_true, meanOf, if_true]
  · have := meanOf_b (s := min M63 (vs g (inW (NB w g) (t.tdiv g)) R)) (c := ns g (inW (NB w g) (t.tdiv g)) R) (by omega) (by omega) hc
    simp only [c, decide_false, cond_false]
    unfold meanOf at this ⊢
    rw [if_neg c] at this ⊢
    unfold M63 at this
    rw [wrap_id (by unfold M63; omega) (by unfold M63; omega)]
theorem rmean_neg (R : RL) (w g nw t : Int) (ov : Bool) (h : t < 0) : S.rmean R 0 R.length w g nw ov t = some (0, w, g, 0, R.length, nw, ov, R) := by
  unfold S.rmean; rw [rsum_neg R w g nw t ov h]; rfl

theorem rresize_ok {w w' g nw : Int} {R : RL} (hw : Rok w' g) (hR : ∀ y ∈ R, Tk y) (hl : R.length ≤ 9000) (w0 : -1 ≤ nw) (w1 : nw ≤ 1099511627776) (ov : Bool) :
    S.rresize R 0 R.length w g nw ov w' = some (0, w', g, 0, (R.filter (Kp g (NB w' g) nw)).length, nw, ov, R.filter (Kp g (NB w' g) nw)) := by
  have hW := hw
  obtain ⟨⟨g1, gw⟩, w6⟩ := hw
  have p1 : ¬ w' < g := by omega
  have p2 : ¬ 600 < w' := by omega
  unfold S.rresize
  rw [rforget_eq R w' g nw ov hW (fun y hy => (hR y hy).1) (by omega) w0 w1]
  simp only [p1, p2, decide_false, cond_false, optK]
theorem rresize_no (R : RL) (lo len : Nat) (w g nw w' : Int) (ov : Bool) (h : w' < g ∨ 600 < w') : S.rresize R lo len w g nw ov w' = some (1, w, g, lo, len, nw, ov, R) := by
  unfold S.rresize
  by_cases p1 : w' < g
  · simp [p1]
  · have p2 : 600 < w' := by rcases h with h | h; exact absurd h p1; exact h
    simp [p1, p2]
theorem rnew_no {w g : Int} (h : ¬ Rok w g) : S.rnewring w g = .inl () := by
  unfold S.rnewring
  by_cases a : w < 1
  · simp only [a, decide_true, cond_true]
  by_cases b : 600 < w
  · simp only [a, b, decide_true, decide_false, cond_true, cond_false]
  by_cases c : g < 1
  · simp only [a, b, c, decide_true, decide_false, cond_true, cond_false]
  by_cases d : w < g
  · simp only [a, b, c, d, decide_true, decide_false, cond_true, cond_false]
  exact absurd ⟨⟨by omega, by omega⟩, by omega⟩ h
theorem rnew_yes {w g : Int} (h : Rok w g) : S.rnewring w g = .inr (w, g) := by
  obtain ⟨⟨h1, h2⟩, h3⟩ := h
  unfold S.rnewring
  have a : ¬ w < 1 := by omega
  have b : ¬ 600 < w := by omega
  have c : ¬ g < 1 := by omega
  have d : ¬ w < g := by omega
  simp only [a, b, c, d, decide_false, cond_false]
end Go.Proofs.YtdgipcjigbagfaaGreat.AB
