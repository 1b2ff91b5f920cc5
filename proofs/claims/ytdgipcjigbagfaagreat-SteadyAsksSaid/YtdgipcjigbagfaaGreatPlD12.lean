/- The document's rings, told by what is kept. -/
import Derived.Test.YtdgipcjigbagfaaGreatPlRings
import Derived.Test.YtdgipcjigbagfaaGreatSrref
import Derived.Test.YtdgipcjigbagfaaGreatPlMuls
import Derived.Test.YtdgipcjigbagfaaGreatSrmilli
import Derived.Test.YtdgipcjigbagfaaGreatPlDec
import Derived.Test.YtdgipcjigbagfaaGreatSrdec
namespace Go.Proofs.YtdgipcjigbagfaaGreat.AB
set_option linter.unusedVariables false
set_option linter.unusedSimpArgs false

theorem radd_eq (a b : Int) : S.radd a b = S.madd a b := by
  unfold S.radd S.madd S.mend
  by_cases h : 0 < b
  · have h2 : ¬ b < 0 := by omega
    simp [h, h2]
  · simp [h]
theorem rN_eq {w g : Int} (h : Rok w g) (r : RL) (lo len : Nat) (nw : Int) (ov : Bool) : S.rN r lo len w g nw ov = some (NB w g) := by
  obtain ⟨⟨g1, gw⟩, w1⟩ := h
  have h := NB_b g1 gw w1
  have z : ¬ g = 0 := by omega
  unfold S.rN
  rw [wrap_id (n := w + g) (by omega) (by omega), wrap_id (n := w + g - 1) (by omega) (by omega), wrap_id (n := (w + g - 1).tdiv g) (by unfold NB at h; omega) (by unfold NB at h; omega)]
  simp only [z, decide_false, cond_false]; rfl
theorem rbucket_eq {w g t : Int} (g1 : 1 ≤ g) (t0 : 0 ≤ t) (t1 : t < 9223372036854775808) (r : RL) (lo len : Nat) (nw : Int) (ov : Bool) : S.rbucket r lo len w g nw ov t = some (t.tdiv g) := by
  have h := tdv t0 g1
  have z : ¬ g = 0 := by omega
  unfold S.rbucket
  rw [wrap_id (n := t.tdiv g) (by omega) (by omega)]
  simp only [z, decide_false, cond_false]

theorem rforget_loop (fu : Nat) (r : RL) (w g nw : Int) (ov : Bool) (h : Rok w g) (hr : ∀ x ∈ r, Takes x) (hl : r.length ≤ 10000) (w0 : -1 ≤ nw) (w1 : nw ≤ 1099511627776) : ∀ (k i : Nat) (y : List (Int × Int)), i ≤ r.length → r.length < k + i → y.length ≤ i →
    S.rforget_l0 fu r 0 r.length w g nw ov k y.length i y = some ((y ++ (r.drop i).filter (Kp g (NB w g) nw)).length, (r.length : Int), false, y ++ (r.drop i).filter (Kp g (NB w g) nw)) := by
  have hR := h
  obtain ⟨⟨h1, h2⟩, h3⟩ := h
  have hN := NB_b h1 h2 h3
  intro k
  induction k with
  | zero => intro i y _ _ _; omega
  | succ k ih =>
    intro i y hi hk hy
    unfold S.rforget_l0
    by_cases c2 : i < r.length
    · have g1' : ((i : Int) < ((r.length : Nat) : Int)) := by omega
      have g2 : inB (i : Int) r.length = true := by unfold inB; simp; omega
      obtain ⟨x, hx⟩ : ∃ x, r[i]? = some x := ⟨r[i]'c2, by simp⟩
      have g3 : r[Int.toNat (i : Int) + 0]? = some x := by simpa using hx
      have hw : IntKind.wrap .i64 ((i : Int) + 1) = ((i + 1 : Nat) : Int) := by rw [wrap_id (by omega) (by omega)]; omega
      have ht := hr x (List.mem_of_getElem? hx)
      have hb := bk_b h1 ht
      have hbe : S.rbucket r 0 r.length w g nw ov x.1 = some (bk g x) := rbucket_eq h1 ht.1.1 (by have := ht.1.2; omega) ..
      have b1 : (Nat.beq 2 2 && Nat.blt 0 16 && Nat.beq 2 2 && Nat.beq 2 2 && Nat.beq 2 2 && Nat.blt 0 1 && !Nat.beq 2 3 && Nat.ble ((y.length + 1) * 16) 35184372088832) = true := by
        have : Nat.ble ((y.length + 1) * 16) 35184372088832 = true := Nat.ble_eq.mpr (by omega)
        rw [this]; rfl
      simp only [g1', g2, g3, decide_true, cond_true, optK, hw, hbe, rN_eq hR, b1]
      rw [wrap_id (n := nw - bk g x) (by omega) (by omega), getD_drop hx c2, List.filter_cons]
      by_cases kk : nw - bk g x < NB w g
      · have kp : Kp g (NB w g) nw x = true := by unfold Kp; simp [kk]
        have hc : cutL y 0 y.length ++ cutL [(x.1, x.2)] 0 1 = y ++ [x] := by rw [cutL_all]; rfl
        simp only [kk, kp, decide_true, cond_true, if_true]
        rw [hc, ih (i + 1) (y ++ [x]) (by omega) (by omega) (by simp; omega)]
        simp only [List.append_assoc, List.singleton_append]
      · have kp : Kp g (NB w g) nw x = false := by unfold Kp; simp [kk]
        simp only [kk, kp, decide_false, cond_false, Bool.false_eq_true, if_false]
        exact ih (i + 1) y (by omega) (by omega) (by omega)
    · have g1' : ¬ ((i : Int) < ((r.length : Nat) : Int)) := by omega
      have hk2 : i = r.length := by omega
      simp only [g1', decide_false, cond_false]
      rw [List.drop_eq_nil_of_le (by omega), hk2]; simp

theorem rforget_eq (r : RL) (w g nw : Int) (ov : Bool) (h : Rok w g) (hr : ∀ x ∈ r, Takes x) (hl : r.length ≤ 10000) (w0 : -1 ≤ nw) (w1 : nw ≤ 1099511627776) :
    S.rforget 100000 r 0 r.length w g nw ov = some (w, g, (r.filter (Kp g (NB w g) nw)).length, nw, ov, r, r.filter (Kp g (NB w g) nw)) := by
  have e := rforget_loop 100000 r w g nw ov h hr hl w0 w1 100000 0 [] (by omega) (by omega) (by simp)
  have e' : S.rforget_l0 100000 r 0 r.length w g nw ov 100000 0 0 [] = some ((r.filter (Kp g (NB w g) nw)).length, (r.length : Int), false, r.filter (Kp g (NB w g) nw)) := e
  unfold S.rforget S.rforget_a0_0
  rw [e']; rfl

theorem rput_ok {w g nw : Int} {R : RL} (hw : Rok w g) (hR : ∀ y ∈ R, Tk y) (hl : R.length ≤ 9000) (w0 : -1 ≤ nw) (w1 : nw ≤ 1099511627776) {x : Int × Int} (hx : Takes x) (ov : Bool) :
    S.rput R 0 R.length w g nw ov x.1 x.2 = some (0, w, g, 0, (pR g (NB w g) nw x R).length, pnw g nw x, ov, pR g (NB w g) nw x R) := by
  have hW := hw
  obtain ⟨⟨g1, gw⟩, w6⟩ := hw
  have hN := NB_b g1 gw w6
  obtain ⟨⟨t0, t1⟩, v0⟩ := hx
  have hx : Takes x := ⟨⟨t0, t1⟩, v0⟩
  have hb := bk_b g1 hx
  have hp := pnw_b (nw := nw) g1 hx w0 w1
  have p1 : ¬ x.1 < 0 := by omega
  have p2 : ¬ 1099511627776 < x.1 := by omega
  have p3 : ¬ x.2 < 0 := by omega
  have hbe : S.rbucket R 0 R.length w g nw ov x.1 = some (bk g x) := rbucket_eq g1 t0 (by omega) ..
  have b1 : (Nat.beq 2 2 && Nat.blt 0 16 && Nat.beq 2 2 && Nat.beq 2 2 && Nat.beq 2 2 && Nat.blt 0 1 && !Nat.beq 1 2 && Nat.ble ((R.length + 1) * 16) 35184372088832) = true := by
    have : Nat.ble ((R.length + 1) * 16) 35184372088832 = true := Nat.ble_eq.mpr (by omega)
    rw [this]; rfl
  unfold S.rput
  simp only [p1, p2, p3, decide_false, cond_false, hbe, rN_eq hW, optK]
  rw [wrap_id (n := nw - bk g x) (by omega) (by omega)]
  by_cases c : nw - bk g x < NB w g
  · have c2 : ¬ NB w g ≤ nw - bk g x := by omega
    have hc : cutL R 0 R.length ++ cutL [(x.1, x.2)] 0 1 = R ++ [x] := by rw [cutL_all]; rfl
    have epn : (if bk g x > nw then bk g x else nw) = pnw g nw x := rfl
    have hf := rforget_eq (R ++ [x]) w g (pnw g nw x) ov hW (fun y hy => by
      rcases List.mem_append.mp hy with h | h
      · exact (hR y h).1
      · simp at h; subst h; exact hx) (by simp; omega) hp.1 hp.2.1
    simp only [c2, decide_false, cond_false, b1, cond_true, hc, epn, hf]
    unfold pR; rw [if_pos c]
  · have c2 : NB w g ≤ nw - bk g x := by omega
    simp only [c2, decide_true, cond_true]
    have epw : pnw g nw x = nw := pnw_late c hN.1
    unfold pR; rw [if_neg c, epw]
where
  pnw_late {g n nw : Int} {x : Int × Int} (h : ¬ nw - bk g x < n) (n1 : 1 ≤ n) : pnw g nw x = nw := by unfold pnw; rw [if_neg (by omega)]
theorem rput_no (R : RL) (lo len : Nat) (w g nw t v : Int) (ov : Bool) (h : ¬ Takes (t, v)) : S.rput R lo len w g nw ov t v = some (1, w, g, lo, len, nw, ov, R) := by
  unfold S.rput
  by_cases p1 : t < 0
  · simp [p1]
  by_cases p2 : 1099511627776 < t
  · simp [p1, p2]
  by_cases p3 : v < 0
  · simp [p1, p2, p3]
  exact absurd ⟨⟨by simp only; omega, by simp only; omega⟩, by simp only; omega⟩ h

theorem rsum_loop (fu : Nat) (R : RL) (w g nw t : Int) (ov0 ov : Bool) (hw : Rok w g) (hR : ∀ y ∈ R, Tk y) (hl : R.length ≤ 90000) (t0 : 0 ≤ t) (t1 : t < 9223372036854775808) :
    ∀ (n i : Nat) (Q c : Int), i ≤ R.length → R.length < n + i → 0 ≤ Q → 0 ≤ c → c ≤ i →
    S.rsum_l0 fu R 0 R.length w g nw ov0 t n (min M63 Q) c i (ov || over Q) = some (min M63 (Q + vs g (inW (NB w g) (t.tdiv g)) (R.drop i)), c + ns g (inW (NB w g) (t.tdiv g)) (R.drop i), (R.length : Int), false, ov || over (Q + vs g (inW (NB w g) (t.tdiv g)) (R.drop i))) := by
  have hW := hw
  obtain ⟨⟨g1, gw⟩, w6⟩ := hw
  have hN := NB_b g1 gw w6
  have hM : (0 : Int) ≤ M63 := by unfold M63; omega
  have htd := tdv t0 g1
  intro n
  induction n with
  | zero => intro i Q c _ _; omega
  | succ n ih =>
    intro i Q c hi hn Q0 c0 c1
    unfold S.rsum_l0
    by_cases c2 : i < R.length
    · have g1' : ((i : Int) < ((R.length : Nat) : Int)) := by omega
      have g2 : inB (i : Int) R.length = true := by unfold inB; simp; omega
      obtain ⟨x, hx⟩ : ∃ x, R[i]? = some x := ⟨R[i]'c2, by simp⟩
      have g3 : R[Int.toNat (i : Int) + 0]? = some x := by simpa using hx
      have hw : IntKind.wrap .i64 ((i : Int) + 1) = ((i + 1 : Nat) : Int) := by rw [wrap_id (by omega) (by omega)]; omega
      have hwc : IntKind.wrap .i64 (c + 1) = c + 1 := wrap_id (by omega) (by omega)
      have ht := hR x (List.mem_of_getElem? hx)
      have hb := bk_b g1 ht.1
      have hbe : ∀ o, S.rbucket R 0 R.length w g nw o x.1 = some (bk g x) := fun o => rbucket_eq g1 ht.1.1.1 (by have := ht.1.1.2; omega) ..
      have hte : ∀ o, S.rbucket R 0 R.length w g nw o t = some (t.tdiv g) := fun o => rbucket_eq g1 t0 t1 ..
      have hwd : IntKind.wrap .i64 (t.tdiv g - bk g x) = t.tdiv g - bk g x := wrap_id (by omega) (by omega)
      simp only [g1', g2, g3, t0, decide_true, cond_true, optK, hw, hwc, hbe, hte, rN_eq hW, radd_eq, hwd]
      rw [getD_drop hx c2]
      unfold vs ns
      by_cases k1 : t.tdiv g - bk g x < 0
      · have k : inW (NB w g) (t.tdiv g) (bk g x) = false := by unfold inW; simp; omega
        simp only [k1, decide_true, cond_true, wsum, k, Bool.false_eq_true, if_false, Int.zero_add]
        exact ih (i + 1) Q c (by omega) (by omega) Q0 c0 (by omega)
      · by_cases k2 : NB w g ≤ t.tdiv g - bk g x
        · have k : inW (NB w g) (t.tdiv g) (bk g x) = false := by unfold inW; simp; omega
          simp only [k1, k2, decide_true, decide_false, cond_true, cond_false, wsum, k, Bool.false_eq_true, if_false, Int.zero_add]
          exact ih (i + 1) Q c (by omega) (by omega) Q0 c0 (by omega)
        · have k : inW (NB w g) (t.tdiv g) (bk g x) = true := by unfold inW; simp; omega
          simp only [k1, k2, decide_false, cond_false, wsum, k, if_true]
          have hm := madd_nn (a := min M63 Q) (b := x.2) (by omega) (by omega) ht.1.2 ht.2
          have e1 : (S.madd (min M63 Q) x.2).1 = min M63 (Q + x.2) := by rw [hm]; have := ht.1.2; have := ht.2; split <;> simp only <;> omega
          have e2 : (bif (ov || over Q) then true else !decide ((S.madd (min M63 Q) x.2).2 = 0)) = (ov || over (Q + x.2)) := by
            rw [hm]
            have := ht.1.2; have := ht.2
            unfold over
            cases ov with
            | true => simp
            | false =>
              by_cases h1 : M63 < Q
              · have h2 : M63 < Q + x.2 := by omega
                simp [h1, h2]
              · by_cases h2 : M63 < Q + x.2
                · have h3 : M63 < min M63 Q + x.2 := by omega
                  simp [h1, h2, h3]
                · have h3 : ¬ M63 < min M63 Q + x.2 := by omega
                  simp [h1, h2, h3]
          have hih := ih (i + 1) (Q + x.2) (c + 1) (by omega) (by omega) (by have := ht.1.2; omega) (by omega) (by omega)
          rw [← e2, ← e1] at hih
          rw [← Int.add_assoc, ← Int.add_assoc]
          have e3 : (ov || over (Q + x.2)) = (bif (ov || over Q) then true else !decide ((S.madd (min M63 Q) x.2).2 = 0)) := e2.symm
          unfold vs ns at hih
          cases hov : (ov || over Q) with
          | true => rw [hov] at hih; simp only [cond_true] at hih ⊢; exact hih
          | false => rw [hov] at hih; simp only [cond_false] at hih ⊢; exact hih
    · have g1' : ¬ ((i : Int) < ((R.length : Nat) : Int)) := by omega
      have hk2 : i = R.length := by omega
      simp only [g1', decide_false, cond_false]
      rw [List.drop_eq_nil_of_le (by omega), hk2]; simp [vs, ns, wsum]

theorem rsum_ok {w g nw : Int} {R : RL} (hw : Rok w g) (hR : ∀ y ∈ R, Tk y) (hl : R.length ≤ 90000) (ov : Bool) {t : Int} (t0 : 0 ≤ t) (t1 : t < 9223372036854775808) :
    S.rsum 100000 R 0 R.length w g nw ov t = some (min M63 (vs g (inW (NB w g) (t.tdiv g)) R), ns g (inW (NB w g) (t.tdiv g)) R, w, g, 0, R.length, nw, ov || over (vs g (inW (NB w g) (t.tdiv g)) R), R) := by
  have hM : (0 : Int) ≤ M63 := by unfold M63; omega
  have e0 : over 0 = false := by unfold over M63; rfl
  have e := rsum_loop 100000 R w g nw t ov ov hw hR hl t0 t1 100000 0 0 0 (by omega) (by omega) (by omega) (by omega) (by omega)
  rw [show min M63 0 = 0 by omega, e0, Bool.or_false, List.drop_zero, Int.zero_add, Int.zero_add] at e
  have e' : S.rsum_l0 100000 R 0 R.length w g nw ov t 100000 0 0 0 ov = _ := e
  unfold S.rsum S.rsum_a0_0
  rw [e']; rfl
theorem rsum_neg (R : RL) (w g nw t : Int) (ov : Bool) (h : t < 0) : S.rsum 100000 R 0 R.length w g nw ov t = some (0, 0, w, g, 0, R.length, nw, ov, R) := by
  have h2 : ¬ 0 ≤ t := by omega
  have e : ∃ z, S.rsum_l0 100000 R 0 R.length w g nw ov t 100000 0 0 0 ov = some (0, 0, 0, z, ov) := by
    unfold S.rsum_l0
    by_cases c : (0 : Int) < ((R.length : Nat) : Int)
    · simp only [c, h2, decide_true, decide_false, cond_true, cond_false]; exact ⟨_, rfl⟩
    · simp only [c, decide_false, cond_false]; exact ⟨_, rfl⟩
  obtain ⟨z, e⟩ := e
  unfold S.rsum S.rsum_a0_0
  rw [e]; rfl
theorem rmean_ok {w g nw : Int} {R : RL} (hw : Rok w g) (hR : ∀ y ∈ R, Tk y) (hl : R.length ≤ 90000) (ov : Bool) {t : Int} (t0 : 0 ≤ t) (t1 : t < 9223372036854775808) :
    S.rmean R 0 R.length w g nw ov t = some (meanOf (min M63 (vs g (inW (NB w g) (t.tdiv g)) R)) (ns g (inW (NB w g) (t.tdiv g)) R), w, g, 0, R.length, nw, ov || over (vs g (inW (NB w g) (t.tdiv g)) R), R) := by
  have hM : (0 : Int) ≤ M63 := by unfold M63; omega
  have hv : 0 ≤ vs g (inW (NB w g) (t.tdiv g)) R := wsum_nn g _ (fun y hy => (hR y hy).1.2)
  have hc : 0 ≤ ns g (inW (NB w g) (t.tdiv g)) R := wsum_nn g _ (fun _ _ => by omega)
  unfold S.rmean
  rw [rsum_ok hw hR hl ov t0 t1]
  simp only [optK]
  by_cases c : ns g (inW (NB w g) (t.tdiv g)) R = 0
  · simp only [c, decide_true, cond_true, meanOf, if_true]
  · have := meanOf_b (s := min M63 (vs g (inW (NB w g) (t.tdiv g)) R)) (c := ns g (inW (NB w g) (t.tdiv g)) R) (by omega) (by omega) hc
    simp only [c, decide_false, cond_false]
    unfold meanOf at this ⊢
    rw [if_neg c] at this ⊢
    unfold M63 at this
    rw [wrap_id (by unfold M63; omega) (by unfold M63; omega)]
theorem rmean_neg (R : RL) (w g nw t : Int) (ov : Bool) (h : t < 0) : S.rmean R 0 R.length w g nw ov t = some (0, w, g, 0, R.length, nw, ov, R) := by
  unfold S.rmean; rw [rsum_neg R w g nw t ov h]; rfl

theorem rresize_ok {w w' g nw : Int} {R : RL} (hw : Rok w' g) (hR : ∀ y ∈ R, Tk y) (hl : R.length ≤ 9000) (w0 : -1 ≤ nw) (w1 : nw ≤ 1099511627776) (ov : Bool) :
    S.rresize R 0 R.length w g nw ov w' = some (0, w', g, 0, (R.filter (Kp g (NB w' g) nw)).length, nw, ov, R.filter (Kp g (NB w' g) nw)) := by
  have hW := hw
  obtain ⟨⟨g1, gw⟩, w6⟩ := hw
  have p1 : ¬ w' < g := by omega
  have p2 : ¬ 600 < w' := by omega
  unfold S.rresize
  rw [rforget_eq R w' g nw ov hW (fun y hy => (hR y hy).1) (by omega) w0 w1]
  simp only [p1, p2, decide_false, cond_false, optK]
theorem rresize_no (R : RL) (lo len : Nat) (w g nw w' : Int) (ov : Bool) (h : w' < g ∨ 600 < w') : S.rresize R lo len w g nw ov w' = some (1, w, g, lo, len, nw, ov, R) := by
  unfold S.rresize
  by_cases p1 : w' < g
  · simp [p1]
  · have p2 : 600 < w' := by rcases h with h | h; exact absurd h p1; exact h
    simp [p1, p2]
theorem rnew_no {w g : Int} (h : ¬ Rok w g) : S.rnewring w g = .inl () := by
  unfold S.rnewring
  by_cases a : w < 1
  · simp only [a, decide_true, cond_true]
  by_cases b : 600 < w
  · simp only [a, b, decide_true, decide_false, cond_true, cond_false]
  by_cases c : g < 1
  · simp only [a, b, c, decide_true, decide_false, cond_true, cond_false]
  by_cases d : w < g
  · simp only [a, b, c, d, decide_true, decide_false, cond_true, cond_false]
  exact absurd ⟨⟨by omega, by omega⟩, by omega⟩ h
theorem rnew_yes {w g : Int} (h : Rok w g) : S.rnewring w g = .inr (w, g) := by
  obtain ⟨⟨h1, h2⟩, h3⟩ := h
  unfold S.rnewring
  have a : ¬ w < 1 := by omega
  have b : ¬ 600 < w := by omega
  have c : ¬ g < 1 := by omega
  have d : ¬ w < g := by omega
  simp only [a, b, c, d, decide_false, cond_false]
end Go.Proofs.YtdgipcjigbagfaaGreat.AB
namespace Go.Proofs.YtdgipcjigbagfaaGreat.AB
set_option linter.unusedVariables false
set_option linter.unusedSimpArgs false

/-- a new window -/
theorem rr_ok {w w' g nw : Int} {R : List (Int × Int)} {lo len : Nat} {l : FL} {f : BL} (h : PRel g (NB w g) nw R lo len l f) (hw : Rok w' g) (w0 : -1 ≤ nw) (w1 : nw ≤ 1099511627776) (hl : R.length ≤ 70000) (ov : Bool) :
    ∃ lo' len' l' f', S.rr l f lo len w g (NB w g) nw ov w' = some (0, lo', len', w', g, NB w' g, nw, ov, l', f') ∧ PRel g (NB w' g) nw (R.filter (Kp g (NB w' g) nw)) lo' len' l' f' := by
  obtain ⟨⟨g1, gw⟩, w6⟩ := hw
  obtain ⟨bs, hrep, hs⟩ := h.bs
  have hbl := hs.len
  have p1 : ¬ w' < g := by omega
  have p2 : ¬ 600 < w' := by omega
  obtain ⟨l', e, hr⟩ := rgo_eq hrep (hs.atOk g1 h.tk) (by omega) w' g (NB w' g) nw ov w0 w1
  unfold S.rr
  simp only [p1, p2, decide_false, cond_false, nb_eq g1 gw w6, optK, e]
  exact ⟨_, _, _, _, rfl, ⟨_, hr, hs.forget _ _⟩, fun y hy => h.tk y (List.mem_filter.mp hy).1, fun y hy => by have := (List.mem_filter.mp hy).2; unfold Kp at this; simpa using this⟩
theorem rr_no (l : FL) (f : BL) (lo len : Nat) (w g n nw w' : Int) (ov : Bool) (h : w' < g ∨ 600 < w') : S.rr l f lo len w g n nw ov w' = some (1, lo, len, w, g, n, nw, ov, l, f) := by
  unfold S.rr
  by_cases p1 : w' < g
  · simp [p1]
  · have p2 : 600 < w' := by rcases h with h | h; exact absurd h p1; exact h
    simp [p1, p2]
end Go.Proofs.YtdgipcjigbagfaaGreat.AB
namespace Go.Proofs.YtdgipcjigbagfaaGreat.AB
set_option linter.unusedVariables false
set_option linter.unusedSimpArgs false

theorem rsize_eq {a : Int} (a0 : -9223372036854775808 ≤ a) (a1 : a < 9223372036854775808) : S.rsize a = mag a := by
  unfold S.rsize mag
  by_cases h : a < 0
  · simp only [h, decide_true, cond_true, if_true, IntKind.wrap_u64, IntKind.wrap_i64]; omega
  · simp only [h, decide_false, cond_false, if_false, IntKind.wrap_u64]; omega

theorem rwide_eq {a b : Int} (a0 : 0 ≤ a) (a1 : a < 18446744073709551616) (b0 : 0 ≤ b) (b1 : b < 18446744073709551616) :
    S.rwide a b = (a * b / 18446744073709551616, a * b % 18446744073709551616) := by
  rw [← mul64_eq a0 a1 b0 b1]
  have hm := mul64_eq a0 a1 b0 b1
  unfold S.mul64 at hm
  unfold S.rwide S.mul64
  rw [band32 a0 a1, band32 b0 b1] at hm ⊢
  simp only [fdiv32] at hm ⊢
  have x0 : 0 ≤ a / 4294967296 ∧ a / 4294967296 ≤ 4294967295 := by omega
  have x1 : 0 ≤ a % 4294967296 ∧ a % 4294967296 ≤ 4294967295 := by omega
  have y0 : 0 ≤ b / 4294967296 ∧ b / 4294967296 ≤ 4294967295 := by omega
  have y1 : 0 ≤ b % 4294967296 ∧ b % 4294967296 ≤ 4294967295 := by omega
  have bnd : ∀ (u v : Int), 0 ≤ u ∧ u ≤ 4294967295 → 0 ≤ v ∧ v ≤ 4294967295 → 0 ≤ u * v ∧ u * v ≤ 18446744065119617025 := by
    intro u v hu hv
    refine ⟨Int.mul_nonneg hu.1 hv.1, ?_⟩
    have := Int.mul_le_mul hu.2 hv.2 hv.1 (by omega)
    omega
  obtain ⟨m0, m1⟩ := bnd _ _ x0 y0
  obtain ⟨m2, m3⟩ := bnd _ _ x0 y1
  obtain ⟨m4, m5⟩ := bnd _ _ x1 y0
  obtain ⟨m6, m7⟩ := bnd _ _ x1 y1
  have hlo : a * b % 18446744073709551616 = (a / 4294967296 * (b % 4294967296) * 4294967296 + a % 4294967296 * (b / 4294967296) * 4294967296 + a % 4294967296 * (b % 4294967296)) % 18446744073709551616 := by
    have ha : a = (a / 4294967296) * 4294967296 + a % 4294967296 := by omega
    have hb : b = (b / 4294967296) * 4294967296 + b % 4294967296 := by omega
    have e : a * b = (a / 4294967296 * 4294967296 + a % 4294967296) * (b / 4294967296 * 4294967296 + b % 4294967296) := by rw [← ha, ← hb]
    rw [e]
    generalize a / 4294967296 = p
    generalize a % 4294967296 = q
    generalize b / 4294967296 = r
    generalize b % 4294967296 = s
    simp only [Int.add_mul, Int.mul_add]
    have e1 : p * 4294967296 * (r * 4294967296) = p * r * 18446744073709551616 := by
      rw [Int.mul_assoc p, ← Int.mul_assoc 4294967296 r, Int.mul_comm 4294967296 r, Int.mul_assoc r, ← Int.mul_assoc p r]; rfl
    have e2 : p * 4294967296 * s = p * s * 4294967296 := by rw [Int.mul_assoc, Int.mul_comm 4294967296, ← Int.mul_assoc]
    have e3 : q * (r * 4294967296) = q * r * 4294967296 := by rw [← Int.mul_assoc]
    rw [e1, e2, e3]; omega
  have hlow : IntKind.u64.wrap (a * b) = a * b % 18446744073709551616 := by rw [IntKind.wrap_u64]
  rw [hlow, hlo]
  clear hm hlow hlo
  generalize a / 4294967296 * (b / 4294967296) = A at *
  generalize a / 4294967296 * (b % 4294967296) = B at *
  generalize a % 4294967296 * (b / 4294967296) = C at *
  generalize a % 4294967296 * (b % 4294967296) = D at *
  have w1 : IntKind.u64.wrap D = D := by rw [IntKind.wrap_u64]; omega
  have w2 : IntKind.u64.wrap B = B := by rw [IntKind.wrap_u64]; omega
  have w3 : IntKind.u64.wrap (B + D / 4294967296) = B + D / 4294967296 := by rw [IntKind.wrap_u64]; omega
  have w4 : IntKind.u64.wrap C = C := by rw [IntKind.wrap_u64]; omega
  have w5 : IntKind.u64.wrap A = A := by rw [IntKind.wrap_u64]; omega
  rw [w1, w2, w3, w4, w5, band32 (a := B + D / 4294967296) (by omega) (by omega), band32 (a := B) (by omega) (by omega), band32 (a := C) (by omega) (by omega), band32 (a := D) (by omega) (by omega)]
  have m : IntKind.u64.wrap (IntKind.u64.wrap (B % 4294967296 + C % 4294967296) + D / 4294967296) = B % 4294967296 + C % 4294967296 + D / 4294967296 := by simp only [IntKind.wrap_u64]; omega
  rw [m]
  have ml : IntKind.u64.wrap ((B % 4294967296 + C % 4294967296 + D / 4294967296) * 4294967296) = ((B % 4294967296 + C % 4294967296 + D / 4294967296) % 4294967296) * 4294967296 := by simp only [IntKind.wrap_u64]; omega
  rw [ml, bor32 (by omega) (by omega) (by omega) (by omega)]
  refine Prod.ext ?_ ?_
  · simp only [IntKind.wrap_u64]; omega
  · simp only; omega

theorem rthou_eq {hi lo : Int} (h0 : 0 ≤ hi) (h1 : hi < 18446744073709551616) (l0 : 0 ≤ lo) (l1 : lo < 18446744073709551616) :
    S.rthou hi lo = (hi / 1000, (hi % 1000 * 18446744073709551616 + lo) / 1000, (hi * 18446744073709551616 + lo) % 1000) := by
  unfold S.rthou
  rw [Int.tdiv_eq_ediv_of_nonneg h0, Int.tmod_eq_emod_of_nonneg h0, band32 l0 l1]
  simp only [fdiv32]
  have e1 : IntKind.u64.wrap (hi % 1000 * 4294967296) = hi % 1000 * 4294967296 := by rw [IntKind.wrap_u64]; omega
  rw [e1, bor32 (m := hi % 1000) (by omega) (by omega) (by omega) (by omega)]
  have hx : ∃ x, x = hi % 1000 * 4294967296 + lo / 4294967296 := ⟨_, rfl⟩
  obtain ⟨x, hx⟩ := hx
  rw [← hx, Int.tdiv_eq_ediv_of_nonneg (a := x) (by omega), Int.tmod_eq_emod_of_nonneg (a := x) (by omega)]
  have e2 : IntKind.u64.wrap (x % 1000 * 4294967296) = x % 1000 * 4294967296 := by rw [IntKind.wrap_u64]; omega
  rw [e2, bor32 (m := x % 1000) (by omega) (by omega) (by omega) (by omega)]
  have hy : ∃ y, y = x % 1000 * 4294967296 + lo % 4294967296 := ⟨_, rfl⟩
  obtain ⟨y, hy⟩ := hy
  rw [← hy, Int.tdiv_eq_ediv_of_nonneg (a := y) (by omega), Int.tmod_eq_emod_of_nonneg (a := y) (by omega)]
  have e3 : IntKind.u64.wrap (IntKind.u64.wrap (x / 1000) * 4294967296) = x / 1000 * 4294967296 := by simp only [IntKind.wrap_u64]; omega
  have e4 : IntKind.u64.wrap (y / 1000) = y / 1000 := by rw [IntKind.wrap_u64]; omega
  have e5 : IntKind.u64.wrap (hi / 1000) = hi / 1000 := by rw [IntKind.wrap_u64]; omega
  rw [e3, e4, e5, bor32 (m := x / 1000) (by omega) (by omega) (by omega) (by omega)]
  refine Prod.ext rfl (Prod.ext ?_ ?_)
  · simp only; omega
  · simp only; omega

theorem rmul_eq {a b : Int} (a0 : -9223372036854775808 ≤ a) (a1 : a < 9223372036854775808) (b0 : -9223372036854775808 ≤ b) (b1 : b < 9223372036854775808) :
    S.rmul a b = mulS a b := by
  obtain ⟨x0, x1⟩ := mag_range a0 a1
  obtain ⟨y0, y1⟩ := mag_range b0 b1
  obtain ⟨p0, p1⟩ := mag_mul_range a0 a1 b0 b1
  have hs := mag_mul a b
  have hz : a = 0 ∨ b = 0 → mag a * mag b = 0 := by
    rintro (h | h) <;> simp [h, mag]
  have hz2 : ¬ a = 0 → ¬ b = 0 → mag a * mag b ≠ 0 := by
    intro h k
    have : 0 < mag a := by unfold mag; split <;> omega
    have : 0 < mag b := by unfold mag; split <;> omega
    exact (Int.ne_of_gt (Int.mul_pos ‹0 < mag a› this))
  unfold S.rmul mulS
  simp only [S.q_rthou_eq, S.q_rwide_eq, S.q_rsize_eq]
  rw [rsize_eq a0 a1, rsize_eq b0 b1, rwide_eq x0 (by omega) y0 (by omega)]
  rw [rthou_eq (by simp only; omega) (by simp only; omega) (by simp only; omega) (by simp only; omega)]
  simp only
  generalize (decide (a < 0) == decide (b < 0)) = sg at *
  generalize mag a * mag b = p at *
  have e : p / 18446744073709551616 * 18446744073709551616 + p % 18446744073709551616 = p := by omega
  rw [e]
  have hn : (p / 18446744073709551616 % 1000 * 18446744073709551616 + p % 18446744073709551616) / 1000 = p / 1000 % 18446744073709551616 := by omega
  have hq : p / 18446744073709551616 / 1000 = p / 1000 / 18446744073709551616 := by omega
  rw [hn, hq]
  generalize a * b = ab at *
  have pos : ab = p → (bif decide (0 < p / 1000 / 18446744073709551616) then ((9223372036854775807 : Int), (2 : Int)) else bif decide (9223372036854775807 < p / 1000 % 18446744073709551616) then (9223372036854775807, 2) else (IntKind.i64.wrap (p / 1000 % 18446744073709551616), 0)) =
      if 9223372036854775807 < ab / 1000 then (9223372036854775807, 2) else if ab / 1000 < -9223372036854775808 then (-9223372036854775808, 2) else (ab / 1000, 0) := by
    intro hab
    rw [hab]
    by_cases h1 : 0 < p / 1000 / 18446744073709551616
    · have h2 : 9223372036854775807 < p / 1000 := by omega
      simp [h1, h2]
    · by_cases h2 : 9223372036854775807 < p / 1000 % 18446744073709551616
      · have i0 : 0 ≤ p / 1000 := Int.ediv_nonneg p0 (by decide)
        have h3 : 9223372036854775807 < p / 1000 := by
          have j0 : 0 ≤ p / 1000 / 18446744073709551616 := Int.ediv_nonneg i0 (by decide)
          generalize p / 1000 = i at *
          omega
        simp [h1, h2, h3]
      · have h3 : ¬ 9223372036854775807 < p / 1000 := by omega
        have h4 : ¬ p / 1000 < -9223372036854775808 := by omega
        have w : IntKind.i64.wrap (p / 1000 % 18446744073709551616) = p / 1000 := by rw [IntKind.wrap_i64]; omega
        simp [h1, h2, h3, h4, w]
  rcases hs with ⟨rfl, hab⟩ | ⟨rfl, hab⟩
  · simp only [Bool.not_true, cond_false]
    exact pos hab
  · simp only [Bool.not_false, cond_true]
    by_cases ha : a = 0
    · have := hz (.inl ha)
      simp only [ha, decide_true, Bool.not_true, cond_false]
      exact pos (by omega)
    · by_cases hb : b = 0
      · have := hz (.inr hb)
        simp only [ha, hb, decide_true, decide_false, Bool.not_true, Bool.not_false, cond_false, cond_true]
        exact pos (by omega)
      · have hne := hz2 ha hb
        simp only [ha, hb, decide_true, decide_false, Bool.not_true, Bool.not_false, cond_false, cond_true]
        rw [hab]
        have g1 : ¬ 9223372036854775807 < -p / 1000 := by omega
        rw [if_neg g1]
        by_cases h3 : 0 < p % 1000
        · simp only [h3, decide_true, cond_true]
          by_cases h4 : p / 1000 % 18446744073709551616 = 18446744073709551615
          · have w1 : IntKind.u64.wrap (p / 1000 % 18446744073709551616 + 1) = 0 := by rw [IntKind.wrap_u64]; omega
            have w2 : 0 < IntKind.u64.wrap (p / 1000 / 18446744073709551616 + 1) := by rw [IntKind.wrap_u64]; omega
            have g2 : -p / 1000 < -9223372036854775808 := by omega
            simp [w1, w2, g2]
          · have w1 : IntKind.u64.wrap (p / 1000 % 18446744073709551616 + 1) = p / 1000 % 18446744073709551616 + 1 := by rw [IntKind.wrap_u64]; omega
            have w2 : ¬ (p / 1000 % 18446744073709551616 + 1 = 0) := by omega
            rw [w1]
            simp only [w2, decide_false, cond_false]
            by_cases h5 : 0 < p / 1000 / 18446744073709551616
            · have g2 : -p / 1000 < -9223372036854775808 := by omega
              simp [h5, g2]
            · by_cases h6 : 9223372036854775808 < p / 1000 % 18446744073709551616 + 1
              · have g2 : -p / 1000 < -9223372036854775808 := by omega
                simp [h5, h6, g2]
              · have g2 : ¬ -p / 1000 < -9223372036854775808 := by omega
                have w : IntKind.i64.wrap (IntKind.u64.wrap (0 - (p / 1000 % 18446744073709551616 + 1))) = -p / 1000 := by simp only [IntKind.wrap_i64, IntKind.wrap_u64]; omega
                simp only [h5, h6, g2, decide_false, cond_false, if_false, w]
        · simp only [h3, decide_false, cond_false]
          by_cases h5 : 0 < p / 1000 / 18446744073709551616
          · have g2 : -p / 1000 < -9223372036854775808 := by omega
            simp [h5, g2]
          · by_cases h6 : 9223372036854775808 < p / 1000 % 18446744073709551616
            · have g2 : -p / 1000 < -9223372036854775808 := by omega
              simp [h5, h6, g2]
            · have g2 : ¬ -p / 1000 < -9223372036854775808 := by omega
              have w : IntKind.i64.wrap (IntKind.u64.wrap (0 - (p / 1000 % 18446744073709551616))) = -p / 1000 := by simp only [IntKind.wrap_i64, IntKind.wrap_u64]; omega
              simp only [h5, h6, g2, decide_false, cond_false, if_false, w]
end Go.Proofs.YtdgipcjigbagfaaGreat.AB
namespace Go.Proofs.YtdgipcjigbagfaaGreat.AB
set_option linter.unusedVariables false
set_option linter.unusedSimpArgs false

/-! functions of one value -/
theorem rsubD_eq (a b : Int) : S.rsub a b = S.msub a b := by
  unfold S.rsub S.msub S.mend
  by_cases h : b < 0
  · have h' : ¬ 0 < b := by omega
    simp [h, h']
  · simp [h]
theorem bcutD_eq (n : Int) : S.rcut n 0 = S.bthere n := by unfold S.rcut S.bthere; rfl
theorem rexcessD_eq (c : Cf) (r q : Int) : S.rexcess c r q = S.excess c r q := by
  unfold S.rexcess S.excess
  simp only [cf_etaW, rmay_eq, rsubD_eq, bcutD_eq]
theorem rclampD_eq (a lo hi : Int) : S.rclamp a lo hi = clampF a lo hi := by
  unfold S.rclamp clampF; by_cases h1 : hi < a <;> by_cases h2 : a < lo <;> simp [h1, h2]
theorem rperD_eq (c : Cf) (hm : S.may c = true) : S.rper c = Pe c := by
  have ht := tu_range c hm
  have hc := (may_iff c).mp hm
  have h1 := hc.target
  have h2 := hc.util
  unfold S.rper
  rw [rmul_eq (by omega) (by omega) (by omega) (by omega), mulS_in (by omega) (by omega)]
  rfl
theorem rofD_eq (c : Cf) (hm : S.may c = true) (m : Int) (m0 : 0 ≤ m) (m1 : m < 9223372036854775807) : S.rof c m = some (Wn c m) := by
  have hp := Pe_range c hm
  unfold S.rof Wn
  simp only [cf_etaW, rmay_eq, hm, Bool.not_true, cond_false, rperD_eq c hm, rup_eq, mup_nn m0 m1 (b := Pe c) (by omega), optK, rclampD_eq]
theorem rcut_num (n lo : Int) (h : 0 ≤ lo) (h1 : lo ≤ 1) : S.rcut n lo = S.wnum1 n lo := by
  unfold S.rcut S.wnum1
  rw [mclamp_eq]; unfold clampF
  repeat' split
  all_goals omega
theorem roverD_eq (c : Cf) (w r : Int) : S.rover c w r = S.wover c w r := by
  unfold S.rover S.wover
  simp only [cf_etaW, rmay_eq, rcut_num r 1 (by omega) (by omega), rcut_num w 0 (by omega) (by omega)]
theorem rlimitD_eq (c : Cf) (w r : Int) : S.rlimit c w r = S.limit c w r := by
  unfold S.rlimit S.limit
  simp only [cf_etaW, rmay_eq, rleast_eq, rmost_eq]
theorem rnextD_eq {c : Cf} (hm : S.may c = true) {si ms now : Int} {ov : Bool} (n0 : 0 ≤ now) (n1 : now ≤ 1099511627776) (s1 : si ≤ now) : S.rnext si ms c now ov = S.next c si ms now ov := by
  have hst := ((may_iff c).mp hm).stable
  have w1 : IntKind.wrap .i64 (now - c.stable) = now - c.stable := wrap_id (by omega) (by omega)
  unfold S.rnext S.next S.ris
  simp only [cf_etaW, rmay_eq, hm, is_eq, w1]
  by_cases h : 0 ≤ si
  · have w2 : IntKind.wrap .i64 (now - si) = now - si := wrap_id (by omega) (by omega)
    have e : decide (si ≤ now - c.stable) = decide (c.stable ≤ now - si) := by
      by_cases h2 : c.stable ≤ now - si
      · rw [decide_eq_true h2]; exact decide_eq_true (by omega)
      · rw [decide_eq_false h2]; exact decide_eq_false (by omega)
    rw [w2, e]
  · simp only [h, decide_false, cond_false]
theorem rkeepD_eq (t m w : Int) : S.rkeep t m w = S.keep t m w := by
  unfold S.rkeep S.keep S.ris; rw [is_eq]

/-! what holds -/
theorem rdputD {L : List (Int × Int)} {sp t w z : Int} (hl : L.length < 90000) (hz : ∀ x, L[L.length - 1]? = some x → x.1 = z) (tz : z ≤ t) (t0 : 0 ≤ t) (t1 : t ≤ 1099511627776) (w0 : 0 ≤ w) (w1 : w ≤ 1000000) :
    S.rdput L 0 L.length sp t w = some (0, sp, 0, (L ++ [(t, w)]).length, L ++ [(t, w)]) := by
  unfold S.rdput
  have hb : (Nat.beq 2 2 && Nat.blt 0 16 && Nat.beq 2 2 && Nat.beq 2 2 && Nat.beq 2 2 && Nat.blt 0 1 && !Nat.beq 1 2 && Nat.ble ((L.length + 1) * 16) 35184372088832) = true := by
    have : Nat.ble ((L.length + 1) * 16) 35184372088832 = true := Nat.ble_eq.mpr (by omega)
    rw [this]; rfl
  have hc : cutL L 0 L.length ++ cutL [(t, w)] 0 1 = L ++ [(t, w)] := by rw [cutL_all]; rfl
  rw [hb, hc]
  have c1 : ¬ t < 0 := by omega
  have c2 : ¬ 1099511627776 < t := by omega
  have c3 : ¬ w < 0 := by omega
  have c4 : ¬ 1000000 < w := by omega
  by_cases c5 : 0 < L.length
  · have g5 : (0 : Int) < (L.length : Int) := by omega
    have hw2 : IntKind.wrap .i64 ((L.length : Int) - 1) = ((L.length - 1 : Nat) : Int) := by rw [wrap_id (by omega) (by omega)]; omega
    have g4 : inB ((L.length - 1 : Nat) : Int) L.length = true := by unfold inB; simp; omega
    obtain ⟨y, hy⟩ : ∃ y, L[L.length - 1]? = some y := ⟨L[L.length - 1]'(by omega), by simp⟩
    have g6 : L[Int.toNat ((L.length - 1 : Nat) : Int) + 0]? = some y := by simpa using hy
    have hyz := hz y hy
    have c6 : ¬ t < z := by omega
    simp only [c1, c2, c3, c4, g5, hw2, g4, g6, hyz, c6, decide_true, decide_false, cond_true, cond_false, optK]
  · have g5 : ¬ (0 : Int) < (L.length : Int) := by omega
    simp only [c1, c2, c3, c4, g5, decide_false, cond_false, cond_true]

theorem rdmostD_loop (fu : Nat) {L : List (Int × Int)} (hq : Times L) {sp t z : Int} (t0 : 0 ≤ t) (t1 : t ≤ 1099511627776) (s0 : 0 ≤ sp) (s1 : sp ≤ 600) (hl : L.length < 1000000) (hz : ∀ x, L[L.length - 1]? = some x → x.1 = z) (z0 : 0 ≤ z) (z1 : z ≤ 1099511627776) :
    ∀ (n k : Nat) (m : Int), k ≤ L.length → L.length < n + k → S.rdmost_l0 fu L 0 L.length sp t n m k = some (mostFrom sp t m ((L.drop k).filter (keepT z)), (L.length : Int), false) := by
  intro n
  induction n with
  | zero => intro k m _ _; omega
  | succ n ih =>
    intro k m hk hn
    unfold S.rdmost_l0
    by_cases c : k < L.length
    · have g1 : ((k : Int) < (L.length : Int)) := by omega
      have g2 : inB (k : Int) L.length = true := by unfold inB; simp; omega
      obtain ⟨x, hx⟩ : ∃ x, L[k]? = some x := ⟨L[k]'(by omega), by simp⟩
      have g3 : L[Int.toNat (k : Int) + 0]? = some x := by simpa using hx
      obtain ⟨x0, x1⟩ := hq x (List.mem_of_getElem? hx)
      have hw : IntKind.wrap .i64 ((k : Int) + 1) = ((k + 1 : Nat) : Int) := by rw [wrap_id (by omega) (by omega)]; omega
      have hw2 : IntKind.wrap .i64 ((L.length : Int) - 1) = ((L.length - 1 : Nat) : Int) := by rw [wrap_id (by omega) (by omega)]; omega
      have g4 : inB ((L.length - 1 : Nat) : Int) L.length = true := by unfold inB; simp; omega
      obtain ⟨y, hy⟩ : ∃ y, L[L.length - 1]? = some y := ⟨L[L.length - 1]'(by omega), by simp⟩
      have g5 : L[Int.toNat ((L.length - 1 : Nat) : Int) + 0]? = some y := by simpa using hy
      have hyz := hz y hy
      have ht : (if (0 : Int) > t then 0 else t) = t := if_neg (by omega)
      have ht2 : (if 1099511628377 < t then 1099511628377 else t) = t := if_neg (by omega)
      simp only [g1, g2, g3, hw2, g4, g5, decide_true, cond_true, optK, hw, ht, ht2, hyz]
      rw [wrap_id (n := z - 600) (by omega) (by omega), wrap_id (n := t - sp) (by omega) (by omega), getD_drop hx c]
      by_cases c0 : x.1 < z - 600
      · have hk : keepT z x = false := by unfold keepT; simp; omega
        simp only [c0, decide_true, cond_true, List.filter_cons, hk, Bool.false_eq_true, if_false]
        exact ih (k + 1) _ (by omega) (by omega)
      · have hk : keepT z x = true := by unfold keepT; simp; omega
        simp only [c0, decide_false, cond_false, List.filter_cons, hk, if_true]
        unfold mostFrom
        by_cases cc : counts sp t x = true
        · rw [cc]
          simp only [if_true]
          have : t - sp < x.1 ∨ t ≤ x.1 := by
            unfold counts at cc
            simp at cc
            omega
          by_cases c1 : t - sp < x.1
          · simp only [c1, decide_true, cond_true]
            exact ih (k + 1) _ (by omega) (by omega)
          · have c2 : t ≤ x.1 := by omega
            simp only [c1, c2, decide_true, decide_false, cond_true, cond_false]
            exact ih (k + 1) _ (by omega) (by omega)
        · have cf : counts sp t x = false := by simpa using cc
          rw [cf]
          unfold counts at cf
          simp at cf
          have c1 : ¬ t - sp < x.1 := by omega
          have c2 : ¬ t ≤ x.1 := by omega
          simp only [c1, c2, decide_false, cond_false, Bool.false_eq_true, if_false]
          exact ih (k + 1) _ (by omega) (by omega)
    · have g1 : ¬ ((k : Int) < (L.length : Int)) := by omega
      have hk2 : k = L.length := by omega
      simp only [g1, decide_false, cond_false]
      rw [List.drop_eq_nil_of_le (by omega), hk2]; rfl
theorem rdmostD {L : List (Int × Int)} (hq : Times L) {sp t z : Int} (t0 : 0 ≤ t) (t1 : t ≤ 1099511627776) (s0 : 0 ≤ sp) (s1 : sp ≤ 600) (hl : L.length < 90000) (hz : ∀ x, L[L.length - 1]? = some x → x.1 = z) (z0 : 0 ≤ z) (z1 : z ≤ 1099511627776) :
    S.rdmost 100000 L 0 L.length sp t = some (mostFrom sp t 0 (L.filter (keepT z))) := by
  unfold S.rdmost S.rdmost_a0_0
  have := rdmostD_loop 100000 hq (sp := sp) t0 t1 s0 s1 (by omega) hz z0 z1 100000 0 0 (by omega) (by omega)
  have e : S.rdmost_l0 100000 L 0 L.length sp t 100000 0 0 = some (mostFrom sp t 0 (L.filter (keepT z)), (L.length : Int), false) := this
  rw [e]; rfl

/-! both deciders -/
/-- the document's ring that bears these records -/
def rrOf (w g nw : Int) (ov : Bool) (R : List (Int × Int)) : Rr := ⟨w, g, 0, R.length, nw, ov, R⟩
def rdOf (sp : Int) (L : List (Int × Int)) : Rd := ⟨sp, 0, L.length, L⟩

structure DP (c : Cf) (si la : Int) (mo : Bool) (R0 R1 : Rg) (H : Dl) (P0 P1 : Rr) (Q : Rd) (Rs Rq D L : List (Int × Int)) (i : Nat) : Prop where
  may : S.may c = true
  d : DRel c la c R0 R1 H Rs Rq D
  p0 : P0 = rrOf c.stable c.grain R0.nw P0.ov Rs
  p1 : P1 = rrOf c.panic c.grain R1.nw P1.ov Rq
  ov : (mo || R0.ov || R1.ov) = (P0.ov || P1.ov)
  q : Q = rdOf c.delay L
  dl : D = L.filter (keepT H.la)
  tm : Times L
  z : ∀ x, L[L.length - 1]? = some x → x.1 = H.la
  z0 : 0 ≤ H.la
  sb : si ≤ la
  l0 : Rs.length ≤ i
  l1 : Rq.length ≤ i
  l2 : L.length ≤ i
  v0 : ∀ y ∈ Rs, y.2 ≤ 1000000000
  v1 : ∀ y ∈ Rq, y.2 ≤ 1000000000

theorem moverD_eq (c : Cf) (mo : Bool) (R0 R1 : Rg) : S.mover c mo R0 R1 = (mo || R0.ov || R1.ov) := by
  unfold S.mover S.ro; cases mo <;> cases R0.ov <;> rfl
theorem rmoverD_eq (w0 g0 : Int) (lo0 len0 : Nat) (nw0 : Int) (ov0 : Bool) (r0 : RL) (w1 g1 : Int) (lo1 len1 : Nat) (nw1 : Int) (ov1 : Bool) (r1 : RL) : S.rmover w0 g0 lo0 len0 nw0 ov0 r0 w1 g1 lo1 len1 nw1 ov1 r1 = (ov0 || ov1) := by
  unfold S.rmover; cases ov0 <;> rfl

theorem dp_put {c : Cf} {si ms la : Int} {mo : Bool} {R0 R1 : Rg} {H : Dl} {P0 P1 : Rr} {Q : Rd} {Rs Rq D L : List (Int × Int)} {i : Nat} (h : DP c si la mo R0 R1 H P0 P1 Q Rs Rq D L i) (hi : i ≤ 8000) {t v : Int} (t0 : 0 ≤ t) (t1 : t ≤ 1099511627776) (v0 : 0 ≤ v) (v1 : v ≤ 1000000000) :
    ∃ (R0' R1' : Rg) (P0' P1' : Rr) (Rs' Rq' : List (Int × Int)), S.dcput c si ms la c mo R0 R1 H t v = some (0, c, si, ms, la, c, mo, R0', R1', H) ∧
      S.rmput P0.w P0.g P0.lo P0.len P0.nw P0.ov P0.r P1.w P1.g P1.lo P1.len P1.nw P1.ov P1.r t v = some (0, P0', P1') ∧ DP c si la mo R0' R1' H P0' P1' Q Rs' Rq' D L (i + 1) := by
  have hm := h.may
  have hl0 := h.l0; have hl1 := h.l1; have hl2 := h.l2
  have ht : Takes (t, v) := ⟨⟨t0, t1⟩, v0⟩
  have htk : Tk (t, v) := ⟨ht, by unfold M63; simp only; omega⟩
  obtain ⟨R0', R1', e, hD, n0, n1, o0, o1⟩ := dcput_ok (mo := mo) (si := si) (ms := ms) (x := (t, v)) hm h.d htk (by omega) (by omega)
  have f0 := rput_ok (x := (t, v)) (rokS hm) h.d.m.r0.tk (by omega) h.d.m.b0.1 h.d.m.b0.2 ht P0.ov
  have f1 := rput_ok (x := (t, v)) (rokP hm) h.d.m.r1.tk (by omega) h.d.m.b1.1 h.d.m.b1.2 ht P1.ov
  have k0 := h.p0; have k1 := h.p1; have hov := h.ov
  have ln0 := pR_len c.grain (NB c.stable c.grain) R0.nw (t, v) Rs
  have ln1 := pR_len c.grain (NB c.panic c.grain) R1.nw (t, v) Rq
  have w0 := pR_all (g := c.grain) (n := NB c.stable c.grain) (nw := R0.nw) (x := (t, v)) h.v0 (by simp only; omega)
  have w1 := pR_all (g := c.grain) (n := NB c.panic c.grain) (nw := R1.nw) (x := (t, v)) h.v1 (by simp only; omega)
  obtain ⟨pw0, pg0, plo0, plen0, pnw0, pov0, pr0⟩ := P0
  obtain ⟨pw1, pg1, plo1, plen1, pnw1, pov1, pr1⟩ := P1
  unfold rrOf at k0 k1
  simp only [Rr.mk.injEq] at k0 k1
  obtain ⟨rfl, rfl, rfl, rfl, rfl, -, rfl⟩ := k0
  obtain ⟨rfl, rfl, rfl, rfl, rfl, -, rfl⟩ := k1
  refine ⟨R0', R1', rrOf c.stable c.grain R0'.nw pov0 (pR c.grain (NB c.stable c.grain) R0.nw (t, v) pr0), rrOf c.panic c.grain R1'.nw pov1 (pR c.grain (NB c.panic c.grain) R1.nw (t, v) pr1), _, _, e, ?_, ⟨hm, hD, rfl, rfl, ?_, h.q, h.dl, h.tm, h.z, h.z0, h.sb, by omega, by omega, by omega, w0, w1⟩⟩
  · unfold S.rmput
    simp only at f0 f1
    simp only [f0, f1, optK, n0, n1]
    rfl
  · rw [o0, o1]; exact hov

/-- as dcnext_ok, with the time of what holds -/
theorem dcnext_ok2 {c mc : Cf} {si ms la : Int} {mo : Bool} {Rs Rq D : List (Int × Int)} {R0 R1 : Rg} {H : Dl} (hm : S.may c = true) (h : DRel c la mc R0 R1 H Rs Rq D) {t r : Int} (t0 : la ≤ t) (t1 : t ≤ 1099511627776) (r0 : 0 ≤ r) (r1 : r ≤ 100)
    (h0 : Rs.length ≤ 70000) (h1 : Rq.length ≤ 70000) (hd : D.length ≤ 80000) (v0 : ∀ y ∈ Rs, y.2 ≤ 1000000000000) (v1 : ∀ y ∈ Rq, y.2 ≤ 1000000000000)
    {s q : Int} (hs : s = mn c.stable c.grain t Rs) (hq : q = mn c.panic c.grain t Rq) {p : Int × Int} (hp : p = S.next c si ms t (S.wover c (Wn c q) r))
    {D' : List (Int × Int)} (hD : D' = D.filter (keepT t) ++ [(t, letN c p.1 s q r)]) {k : Int × Int × Int} (hk : k = S.keep p.1 p.2 (mostFrom c.delay t 0 D')) :
    ∃ R0' R1' H', S.dcnext c si ms la mc mo R0 R1 H t r = some (t, s, q, bnds c k.2.2, decide (0 ≤ k.1), S.excess c r q, 0, c, k.1, k.2.1, t, mc, mo, R0', R1', H') ∧ DRel c t mc R0' R1' H' Rs Rq D' ∧
      R0'.nw = R0.nw ∧ R1'.nw = R1.nw ∧ R0'.ov = R0.ov ∧ R1'.ov = R1.ov ∧ H'.la = t := by
  obtain ⟨R0', R1', e, hM, q1, q2, q3, q4⟩ := mmeans_ok (mc := mc) (mo := mo) hm h.m (t := t) (by have := h.la0; omega) t1 h0 h1
  have hla0 := h.la0
  have ms0 := mn_range (w := c.stable) (g := c.grain) (t := t) h.m.r0.tk v0 (by omega) (by omega) h0
  have mq0 := mn_range (w := c.panic) (g := c.grain) (t := t) h.m.r1.tk v1 (by omega) (by omega) h1
  rw [← hs, ← hq] at e
  rw [← hs] at ms0
  rw [← hq] at mq0
  rw [ms0.2.2, Bool.or_false] at q3
  rw [mq0.2.2, Bool.or_false] at q4
  have p1 : ¬ t < la := by omega
  have p2 : ¬ 1099511627776 < t := by omega
  have p3 : ¬ r < 0 := by omega
  have p4 : ¬ 100 < r := by omega
  have hln := letN_range c hm p.1 s q r r0 (by omega)
  have hlen := h.hold.len
  obtain ⟨q', hq', ed⟩ := dput_yes h.hold h.times (sp := H.sp) (la := H.la) (t := t) (w := letN c p.1 s q r) (by have := h.hla; omega) (by omega) t1 hln.1 hln.2 (by omega)
  have hqD : q' = D' := by rw [hq', hD]
  rw [hqD] at ed
  have hT : Times D' := by
    intro x hx
    rw [hD] at hx
    rcases List.mem_append.mp hx with hx | hx
    · exact h.times x (List.mem_filter.mp hx).1
    · simp at hx; subst hx; exact ⟨by simp only; omega, by simp only; omega⟩
  have hW : Holds (D'.map some) 0 D'.length D' := Holds.whole D'
  have hdl : D'.length < 90000 := by
    have := List.length_filter_le (keepT t) D
    rw [hD, List.length_append, List.length_singleton]; omega
  have em := dmost_eq hW hT (sp := H.sp) (la := t) (t := t) (by omega) (by omega) hdl
  rw [h.hsp] at em ed
  unfold S.dcnext
  simp only [p1, p2, p3, p4, decide_false, cond_false, e, optK, wof_eq c hm s ms0.1 (by omega), wof_eq c hm q mq0.1 (by omega), limit_eq c hm, ← hp, is_eq]
  rw [h.hsp]
  by_cases c0 : 0 ≤ p.1
  · have e1 : letN c p.1 s q r = (if Li c (Wn c q) r > Li c (Wn c s) r then Li c (Wn c q) r else Li c (Wn c s) r) := by unfold letN; rw [if_pos c0]
    rw [e1] at ed
    simp only [c0, decide_true, cond_true, ed, em, optK, ← hk]
    exact ⟨R0', R1', _, rfl, ⟨hM, h.mc, hW, hT, ⟨by omega, t1⟩, by simp, rfl⟩, q1, q2, q3, q4, rfl⟩
  · have e1 : letN c p.1 s q r = Li c (Wn c s) r := by unfold letN; rw [if_neg c0]
    rw [e1] at ed
    simp only [c0, decide_false, cond_false, ed, em, optK, ← hk]
    exact ⟨R0', R1', _, rfl, ⟨hM, h.mc, hW, hT, ⟨by omega, t1⟩, by simp, rfl⟩, q1, q2, q3, q4, rfl⟩

theorem next_le {c : Cf} {si ms now : Int} {ov : Bool} (h : si ≤ now) (h0 : 0 ≤ now) : (S.next c si ms now ov).1 ≤ now := by
  rw [next_eq]
  repeat' split
  all_goals (simp only; omega)
theorem keep_fst (t m w : Int) : (S.keep t m w).1 = t := by
  unfold S.keep; cases S.is t m <;> rfl

theorem filt_sub {L : List (Int × Int)} {z t : Int} (h : z ≤ t) : (L.filter (keepT z)).filter (keepT t) = L.filter (keepT t) := by
  rw [List.filter_filter]
  congr 1
  funext x
  unfold keepT
  by_cases h1 : t - x.1 ≤ 600
  · have h2 : z - x.1 ≤ 600 := by omega
    simp [h1, h2]
  · simp [h1]
theorem filt_snoc {L : List (Int × Int)} {t w : Int} : (L ++ [(t, w)]).filter (keepT t) = L.filter (keepT t) ++ [(t, w)] := by
  rw [List.filter_append]
  have : keepT t (t, w) = true := by unfold keepT; simp
  simp [this]

theorem dp_next {c : Cf} {si ms la : Int} {mo : Bool} {R0 R1 : Rg} {H : Dl} {P0 P1 : Rr} {Q : Rd} {Rs Rq D L : List (Int × Int)} {i : Nat} (h : DP c si la mo R0 R1 H P0 P1 Q Rs Rq D L i) (hi : i ≤ 8000) (t r : Int) :
    ∃ (x : Int × Int × Int × Int × Bool × Int × Int) (si' ms' la' : Int) (R0' R1' : Rg) (H' : Dl) (P0' P1' : Rr) (Q' : Rd) (D' L' : List (Int × Int)),
      S.dcnext c si ms la c mo R0 R1 H t r = some (x.1, x.2.1, x.2.2.1, x.2.2.2.1, x.2.2.2.2.1, x.2.2.2.2.2.1, x.2.2.2.2.2.2, c, si', ms', la', c, mo, R0', R1', H') ∧
      S.rdcnext c si ms la P0 P1 Q t r = some (x.1, x.2.1, x.2.2.1, x.2.2.2.1, x.2.2.2.2.1, x.2.2.2.2.2.1, x.2.2.2.2.2.2, c, si', ms', la', P0', P1', Q') ∧
      DP c si' la' mo R0' R1' H' P0' P1' Q' Rs Rq D' L' (i + 1) ∧ (x.2.2.2.2.2.2 = 0 → 0 ≤ t ∧ t ≤ 1099511627776) := by
  have hm := h.may
  have hl0 := h.l0; have hl1 := h.l1; have hl2 := h.l2
  have hla0 := h.d.la0
  by_cases hbad : t < la ∨ 1099511627776 < t ∨ r < 0 ∨ 100 < r
  · refine ⟨(0, 0, 0, 0, false, 0, 1), si, ms, la, R0, R1, H, P0, P1, Q, D, L, ?_, ?_, ⟨hm, h.d, h.p0, h.p1, h.ov, h.q, h.dl, h.tm, h.z, h.z0, h.sb, by omega, by omega, by omega, h.v0, h.v1⟩, fun e => by simp at e⟩
    · unfold S.dcnext
      by_cases a : t < la
      · simp only [a, decide_true, cond_true]
      · by_cases b : 1099511627776 < t
        · simp only [a, b, decide_true, decide_false, cond_true, cond_false]
        · by_cases e : r < 0
          · simp only [a, b, e, decide_true, decide_false, cond_true, cond_false]
          · have f : 100 < r := by omega
            simp only [a, b, e, f, decide_true, decide_false, cond_true, cond_false]
    · unfold S.rdcnext
      by_cases a : t < la
      · simp only [a, decide_true, cond_true]
      · by_cases b : 1099511627776 < t
        · simp only [a, b, decide_true, decide_false, cond_true, cond_false]
        · by_cases e : r < 0
          · simp only [a, b, e, decide_true, decide_false, cond_true, cond_false]
          · have f : 100 < r := by omega
            simp only [a, b, e, f, decide_true, decide_false, cond_true, cond_false]
  · have t0 : la ≤ t := by omega
    have t1 : t ≤ 1099511627776 := by omega
    have r0 : 0 ≤ r := by omega
    have r1 : r ≤ 100 := by omega
    have hDl : D.length ≤ i := by rw [h.dl]; exact Nat.le_trans (List.length_filter_le _ _) hl2
    have V0 : ∀ y ∈ Rs, y.2 ≤ 1000000000000 := fun y hy => by have := h.v0 y hy; omega
    have V1 : ∀ y ∈ Rq, y.2 ≤ 1000000000000 := fun y hy => by have := h.v1 y hy; omega
    obtain ⟨s, hs⟩ : ∃ s, s = mn c.stable c.grain t Rs := ⟨_, rfl⟩
    obtain ⟨q, hq⟩ : ∃ q, q = mn c.panic c.grain t Rq := ⟨_, rfl⟩
    obtain ⟨p, hp⟩ : ∃ p, p = S.next c si ms t (S.wover c (Wn c q) r) := ⟨_, rfl⟩
    obtain ⟨N, hN⟩ : ∃ N, N = letN c p.1 s q r := ⟨_, rfl⟩
    obtain ⟨D', hD'⟩ : ∃ D', D' = D.filter (keepT t) ++ [(t, N)] := ⟨_, rfl⟩
    obtain ⟨k, hk⟩ : ∃ k, k = S.keep p.1 p.2 (mostFrom c.delay t 0 D') := ⟨_, rfl⟩
    obtain ⟨R0', R1', H', e, hD2, n0, n1, o0, o1, hla⟩ := dcnext_ok2 (mo := mo) (si := si) (ms := ms) hm h.d t0 t1 r0 r1 (by omega) (by omega) (by omega) V0 V1 hs hq hp (by rw [hD', hN]) hk
    have ms0 := mn_range (w := c.stable) (g := c.grain) (t := t) h.d.m.r0.tk V0 (by omega) (by omega) (by omega)
    have mq0 := mn_range (w := c.panic) (g := c.grain) (t := t) h.d.m.r1.tk V1 (by omega) (by omega) (by omega)
    rw [← hs] at ms0
    rw [← hq] at mq0
    have f0 := rmean_ok (w := c.stable) (g := c.grain) (nw := R0.nw) (R := Rs) (rokS hm) h.d.m.r0.tk (by omega) P0.ov (t := t) (by omega) (by omega)
    have f1 := rmean_ok (w := c.panic) (g := c.grain) (nw := R1.nw) (R := Rq) (rokP hm) h.d.m.r1.tk (by omega) P1.ov (t := t) (by omega) (by omega)
    have m0 : over (vs c.grain (inW (NB c.stable c.grain) (t.tdiv c.grain)) Rs) = false := ms0.2.2
    have m1 : over (vs c.grain (inW (NB c.panic c.grain) (t.tdiv c.grain)) Rq) = false := mq0.2.2
    have u0 : meanOf (min M63 (vs c.grain (inW (NB c.stable c.grain) (t.tdiv c.grain)) Rs)) (ns c.grain (inW (NB c.stable c.grain) (t.tdiv c.grain)) Rs) = s := hs.symm
    have u1 : meanOf (min M63 (vs c.grain (inW (NB c.panic c.grain) (t.tdiv c.grain)) Rq)) (ns c.grain (inW (NB c.panic c.grain) (t.tdiv c.grain)) Rq) = q := hq.symm
    rw [m0, Bool.or_false, u0] at f0
    rw [m1, Bool.or_false, u1] at f1
    have hok := (may_iff c).mp hm
    have hdly := hok.delay
    have hln := letN_range c hm p.1 s q r r0 (by omega)
    rw [← hN] at hln
    have hHla : H.la ≤ t := by have := h.d.hla; omega
    have ep := rdputD (L := L) (sp := c.delay) (t := t) (w := N) (by omega) h.z hHla (by omega) t1 hln.1 hln.2
    have hTm : Times (L ++ [(t, N)]) := by
      intro x hx
      rcases List.mem_append.mp hx with hx | hx
      · exact h.tm x hx
      · simp at hx; subst hx; exact ⟨by simp only; omega, by simp only; omega⟩
    have hz' : ∀ x, (L ++ [(t, N)])[(L ++ [(t, N)]).length - 1]? = some x → x.1 = t := by
      intro x hx; simp at hx; rw [← hx]
    have em := rdmostD hTm (sp := c.delay) (t := t) (z := t) (by omega) t1 hdly.1 hdly.2 (by simp; omega) hz' (by omega) t1
    have eD : (L ++ [(t, N)]).filter (keepT t) = D' := by rw [filt_snoc, hD', h.dl, filt_sub hHla]
    rw [eD] at em
    have enx : S.rnext si ms c t (S.wover c (Wn c q) r) = p := by rw [rnextD_eq hm (by omega) t1 (by have := h.sb; omega), hp]
    have hsp1 : p.1 ≤ t := by rw [hp]; exact next_le (by have := h.sb; omega) (by omega)
    have hk1 : k.1 = p.1 := by rw [hk]; exact keep_fst _ _ _
    have b1 : ¬ t < la := by omega
    have b2 : ¬ 1099511627776 < t := by omega
    have b3 : ¬ r < 0 := by omega
    have b4 : ¬ 100 < r := by omega
    have k0 := h.p0; have kk1 := h.p1; have kq := h.q; have hov := h.ov
    obtain ⟨pw0, pg0, plo0, plen0, pnw0, pov0, pr0⟩ := P0
    obtain ⟨pw1, pg1, plo1, plen1, pnw1, pov1, pr1⟩ := P1
    obtain ⟨qsp, qlo, qlen, qr⟩ := Q
    unfold rrOf at k0 kk1
    unfold rdOf at kq
    simp only [Rr.mk.injEq] at k0 kk1
    simp only [Rd.mk.injEq] at kq
    obtain ⟨rfl, rfl, rfl, rfl, rfl, -, rfl⟩ := k0
    obtain ⟨rfl, rfl, rfl, rfl, rfl, -, rfl⟩ := kk1
    obtain ⟨rfl, rfl, rfl, rfl⟩ := kq
    refine ⟨(t, s, q, bnds c k.2.2, decide (0 ≤ k.1), S.excess c r q, 0), k.1, k.2.1, t, R0', R1', H', rrOf c.stable c.grain R0.nw pov0 pr0, rrOf c.panic c.grain R1.nw pov1 pr1, rdOf c.delay (qr ++ [(t, N)]), D', qr ++ [(t, N)], e, ?_, ⟨hm, hD2, ?_, ?_, ?_, rfl, ?_, hTm, ?_, by omega, by omega, by omega, by omega, ?_, h.v0, h.v1⟩, fun _ => ⟨by omega, t1⟩⟩
    · unfold S.rdcnext
      simp only at f0 f1 ep em
      simp only [b1, b2, b3, b4, decide_false, cond_false, f0, f1, optK, rofD_eq c hm s ms0.1 (by omega), rofD_eq c hm q mq0.1 (by omega), rlimitD_eq, limit_eq c hm, roverD_eq, enx, S.ris]
      by_cases c0 : 0 ≤ p.1
      · have e1 : N = (if Li c (Wn c q) r > Li c (Wn c s) r then Li c (Wn c q) r else Li c (Wn c s) r) := by rw [hN]; unfold letN; rw [if_pos c0]
        rw [e1] at ep em
        simp only [c0, decide_true, cond_true, ep, em, optK, rkeepD_eq, ← hk, rexcessD_eq]
        rw [e1]; rfl
      · have e1 : N = Li c (Wn c s) r := by rw [hN]; unfold letN; rw [if_neg c0]
        rw [e1] at ep em
        simp only [c0, decide_false, cond_false, ep, em, optK, rkeepD_eq, ← hk, rexcessD_eq]
        rw [e1]; rfl
    · rw [n0]; rfl
    · rw [n1]; rfl
    · rw [o0, o1]; exact hov
    · rw [hla, eD]
    · rw [hla]; exact hz'
    · rw [List.length_append, List.length_singleton]; omega

theorem mchangeD_ok {c d : Cf} {mo : Bool} {Rs Rq : List (Int × Int)} {R0 R1 : Rg} (hd : S.may d = true) (hg : d.grain = c.grain) (h : MRel c Rs Rq R0 R1) (h0 : Rs.length ≤ 70000) (h1 : Rq.length ≤ 70000) :
    ∃ R0' R1', S.mchange c mo R0 R1 d = some (0, d, mo, R0', R1') ∧ MRel d (Rs.filter (Kp d.grain (NB d.stable d.grain) R0.nw)) (Rq.filter (Kp d.grain (NB d.panic d.grain) R1.nw)) R0' R1' ∧ R0'.nw = R0.nw ∧ R1'.nw = R1.nw ∧ R0'.ov = R0.ov ∧ R1'.ov = R1.ov := by
  obtain ⟨lo0, len0, w0, g0, n0, nw0, ov0, l0, f0⟩ := R0
  obtain ⟨lo1, len1, w1, g1, n1, nw1, ov1, l1, f1⟩ := R1
  obtain ⟨r0, hw0, hg0, hn0, b0, r1, hw1, hg1, hn1, b1⟩ := h
  simp only at r0 hw0 hg0 hn0 b0 r1 hw1 hg1 hn1 b1 ⊢
  rw [← hg] at r0 r1 hg0 hg1 hn0 hn1
  subst hw0; subst hn0; subst hw1; subst hn1
  obtain ⟨lo', len', l', f', e, hP⟩ := rr_ok r0 (rokS hd) b0.1 b0.2 h0 ov0
  obtain ⟨lo2, len2, l2, f2, e2, hP2⟩ := rr_ok r1 (rokP hd) b1.1 b1.2 h1 ov1
  unfold S.mchange
  rw [hg0, hg1]
  simp only [hd, hg, decide_true, Bool.not_true, cond_false]
  rw [hg] at e e2
  simp only [e, e2, optK]
  rw [hg] at hP hP2
  refine ⟨_, _, rfl, ⟨?_, rfl, hg.symm, by rw [hg], b0, ?_, rfl, hg.symm, by rw [hg], b1⟩, rfl, rfl, rfl, rfl⟩
  · rw [hg]; exact hP
  · rw [hg]; exact hP2

theorem dp_change {c : Cf} {si ms la : Int} {mo : Bool} {R0 R1 : Rg} {H : Dl} {P0 P1 : Rr} {Q : Rd} {Rs Rq D L : List (Int × Int)} {i : Nat} (h : DP c si la mo R0 R1 H P0 P1 Q Rs Rq D L i) (hi : i ≤ 8000) (d : Cf) :
    ∃ (e : Int) (c' : Cf) (ms' : Int) (mo' : Bool) (R0' R1' : Rg) (H' : Dl) (P0' P1' : Rr) (Q' : Rd) (Rs' Rq' : List (Int × Int)),
      S.dcchange c si ms la c mo R0 R1 H d = some (e, c', si, ms', la, c', mo', H', R0', R1') ∧
      S.rdcchange c si ms la P0 P1 Q d = some (e, c', si, ms', la, P0', P1', Q') ∧ DP c' si la mo' R0' R1' H' P0' P1' Q' Rs' Rq' D L (i + 1) := by
  have hm := h.may
  have hl0 := h.l0; have hl1 := h.l1; have hl2 := h.l2
  have pg : P0.g = c.grain := by rw [h.p0]; rfl
  cases hd : S.may d with
  | false =>
    refine ⟨1, c, ms, mo, R0, R1, H, P0, P1, Q, Rs, Rq, ?_, ?_, ⟨hm, h.d, h.p0, h.p1, h.ov, h.q, h.dl, h.tm, h.z, h.z0, h.sb, by omega, by omega, by omega, h.v0, h.v1⟩⟩
    · unfold S.dcchange; rw [hd]; rfl
    · have e : S.rmchange_p P0.w P0.g P0.lo P0.len P0.nw P0.ov P0.r P1.w P1.g P1.lo P1.len P1.nw P1.ov P1.r d = some (1, P0, P1) := by
        unfold S.rmchange_p S.rmchange; rw [rmay_eq, hd]; rfl
      unfold S.rdcchange
      rw [e]; rfl
  | true =>
    have hdl := ((may_iff d).mp hd).delay
    have q1 : ¬ d.delay < 0 := by omega
    have q2 : ¬ 600 < d.delay := by omega
    have rc : S.rcmost d = S.cmost d := rfl
    have kq := h.q
    by_cases hg : d.grain = c.grain
    · obtain ⟨R0', R1', e, hM, n0, n1, o0, o1⟩ := mchangeD_ok (mo := mo) hd hg h.d.m (by omega) (by omega)
      have f0 := rresize_ok (w := c.stable) (w' := d.stable) (g := d.grain) (nw := R0.nw) (R := Rs) (rokS hd) h.d.m.r0.tk (by omega) h.d.m.b0.1 h.d.m.b0.2 P0.ov
      have f1 := rresize_ok (w := c.panic) (w' := d.panic) (g := d.grain) (nw := R1.nw) (R := Rq) (rokP hd) h.d.m.r1.tk (by omega) h.d.m.b1.1 h.d.m.b1.2 P1.ov
      have ln0 := List.length_filter_le (Kp d.grain (NB d.stable d.grain) R0.nw) Rs
      have ln1 := List.length_filter_le (Kp d.grain (NB d.panic d.grain) R1.nw) Rq
      have w0 : ∀ y ∈ Rs.filter (Kp d.grain (NB d.stable d.grain) R0.nw), y.2 ≤ 1000000000 := fun y hy => h.v0 y (List.mem_filter.mp hy).1
      have w1 : ∀ y ∈ Rq.filter (Kp d.grain (NB d.panic d.grain) R1.nw), y.2 ≤ 1000000000 := fun y hy => h.v1 y (List.mem_filter.mp hy).1
      have k0 := h.p0; have k1 := h.p1; have hov := h.ov
      obtain ⟨pw0, pg0, plo0, plen0, pnw0, pov0, pr0⟩ := P0
      obtain ⟨pw1, pg1, plo1, plen1, pnw1, pov1, pr1⟩ := P1
      unfold rrOf at k0 k1
      simp only [Rr.mk.injEq] at k0 k1
      obtain ⟨rfl, rfl, rfl, rfl, rfl, -, rfl⟩ := k0
      obtain ⟨rfl, rfl, rfl, rfl, rfl, -, rfl⟩ := k1
      have er : S.rmchange_p c.stable c.grain 0 pr0.length R0.nw pov0 pr0 c.panic c.grain 0 pr1.length R1.nw pov1 pr1 d = some (0, rrOf d.stable d.grain R0'.nw pov0 (pr0.filter (Kp d.grain (NB d.stable d.grain) R0.nw)), rrOf d.panic d.grain R1'.nw pov1 (pr1.filter (Kp d.grain (NB d.panic d.grain) R1.nw))) := by
        unfold S.rmchange_p S.rmchange
        simp only at f0 f1
        rw [hg] at f0 f1
        simp only [rmay_eq, hd, hg, f0, f1, n0, n1, optK, Bool.not_true, decide_true, cond_false, Option.bind_some, Sum.elim_inl]
        rfl
      refine ⟨0, d, (if S.cmost d < ms then S.cmost d else ms), mo, R0', R1', ⟨H.lo, H.len, d.delay, H.la, H.l⟩, rrOf d.stable d.grain R0'.nw pov0 (pr0.filter (Kp d.grain (NB d.stable d.grain) R0.nw)), rrOf d.panic d.grain R1'.nw pov1 (pr1.filter (Kp d.grain (NB d.panic d.grain) R1.nw)), rdOf d.delay L, _, _, ?_, ?_, ⟨hd, ⟨hM, rfl, h.d.hold, h.d.times, h.d.la0, h.d.hla, rfl⟩, rfl, rfl, ?_, rfl, h.dl, h.tm, h.z, h.z0, h.sb, by omega, by omega, by omega, w0, w1⟩⟩
      · unfold S.dcchange
        simp only [hd, Bool.not_true, cond_false, e, optK, S.dspan, q1, q2, decide_false]
      · unfold S.rdcchange
        simp only [er, optK, decide_true, Bool.not_true, cond_false, rc, S.rdchange, q1, q2, decide_false, kq, rdOf]
      · rw [o0, o1]; exact hov
    · have hg' : ¬ d.grain = P0.g := by rw [pg]; exact hg
      have er : S.rmchange_p P0.w P0.g P0.lo P0.len P0.nw P0.ov P0.r P1.w P1.g P1.lo P1.len P1.nw P1.ov P1.r d = some (0, rrOf d.stable d.grain (-1) (P0.ov || P1.ov) [], rrOf d.panic d.grain (-1) false []) := by
        unfold S.rmchange_p S.rmchange
        simp only [rmay_eq, hd, hg', rnew_yes (rokS hd), rnew_yes (rokP hd), optK, Bool.not_true, Bool.not_false, decide_false, cond_true, cond_false, Sum.elim_inr, rmoverD_eq, Option.bind_some, Sum.elim_inl]
        rfl
      have em : S.mchange c mo R0 R1 d = some (0, d, (mo || R0.ov || R1.ov), rg0 d.stable d.grain, rg0 d.panic d.grain) := by
        unfold S.mchange
        simp only [hd, hg, mnew_yes hd, optK, Bool.not_true, Bool.not_false, decide_false, cond_true, cond_false, Sum.elim_inr, moverD_eq]
      refine ⟨0, d, (if S.cmost d < ms then S.cmost d else ms), (mo || R0.ov || R1.ov), rg0 d.stable d.grain, rg0 d.panic d.grain, ⟨H.lo, H.len, d.delay, H.la, H.l⟩, rrOf d.stable d.grain (-1) (P0.ov || P1.ov) [], rrOf d.panic d.grain (-1) false [], rdOf d.delay L, [], [], ?_, ?_, ⟨hd, ⟨mrel0 d, rfl, h.d.hold, h.d.times, h.d.la0, h.d.hla, rfl⟩, rfl, rfl, ?_, rfl, h.dl, h.tm, h.z, h.z0, h.sb, by simp, by simp, by omega, fun _ hh => (by cases hh), fun _ hh => (by cases hh)⟩⟩
      · unfold S.dcchange
        simp only [hd, Bool.not_true, cond_false, em, optK, S.dspan, q1, q2, decide_false]
      · unfold S.rdcchange
        simp only [er, optK, decide_true, Bool.not_true, cond_false, rc, S.rdchange, q1, q2, decide_false, kq, rdOf]
      · rw [h.ov]; simp [rg0, rrOf]

theorem rdcnew_yes {c : Cf} (hm : S.may c = true) : S.rdcnew_p c = some (.inr (c, rrOf c.stable c.grain (-1) false [], rrOf c.panic c.grain (-1) false [], rdOf c.delay [])) := by
  have hd := ((may_iff c).mp hm).delay
  have p1 : ¬ c.delay < 0 := by omega
  have p2 : ¬ 600 < c.delay := by omega
  have e2 : S.rmnew_p c = some (.inr (rrOf c.stable c.grain (-1) false [], rrOf c.panic c.grain (-1) false [])) := by
    unfold S.rmnew_p S.rmnew
    simp only [cf_etaW, rmay_eq, hm, Bool.not_true, cond_false, rnew_yes (rokS hm), rnew_yes (rokP hm), Option.bind_some, Sum.elim_inr]
    rfl
  unfold S.rdcnew_p S.rdcnew
  simp only [cf_etaW, rmay_eq, hm, Bool.not_true, cond_false, e2, optK, Sum.elim_inr, S.rdnew, p1, p2, decide_false, Option.bind_some]
  rfl
theorem rdcnew_no {c : Cf} (hm : S.may c = false) : S.rdcnew_p c = some (.inl ()) := by
  unfold S.rdcnew_p S.rdcnew
  simp only [cf_etaW, rmay_eq, hm, Bool.not_false, cond_true, Option.bind_some, Sum.elim_inl]
theorem dcnew_no {c : Cf} (hm : S.may c = false) : S.dcnew_p c = some (.inl ()) := by
  unfold S.dcnew_p S.dcnew
  simp only [cf_etaW, hm, Bool.not_false, cond_true, Option.bind_some, Sum.elim_inl]
theorem dp0 {c : Cf} (hm : S.may c = true) : DP c (-1) 0 false (rg0 c.stable c.grain) (rg0 c.panic c.grain) ⟨0, 0, c.delay, 0, []⟩ (rrOf c.stable c.grain (-1) false []) (rrOf c.panic c.grain (-1) false []) (rdOf c.delay []) [] [] [] [] 0 :=
  ⟨hm, drel0 c, rfl, rfl, rfl, rfl, rfl, fun _ h => (by cases h), fun x h => (by simp at h), by simp, by omega, by simp, by simp, by simp, fun _ h => (by cases h), fun _ h => (by cases h)⟩
end Go.Proofs.YtdgipcjigbagfaaGreat.AB
