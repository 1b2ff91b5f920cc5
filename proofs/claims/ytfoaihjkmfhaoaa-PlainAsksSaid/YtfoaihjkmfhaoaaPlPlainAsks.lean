/- PlainAsks answers true. -/
import Derived.Test.YtfoaihjkmfhaoaaPlPlain
import Derived.Test.YtfoaihjkmfhaoaaSPlainAsksz
namespace Go.Proofs.Ytfoaihjkmfhaoaa.AB
set_option linter.unusedVariables false
set_option linter.unusedSimpArgs false

theorem tdv {a g : Int} (a0 : 0 ≤ a) (g1 : 1 ≤ g) : 0 ≤ a.tdiv g ∧ a.tdiv g ≤ a := ⟨Int.tdiv_nonneg a0 (by omega), Int.tdiv_le_self _ a0⟩
theorem radd_eq' (a b : Int) : S.radd a b = S.madd a b := by
  unfold S.radd S.madd S.mend
  by_cases h : 0 < b
  · have h2 : ¬ b < 0 := by omega
    simp [h, h2]
  · simp [h]

/-- the bucket of a record -/
def bk (g : Int) (x : Int × Int) : Int := x.1.tdiv g
theorem bk_b {g : Int} {x : Int × Int} (g1 : 1 ≤ g) (h : Takes x) : 0 ≤ bk g x ∧ bk g x ≤ 1099511627776 := by
  obtain ⟨⟨h0, h1⟩, _⟩ := h
  have := tdv (g := g) h0 g1
  unfold bk; omega
theorem bk_w {g : Int} {x : Int × Int} (g1 : 1 ≤ g) (h : Takes x) : IntKind.wrap .i64 (x.1.tdiv g) = bk g x := by
  have := bk_b g1 h
  exact wrap_id (n := bk g x) (by omega) (by omega)
def NB (w g : Int) : Int := (w + g - 1).tdiv g
theorem NB_b {w g : Int} (g1 : 1 ≤ g) (gw : g ≤ w) (w1 : w ≤ 600) : 1 ≤ NB w g ∧ NB w g ≤ 1200 := by
  have h := tdv (a := w + g - 1) (g := g) (by omega) g1
  have h2 : (g : Int).tdiv g ≤ (w + g - 1).tdiv g := Int.tdiv_le_tdiv (by omega) (by omega)
  have h3 : (g : Int).tdiv g = 1 := Int.tdiv_self (by omega)
  unfold NB; omega
theorem pbuckets_eq {w g : Int} (g1 : 1 ≤ g) (gw : g ≤ w) (w1 : w ≤ 600) : S.pbuckets w g = some (NB w g) := by
  have h := NB_b g1 gw w1
  have z : ¬ g = 0 := by omega
  unfold S.pbuckets
  rw [wrap_id (n := w + g) (by omega) (by omega), wrap_id (n := w + g - 1) (by omega) (by omega), wrap_id (n := (w + g - 1).tdiv g) (by unfold NB at h; omega) (by unfold NB at h; omega)]
  simp only [z, decide_false, cond_false]; rfl
theorem rN_eq {w g : Int} (g1 : 1 ≤ g) (gw : g ≤ w) (w1 : w ≤ 600) (r : RL) (lo len : Nat) (nw : Int) (ov : Bool) : S.rN r lo len w g nw ov = some (NB w g) := by
  have h := NB_b g1 gw w1
  have z : ¬ g = 0 := by omega
  unfold S.rN
  rw [wrap_id (n := w + g) (by omega) (by omega), wrap_id (n := w + g - 1) (by omega) (by omega), wrap_id (n := (w + g - 1).tdiv g) (by unfold NB at h; omega) (by unfold NB at h; omega)]
  simp only [z, decide_false, cond_false]; rfl
theorem rbucket_eq {w g t : Int} (g1 : 1 ≤ g) (t0 : 0 ≤ t) (t1 : t < 9223372036854775808) (r : RL) (lo len : Nat) (nw : Int) (ov : Bool) : S.rbucket r lo len w g nw ov t = some (t.tdiv g) := by
  have h := tdv t0 g1
  have z : ¬ g = 0 := by omega
  unfold S.rbucket
  rw [wrap_id (n := t.tdiv g) (by omega) (by omega)]
  simp only [z, decide_false, cond_false]

/-- what is summed -/
def CntB (g n e tb : Int) (x : Int × Int) : Prop := Takes x ∧ (bk g x ≤ tb ∧ tb - bk g x < n) ∧ e - bk g x < n
instance (g n e t : Int) (x : Int × Int) : Decidable (CntB g n e t x) := inferInstanceAs (Decidable (_ ∧ _))
def sumB (g n e tb : Int) : Int → Int → List (Int × Int) → Int × Int
  | s, c, [] => (s, c)
  | s, c, x :: r => if CntB g n e tb x then sumB g n e tb (S.madd s x.2).1 (c + 1) r else sumB g n e tb s c r
theorem sumB_c (g n e tb : Int) : ∀ (q : List (Int × Int)) (s c : Int), c ≤ (sumB g n e tb s c q).2 := by
  intro q
  induction q with
  | nil => intro s c; exact Int.le_refl _
  | cons x r ih =>
    intro s c
    unfold sumB
    split
    · have := ih (S.madd s x.2).1 (c + 1); omega
    · exact ih s c

theorem psumB_loop (fu : Nat) (l : RL) (w g t n e : Int) (q : List (Int × Int)) (ro : Bool) (hl : q.length < 100000) (g1 : 1 ≤ g) (n0 : 1 ≤ n) (n1 : n ≤ 1200) (e1 : e ≤ 1099511627776) (t0 : 0 ≤ t) (t1 : t < 9223372036854775808)
    (hq : ∀ x ∈ q, Takes x → bk g x ≤ e) :
    ∀ (k i : Nat) (nw s c : Int), i ≤ q.length → q.length < k + i → -1 ≤ nw → nw ≤ e → 0 ≤ c → c ≤ i →
    ∃ nw', S.psum_l0 fu l 0 q.length ro w g t k n e nw s c i q = some (n, e, nw', (sumB g n e (t.tdiv g) s c (q.drop i)).1, (sumB g n e (t.tdiv g) s c (q.drop i)).2, (q.length : Int), false, q) := by
  intro k
  induction k with
  | zero => intro i nw s c _ _ _ _ _ _; omega
  | succ k ih =>
    intro i nw s c hi hk w0 w1 c0 c1
    unfold S.psum_l0
    by_cases c2 : i < q.length
    · have g1' : ((i : Int) < ((q.length : Nat) : Int)) := by omega
      have g2 : inB (i : Int) q.length = true := by unfold inB; simp; omega
      obtain ⟨x, hx⟩ : ∃ x, q[i]? = some x := ⟨q[i]'c2, by simp⟩
      have g3 : q[Int.toNat (i : Int) + 0]? = some x := by simpa using hx
      have hw : IntKind.wrap .i64 ((i : Int) + 1) = ((i + 1 : Nat) : Int) := by rw [wrap_id (by omega) (by omega)]; omega
      have hwc : IntKind.wrap .i64 (c + 1) = c + 1 := wrap_id (by omega) (by omega)
      have hxq := hq x (List.mem_of_getElem? hx)
      have htd := tdv t0 g1
      have htt : IntKind.wrap .i64 (Int.tdiv t g) = Int.tdiv t g := wrap_id (by omega) (by omega)
      have z1 : ¬ (g = 0) := by omega
      simp only [g1', g2, g3, decide_true, cond_true, optK, hw, hwc, htt, ptakes_eq, z1, decide_false, cond_false]
      rw [getD_drop hx c2]
      unfold sumB
      by_cases ht : Takes x
      · have xe := hxq ht
        have hat := bk_w g1 ht
        have hb := bk_b g1 ht
        simp only [ht, decide_true, Bool.not_true, cond_false, hat]
        have hn : ∃ m, m = (if bk g x > nw then bk g x else nw) := ⟨_, rfl⟩
        obtain ⟨m, hm⟩ := hn
        have hm2 : bk g x ≤ m ∧ m ≤ e ∧ -1 ≤ m := by subst hm; split <;> omega
        have hc : CntB g n e (t.tdiv g) x ↔ ((bk g x ≤ t.tdiv g ∧ t.tdiv g - bk g x < n) ∧ e - bk g x < n) := ⟨fun h => h.2, fun h => ⟨ht, h⟩⟩
        rw [← hm, wrap_id (n := m - bk g x) (by omega) (by omega), wrap_id (n := e - bk g x) (by omega) (by omega), wrap_id (n := t.tdiv g - bk g x) (by omega) (by omega)]
        by_cases k1 : n ≤ m - bk g x
        · have : ¬ CntB g n e (t.tdiv g) x := by rw [hc]; omega
          simp only [k1, this, decide_true, cond_true, if_false]
          exact ih (i + 1) m s c (by omega) (by omega) (by omega) (by omega) c0 (by omega)
        · by_cases k2 : n ≤ e - bk g x
          · have : ¬ CntB g n e (t.tdiv g) x := by rw [hc]; omega
            simp only [k1, k2, this, decide_true, decide_false, cond_true, cond_false, if_false]
            exact ih (i + 1) m s c (by omega) (by omega) (by omega) (by omega) c0 (by omega)
          · by_cases k3 : t.tdiv g < bk g x
            · have : ¬ CntB g n e (t.tdiv g) x := by rw [hc]; omega
              simp only [k1, k2, k3, this, decide_true, decide_false, cond_true, cond_false, if_false]
              exact ih (i + 1) m s c (by omega) (by omega) (by omega) (by omega) c0 (by omega)
            · by_cases k4 : n ≤ t.tdiv g - bk g x
              · have : ¬ CntB g n e (t.tdiv g) x := by rw [hc]; omega
                simp only [k1, k2, k3, k4, this, decide_true, decide_false, cond_true, cond_false, if_false]
                exact ih (i + 1) m s c (by omega) (by omega) (by omega) (by omega) c0 (by omega)
              · have : CntB g n e (t.tdiv g) x := by rw [hc]; omega
                simp only [k1, k2, k3, k4, this, decide_true, decide_false, cond_true, cond_false, if_true]
                exact ih (i + 1) m _ (c + 1) (by omega) (by omega) (by omega) (by omega) (by omega) (by omega)
      · have : ¬ CntB g n e (t.tdiv g) x := fun h => ht h.1
        simp only [ht, this, decide_false, Bool.not_false, cond_true, if_false]
        exact ih (i + 1) nw s c (by omega) (by omega) w0 w1 c0 (by omega)
    · have g1' : ¬ ((i : Int) < ((q.length : Nat) : Int)) := by omega
      have hk2 : i = q.length := by omega
      simp only [g1', decide_false, cond_false]
      rw [List.drop_eq_nil_of_le (by omega), hk2]; exact ⟨nw, rfl⟩

/-- a window and a grain that there are -/
def Rok (w g : Int) : Prop := (1 ≤ g ∧ g ≤ w) ∧ w ≤ 600
theorem pring_no {w g : Int} (h : ¬ Rok w g) : S.pring w g = some (.inl ()) := by
  unfold S.pring
  by_cases a : w < 1
  · simp only [a, decide_true, cond_true]
  by_cases b : 600 < w
  · simp only [a, b, decide_true, decide_false, cond_true, cond_false]
  by_cases c : g < 1
  · simp only [a, b, c, decide_true, decide_false, cond_true, cond_false]
  by_cases d : w < g
  · simp only [a, b, c, d, decide_true, decide_false, cond_true, cond_false]
  exact absurd ⟨⟨by omega, by omega⟩, by omega⟩ h
theorem rring_no {w g : Int} (h : ¬ Rok w g) : S.rnewring w g = .inl () := by
  unfold S.rnewring
  by_cases a : w < 1
  · simp only [a, decide_true, cond_true]
  by_cases b : 600 < w
  · simp only [a, b, decide_true, decide_false, cond_true, cond_false]
  by_cases c : g < 1
  · simp only [a, b, c, decide_true, decide_false, cond_true, cond_false]
  by_cases d : w < g
  · simp only [a, b, c, d, decide_true, decide_false, cond_true, cond_false]
  exact absurd ⟨⟨by omega, by omega⟩, by omega⟩ h
theorem pring_yes {w g : Int} (h : Rok w g) : S.pring w g = some (.inr (w, g, NB w g)) := by
  obtain ⟨⟨h1, h2⟩, h3⟩ := h
  unfold S.pring
  have a : ¬ w < 1 := by omega
  have b : ¬ 600 < w := by omega
  have c : ¬ g < 1 := by omega
  have d : ¬ w < g := by omega
  simp only [a, b, c, d, decide_false, cond_false, pbuckets_eq h1 h2 h3, optK]
theorem rring_yes {w g : Int} (h : Rok w g) : S.rnewring w g = .inr (w, g) := by
  obtain ⟨⟨h1, h2⟩, h3⟩ := h
  unfold S.rnewring
  have a : ¬ w < 1 := by omega
  have b : ¬ 600 < w := by omega
  have c : ¬ g < 1 := by omega
  have d : ¬ w < g := by omega
  simp only [a, b, c, d, decide_false, cond_false]

/-- the end: the newest bucket, as the program tells it -/
def endB (g : Int) (q : List (Int × Int)) : Int := (newestF (-1) q).tdiv g
theorem endB_b (g : Int) (q : List (Int × Int)) (g1 : 1 ≤ g) : -1 ≤ endB g q ∧ endB g q ≤ 1099511627776 := by
  obtain ⟨h1, _⟩ := newest_le q (-1)
  have h3 := newest_top q (-1) 1099511627776 (by omega) (fun x _ ht => ht.1.2)
  unfold endB
  by_cases h : 0 ≤ newestF (-1) q
  · have := tdv h g1; omega
  · have e : newestF (-1) q = -1 := by omega
    have := tdv (a := 1) (g := g) (by omega) g1
    rw [e, show (-1 : Int).tdiv g = -((1 : Int).tdiv g) from Int.neg_tdiv ..]
    omega
theorem bk_end (g : Int) (q : List (Int × Int)) (g1 : 1 ≤ g) : ∀ x ∈ q, Takes x → bk g x ≤ endB g q := by
  intro x hx ht
  exact Int.tdiv_le_tdiv (by omega) ((newest_le q (-1)).2 x hx ht)

theorem psumB_eq (q : List (Int × Int)) (ro : Bool) (w g t : Int) (hl : q.length < 90000) (h : Rok w g) (t0 : 0 ≤ t) (t1 : t < 9223372036854775808) :
    S.psum 100000 q 0 q.length ro w g t = some ((sumB g (NB w g) (endB g q) (t.tdiv g) 0 0 q).1, (sumB g (NB w g) (endB g q) (t.tdiv g) 0 0 q).2, q) := by
  obtain ⟨⟨h1, h2⟩, h3⟩ := h
  have hn : ¬ t < 0 := by omega
  have z1 : ¬ (g = 0) := by omega
  have hN := NB_b h1 h2 h3
  have he := endB_b g q h1
  unfold S.psum
  rw [pring_yes ⟨⟨h1, h2⟩, h3⟩]
  simp only [optK, Sum.elim_inr, hn, decide_false, cond_false, pbuckets_eq h1 h2 h3, pnewest_eq q ro hl, z1]
  rw [wrap_id (n := (newestF (-1) q).tdiv g) (by unfold endB at he; omega) (by unfold endB at he; omega)]
  obtain ⟨nw, e⟩ := psumB_loop 100000 q w g t (NB w g) (endB g q) q ro (by omega) h1 hN.1 hN.2 he.2 t0 t1 (bk_end g q h1) 100000 0 (-1) 0 0 (by omega) (by omega) (by omega) he.1 (by omega) (by omega)
  have e' : S.psum_l0 100000 q 0 q.length ro w g t 100000 (NB w g) ((newestF (-1) q).tdiv g) (-1) 0 0 0 q = some (NB w g, endB g q, nw, (sumB g (NB w g) (endB g q) (t.tdiv g) 0 0 q).1, (sumB g (NB w g) (endB g q) (t.tdiv g) 0 0 q).2, (q.length : Int), false, q) := e
  rw [e']; rfl

theorem psumB_zero (q : List (Int × Int)) (ro : Bool) (w g t : Int) (h : ¬ Rok w g ∨ t < 0) : S.psum 100000 q 0 q.length ro w g t = some (0, 0, q) := by
  unfold S.psum
  by_cases hr : Rok w g
  · have ht : t < 0 := by rcases h with h | h; exact absurd hr h; exact h
    rw [pring_yes hr]
    simp only [optK, Sum.elim_inr, ht, decide_true, cond_true]
  · rw [pring_no hr]
    simp only [optK, Sum.elim_inl]

/-! the document's ring -/
def Kp (g n e : Int) (x : Int × Int) : Bool := decide (e - bk g x < n)

theorem cutL_all {α : Type} (q : List α) : cutL q 0 q.length = q := by unfold cutL; simp

theorem rforget_loop (fu : Nat) (r : RL) (w g nw : Int) (ov : Bool) (h : Rok w g) (hr : ∀ x ∈ r, Takes x) (hl : r.length ≤ 100) (w0 : -1 ≤ nw) (w1 : nw ≤ 1099511627776) : ∀ (k i : Nat) (y : List (Int × Int)), i ≤ r.length → r.length < k + i → y.length ≤ i →
    S.rforget_l0 fu r 0 r.length w g nw ov k y.length i y = some ((y ++ (r.drop i).filter (Kp g (NB w g) nw)).length, (r.length : Int), false, y ++ (r.drop i).filter (Kp g (NB w g) nw)) := by
  obtain ⟨⟨h1, h2⟩, h3⟩ := h
  have hN := NB_b h1 h2 h3
  intro k
  induction k with
  | zero => intro i y _ _ _; omega
  | succ k ih =>
    intro i y hi hk hy
    unfold S.rforget_l0
    by_cases c2 : i < r.length
    · have g1' : ((i : Int) < ((r.length : Nat) : Int)) := by omega
      have g2 : inB (i : Int) r.length = true := by unfold inB; simp; omega
      obtain ⟨x, hx⟩ : ∃ x, r[i]? = some x := ⟨r[i]'c2, by simp⟩
      have g3 : r[Int.toNat (i : Int) + 0]? = some x := by simpa using hx
      have hw : IntKind.wrap .i64 ((i : Int) + 1) = ((i + 1 : Nat) : Int) := by rw [wrap_id (by omega) (by omega)]; omega
      have ht := hr x (List.mem_of_getElem? hx)
      have hb := bk_b h1 ht
      have hbe : S.rbucket r 0 r.length w g nw ov x.1 = some (bk g x) := rbucket_eq h1 ht.1.1 (by have := ht.1.2; omega) ..
      have b1 : (Nat.beq 2 2 && Nat.blt 0 16 && Nat.beq 2 2 && Nat.beq 2 2 && Nat.beq 2 2 && Nat.blt 0 1 && !Nat.beq 2 3 && Nat.ble ((y.length + 1) * 16) 35184372088832) = true := by
        have : Nat.ble ((y.length + 1) * 16) 35184372088832 = true := Nat.ble_eq.mpr (by omega)
        rw [this]; rfl
      simp only [g1', g2, g3, decide_true, cond_true, optK, hw, hbe, rN_eq h1 h2 h3, b1]
      rw [wrap_id (n := nw - bk g x) (by omega) (by omega), getD_drop hx c2, List.filter_cons]
      by_cases kk : nw - bk g x < NB w g
      · have kp : Kp g (NB w g) nw x = true := by unfold Kp; simp [kk]
        have hc : cutL y 0 y.length ++ cutL [(x.1, x.2)] 0 1 = y ++ [x] := by rw [cutL_all]; rfl
        simp only [kk, kp, decide_true, cond_true, if_true]
        rw [hc, ih (i + 1) (y ++ [x]) (by omega) (by omega) (by simp; omega)]
        simp only [List.append_assoc, List.singleton_append]
      · have kp : Kp g (NB w g) nw x = false := by unfold Kp; simp [kk]
        simp only [kk, kp, decide_false, cond_false, Bool.false_eq_true, if_false]
        exact ih (i + 1) y (by omega) (by omega) (by omega)
    · have g1' : ¬ ((i : Int) < ((r.length : Nat) : Int)) := by omega
      have hk2 : i = r.length := by omega
      simp only [g1', decide_false, cond_false]
      rw [List.drop_eq_nil_of_le (by omega), hk2]; simp

theorem rforget_eq (r : RL) (w g nw : Int) (ov : Bool) (h : Rok w g) (hr : ∀ x ∈ r, Takes x) (hl : r.length ≤ 100) (w0 : -1 ≤ nw) (w1 : nw ≤ 1099511627776) :
    S.rforget 100000 r 0 r.length w g nw ov = some (w, g, (r.filter (Kp g (NB w g) nw)).length, nw, ov, r, r.filter (Kp g (NB w g) nw)) := by
  have e := rforget_loop 100000 r w g nw ov h hr hl w0 w1 100000 0 [] (by omega) (by omega) (by simp)
  have e' : S.rforget_l0 100000 r 0 r.length w g nw ov 100000 0 0 [] = some ((r.filter (Kp g (NB w g) nw)).length, (r.length : Int), false, r.filter (Kp g (NB w g) nw)) := e
  unfold S.rforget S.rforget_a0_0
  rw [e']; rfl

/-- what puts come to -/
def fin (g n : Int) : Int → List (Int × Int) → List (Int × Int) → Int × List (Int × Int)
  | nw, r, [] => (nw, r)
  | nw, r, x :: q => if Takes x ∧ nw - bk g x < n then fin g n (if bk g x > nw then bk g x else nw) ((r ++ [x]).filter (Kp g n (if bk g x > nw then bk g x else nw))) q else fin g n nw r q

theorem rplain_loop (fu : Nat) (l : RL) (ro : Bool) (w g t : Int) (h : Rok w g) (hl : l.length ≤ 60) : ∀ (k i : Nat) (nw : Int) (r : RL), i ≤ l.length → l.length < k + i → r.length ≤ i → (∀ x ∈ r, Takes x) → -1 ≤ nw → nw ≤ 1099511627776 →
    S.rplain_l0 fu l 0 l.length ro w g t k i w g 0 r.length nw false r = some ((l.length : Int), false, w, g, 0, (fin g (NB w g) nw r (l.drop i)).2.length, (fin g (NB w g) nw r (l.drop i)).1, false, (fin g (NB w g) nw r (l.drop i)).2) := by
  have hR := h
  obtain ⟨⟨h1, h2⟩, h3⟩ := h
  have hN := NB_b h1 h2 h3
  intro k
  induction k with
  | zero => intro i nw r _ _ _ _ _ _; omega
  | succ k ih =>
    intro i nw r hi hk hy hr w0 w1
    unfold S.rplain_l0
    by_cases c2 : i < l.length
    · have g1' : ((i : Int) < ((l.length : Nat) : Int)) := by omega
      have g2 : inB (i : Int) l.length = true := by unfold inB; simp; omega
      obtain ⟨x, hx⟩ : ∃ x, l[i]? = some x := ⟨l[i]'c2, by simp⟩
      have g3 : l[Int.toNat (i : Int) + 0]? = some x := by simpa using hx
      have hw : IntKind.wrap .i64 ((i : Int) + 1) = ((i + 1 : Nat) : Int) := by rw [wrap_id (by omega) (by omega)]; omega
      have b1 : (Nat.beq 2 2 && Nat.blt 0 16 && Nat.beq 2 2 && Nat.beq 2 2 && Nat.beq 2 2 && Nat.blt 0 1 && !Nat.beq 1 2 && Nat.ble ((r.length + 1) * 16) 35184372088832) = true := by
        have : Nat.ble ((r.length + 1) * 16) 35184372088832 = true := Nat.ble_eq.mpr (by omega)
        rw [this]; rfl
      simp only [g1', g2, g3, decide_true, cond_true, optK, hw]
      rw [getD_drop hx c2]
      unfold fin
      unfold S.rput
      by_cases p1 : x.1 < 0
      · have : ¬ (Takes x ∧ nw - bk g x < NB w g) := fun q => by have := q.1.1.1; omega
        simp only [p1, this, decide_true, cond_true, optK, Sum.elim_inl, if_false]
        exact ih (i + 1) nw r (by omega) (by omega) (by omega) hr w0 w1
      by_cases p2 : 1099511627776 < x.1
      · have : ¬ (Takes x ∧ nw - bk g x < NB w g) := fun q => by have := q.1.1.2; omega
        simp only [p1, p2, this, decide_true, decide_false, cond_true, cond_false, optK, Sum.elim_inl, if_false]
        exact ih (i + 1) nw r (by omega) (by omega) (by omega) hr w0 w1
      by_cases p3 : x.2 < 0
      · have : ¬ (Takes x ∧ nw - bk g x < NB w g) := fun q => by have := q.1.2; omega
        simp only [p1, p2, p3, this, decide_true, decide_false, cond_true, cond_false, optK, Sum.elim_inl, if_false]
        exact ih (i + 1) nw r (by omega) (by omega) (by omega) hr w0 w1
      have ht : Takes x := ⟨⟨by omega, by omega⟩, by omega⟩
      have hb := bk_b h1 ht
      have hbe : S.rbucket r 0 r.length w g nw false x.1 = some (bk g x) := rbucket_eq h1 ht.1.1 (by have := ht.1.2; omega) ..
      simp only [p1, p2, p3, decide_false, cond_false, hbe, rN_eq h1 h2 h3, optK]
      rw [wrap_id (n := nw - bk g x) (by omega) (by omega)]
      by_cases p4 : NB w g ≤ nw - bk g x
      · have : ¬ (Takes x ∧ nw - bk g x < NB w g) := fun q => by have := q.2; omega
        simp only [p4, this, decide_true, cond_true, Sum.elim_inl, if_false]
        exact ih (i + 1) nw r (by omega) (by omega) (by omega) hr w0 w1
      · have hy2 : (Takes x ∧ nw - bk g x < NB w g) := ⟨ht, by omega⟩
        have hc : cutL r 0 r.length ++ cutL [(x.1, x.2)] 0 1 = r ++ [x] := by rw [cutL_all]; rfl
        obtain ⟨m, hm⟩ : ∃ m, m = (if bk g x > nw then bk g x else nw) := ⟨_, rfl⟩
        have hm2 : -1 ≤ m ∧ m ≤ 1099511627776 := by subst hm; split <;> omega
        have hrx : ∀ y ∈ r ++ [x], Takes y := by
          intro y hy; simp at hy; rcases hy with hy | hy; exact hr y hy; subst hy; exact ht
        have hfl := List.length_filter_le (Kp g (NB w g) m) (r ++ [x])
        have hf := rforget_eq (r ++ [x]) w g m false hR hrx (by simp; omega) hm2.1 hm2.2
        simp only [p4, hy2, decide_false, cond_false, b1, cond_true, ← hm, hc, and_self, if_true, hf, optK, Sum.elim_inr]
        exact ih (i + 1) m _ (by omega) (by omega) (by rw [List.length_append, List.length_singleton] at hfl; omega) (fun y hy => hrx y (List.mem_filter.mp hy).1) hm2.1 hm2.2
    · have g1' : ¬ ((i : Int) < ((l.length : Nat) : Int)) := by omega
      have hk2 : i = l.length := by omega
      simp only [g1', decide_false, cond_false]
      rw [List.drop_eq_nil_of_le (by omega), hk2]; rfl

/-- what the document's ring sums -/
def sumR (g n tb : Int) : Int → Int → List (Int × Int) → Int × Int
  | s, c, [] => (s, c)
  | s, c, x :: r => if 0 ≤ tb - bk g x ∧ tb - bk g x < n then sumR g n tb (S.madd s x.2).1 (c + 1) r else sumR g n tb s c r

theorem rsum_loop (fu : Nat) (r : RL) (w g nw t : Int) (ov0 : Bool) (h : Rok w g) (hr : ∀ x ∈ r, Takes x) (hl : r.length ≤ 100) (t0 : 0 ≤ t) (t1 : t < 9223372036854775808) : ∀ (k i : Nat) (s c : Int) (ov : Bool), i ≤ r.length → r.length < k + i → 0 ≤ c → c ≤ i →
    ∃ ov', S.rsum_l0 fu r 0 r.length w g nw ov0 t k s c i ov = some ((sumR g (NB w g) (t.tdiv g) s c (r.drop i)).1, (sumR g (NB w g) (t.tdiv g) s c (r.drop i)).2, (r.length : Int), false, ov') := by
  obtain ⟨⟨h1, h2⟩, h3⟩ := h
  have hN := NB_b h1 h2 h3
  intro k
  induction k with
  | zero => intro i s c ov _ _ _ _; omega
  | succ k ih =>
    intro i s c ov hi hk c0 c1
    unfold S.rsum_l0
    by_cases c2 : i < r.length
    · have g1' : ((i : Int) < ((r.length : Nat) : Int)) := by omega
      have g2 : inB (i : Int) r.length = true := by unfold inB; simp; omega
      obtain ⟨x, hx⟩ : ∃ x, r[i]? = some x := ⟨r[i]'c2, by simp⟩
      have g3 : r[Int.toNat (i : Int) + 0]? = some x := by simpa using hx
      have hw : IntKind.wrap .i64 ((i : Int) + 1) = ((i + 1 : Nat) : Int) := by rw [wrap_id (by omega) (by omega)]; omega
      have hwc : IntKind.wrap .i64 (c + 1) = c + 1 := wrap_id (by omega) (by omega)
      have ht := hr x (List.mem_of_getElem? hx)
      have hb := bk_b h1 ht
      have htd := tdv t0 h1
      have hbe : S.rbucket r 0 r.length w g nw ov x.1 = some (bk g x) := rbucket_eq h1 ht.1.1 (by have := ht.1.2; omega) ..
      have hte : S.rbucket r 0 r.length w g nw ov t = some (t.tdiv g) := rbucket_eq h1 t0 t1 ..
      simp only [g1', g2, g3, t0, decide_true, cond_true, optK, hw, hwc, hbe, hte, rN_eq h1 h2 h3, radd_eq']
      rw [wrap_id (n := t.tdiv g - bk g x) (by omega) (by omega), getD_drop hx c2]
      unfold sumR
      by_cases k1 : t.tdiv g - bk g x < 0
      · have : ¬ (0 ≤ t.tdiv g - bk g x ∧ t.tdiv g - bk g x < NB w g) := by omega
        simp only [k1, this, decide_true, cond_true, if_false]
        exact ih (i + 1) s c ov (by omega) (by omega) c0 (by omega)
      · by_cases k2 : NB w g ≤ t.tdiv g - bk g x
        · have : ¬ (0 ≤ t.tdiv g - bk g x ∧ t.tdiv g - bk g x < NB w g) := by omega
          simp only [k1, k2, this, decide_true, decide_false, cond_true, cond_false, if_false]
          exact ih (i + 1) s c ov (by omega) (by omega) c0 (by omega)
        · have : (0 ≤ t.tdiv g - bk g x ∧ t.tdiv g - bk g x < NB w g) := by omega
          simp only [k1, k2, this, decide_false, cond_false, and_self, if_true]
          cases ov
          · exact ih (i + 1) _ (c + 1) _ (by omega) (by omega) (by omega) (by omega)
          · exact ih (i + 1) _ (c + 1) _ (by omega) (by omega) (by omega) (by omega)
    · have g1' : ¬ ((i : Int) < ((r.length : Nat) : Int)) := by omega
      have hk2 : i = r.length := by omega
      simp only [g1', decide_false, cond_false]
      rw [List.drop_eq_nil_of_le (by omega), hk2]; exact ⟨ov, rfl⟩

/-! both are one -/
def nbF (g : Int) : Int → List (Int × Int) → Int
  | m, [] => m
  | m, x :: r => nbF g (if Takes x then (if bk g x > m then bk g x else m) else m) r
theorem nbF_le (g : Int) : ∀ (q : List (Int × Int)) (m : Int), m ≤ nbF g m q := by
  intro q
  induction q with
  | nil => intro m; exact Int.le_refl _
  | cons y r ih =>
    intro m
    unfold nbF
    refine Int.le_trans ?_ (ih _)
    split
    · split <;> omega
    · omega
theorem nb_end0 (g : Int) (g1 : 1 ≤ g) : ∀ (q : List (Int × Int)) (m : Int), nbF g (m.tdiv g) q = (newestF m q).tdiv g := by
  intro q
  induction q with
  | nil => intro m; rfl
  | cons y r ih =>
    intro m
    unfold nbF newestF
    rw [← ih]
    congr 1
    by_cases ht : Takes y
    · rw [if_pos ht, if_pos ht]
      by_cases h : y.1 > m
      · have := Int.tdiv_le_tdiv (a := m) (b := y.1) (c := g) (by omega) (by omega)
        rw [if_pos h]; unfold bk; split <;> omega
      · have := Int.tdiv_le_tdiv (a := y.1) (b := m) (c := g) (by omega) (by omega)
        rw [if_neg h]; unfold bk; split <;> omega
    · rw [if_neg ht, if_neg ht]
theorem nb_end (g : Int) (g1 : 1 ≤ g) : ∀ (q : List (Int × Int)), nbF g (-1) q = endB g q ∨ ∀ x ∈ q, ¬ Takes x := by
  intro q
  induction q with
  | nil => exact .inr fun x hx => by cases hx
  | cons y r ih =>
    by_cases ht : Takes y
    · refine .inl ?_
      have hb := bk_b g1 ht
      have h1 : bk g y > -1 := by omega
      have h2 : y.1 > -1 := by have := ht.1.1; omega
      unfold endB nbF newestF
      rw [if_pos ht, if_pos h1, if_pos ht, if_pos h2]
      exact nb_end0 g g1 r y.1
    · unfold endB nbF newestF
      rw [if_neg ht, if_neg ht]
      rcases ih with h | h
      · exact .inl h
      · refine .inr fun x hx => ?_
        simp at hx
        rcases hx with hx | hx
        · subst hx; exact ht
        · exact h x hx
theorem sumB_none (g n tb s c : Int) : ∀ (q : List (Int × Int)) (e : Int), (∀ x ∈ q, ¬ Takes x) → sumB g n e tb s c q = (s, c) := by
  intro q
  induction q with
  | nil => intro e _; rfl
  | cons y r ih =>
    intro e h
    unfold sumB
    rw [if_neg (fun hc => h y (List.mem_cons_self ..) hc.1)]
    exact ih e fun x hx => h x (List.mem_cons_of_mem _ hx)

theorem fin_eq (g n : Int) (n0 : 1 ≤ n) : ∀ (q r : List (Int × Int)) (nw : Int),
    (fin g n nw r q).1 = nbF g nw q ∧ ((∀ x ∈ r, Kp g n nw x = true) → (fin g n nw r q).2 = r.filter (Kp g n (nbF g nw q)) ++ q.filter (fun x => decide (Takes x) && Kp g n (nbF g nw q) x)) := by
  intro q
  induction q with
  | nil =>
    intro r nw
    refine ⟨rfl, fun h => ?_⟩
    simp only [fin, nbF, List.filter_nil, List.append_nil]
    exact (List.filter_eq_self.mpr h).symm
  | cons x q ih =>
    intro r nw
    unfold fin nbF
    by_cases ht : Takes x
    · by_cases h1 : nw - bk g x < n
      · rw [if_pos ⟨ht, h1⟩, if_pos ht]
        obtain ⟨m, hm⟩ : ∃ m, m = (if bk g x > nw then bk g x else nw) := ⟨_, rfl⟩
        rw [← hm]
        obtain ⟨i1, i2⟩ := ih ((r ++ [x]).filter (Kp g n m)) m
        refine ⟨i1, fun h => ?_⟩
        rw [i2 (fun y hy => (List.mem_filter.mp hy).2), List.filter_filter, List.filter_cons]
        have hle := nbF_le g q m
        have hsub : ∀ y, (Kp g n (nbF g m q) y && Kp g n m y) = Kp g n (nbF g m q) y := by
          intro y
          unfold Kp
          by_cases hh : nbF g m q - bk g y < n
          · have : m - bk g y < n := by omega
            simp [hh, this]
          · simp [hh]
        simp only [hsub, ht, decide_true, Bool.true_and, List.filter_append, List.append_assoc]
        congr 1
        by_cases hk : Kp g n (nbF g m q) x = true
        · simp [hk]
        · simp [hk]
      · have hgt : ¬ bk g x > nw := by omega
        rw [if_neg (fun h => h1 h.2), if_pos ht, if_neg hgt]
        obtain ⟨i1, i2⟩ := ih r nw
        refine ⟨i1, fun h => ?_⟩
        rw [i2 h, List.filter_cons]
        have hle := nbF_le g q nw
        have : Kp g n (nbF g nw q) x = false := by unfold Kp; simp; omega
        simp [this]
    · rw [if_neg (fun h => ht h.1), if_neg ht]
      obtain ⟨i1, i2⟩ := ih r nw
      refine ⟨i1, fun h => ?_⟩
      rw [i2 h, List.filter_cons]
      simp [ht]

theorem sum_same (g n e tb : Int) : ∀ (q : List (Int × Int)) (s c : Int), sumR g n tb s c (q.filter (fun x => decide (Takes x) && Kp g n e x)) = sumB g n e tb s c q := by
  intro q
  induction q with
  | nil => intro s c; rfl
  | cons x q ih =>
    intro s c
    rw [List.filter_cons]
    unfold sumB
    by_cases ht : Takes x
    · by_cases hk : e - bk g x < n
      · have : Kp g n e x = true := by unfold Kp; simp [hk]
        simp only [ht, this, decide_true, Bool.and_self, if_true]
        unfold sumR
        by_cases h1 : 0 ≤ tb - bk g x ∧ tb - bk g x < n
        · rw [if_pos h1, if_pos (show CntB g n e tb x from ⟨ht, ⟨by omega, by omega⟩, hk⟩)]; exact ih _ _
        · rw [if_neg h1, if_neg (fun h : CntB g n e tb x => h1 (by have := h.2.1; omega))]; exact ih _ _
      · have : Kp g n e x = false := by unfold Kp; simp; omega
        simp only [this, Bool.and_false, Bool.false_eq_true, if_false]
        rw [if_neg (fun h : CntB g n e tb x => hk h.2.2)]; exact ih _ _
    · rw [if_neg (fun h : CntB g n e tb x => ht h.1)]
      simp only [ht, decide_false, Bool.false_and, Bool.false_eq_true, if_false]
      exact ih _ _

theorem rplain_eq (l : List (Int × Int)) (ro : Bool) (w g t : Int) (hl : l.length ≤ 60) (t1 : t < 9223372036854775808) :
    ∃ s c, S.psum 100000 l 0 l.length ro w g t = some (s, c, l) ∧ S.rplain 100000 l 0 l.length ro w g t = some (s, c, l) ∧ 0 ≤ c := by
  by_cases h : Rok w g
  · have hR := h
    obtain ⟨⟨h1, h2⟩, h3⟩ := h
    have hN := NB_b h1 h2 h3
    have e := rplain_loop 100000 l ro w g t hR hl 100000 0 (-1) [] (by omega) (by omega) (by simp) (fun x hx => by cases hx) (by omega) (by omega)
    obtain ⟨f1, f2⟩ := fin_eq g (NB w g) hN.1 l [] (-1)
    have f3 := f2 (fun x hx => by cases hx)
    simp only [List.filter_nil, List.nil_append] at f3
    have e' : S.rplain_l0 100000 l 0 l.length ro w g t 100000 0 w g 0 0 (-1) false [] = some ((l.length : Int), false, w, g, 0, (fin g (NB w g) (-1) [] l).2.length, (fin g (NB w g) (-1) [] l).1, false, (fin g (NB w g) (-1) [] l).2) := e
    rw [f3, f1] at e'
    have hfl := List.length_filter_le (fun x => decide (Takes x) && Kp g (NB w g) (nbF g (-1) l) x) l
    have hft : ∀ x ∈ l.filter (fun x => decide (Takes x) && Kp g (NB w g) (nbF g (-1) l) x), Takes x := by
      intro x hx
      have := (List.mem_filter.mp hx).2
      simp at this; exact this.1
    by_cases t0 : 0 ≤ t
    · obtain ⟨ov', hs⟩ := rsum_loop 100000 _ w g (nbF g (-1) l) t false hR hft (by omega) t0 t1 100000 0 0 0 false (by omega) (by omega) (by omega) (by omega)
      refine ⟨_, _, psumB_eq l ro w g t (by omega) hR t0 t1, ?_, sumB_c ..⟩
      unfold S.rplain
      rw [rring_yes hR]
      simp only [Sum.elim_inr, e', optK]
      unfold S.rplain_a0_0 S.rsum
      have hs' := hs
      rw [List.drop_zero, sum_same] at hs'
      have hsame : sumB g (NB w g) (nbF g (-1) l) (t.tdiv g) 0 0 l = sumB g (NB w g) (endB g l) (t.tdiv g) 0 0 l := by
        rcases nb_end g h1 l with hh | hh
        · rw [hh]
        · rw [sumB_none _ _ _ _ _ _ _ hh, sumB_none _ _ _ _ _ _ _ hh]
      rw [hsame] at hs'
      rw [show ((0 : Nat) : Int) = 0 from rfl] at hs'
      rw [hs']
      rfl
    · refine ⟨0, 0, psumB_zero l ro w g t (.inr (by omega)), ?_, by omega⟩
      unfold S.rplain
      rw [rring_yes hR]
      simp only [Sum.elim_inr, e', optK]
      unfold S.rplain_a0_0 S.rsum
      generalize l.filter (fun x => decide (Takes x) && Kp g (NB w g) (nbF g (-1) l) x) = q
      have : ∃ b, S.rsum_l0 100000 q 0 q.length w g (nbF g (-1) l) false t 100000 0 0 0 false = some (0, 0, 0, b, false) := by
        unfold S.rsum_l0
        by_cases hq : (0 : Int) < ((q.length : Nat) : Int)
        · simp only [hq, t0, decide_true, decide_false, cond_true, cond_false]; exact ⟨_, rfl⟩
        · simp only [hq, decide_false, cond_false]; exact ⟨_, rfl⟩
      obtain ⟨b, hb⟩ := this
      rw [hb]; rfl
  · refine ⟨0, 0, psumB_zero l ro w g t (.inl h), ?_, by omega⟩
    unfold S.rplain
    rw [rring_no h]; rfl

theorem rtaken_eq (x : Int × Int) : S.rtaken x.1 x.2 = decide (Takes x) := by
  unfold S.rtaken Takes
  by_cases h1 : 0 ≤ x.1 <;> by_cases h2 : x.1 ≤ 1099511627776 <;> simp [h1, h2]

theorem rnewest_loop (fu : Nat) (q : List (Int × Int)) (ro : Bool) (hl : q.length < 1000000) : ∀ (n k : Nat) (m : Int), k ≤ q.length → q.length < n + k →
    S.rnewest_l0 fu q 0 q.length ro n m k = some (newestF m (q.drop k), (q.length : Int), false) := by
  intro n
  induction n with
  | zero => intro k m _ _; omega
  | succ n ih =>
    intro k m hk hn
    unfold S.rnewest_l0
    by_cases c : k < q.length
    · have g1 : ((k : Int) < ((q.length : Nat) : Int)) := by omega
      have g2 : inB (k : Int) q.length = true := by unfold inB; simp; omega
      obtain ⟨x, hx⟩ : ∃ x, q[k]? = some x := ⟨q[k]'c, by simp⟩
      have g3 : q[Int.toNat (k : Int) + 0]? = some x := by simpa using hx
      have hw : IntKind.wrap .i64 ((k : Int) + 1) = ((k + 1 : Nat) : Int) := by rw [wrap_id (by omega) (by omega)]; omega
      simp only [g1, g2, g3, decide_true, cond_true, optK, hw, rtaken_eq]
      rw [getD_drop hx c]
      unfold newestF
      by_cases ht : Takes x
      · simp only [ht, decide_true, cond_true, if_true]
        exact ih (k + 1) _ (by omega) (by omega)
      · simp only [ht, decide_false, cond_false, if_false]
        exact ih (k + 1) _ (by omega) (by omega)
    · have g1 : ¬ ((k : Int) < ((q.length : Nat) : Int)) := by omega
      have hk2 : k = q.length := by omega
      simp only [g1, decide_false, cond_false]
      rw [List.drop_eq_nil_of_le (by omega), hk2]; rfl
theorem rnewest_eq (q : List (Int × Int)) (ro : Bool) (hl : q.length < 90000) : S.rnewest 100000 q 0 q.length ro = some (newestF (-1) q, q) := by
  unfold S.rnewest
  have e : S.rnewest_l0 100000 q 0 q.length ro 100000 (-1) 0 = some (newestF (-1) q, (q.length : Int), false) := rnewest_loop 100000 q ro (by omega) 100000 0 (-1) (by omega) (by omega)
  rw [e]; rfl

/-- the first one that is not v -/
def odd (v : Int) : List (Int × Int) → Option (Int × Int)
  | [] => none
  | x :: r => if Takes x ∧ ¬ x.2 = v then some x else odd v r
theorem psteady_loop (fu : Nat) (q : List (Int × Int)) (ro : Bool) (v : Int) (hl : q.length < 1000000) : ∀ (n k : Nat), k ≤ q.length → q.length < n + k →
    S.psteady_l0 fu q 0 q.length ro v n k = some (match odd v (q.drop k) with | some x => .inl x | none => .inr ((q.length : Int), false)) := by
  intro n
  induction n with
  | zero => intro k _ _; omega
  | succ n ih =>
    intro k hk hn
    unfold S.psteady_l0
    by_cases c : k < q.length
    · have g1 : ((k : Int) < ((q.length : Nat) : Int)) := by omega
      have g2 : inB (k : Int) q.length = true := by unfold inB; simp; omega
      obtain ⟨x, hx⟩ : ∃ x, q[k]? = some x := ⟨q[k]'c, by simp⟩
      have g3 : q[Int.toNat (k : Int) + 0]? = some x := by simpa using hx
      have hw : IntKind.wrap .i64 ((k : Int) + 1) = ((k + 1 : Nat) : Int) := by rw [wrap_id (by omega) (by omega)]; omega
      simp only [g1, g2, g3, decide_true, cond_true, optK, hw, ptakes_eq]
      rw [getD_drop hx c]
      unfold odd
      by_cases ht : Takes x
      · by_cases hv : x.2 = v
        · simp only [ht, hv, decide_true, cond_true, Bool.not_true, cond_false, not_true, and_false, if_false]
          exact ih (k + 1) (by omega) (by omega)
        · simp only [ht, hv, decide_true, decide_false, Bool.not_false, cond_true, not_false_eq_true, and_self, if_true]
      · simp only [ht, decide_false, cond_false, false_and, if_false]
        exact ih (k + 1) (by omega) (by omega)
    · have g1 : ¬ ((k : Int) < ((q.length : Nat) : Int)) := by omega
      have hk2 : k = q.length := by omega
      simp only [g1, decide_false, cond_false]
      rw [List.drop_eq_nil_of_le (by omega), hk2]; rfl
theorem rsteady_loop (fu : Nat) (q : List (Int × Int)) (ro : Bool) (v : Int) (hl : q.length < 1000000) : ∀ (n k : Nat), k ≤ q.length → q.length < n + k →
    S.rsteady_l0 fu q 0 q.length ro v n k = some (match odd v (q.drop k) with | some x => .inl () | none => .inr ((q.length : Int), false)) := by
  intro n
  induction n with
  | zero => intro k _ _; omega
  | succ n ih =>
    intro k hk hn
    unfold S.rsteady_l0
    by_cases c : k < q.length
    · have g1 : ((k : Int) < ((q.length : Nat) : Int)) := by omega
      have g2 : inB (k : Int) q.length = true := by unfold inB; simp; omega
      obtain ⟨x, hx⟩ : ∃ x, q[k]? = some x := ⟨q[k]'c, by simp⟩
      have g3 : q[Int.toNat (k : Int) + 0]? = some x := by simpa using hx
      have hw : IntKind.wrap .i64 ((k : Int) + 1) = ((k + 1 : Nat) : Int) := by rw [wrap_id (by omega) (by omega)]; omega
      simp only [g1, g2, g3, decide_true, cond_true, optK, hw, rtaken_eq]
      rw [getD_drop hx c]
      unfold odd
      by_cases ht : Takes x
      · by_cases hv : x.2 = v
        · simp only [ht, hv, decide_true, cond_true, Bool.not_true, cond_false, not_true, and_false, if_false]
          exact ih (k + 1) (by omega) (by omega)
        · simp only [ht, hv, decide_true, decide_false, Bool.not_false, cond_true, not_false_eq_true, and_self, if_true]
      · simp only [ht, decide_false, cond_false, false_and, if_false]
        exact ih (k + 1) (by omega) (by omega)
    · have g1 : ¬ ((k : Int) < ((q.length : Nat) : Int)) := by omega
      have hk2 : k = q.length := by omega
      simp only [g1, decide_false, cond_false]
      rw [List.drop_eq_nil_of_le (by omega), hk2]; rfl
theorem steady_eq (q : List (Int × Int)) (ro : Bool) (v : Int) (hl : q.length < 90000) : ∃ b, S.psteady 100000 q 0 q.length ro v = some (b, q) ∧ S.rsteady 100000 q 0 q.length ro v = some (b, q) := by
  have e1 : S.psteady_l0 100000 q 0 q.length ro v 100000 0 = _ := psteady_loop 100000 q ro v (by omega) 100000 0 (by omega) (by omega)
  have e2 : S.rsteady_l0 100000 q 0 q.length ro v 100000 0 = _ := rsteady_loop 100000 q ro v (by omega) 100000 0 (by omega) (by omega)
  unfold S.psteady S.rsteady
  rw [e1, e2]
  cases odd v (q.drop 0)
  · exact ⟨true, rfl, rfl⟩
  · exact ⟨false, rfl, rfl⟩

theorem PlainAsks_true (l : RL) (w g t v : Int) (t1 : t < 9223372036854775808) : S.PlainAsks l (List.length l) w g t v = some (.inl ()) ∨ S.PlainAsks l (List.length l) w g t v = some (.inr (true, l)) := by
  unfold S.PlainAsks
  by_cases h60 : (60 : Int) < ((List.length l : Nat) : Int)
  · simp only [h60, decide_true, cond_true]; exact .inl trivial
  · right
    simp only [h60, decide_false, cond_false]
    obtain ⟨s, c, p1, p2, c0⟩ := rplain_eq l true w g t (by omega) t1
    obtain ⟨b, q1, q2⟩ := steady_eq l true v (by omega)
    have n1 := pnewest_eq l true (by omega)
    have n2 := rnewest_eq l true (by omega)
    simp only [S.q_psum_eq, S.q_rplain_eq, S.q_pmean_eq, S.q_pnewest_eq, S.q_rnewest_eq, S.q_psteady_eq, S.q_rsteady_eq]
    have pm : S.pmean l 0 (List.length l) true w g t = some (if c = 0 then 0 else IntKind.wrap .i64 (s.tdiv c), l) := by
      unfold S.pmean
      rw [p1]
      simp only [optK]
      by_cases hc : c = 0
      · simp only [hc, decide_true, cond_true, if_true]
      · simp only [hc, decide_false, cond_false, if_false]
    simp only [p1, p2, optK, pm]
    by_cases hc : (0 : Int) < c
    · have h0 : ¬ c = 0 := by omega
      simp only [hc, h0, decide_true, decide_false, cond_true, cond_false, if_false, n1, n2, q1, q2, optK]
      simp
    · have h0 : c = 0 := by omega
      subst h0
      simp only [Int.lt_irrefl, decide_true, decide_false, cond_true, cond_false, if_true, n1, n2, q1, q2, optK]
      simp
theorem PlainAsks_run (l : RL) (w g t v : Int) (t1 : t < 9223372036854775808) {R : Type} (k : AVal → List Blk → Option R) :
    oK (Sum.elim (fun v : Unit => k (.bool true) [.rows (.pair (.int .i64) (.int .i64)) l true]) (fun v : Bool × List (Int × Int) => k (.bool v.1) [.rows (.pair (.int .i64) (.int .i64)) v.2 true])) (S.PlainAsks l (List.length l) w g t v) = k (.bool true) [.rows (.pair (.int .i64) (.int .i64)) l true] := by
  rcases PlainAsks_true l w g t v t1 with h | h <;> rw [h] <;> rfl
end Go.Proofs.Ytfoaihjkmfhaoaa.AB
