/- Sums over histories at grain 1: what they come to. -/
import Derived.Test.YtfoaihjkmfhaoaaPlA
import Derived.Test.YtfoaihjkmfhaoaaSplain
namespace Go.Proofs.Ytfoaihjkmfhaoaa.AB
set_option linter.unusedVariables false
set_option linter.unusedSimpArgs false

def Takes (x : Int × Int) : Prop := (0 ≤ x.1 ∧ x.1 ≤ 1099511627776) ∧ 0 ≤ x.2
instance (x : Int × Int) : Decidable (Takes x) := inferInstanceAs (Decidable (_ ∧ _))
theorem ptakes_eq (x : Int × Int) : S.ptakes x.1 x.2 = decide (Takes x) := by
  unfold S.ptakes Takes
  by_cases h1 : 0 ≤ x.1 <;> by_cases h2 : x.1 ≤ 1099511627776 <;> simp [h1, h2]

def newestF : Int → List (Int × Int) → Int
  | m, [] => m
  | m, x :: r => newestF (if Takes x then (if x.1 > m then x.1 else m) else m) r

/-- what is summed -/
def Cnt (n e t : Int) (x : Int × Int) : Prop := Takes x ∧ (x.1 ≤ t ∧ t - x.1 < n) ∧ e - x.1 < n
instance (n e t : Int) (x : Int × Int) : Decidable (Cnt n e t x) := inferInstanceAs (Decidable (_ ∧ _))
def sumG (n e t : Int) : Int → Int → List (Int × Int) → Int × Int
  | s, c, [] => (s, c)
  | s, c, x :: r => if Cnt n e t x then sumG n e t (s + x.2) (c + 1) r else sumG n e t s c r

theorem getD_drop {q : List (Int × Int)} {k : Nat} {x : Int × Int} (hx : q[k]? = some x) (hk : k < q.length) : q.drop k = x :: q.drop (k + 1) := by
  rw [List.drop_eq_getElem_cons hk]
  congr 1
  have := hx; rw [List.getElem?_eq_getElem hk] at this; injection this

theorem pnewest_loop (fu : Nat) (q : List (Int × Int)) (ro : Bool) (hl : q.length < 1000000) : ∀ (n k : Nat) (m : Int), k ≤ q.length → q.length < n + k →
    S.pnewest_l0 fu q 0 q.length ro n m k = some (newestF m (q.drop k), (q.length : Int), false) := by
  intro n
  induction n with
  | zero => intro k m _ _; omega
  | succ n ih =>
    intro k m hk hn
    unfold S.pnewest_l0
    by_cases c : k < q.length
    · have g1 : ((k : Int) < ((q.length : Nat) : Int)) := by omega
      have g2 : inB (k : Int) q.length = true := by unfold inB; simp; omega
      obtain ⟨x, hx⟩ : ∃ x, q[k]? = some x := ⟨q[k]'c, by simp⟩
      have g3 : q[Int.toNat (k : Int) + 0]? = some x := by simpa using hx
      have hw : IntKind.wrap .i64 ((k : Int) + 1) = ((k + 1 : Nat) : Int) := by rw [wrap_id (by omega) (by omega)]; omega
      simp only [g1, g2, g3, decide_true, cond_true, optK, hw, ptakes_eq]
      rw [getD_drop hx c]
      unfold newestF
      by_cases ht : Takes x
      · simp only [ht, decide_true, cond_true, if_true]
        exact ih (k + 1) _ (by omega) (by omega)
      · simp only [ht, decide_false, cond_false, if_false]
        exact ih (k + 1) _ (by omega) (by omega)
    · have g1 : ¬ ((k : Int) < ((q.length : Nat) : Int)) := by omega
      have hk2 : k = q.length := by omega
      simp only [g1, decide_false, cond_false]
      rw [List.drop_eq_nil_of_le (by omega), hk2]; rfl

theorem pnewest_eq (q : List (Int × Int)) (ro : Bool) (hl : q.length < 90000) : S.pnewest 100000 q 0 q.length ro = some (newestF (-1) q, q) := by
  unfold S.pnewest
  have := pnewest_loop 100000 q ro (by omega) 100000 0 (-1) (by omega) (by omega)
  have e : S.pnewest_l0 100000 q 0 q.length ro 100000 (-1) 0 = some (newestF (-1) q, (q.length : Int), false) := this
  rw [e]; rfl

theorem newest_le : ∀ (q : List (Int × Int)) (m : Int), m ≤ newestF m q ∧ ∀ x ∈ q, Takes x → x.1 ≤ newestF m q := by
  intro q
  induction q with
  | nil => intro m; exact ⟨Int.le_refl _, fun x hx => by cases hx⟩
  | cons y r ih =>
    intro m
    unfold newestF
    obtain ⟨h1, h2⟩ := ih (if Takes y then (if y.1 > m then y.1 else m) else m)
    refine ⟨?_, fun x hx ht => ?_⟩
    · refine Int.le_trans ?_ h1
      split
      · split <;> omega
      · omega
    · simp at hx
      rcases hx with hx | hx
      · subst hx
        refine Int.le_trans ?_ h1
        rw [if_pos ht]; split <;> omega
      · exact h2 x hx ht
theorem newest_top : ∀ (q : List (Int × Int)) (m T : Int), m ≤ T → (∀ x ∈ q, Takes x → x.1 ≤ T) → newestF m q ≤ T := by
  intro q
  induction q with
  | nil => intro m T h _; exact h
  | cons y r ih =>
    intro m T h hq
    unfold newestF
    refine ih _ T ?_ fun x hx => hq x (List.mem_cons_of_mem _ hx)
    split
    · have := hq y (List.mem_cons_self ..) (by assumption)
      split <;> omega
    · exact h

theorem madd_small {a b : Int} (a0 : 0 ≤ a) (a1 : a ≤ 4000000000000000000) (b0 : 0 ≤ b) (b1 : b ≤ 4000000000000000000) : (S.madd a b).1 = a + b := by
  unfold S.madd
  have e2 : IntKind.i64.wrap (a + b) = a + b := wrap_id (by omega) (by omega)
  have h' : ¬ b < 0 := by omega
  by_cases h : 0 < b
  · have e : IntKind.i64.wrap (9223372036854775807 - b) = 9223372036854775807 - b := wrap_id (by omega) (by omega)
    have h2 : ¬ 9223372036854775807 - b < a := by omega
    simp [h, h', e, h2, e2]
  · simp [h, h', e2]

theorem psum_loop (fu : Nat) (l : RL) (w t n e : Int) (q : List (Int × Int)) (ro : Bool) (hl : q.length < 100000) (n0 : 1 ≤ n) (n1 : n ≤ 600) (e1 : e ≤ 1099511627776) (t0 : 0 ≤ t) (t1 : t ≤ 2000000000000)
    (hq : ∀ x ∈ q, Takes x → x.1 ≤ e ∧ x.2 ≤ 1000000) :
    ∀ (k i : Nat) (nw s c : Int), i ≤ q.length → q.length < k + i → -1 ≤ nw → nw ≤ e → 0 ≤ s → s ≤ 1000000 * i → 0 ≤ c → c ≤ i →
    ∃ nw', S.psum_l0 fu l 0 q.length ro w 1 t k n e nw s c i q = some (n, e, nw', (sumG n e t s c (q.drop i)).1, (sumG n e t s c (q.drop i)).2, (q.length : Int), false, q) := by
  intro k
  induction k with
  | zero => intro i nw s c _ _ _ _ _ _ _ _; omega
  | succ k ih =>
    intro i nw s c hi hk w0 w1 s0 s1 c0 c1
    unfold S.psum_l0
    by_cases c2 : i < q.length
    · have g1 : ((i : Int) < ((q.length : Nat) : Int)) := by omega
      have g2 : inB (i : Int) q.length = true := by unfold inB; simp; omega
      obtain ⟨x, hx⟩ : ∃ x, q[i]? = some x := ⟨q[i]'c2, by simp⟩
      have g3 : q[Int.toNat (i : Int) + 0]? = some x := by simpa using hx
      have hw : IntKind.wrap .i64 ((i : Int) + 1) = ((i + 1 : Nat) : Int) := by rw [wrap_id (by omega) (by omega)]; omega
      have hwc : IntKind.wrap .i64 (c + 1) = c + 1 := wrap_id (by omega) (by omega)
      have hxq := hq x (List.mem_of_getElem? hx)
      have htt : IntKind.wrap .i64 (Int.tdiv t 1) = t := by rw [Int.tdiv_one]; exact wrap_id (by omega) (by omega)
      have z1 : ¬ ((1 : Int) = 0) := by decide
      simp only [g1, g2, g3, decide_true, cond_true, optK, hw, hwc, htt, ptakes_eq, z1, decide_false, cond_false]
      rw [getD_drop hx c2]
      unfold sumG
      by_cases ht : Takes x
      · obtain ⟨⟨x0, x1⟩, v0⟩ := ht
        have ht : Takes x := ⟨⟨x0, x1⟩, v0⟩
        obtain ⟨xe, ve⟩ := hxq ht
        have hat : IntKind.wrap .i64 (Int.tdiv x.1 1) = x.1 := by rw [Int.tdiv_one]; exact wrap_id (by omega) (by omega)
        simp only [ht, decide_true, Bool.not_true, cond_false, hat]
        have hn : ∃ m, m = (if x.1 > nw then x.1 else nw) := ⟨_, rfl⟩
        obtain ⟨m, hm⟩ := hn
        have hm2 : x.1 ≤ m ∧ m ≤ e ∧ -1 ≤ m := by subst hm; split <;> omega
        rw [← hm, wrap_id (n := m - x.1) (by omega) (by omega), wrap_id (n := e - x.1) (by omega) (by omega), wrap_id (n := t - x.1) (by omega) (by omega)]
        have hc : Cnt n e t x ↔ ((x.1 ≤ t ∧ t - x.1 < n) ∧ e - x.1 < n) := ⟨fun h => h.2, fun h => ⟨ht, h⟩⟩
        by_cases k1 : n ≤ m - x.1
        · have : ¬ Cnt n e t x := by rw [hc]; omega
          simp only [k1, this, decide_true, cond_true, if_false]
          exact ih (i + 1) m s c (by omega) (by omega) (by omega) (by omega) s0 (by omega) c0 (by omega)
        · by_cases k2 : n ≤ e - x.1
          · have : ¬ Cnt n e t x := by rw [hc]; omega
            simp only [k1, k2, this, decide_true, decide_false, cond_true, cond_false, if_false]
            exact ih (i + 1) m s c (by omega) (by omega) (by omega) (by omega) s0 (by omega) c0 (by omega)
          · by_cases k3 : t < x.1
            · have : ¬ Cnt n e t x := by rw [hc]; omega
              simp only [k1, k2, k3, this, decide_true, decide_false, cond_true, cond_false, if_false]
              exact ih (i + 1) m s c (by omega) (by omega) (by omega) (by omega) s0 (by omega) c0 (by omega)
            · by_cases k4 : n ≤ t - x.1
              · have : ¬ Cnt n e t x := by rw [hc]; omega
                simp only [k1, k2, k3, k4, this, decide_true, decide_false, cond_true, cond_false, if_false]
                exact ih (i + 1) m s c (by omega) (by omega) (by omega) (by omega) s0 (by omega) c0 (by omega)
              · have : Cnt n e t x := by rw [hc]; omega
                simp only [k1, k2, k3, k4, this, decide_true, decide_false, cond_true, cond_false, if_true, madd_small s0 (by omega) v0 (by omega)]
                exact ih (i + 1) m (s + x.2) (c + 1) (by omega) (by omega) (by omega) (by omega) (by omega) (by omega) (by omega) (by omega)
      · have : ¬ Cnt n e t x := fun h => ht h.1
        simp only [ht, this, decide_false, Bool.not_false, cond_true, if_false]
        exact ih (i + 1) nw s c (by omega) (by omega) w0 w1 s0 (by omega) c0 (by omega)
    · have g1 : ¬ ((i : Int) < ((q.length : Nat) : Int)) := by omega
      have hk2 : i = q.length := by omega
      simp only [g1, decide_false, cond_false]
      rw [List.drop_eq_nil_of_le (by omega), hk2]; exact ⟨nw, rfl⟩

theorem psum_neg (q : List (Int × Int)) (ro : Bool) (w t : Int) (w0 : 1 ≤ w) (w1 : w ≤ 600) (ht : t < 0) : S.psum 100000 q 0 q.length ro w 1 t = some (0, 0, q) := by
  have hb : S.pbuckets w 1 = some w := by
    unfold S.pbuckets
    rw [wrap_id (n := w + 1) (by omega) (by omega), wrap_id (n := w + 1 - 1) (by omega) (by omega), Int.tdiv_one, wrap_id (by omega) (by omega)]
    simp
  have hr : S.pring w 1 = some (.inr (w, 1, w)) := by
    unfold S.pring
    have k1 : ¬ w < 1 := by omega
    have k2 : ¬ 600 < w := by omega
    simp [k1, k2, hb, optK]
  unfold S.psum
  rw [hr]
  simp only [optK, Sum.elim_inr, ht, decide_true, cond_true]

theorem psum_eq (q : List (Int × Int)) (ro : Bool) (w t : Int) (hl : q.length < 90000) (w0 : 1 ≤ w) (w1 : w ≤ 600) (t0 : 0 ≤ t) (t1 : t ≤ 2000000000000) (hq : ∀ x ∈ q, Takes x → x.2 ≤ 1000000) :
    S.psum 100000 q 0 q.length ro w 1 t = some ((sumG w (newestF (-1) q) t 0 0 q).1, (sumG w (newestF (-1) q) t 0 0 q).2, q) := by
  have hb : S.pbuckets w 1 = some w := by
    unfold S.pbuckets
    rw [wrap_id (n := w + 1) (by omega) (by omega), wrap_id (n := w + 1 - 1) (by omega) (by omega), Int.tdiv_one, wrap_id (by omega) (by omega)]
    simp
  have hr : S.pring w 1 = some (.inr (w, 1, w)) := by
    unfold S.pring
    have k1 : ¬ w < 1 := by omega
    have k2 : ¬ 600 < w := by omega
    simp [k1, k2, hb, optK]
  obtain ⟨h1, h2⟩ := newest_le q (-1)
  have h3 := newest_top q (-1) 1099511627776 (by omega) (fun x _ ht => ht.1.2)
  have hn : ¬ t < 0 := by omega
  have z1 : ¬ ((1 : Int) = 0) := by decide
  unfold S.psum
  rw [hr]
  simp only [optK, Sum.elim_inr, hn, decide_false, cond_false, hb, pnewest_eq q ro hl, z1]
  rw [Int.tdiv_one, wrap_id (by omega) (by omega)]
  obtain ⟨nw, e⟩ := psum_loop 100000 q w t w (newestF (-1) q) q ro (by omega) w0 w1 h3 t0 t1 (fun x hx ht => ⟨h2 x hx ht, hq x hx ht⟩) 100000 0 (-1) 0 0 (by omega) (by omega) (by omega) h1 (by omega) (by omega) (by omega) (by omega)
  have e' : S.psum_l0 100000 q 0 q.length ro w 1 t 100000 w (newestF (-1) q) (-1) 0 0 0 q = some (w, newestF (-1) q, nw, (sumG w (newestF (-1) q) t 0 0 q).1, (sumG w (newestF (-1) q) t 0 0 q).2, (q.length : Int), false, q) := e
  rw [e']; rfl
end Go.Proofs.Ytfoaihjkmfhaoaa.AB
