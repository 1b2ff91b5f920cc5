/- Sums by all that was, of a part of the records, and what a ring keeps of them. -/
import Derived.Test.YtfoaihjkmfhaoaaPlRing4
import Derived.Test.YtfoaihjkmfhaoaaSplain
namespace Go.Proofs.Ytfoaihjkmfhaoaa.AB
set_option linter.unusedVariables false
set_option linter.unusedSimpArgs false

theorem ptakes_eq (x : Int × Int) : S.ptakes x.1 x.2 = decide (Takes x) := by
  unfold S.ptakes Takes
  by_cases h1 : 0 ≤ x.1 <;> by_cases h2 : x.1 ≤ 1099511627776 <;> simp [h1, h2]

def newestF : Int → List (Int × Int) → Int
  | m, [] => m
  | m, x :: r => newestF (if Takes x then (if x.1 > m then x.1 else m) else m) r

theorem newest_le : ∀ (q : List (Int × Int)) (m : Int), m ≤ newestF m q ∧ ∀ x ∈ q, Takes x → x.1 ≤ newestF m q := by
  intro q
  induction q with
  | nil => intro m; exact ⟨Int.le_refl _, fun x hx => by cases hx⟩
  | cons y r ih =>
    intro m
    unfold newestF
    obtain ⟨h1, h2⟩ := ih (if Takes y then (if y.1 > m then y.1 else m) else m)
    refine ⟨?_, fun x hx ht => ?_⟩
    · refine Int.le_trans ?_ h1
      split
      · split <;> omega
      · omega
    · simp at hx
      rcases hx with hx | hx
      · subst hx
        refine Int.le_trans ?_ h1
        rw [if_pos ht]; split <;> omega
      · exact h2 x hx ht
theorem newest_top : ∀ (q : List (Int × Int)) (m T : Int), m ≤ T → (∀ x ∈ q, Takes x → x.1 ≤ T) → newestF m q ≤ T := by
  intro q
  induction q with
  | nil => intro m T h _; exact h
  | cons y r ih =>
    intro m T h hq
    unfold newestF
    refine ih _ T ?_ fun x hx => hq x (List.mem_cons_of_mem _ hx)
    split
    · have := hq y (List.mem_cons_self ..) (by assumption)
      split <;> omega
    · exact h

/-- what is summed -/
def CntB (g n e tb : Int) (x : Int × Int) : Prop := Takes x ∧ (bk g x ≤ tb ∧ tb - bk g x < n) ∧ e - bk g x < n
instance (g n e t : Int) (x : Int × Int) : Decidable (CntB g n e t x) := inferInstanceAs (Decidable (_ ∧ _))
def sumB (g n e tb : Int) : Int → Int → List (Int × Int) → Int × Int
  | s, c, [] => (s, c)
  | s, c, x :: r => if CntB g n e tb x then sumB g n e tb (S.madd s x.2).1 (c + 1) r else sumB g n e tb s c r
theorem sumB_c (g n e tb : Int) : ∀ (q : List (Int × Int)) (s c : Int), c ≤ (sumB g n e tb s c q).2 := by
  intro q
  induction q with
  | nil => intro s c; exact Int.le_refl _
  | cons x r ih =>
    intro s c
    unfold sumB
    split
    · have := ih (S.madd s x.2).1 (c + 1); omega
    · exact ih s c

/-- the end: the newest bucket, as the program tells it -/
def endB (g : Int) (q : List (Int × Int)) : Int := (newestF (-1) q).tdiv g
theorem endB_b (g : Int) (q : List (Int × Int)) (g1 : 1 ≤ g) : -1 ≤ endB g q ∧ endB g q ≤ 1099511627776 := by
  obtain ⟨h1, _⟩ := newest_le q (-1)
  have h3 := newest_top q (-1) 1099511627776 (by omega) (fun x _ ht => ht.1.2)
  unfold endB
  by_cases h : 0 ≤ newestF (-1) q
  · have := tdv h g1; omega
  · have e : newestF (-1) q = -1 := by omega
    have := tdv (a := 1) (g := g) (by omega) g1
    rw [e, show (-1 : Int).tdiv g = -((1 : Int).tdiv g) from Int.neg_tdiv ..]
    omega
theorem bk_end (g : Int) (q : List (Int × Int)) (g1 : 1 ≤ g) : ∀ x ∈ q, Takes x → bk g x ≤ endB g q := by
  intro x hx ht
  exact Int.tdiv_le_tdiv (by omega) ((newest_le q (-1)).2 x hx ht)

def nbF (g : Int) : Int → List (Int × Int) → Int
  | m, [] => m
  | m, x :: r => nbF g (if Takes x then (if bk g x > m then bk g x else m) else m) r
theorem nbF_le (g : Int) : ∀ (q : List (Int × Int)) (m : Int), m ≤ nbF g m q := by
  intro q
  induction q with
  | nil => intro m; exact Int.le_refl _
  | cons y r ih =>
    intro m
    unfold nbF
    refine Int.le_trans ?_ (ih _)
    split
    · split <;> omega
    · omega
theorem nb_end0 (g : Int) (g1 : 1 ≤ g) : ∀ (q : List (Int × Int)) (m : Int), nbF g (m.tdiv g) q = (newestF m q).tdiv g := by
  intro q
  induction q with
  | nil => intro m; rfl
  | cons y r ih =>
    intro m
    unfold nbF newestF
    rw [← ih]
    congr 1
    by_cases ht : Takes y
    · rw [if_pos ht, if_pos ht]
      by_cases h : y.1 > m
      · have := Int.tdiv_le_tdiv (a := m) (b := y.1) (c := g) (by omega) (by omega)
        rw [if_pos h]; unfold bk; split <;> omega
      · have := Int.tdiv_le_tdiv (a := y.1) (b := m) (c := g) (by omega) (by omega)
        rw [if_neg h]; unfold bk; split <;> omega
    · rw [if_neg ht, if_neg ht]
theorem nb_end (g : Int) (g1 : 1 ≤ g) : ∀ (q : List (Int × Int)), nbF g (-1) q = endB g q ∨ ∀ x ∈ q, ¬ Takes x := by
  intro q
  induction q with
  | nil => exact .inr fun x hx => by cases hx
  | cons y r ih =>
    by_cases ht : Takes y
    · refine .inl ?_
      have hb := bk_b g1 ht
      have h1 : bk g y > -1 := by omega
      have h2 : y.1 > -1 := by have := ht.1.1; omega
      unfold endB nbF newestF
      rw [if_pos ht, if_pos h1, if_pos ht, if_pos h2]
      exact nb_end0 g g1 r y.1
    · unfold endB nbF newestF
      rw [if_neg ht, if_neg ht]
      rcases ih with h | h
      · exact .inl h
      · refine .inr fun x hx => ?_
        simp at hx
        rcases hx with hx | hx
        · subst hx; exact ht
        · exact h x hx
theorem sumB_none (g n tb s c : Int) : ∀ (q : List (Int × Int)) (e : Int), (∀ x ∈ q, ¬ Takes x) → sumB g n e tb s c q = (s, c) := by
  intro q
  induction q with
  | nil => intro e _; rfl
  | cons y r ih =>
    intro e h
    unfold sumB
    rw [if_neg (fun hc => h y (List.mem_cons_self ..) hc.1)]
    exact ih e fun x hx => h x (List.mem_cons_of_mem _ hx)


theorem drop_take {l : List (Int × Int)} {m k : Nat} {x : Int × Int} (hm : m ≤ l.length) (hx : l[k]? = some x) (hk : k < m) : (l.take m).drop k = x :: (l.take m).drop (k + 1) := by
  refine getD_drop ?_ (by rw [List.length_take]; omega)
  rw [List.getElem?_take, if_pos hk]; exact hx
theorem drop_take_nil {l : List (Int × Int)} {m k : Nat} (hk : m ≤ k) : (l.take m).drop k = [] := List.drop_eq_nil_of_le (by rw [List.length_take]; omega)

theorem pnewest_loop (fu : Nat) (l : List (Int × Int)) (m : Nat) (ro : Bool) (hm : m ≤ l.length) (hl : m < 1000000) : ∀ (n k : Nat) (y : Int), k ≤ m → m < n + k →
    S.pnewest_l0 fu l 0 m ro n y k = some (newestF y ((l.take m).drop k), (m : Int), false) := by
  intro n
  induction n with
  | zero => intro k y _ _; omega
  | succ n ih =>
    intro k y hk hn
    unfold S.pnewest_l0
    by_cases c : k < m
    · have g1 : ((k : Int) < ((m : Nat) : Int)) := by omega
      have g2 : inB (k : Int) m = true := by unfold inB; simp; omega
      obtain ⟨x, hx⟩ : ∃ x, l[k]? = some x := ⟨l[k]'(by omega), by simp⟩
      have g3 : l[Int.toNat (k : Int) + 0]? = some x := by simpa using hx
      have hw : IntKind.wrap .i64 ((k : Int) + 1) = ((k + 1 : Nat) : Int) := by rw [wrap_id (by omega) (by omega)]; omega
      simp only [g1, g2, g3, decide_true, cond_true, optK, hw, ptakes_eq]
      rw [drop_take hm hx c]
      unfold newestF
      by_cases ht : Takes x
      · simp only [ht, decide_true, cond_true, if_true]
        exact ih (k + 1) _ (by omega) (by omega)
      · simp only [ht, decide_false, cond_false, if_false]
        exact ih (k + 1) _ (by omega) (by omega)
    · have g1 : ¬ ((k : Int) < ((m : Nat) : Int)) := by omega
      have hk2 : k = m := by omega
      simp only [g1, decide_false, cond_false]
      rw [drop_take_nil (by omega), hk2]; rfl
theorem pnewest_eq (l : List (Int × Int)) (m : Nat) (ro : Bool) (hm : m ≤ l.length) (hl : m < 90000) : S.pnewest 100000 l 0 m ro = some (newestF (-1) (l.take m)) := by
  have e : S.pnewest_l0 100000 l 0 m ro 100000 (-1) 0 = some (newestF (-1) (l.take m), (m : Int), false) := pnewest_loop 100000 l m ro hm (by omega) 100000 0 (-1) (by omega) (by omega)
  unfold S.pnewest S.pnewest_a0_0
  rw [e]; rfl

theorem psumB_loop (fu : Nat) (l : RL) (m : Nat) (w g t n e : Int) (ro : Bool) (hm : m ≤ l.length) (hl : m < 100000) (g1 : 1 ≤ g) (n0 : 1 ≤ n) (n1 : n ≤ 1200) (e1 : e ≤ 1099511627776) (t0 : 0 ≤ t) (t1 : t < 9223372036854775808)
    (hq : ∀ x ∈ l.take m, Takes x → bk g x ≤ e) :
    ∀ (k i : Nat) (nw s c : Int), i ≤ m → m < k + i → -1 ≤ nw → nw ≤ e → 0 ≤ c → c ≤ i →
    ∃ nw', S.psum_l0 fu l 0 m ro w g t k n e nw s c i = some (n, e, nw', (sumB g n e (t.tdiv g) s c ((l.take m).drop i)).1, (sumB g n e (t.tdiv g) s c ((l.take m).drop i)).2, (m : Int), false) := by
  intro k
  induction k with
  | zero => intro i nw s c _ _ _ _ _ _; omega
  | succ k ih =>
    intro i nw s c hi hk w0 w1 c0 c1
    unfold S.psum_l0
    by_cases c2 : i < m
    · have g1' : ((i : Int) < ((m : Nat) : Int)) := by omega
      have g2 : inB (i : Int) m = true := by unfold inB; simp; omega
      obtain ⟨x, hx⟩ : ∃ x, l[i]? = some x := ⟨l[i]'(by omega), by simp⟩
      have g3 : l[Int.toNat (i : Int) + 0]? = some x := by simpa using hx
      have hw : IntKind.wrap .i64 ((i : Int) + 1) = ((i + 1 : Nat) : Int) := by rw [wrap_id (by omega) (by omega)]; omega
      have hwc : IntKind.wrap .i64 (c + 1) = c + 1 := wrap_id (by omega) (by omega)
      have hxm : x ∈ l.take m := by
        refine List.mem_of_getElem? (i := i) ?_
        rw [List.getElem?_take, if_pos c2]; exact hx
      have hxq := hq x hxm
      have htd := tdv t0 g1
      have htt : IntKind.wrap .i64 (Int.tdiv t g) = Int.tdiv t g := wrap_id (by omega) (by omega)
      have z1 : ¬ (g = 0) := by omega
      simp only [g1', g2, g3, decide_true, cond_true, optK, hw, hwc, htt, ptakes_eq, z1, decide_false, cond_false]
      rw [drop_take hm hx c2]
      unfold sumB
      by_cases ht : Takes x
      · have xe := hxq ht
        have hat := bk_w g1 ht
        have hb := bk_b g1 ht
        simp only [ht, decide_true, Bool.not_true, cond_false, hat]
        have hn : ∃ y, y = (if bk g x > nw then bk g x else nw) := ⟨_, rfl⟩
        obtain ⟨y, hy⟩ := hn
        have hm2 : bk g x ≤ y ∧ y ≤ e ∧ -1 ≤ y := by subst hy; split <;> omega
        have hc : CntB g n e (t.tdiv g) x ↔ ((bk g x ≤ t.tdiv g ∧ t.tdiv g - bk g x < n) ∧ e - bk g x < n) := ⟨fun h => h.2, fun h => ⟨ht, h⟩⟩
        rw [← hy, wrap_id (n := y - bk g x) (by omega) (by omega), wrap_id (n := e - bk g x) (by omega) (by omega), wrap_id (n := t.tdiv g - bk g x) (by omega) (by omega)]
        by_cases k1 : n ≤ y - bk g x
        · have : ¬ CntB g n e (t.tdiv g) x := by rw [hc]; omega
          simp only [k1, this, decide_true, cond_true, if_false]
          exact ih (i + 1) y s c (by omega) (by omega) (by omega) (by omega) c0 (by omega)
        · by_cases k2 : n ≤ e - bk g x
          · have : ¬ CntB g n e (t.tdiv g) x := by rw [hc]; omega
            simp only [k1, k2, this, decide_true, decide_false, cond_true, cond_false, if_false]
            exact ih (i + 1) y s c (by omega) (by omega) (by omega) (by omega) c0 (by omega)
          · by_cases k3 : t.tdiv g < bk g x
            · have : ¬ CntB g n e (t.tdiv g) x := by rw [hc]; omega
              simp only [k1, k2, k3, this, decide_true, decide_false, cond_true, cond_false, if_false]
              exact ih (i + 1) y s c (by omega) (by omega) (by omega) (by omega) c0 (by omega)
            · by_cases k4 : n ≤ t.tdiv g - bk g x
              · have : ¬ CntB g n e (t.tdiv g) x := by rw [hc]; omega
                simp only [k1, k2, k3, k4, this, decide_true, decide_false, cond_true, cond_false, if_false]
                exact ih (i + 1) y s c (by omega) (by omega) (by omega) (by omega) c0 (by omega)
              · have : CntB g n e (t.tdiv g) x := by rw [hc]; omega
                simp only [k1, k2, k3, k4, this, decide_true, decide_false, cond_true, cond_false, if_true]
                exact ih (i + 1) y _ (c + 1) (by omega) (by omega) (by omega) (by omega) (by omega) (by omega)
      · have : ¬ CntB g n e (t.tdiv g) x := fun h => ht h.1
        simp only [ht, this, decide_false, Bool.not_false, cond_true, if_false]
        exact ih (i + 1) nw s c (by omega) (by omega) w0 w1 c0 (by omega)
    · have g1' : ¬ ((i : Int) < ((m : Nat) : Int)) := by omega
      have hk2 : i = m := by omega
      simp only [g1', decide_false, cond_false]
      rw [drop_take_nil (by omega), hk2]; exact ⟨nw, rfl⟩

theorem psumB_eq (l : RL) (m : Nat) (ro : Bool) (w g t : Int) (hm : m ≤ l.length) (hl : m < 90000) (h : Rok w g) (t0 : 0 ≤ t) (t1 : t < 9223372036854775808) :
    S.psum 100000 l 0 m ro w g t = some (sumB g (NB w g) (endB g (l.take m)) (t.tdiv g) 0 0 (l.take m)) := by
  obtain ⟨⟨h1, h2⟩, h3⟩ := h
  have hn : ¬ t < 0 := by omega
  have z1 : ¬ (g = 0) := by omega
  have hN := NB_b h1 h2 h3
  have he := endB_b g (l.take m) h1
  unfold S.psum
  rw [new_yes ⟨⟨h1, h2⟩, h3⟩]
  simp only [optK, Sum.elim_inr, hn, decide_false, cond_false, nb_eq h1 h2 h3, pnewest_eq l m ro hm hl, z1]
  rw [wrap_id (n := (newestF (-1) (l.take m)).tdiv g) (by unfold endB at he; omega) (by unfold endB at he; omega)]
  obtain ⟨nw, e⟩ := psumB_loop 100000 l m w g t (NB w g) (endB g (l.take m)) ro hm (by omega) h1 hN.1 hN.2 he.2 t0 t1 (bk_end g (l.take m) h1) 100000 0 (-1) 0 0 (by omega) (by omega) (by omega) he.1 (by omega) (by omega)
  have e' : S.psum_l0 100000 l 0 m ro w g t 100000 (NB w g) ((newestF (-1) (l.take m)).tdiv g) (-1) 0 0 0 = some (NB w g, endB g (l.take m), nw, (sumB g (NB w g) (endB g (l.take m)) (t.tdiv g) 0 0 (l.take m)).1, (sumB g (NB w g) (endB g (l.take m)) (t.tdiv g) 0 0 (l.take m)).2, (m : Int), false) := e
  rw [e']; rfl
theorem psumB_neg (l : RL) (m : Nat) (ro : Bool) (w g t : Int) (h : Rok w g) (ht : t < 0) : S.psum 100000 l 0 m ro w g t = some (0, 0) := by
  unfold S.psum
  rw [new_yes h]
  simp only [optK, Sum.elim_inr, ht, decide_true, cond_true]

/-- what a ring keeps of records -/
def KR (g n : Int) (q : List (Int × Int)) : List (Int × Int) := q.filter (fun x => decide (Takes x) && Kp g n (nbF g (-1) q) x)

theorem nbF_snoc (g : Int) : ∀ (q : List (Int × Int)) (m : Int) (x : Int × Int), nbF g m (q ++ [x]) = if Takes x then (if bk g x > nbF g m q then bk g x else nbF g m q) else nbF g m q
  | [], m, x => rfl
  | y :: q, m, x => by simp only [List.cons_append, nbF]; exact nbF_snoc g q _ x
theorem KR_put {g n : Int} {q : List (Int × Int)} {x : Int × Int} (hx : Takes x) (n1 : 1 ≤ n) : pnw g (nbF g (-1) q) x = nbF g (-1) (q ++ [x]) ∧ pR g n (nbF g (-1) q) x (KR g n q) = KR g n (q ++ [x]) := by
  have e1 : pnw g (nbF g (-1) q) x = nbF g (-1) (q ++ [x]) := by rw [nbF_snoc, if_pos hx]; rfl
  refine ⟨e1, ?_⟩
  have hle : nbF g (-1) q ≤ nbF g (-1) (q ++ [x]) := by rw [← e1]; unfold pnw; split <;> omega
  unfold KR
  by_cases c : nbF g (-1) q - bk g x < n
  · unfold pR
    rw [if_pos c, e1, List.filter_append, List.filter_append, List.filter_filter]
    congr 1
    · refine List.filter_congr fun y _ => ?_
      unfold Kp
      by_cases h : nbF g (-1) (q ++ [x]) - bk g y < n
      · have : nbF g (-1) q - bk g y < n := by omega
        simp [h, this]
      · simp [h]
    · rw [List.filter_cons, List.filter_cons, show decide (Takes x) = true from decide_eq_true hx, Bool.true_and]
      rfl
  · rw [pR_late c]
    have e2 : nbF g (-1) (q ++ [x]) = nbF g (-1) q := by rw [← e1]; unfold pnw; rw [if_neg (by omega)]
    rw [e2, List.filter_append]
    have : Kp g n (nbF g (-1) q) x = false := by unfold Kp; simp; omega
    simp [this]
where
  pR_late {g n nw : Int} {x : Int × Int} {R : List (Int × Int)} (h : ¬ nw - bk g x < n) : pR g n nw x R = R := by unfold pR; rw [if_neg h]
theorem KR_no {g n : Int} {q : List (Int × Int)} {x : Int × Int} (hx : ¬ Takes x) : nbF g (-1) (q ++ [x]) = nbF g (-1) q ∧ KR g n (q ++ [x]) = KR g n q := by
  have e1 : nbF g (-1) (q ++ [x]) = nbF g (-1) q := by rw [nbF_snoc, if_neg hx]
  refine ⟨e1, ?_⟩
  unfold KR
  rw [e1, List.filter_append]; simp [hx]
theorem nbF_b (g : Int) (g1 : 1 ≤ g) : ∀ (q : List (Int × Int)) (m : Int), -1 ≤ m → m ≤ 1099511627776 → -1 ≤ nbF g m q ∧ nbF g m q ≤ 1099511627776
  | [], m, h0, h1 => ⟨h0, h1⟩
  | x :: q, m, h0, h1 => by
    simp only [nbF]
    refine nbF_b g g1 q _ ?_ ?_
    · split
      · rename_i ht; have := bk_b g1 ht; split <;> omega
      · exact h0
    · split
      · rename_i ht; have := bk_b g1 ht; split <;> omega
      · exact h1

theorem sumB_ws (g n e tb : Int) : ∀ (q : List (Int × Int)) (Q c : Int), (∀ x ∈ q, x.2 ≤ M63) → 0 ≤ Q →
    sumB g n e tb (min M63 Q) c q = (min M63 (Q + vs g (inW n tb) (q.filter (fun x => decide (Takes x) && Kp g n e x))), c + ns g (inW n tb) (q.filter (fun x => decide (Takes x) && Kp g n e x))) := by
  have hM : (0 : Int) ≤ M63 := by unfold M63; omega
  intro q
  induction q with
  | nil => intro Q c _ _; simp [sumB, vs, ns, wsum]
  | cons x q ih =>
    intro Q c hv Q0
    have hx := hv x (by simp)
    have hq := fun y hy => hv y (List.mem_cons_of_mem _ hy)
    rw [List.filter_cons]
    unfold sumB
    by_cases ht : Takes x
    · by_cases hk : e - bk g x < n
      · have kp : Kp g n e x = true := by unfold Kp; simp [hk]
        simp only [ht, kp, decide_true, Bool.and_self, if_true]
        by_cases h1 : bk g x ≤ tb ∧ tb - bk g x < n
        · have k : inW n tb (bk g x) = true := by unfold inW; simp [h1]
          rw [if_pos (show CntB g n e tb x from ⟨ht, h1, hk⟩)]
          have hm := madd_nn (a := min M63 Q) (b := x.2) (by omega) (by omega) ht.2 hx
          have e1 : (S.madd (min M63 Q) x.2).1 = min M63 (Q + x.2) := by rw [hm]; have := ht.2; split <;> simp only <;> omega
          rw [e1, ih (Q + x.2) (c + 1) hq (by have := ht.2; omega)]
          unfold vs ns
          simp only [wsum, k, if_true]
          rw [Int.add_assoc, Int.add_assoc]
        · have k : inW n tb (bk g x) = false := by unfold inW; simpa using h1
          rw [if_neg (fun h : CntB g n e tb x => h1 h.2.1), ih Q c hq Q0]
          unfold vs ns
          simp only [wsum, k, Bool.false_eq_true, if_false, Int.zero_add]
      · have kp : Kp g n e x = false := by unfold Kp; simp; omega
        simp only [kp, Bool.and_false, Bool.false_eq_true, if_false]
        rw [if_neg (fun h : CntB g n e tb x => hk h.2.2), ih Q c hq Q0]
    · rw [if_neg (fun h : CntB g n e tb x => ht h.1)]
      simp only [ht, decide_false, Bool.false_and, Bool.false_eq_true, if_false]
      exact ih Q c hq Q0

/-- sums by all that was are the ring's -/
theorem psum_ok (l : RL) (m : Nat) (ro : Bool) (w g t : Int) (hv : ∀ x ∈ l, x.2 ≤ M63) (hm : m ≤ l.length) (hl : m < 90000) (h : Rok w g) (t0 : 0 ≤ t) (t1 : t < 9223372036854775808) :
    S.psum 100000 l 0 m ro w g t = some (min M63 (vs g (inW (NB w g) (t.tdiv g)) (KR g (NB w g) (l.take m))), ns g (inW (NB w g) (t.tdiv g)) (KR g (NB w g) (l.take m))) := by
  have hM : (0 : Int) ≤ M63 := by unfold M63; omega
  rw [psumB_eq l m ro w g t hm hl h t0 t1]
  have hsame : sumB g (NB w g) (endB g (l.take m)) (t.tdiv g) 0 0 (l.take m) = sumB g (NB w g) (nbF g (-1) (l.take m)) (t.tdiv g) 0 0 (l.take m) := by
    rcases nb_end g h.1.1 (l.take m) with hh | hh
    · rw [hh]
    · rw [sumB_none _ _ _ _ _ _ _ hh, sumB_none _ _ _ _ _ _ _ hh]
  have := sumB_ws g (NB w g) (nbF g (-1) (l.take m)) (t.tdiv g) (l.take m) 0 0 (fun x hx => hv x (List.mem_of_mem_take hx)) (Int.le_refl _)
  rw [show min M63 0 = 0 by omega, Int.zero_add, Int.zero_add] at this
  rw [hsame, this]; rfl
theorem pmean_ok (l : RL) (m : Nat) (ro : Bool) (w g t : Int) (hv : ∀ x ∈ l, x.2 ≤ M63) (hm : m ≤ l.length) (hl : m < 90000) (h : Rok w g) (t0 : 0 ≤ t) (t1 : t < 9223372036854775808) :
    S.pmean l 0 m ro w g t = some (meanOf (min M63 (vs g (inW (NB w g) (t.tdiv g)) (KR g (NB w g) (l.take m)))) (ns g (inW (NB w g) (t.tdiv g)) (KR g (NB w g) (l.take m)))) := by
  have hM : (0 : Int) ≤ M63 := by unfold M63; omega
  have hv0 : 0 ≤ vs g (inW (NB w g) (t.tdiv g)) (KR g (NB w g) (l.take m)) := wsum_nn g _ (fun y hy => by
    have := (List.mem_filter.mp hy).2
    simp at this; exact this.1.2)
  have hc : 0 ≤ ns g (inW (NB w g) (t.tdiv g)) (KR g (NB w g) (l.take m)) := wsum_nn g _ (fun _ _ => by omega)
  unfold S.pmean
  rw [psum_ok l m ro w g t hv hm hl h t0 t1]
  simp only [optK]
  by_cases c : ns g (inW (NB w g) (t.tdiv g)) (KR g (NB w g) (l.take m)) = 0
  · simp only [c, decide_true, cond_true, meanOf, if_true]
  · have := meanOf_b (s := min M63 (vs g (inW (NB w g) (t.tdiv g)) (KR g (NB w g) (l.take m)))) (c := ns g (inW (NB w g) (t.tdiv g)) (KR g (NB w g) (l.take m))) (by omega) (by omega) hc
    simp only [c, decide_false, cond_false]
    unfold meanOf at this ⊢
    rw [if_neg c] at this ⊢
    unfold M63 at this
    rw [wrap_id (by unfold M63; omega) (by unfold M63; omega)]
theorem pmean_neg (l : RL) (m : Nat) (ro : Bool) (w g t : Int) (h : Rok w g) (ht : t < 0) : S.pmean l 0 m ro w g t = some 0 := by
  unfold S.pmean
  rw [psumB_neg l m ro w g t h ht]; rfl
end Go.Proofs.Ytfoaihjkmfhaoaa.AB
