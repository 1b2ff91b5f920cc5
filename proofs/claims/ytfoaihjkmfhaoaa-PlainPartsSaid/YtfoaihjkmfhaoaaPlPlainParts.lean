/- PlainParts answers true. -/
import Derived.Test.YtfoaihjkmfhaoaaPlPlain
import Derived.Test.YtfoaihjkmfhaoaaSPlainParts
namespace Go.Proofs.Ytfoaihjkmfhaoaa.AB
set_option linter.unusedVariables false
set_option linter.unusedSimpArgs false

/-- with records that are refused behind each -/
def ext : List (Int × Int) → List (Int × Int)
  | [] => []
  | x :: r => x :: (-1, 5) :: (3, -5) :: (1099511627777, 5) :: ext r
theorem ext_append : ∀ (a : List (Int × Int)) (x : Int × Int), ext (a ++ [x]) = ext a ++ [x, (-1, 5), (3, -5), (1099511627777, 5)] := by
  intro a
  induction a with
  | nil => intro x; rfl
  | cons y r ih => intro x; simp only [List.cons_append, ext, ih]
theorem ext_length : ∀ (a : List (Int × Int)), (ext a).length = 4 * a.length := by
  intro a
  induction a with
  | nil => rfl
  | cons y r ih => simp [ext, ih]; omega
theorem ext_newest : ∀ (a : List (Int × Int)) (m : Int), newestF m (ext a) = newestF m a := by
  intro a
  induction a with
  | nil => intro m; rfl
  | cons y r ih =>
    intro m
    have h1 : ¬ Takes (-1, 5) := by decide
    have h2 : ¬ Takes (3, -5) := by decide
    have h3 : ¬ Takes (1099511627777, 5) := by decide
    simp only [ext, newestF, h1, h2, h3, if_false, ih]
theorem ext_sum (n e t : Int) : ∀ (a : List (Int × Int)) (s c : Int), sumG n e t s c (ext a) = sumG n e t s c a := by
  intro a
  induction a with
  | nil => intro s c; rfl
  | cons y r ih =>
    intro s c
    have h1 : ¬ Cnt n e t (-1, 5) := fun h => absurd h.1 (by decide)
    have h2 : ¬ Cnt n e t (3, -5) := fun h => absurd h.1 (by decide)
    have h3 : ¬ Cnt n e t (1099511627777, 5) := fun h => absurd h.1 (by decide)
    simp only [ext, sumG, h1, h2, h3, if_false, ih]
theorem sumG_snd (n e t : Int) : ∀ (q : List (Int × Int)) (s s' c : Int), (sumG n e t s c q).2 = (sumG n e t s' c q).2 := by
  intro q
  induction q with
  | nil => intro s s' c; rfl
  | cons y r ih =>
    intro s s' c
    unfold sumG
    split
    · exact ih _ _ _
    · exact ih _ _ _

def Small (a : List (Int × Int)) : Prop := ∀ x ∈ a, 0 ≤ x.1 ∧ x.1 < 50 ∧ 0 ≤ x.2 ∧ x.2 < 1000

theorem cutL_whole {α : Type} (q : List α) : cutL q 0 q.length = q := by unfold cutL; simp

theorem parts_l0 (fu : Nat) (l : RL) (len : Nat) (t : Int) (hl : len = List.length l) (h30 : len ≤ 30) : ∀ (n i : Nat) (a : List (Int × Int)), i ≤ len → len < n + i → a.length = i → Small a →
    ∃ (c : Int) (b : Bool) (a' : List (Int × Int)), S.PlainParts_l0 fu l len t n a.length (ext a).length i a (ext a) = some (a'.length, (ext a').length, c, b, a', ext a') ∧ a'.length ≤ 30 ∧ Small a' := by
  intro n
  induction n with
  | zero => intro i a _ _ _ _; omega
  | succ n ih =>
    intro i a hi hn ha hs
    unfold S.PlainParts_l0
    by_cases c : i < len
    · have g1 : ((i : Int) < ((len : Nat) : Int)) := by omega
      have g2 : inB (i : Int) len = true := by unfold inB; simp; omega
      obtain ⟨o, ho⟩ : ∃ o, l[i]? = some o := ⟨l[i]'(by omega), by simp⟩
      have g3 : l[Int.toNat (i : Int) + 0]? = some o := by simpa using ho
      have gw : IntKind.wrap .i64 ((i : Int) + 1) = ((i + 1 : Nat) : Int) := by rw [wrap_id (by omega) (by omega)]; omega
      have hel := ext_length a
      have b1 : (Nat.beq 2 2 && Nat.blt 0 16 && Nat.beq 2 2 && Nat.beq 2 2 && Nat.beq 2 2 && Nat.blt 0 1 && !Nat.beq 1 2 && Nat.ble ((a.length + 1) * 16) 35184372088832) = true := by
        have : Nat.ble ((a.length + 1) * 16) 35184372088832 = true := Nat.ble_eq.mpr (by omega)
        rw [this]; rfl
      have b1' : (Nat.beq 2 2 && Nat.blt 0 16 && Nat.beq 2 2 && Nat.beq 2 2 && Nat.beq 2 2 && Nat.blt 0 1 && !Nat.beq 1 4 && Nat.ble ((a.length + 1) * 16) 35184372088832) = true := by
        have : Nat.ble ((a.length + 1) * 16) 35184372088832 = true := Nat.ble_eq.mpr (by omega)
        rw [this]; rfl
      have b2 : (Nat.beq 2 2 && Nat.blt 0 16 && Nat.beq 2 2 && Nat.beq 2 2 && Nat.beq 2 2 && Nat.blt 0 4 && !Nat.beq 2 6 && Nat.ble (((ext a).length + 4) * 16) 35184372088832) = true := by
        have : Nat.ble (((ext a).length + 4) * 16) 35184372088832 = true := Nat.ble_eq.mpr (by omega)
        rw [this]; rfl
      obtain ⟨x0, x1⟩ := umod_range o.1 50 (by decide)
      obtain ⟨v0, v1⟩ := umod_range o.2 1000 (by decide)
      have ex : IntKind.wrap .i64 (Int.tmod (IntKind.wrap .u64 o.1) 50) = Int.tmod (IntKind.wrap .u64 o.1) 50 := wrap_id (by omega) (by omega)
      have ev : IntKind.wrap .i64 (Int.tmod (IntKind.wrap .u64 o.2) 1000) = Int.tmod (IntKind.wrap .u64 o.2) 1000 := wrap_id (by omega) (by omega)
      simp only [g1, g2, g3, decide_true, cond_true, optK, gw, ex, ev, b1, b1', b2]
      generalize Int.tmod (IntKind.wrap .u64 o.1) 50 = x at *
      generalize Int.tmod (IntKind.wrap .u64 o.2) 1000 = v at *
      have c1 : cutL a 0 a.length ++ cutL [(x, v)] 0 1 = a ++ [(x, v)] := by rw [cutL_whole]; rfl
      have c2 : cutL (ext a) 0 (ext a).length ++ cutL [(x, v), (-1, 5), (3, -5), (1099511627777, 5)] 0 4 = ext (a ++ [(x, v)]) := by rw [cutL_whole, ext_append]; rfl
      rw [c1, c2]
      refine ih (i + 1) (a ++ [(x, v)]) (by omega) (by omega) (by simp [ha]) fun y hy => ?_
      simp at hy
      rcases hy with hy | hy
      · exact hs y hy
      · subst hy; simp only; omega
    · have g1 : ¬ ((i : Int) < ((len : Nat) : Int)) := by omega
      simp only [g1, decide_false, cond_false]
      exact ⟨_, _, a, rfl, by omega, hs⟩

theorem parts_l1 (fu : Nat) (l : RL) (len : Nat) (t k e : Int) (hk : IntKind.wrap .i64 (Int.tmod (IntKind.wrap .u64 t) 60) = k) (k0 : 0 ≤ k) (k1 : k < 60) (e0 : -1 ≤ e) (e1 : e ≤ 1099511627776) (a : List (Int × Int)) (ha : a.length ≤ 30) (hs : Small a) (y1 : Nat) (y2 y3 y4 y5 : Int) (y10 : List (Int × Int)) :
    ∀ (n i : Nat) (c : Int), i ≤ a.length → a.length < n + i → 0 ≤ c → c ≤ i →
    S.PlainParts_l1 fu l len t n a.length y1 y2 y3 y4 y5 e c i a y10 = some (a.length, y1, y2, y3, y4, y5, e, (sumG 10 e k 0 c (a.drop i)).2, (a.length : Int), false, a, y10) := by
  intro n
  induction n with
  | zero => intro i c _ _ _ _; omega
  | succ n ih =>
    intro i c hi hn c0 c1
    unfold S.PlainParts_l1
    rw [hk]
    by_cases c2 : i < a.length
    · have g1 : ((i : Int) < ((a.length : Nat) : Int)) := by omega
      have g2 : inB (i : Int) a.length = true := by unfold inB; simp; omega
      obtain ⟨x, hx⟩ : ∃ x, a[i]? = some x := ⟨a[i]'c2, by simp⟩
      have g3 : a[Int.toNat (i : Int) + 0]? = some x := by simpa using hx
      have gw : IntKind.wrap .i64 ((i : Int) + 1) = ((i + 1 : Nat) : Int) := by rw [wrap_id (by omega) (by omega)]; omega
      have gc : IntKind.wrap .i64 (c + 1) = c + 1 := wrap_id (by omega) (by omega)
      obtain ⟨x0, x1, v0, v1⟩ := hs x (List.mem_of_getElem? hx)
      have ht : Takes x := ⟨⟨x0, by omega⟩, v0⟩
      have hc : Cnt 10 e k x ↔ ((x.1 ≤ k ∧ k - x.1 < 10) ∧ e - x.1 < 10) := ⟨fun h => h.2, fun h => ⟨ht, h⟩⟩
      have w1 : IntKind.wrap .i64 (k - 10) = k - 10 := wrap_id (by omega) (by omega)
      have w2 : IntKind.wrap .i64 (e - 10) = e - 10 := wrap_id (by omega) (by omega)
      simp only [g1, g2, g3, decide_true, cond_true, optK, gw, gc, w1, w2]
      rw [getD_drop hx c2]
      unfold sumG
      by_cases k3 : x.1 ≤ k
      · by_cases k4 : k - 10 < x.1
        · by_cases k5 : e - 10 < x.1
          · have : Cnt 10 e k x := by rw [hc]; omega
            simp only [k3, k4, k5, this, decide_true, cond_true, if_true]
            rw [ih (i + 1) (c + 1) (by omega) (by omega) (by omega) (by omega), sumG_snd 10 e k (a.drop (i + 1)) 0 (0 + x.2) (c + 1)]
          · have : ¬ Cnt 10 e k x := by rw [hc]; omega
            simp only [k3, k4, k5, this, decide_true, decide_false, cond_true, cond_false, if_false]
            exact ih (i + 1) c (by omega) (by omega) c0 (by omega)
        · have : ¬ Cnt 10 e k x := by rw [hc]; omega
          simp only [k3, k4, this, decide_true, decide_false, cond_true, cond_false, if_false]
          exact ih (i + 1) c (by omega) (by omega) c0 (by omega)
      · have : ¬ Cnt 10 e k x := by rw [hc]; omega
        simp only [k3, this, decide_false, cond_false, if_false]
        exact ih (i + 1) c (by omega) (by omega) c0 (by omega)
    · have g1 : ¬ ((i : Int) < ((a.length : Nat) : Int)) := by omega
      have hk2 : i = a.length := by omega
      simp only [g1, decide_false, cond_false]
      rw [List.drop_eq_nil_of_le (by omega), hk2]; rfl

theorem PlainParts_true (l : RL) (t : Int) : S.PlainParts 100000 l (List.length l) t = some true := by
  unfold S.PlainParts
  by_cases h30 : (30 : Int) < ((List.length l : Nat) : Int)
  · simp only [h30, decide_true, cond_true]
  · simp only [h30, decide_false, cond_false]
    obtain ⟨c, b, a, e, hal, hs⟩ := parts_l0 100000 l (List.length l) t rfl (by omega) 100000 0 [] (by omega) (by omega) rfl (fun x hx => by cases hx)
    have e' : S.PlainParts_l0 100000 l (List.length l) t 100000 0 0 0 [] [] = some (a.length, (ext a).length, c, b, a, ext a) := e
    rw [e']
    simp only [optK]
    unfold S.PlainParts_a0_0
    obtain ⟨k0, k1⟩ := umod_range t 60 (by decide)
    obtain ⟨k, hk⟩ : ∃ k, IntKind.wrap .i64 (Int.tmod (IntKind.wrap .u64 t) 60) = k := ⟨_, rfl⟩
    have hk2 : 0 ≤ k ∧ k < 60 := by
      have : IntKind.wrap .i64 (Int.tmod (IntKind.wrap .u64 t) 60) = Int.tmod (IntKind.wrap .u64 t) 60 := wrap_id (by omega) (by omega)
      omega
    have hel := ext_length a
    have hsv : ∀ x ∈ a, Takes x → x.2 ≤ 1000000 := fun x hx _ => by have := hs x hx; omega
    have hev : ∀ (a : List (Int × Int)), (∀ x ∈ a, Takes x → x.2 ≤ 1000000) → ∀ x ∈ ext a, Takes x → x.2 ≤ 1000000 := by
      intro a
      induction a with
      | nil => intro _ x hx; cases hx
      | cons y r ih =>
        intro h x hx ht
        simp only [ext, List.mem_cons] at hx
        rcases hx with hx | hx | hx | hx | hx
        · subst hx; exact h x (List.mem_cons_self ..) ht
        · subst hx; decide
        · subst hx; decide
        · subst hx; decide
        · exact ih (fun z hz => h z (List.mem_cons_of_mem _ hz)) x hx ht
    have p1 := psum_eq a false 10 k (by omega) (by omega) (by omega) hk2.1 (by omega) hsv
    have p2 := psum_eq (ext a) false 10 k (by omega) (by omega) (by omega) hk2.1 (by omega) (hev a hsv)
    rw [ext_newest, ext_sum] at p2
    have n1 := pnewest_eq a false (by omega)
    have n2 := pnewest_eq (ext a) false (by omega)
    rw [ext_newest] at n2
    obtain ⟨m1, _⟩ := newest_le a (-1)
    have m2 := newest_top a (-1) 1099511627776 (by omega) (fun x _ ht => ht.1.2)
    rw [hk]
    simp only [S.q_psum_eq, S.q_pnewest_eq, p1, p2, n1, optK]
    have hl1 := parts_l1 100000 l (List.length l) t k (newestF (-1) a) hk hk2.1 hk2.2 m1 m2 a hal hs (ext a).length (sumG 10 (newestF (-1) a) k 0 0 a).1 (sumG 10 (newestF (-1) a) k 0 0 a).2 (sumG 10 (newestF (-1) a) k 0 0 a).1 (sumG 10 (newestF (-1) a) k 0 0 a).2 (ext a) 100000 0 0 (by omega) (by omega) (by omega) (by omega)
    have hl1' : S.PlainParts_l1 100000 l (List.length l) t 100000 a.length (ext a).length (sumG 10 (newestF (-1) a) k 0 0 a).1 (sumG 10 (newestF (-1) a) k 0 0 a).2 (sumG 10 (newestF (-1) a) k 0 0 a).1 (sumG 10 (newestF (-1) a) k 0 0 a).2 (newestF (-1) a) 0 0 a (ext a) = some (a.length, (ext a).length, (sumG 10 (newestF (-1) a) k 0 0 a).1, (sumG 10 (newestF (-1) a) k 0 0 a).2, (sumG 10 (newestF (-1) a) k 0 0 a).1, (sumG 10 (newestF (-1) a) k 0 0 a).2, newestF (-1) a, (sumG 10 (newestF (-1) a) k 0 0 a).2, (a.length : Int), false, a, ext a) := hl1
    rw [hl1']
    simp only [S.PlainParts_a1_0, S.q_pnewest_eq, n2, optK, decide_true, cond_true, Int.le_refl]
    by_cases h0 : (0 : Int) < ((a.length : Nat) : Int)
    · simp only [h0, decide_true, cond_true]
    · have ha : a = [] := List.eq_nil_of_length_eq_zero (by omega)
      simp only [h0, decide_false, cond_false]
      subst ha; rfl
end Go.Proofs.Ytfoaihjkmfhaoaa.AB
