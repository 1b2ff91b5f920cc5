/- Deletion by a test in place, put, most: what they come to. -/
import Derived.Test.YtfoaihjkmfhaoaaPlA
import Derived.Test.YtfoaihjkmfhaoaaSdelay
namespace Go.Proofs.Ytfoaihjkmfhaoaa.AB
set_option linter.unusedVariables false
set_option linter.unusedSimpArgs false

def keepT (t : Int) (x : Int × Int) : Bool := decide (t - x.1 ≤ 600)

/-- what a slice of rows holds -/
structure Holds (l : WL) (lo len : Nat) (q : List (Int × Int)) : Prop where
  cut : cutL l lo len = q.map some
  fit : lo + len ≤ l.length

theorem Holds.len {l : WL} {lo len : Nat} {q : List (Int × Int)} (h : Holds l lo len q) : q.length = len := by
  have h1 := congrArg List.length h.cut
  have h2 := h.fit
  simp [cutL] at h1
  omega

theorem Holds.get {l : WL} {lo len : Nat} {q : List (Int × Int)} (h : Holds l lo len q) (k : Nat) (x : Int × Int) (hx : q[k]? = some x) : l[k + lo]? = some (some x) := by
  have h1 : (cutL l lo len)[k]? = some (some x) := by rw [h.cut]; simp [hx]
  unfold cutL at h1
  rw [List.getElem?_take] at h1
  split at h1
  · rw [List.getElem?_drop] at h1
    rw [Nat.add_comm]; exact h1
  · cases h1

theorem wrap_sub {t x : Int} (t0 : 0 ≤ t) (t1 : t ≤ 2000000000000) (x0 : 0 ≤ x) (x1 : x ≤ 1099511627776) : IntKind.wrap .i64 (t - x) = t - x := wrap_id (by omega) (by omega)

theorem dold_eq {x w t : Int} (t0 : 0 ≤ t) (t1 : t ≤ 2000000000000) (x0 : 0 ≤ x) (x1 : x ≤ 1099511627776) : S.dold x w t = (!keepT t (x, w), t) := by
  unfold S.dold keepT
  rw [wrap_sub t0 t1 x0 x1]
  by_cases h : t - x ≤ 600
  · have : ¬ 600 < t - x := by omega
    simp [h, this]
  · have : 600 < t - x := by omega
    simp [h, this]

def Times (q : List (Int × Int)) : Prop := ∀ x ∈ q, 0 ≤ x.1 ∧ x.1 ≤ 1099511627776

theorem dix_loop (fu : Nat) {l : WL} {lo len : Nat} {q : List (Int × Int)} (h : Holds l lo len q) (hq : Times q) {t : Int} (t0 : 0 ≤ t) (t1 : t ≤ 2000000000000) (hl : len < 1000000) :
    ∀ (n k : Nat), k ≤ len → len < n + k → (∀ x ∈ q.take k, keepT t x = true) →
      (S.dix_l0 fu l lo len t n k t = some (.inr (len, false, t)) ∧ ∀ x ∈ q, keepT t x = true) ∨
      (∃ i : Nat, i < len ∧ S.dix_l0 fu l lo len t n k t = some (.inl ((i : Int), t)) ∧ (∀ x ∈ q.take i, keepT t x = true) ∧ ∀ x, q[i]? = some x → keepT t x = false) := by
  intro n
  induction n with
  | zero => intro k _ _ _; omega
  | succ n ih =>
    intro k hk hn hd
    have hlen := h.len
    unfold S.dix_l0
    by_cases c : k < len
    · have g1 : ((k : Int) < (len : Int)) := by omega
      have g2 : inB (k : Int) len = true := by unfold inB; simp; omega
      obtain ⟨x, hx⟩ : ∃ x, q[k]? = some x := ⟨q[k]'(by omega), by simp⟩
      have g3 : l[Int.toNat (k : Int) + lo]? = some (some x) := by simpa using h.get k x hx
      have hxm := List.mem_of_getElem? hx
      obtain ⟨x0, x1⟩ := hq x hxm
      have hw : IntKind.wrap .i64 ((k : Int) + 1) = ((k + 1 : Nat) : Int) := by rw [wrap_id (by omega) (by omega)]; omega
      simp only [g1, g2, g3, decide_true, cond_true, optK, optC, dold_eq t0 t1 x0 x1, hw]
      cases hkp : keepT t x with
      | true =>
        have hkp' : keepT t (x.1, x.2) = true := hkp
        simp only [hkp', Bool.not_true, cond_false]
        refine ih (k + 1) (by omega) (by omega) fun y hy => ?_
        rw [List.take_add_one, hx] at hy
        simp at hy
        rcases hy with hy | hy
        · exact hd y hy
        · rw [hy]; exact hkp
      | false =>
        have hkp' : keepT t (x.1, x.2) = false := hkp
        simp only [hkp', Bool.not_false, cond_true]
        refine .inr ⟨k, c, rfl, hd, fun y hy => ?_⟩
        rw [hx] at hy; injection hy with hy; rw [← hy]; exact hkp
    · have g1 : ¬ ((k : Int) < (len : Int)) := by omega
      have hk2 : k = len := by omega
      simp only [g1, decide_false, cond_false]
      refine .inl ⟨by rw [hk2], fun x hx => ?_⟩
      refine hd x ?_
      rw [List.take_of_length_le (by omega)]; exact hx

theorem cutL_set {α : Type} (y : List α) (lo i : Nat) (v : α) (h : i + lo < y.length) : cutL (y.set (i + lo) v) lo (i + 1) = cutL y lo i ++ [v] := by
  unfold cutL
  apply List.ext_getElem?
  intro k
  simp only [List.getElem?_take, List.getElem?_drop, List.getElem?_set, List.getElem?_append]
  have hl : ((y.drop lo).take i).length = i := by simp; omega
  rw [hl]
  by_cases h1 : k < i
  · have h2 : ¬ (i + lo = lo + k) := by omega
    have h3 : k < i + 1 := by omega
    simp [h1, h2, h3]
  · by_cases h2 : k = i
    · subst h2
      have h3 : k + lo = lo + k := by omega
      simp [h3]; omega
    · have h3 : ¬ k < i + 1 := by omega
      have h5 : ([v] : List α)[k - i]? = none := List.getElem?_eq_none (by simp; omega)
      simp only [h1, h3, if_false, h5]

theorem ddel_loop (fu : Nat) {l : WL} {lo len : Nat} {q : List (Int × Int)} (h : Holds l lo len q) (hq : Times q) {t : Int} (t0 : 0 ≤ t) (t1 : t ≤ 2000000000000) (hl : len < 1000000) :
    ∀ (n j i : Nat) (y : WL), i ≤ j → j ≤ len → len < n + j → y.length = l.length → (∀ k x, j ≤ k → q[k]? = some x → y[k + lo]? = some (some x)) → cutL y lo i = ((q.take j).filter (keepT t)).map some →
      ∃ (i' : Nat) (y' : WL), S.ddel_l0 fu l lo len t n i j y t = some ((i' : Int), (len : Int), false, y', t) ∧ i' ≤ len ∧ y'.length = l.length ∧ cutL y' lo i' = (q.filter (keepT t)).map some := by
  intro n
  induction n with
  | zero => intro j i y _ _ _ _ _ _; omega
  | succ n ih =>
    intro j i y hij hj hn hyl hy hcut
    have hlen := h.len
    have hfit := h.fit
    unfold S.ddel_l0
    by_cases c : j < len
    · have g1 : ((j : Int) < (len : Int)) := by omega
      have g2 : inB (j : Int) len = true := by unfold inB; simp; omega
      obtain ⟨x, hx⟩ : ∃ x, q[j]? = some x := ⟨q[j]'(by omega), by simp⟩
      have g3 : y[Int.toNat (j : Int) + lo]? = some (some x) := by simpa using hy j x (Nat.le_refl _) hx
      obtain ⟨x0, x1⟩ := hq x (List.mem_of_getElem? hx)
      have hw : IntKind.wrap .i64 ((j : Int) + 1) = ((j + 1 : Nat) : Int) := by rw [wrap_id (by omega) (by omega)]; omega
      have hw2 : IntKind.wrap .i64 ((i : Int) + 1) = ((i + 1 : Nat) : Int) := by rw [wrap_id (by omega) (by omega)]; omega
      simp only [g1, g2, g3, decide_true, cond_true, optK, optC, dold_eq t0 t1 x0 x1, hw, hw2]
      have htk : (q.take (j + 1)).filter (keepT t) = (q.take j).filter (keepT t) ++ (if keepT t x then [x] else []) := by
        rw [List.take_add_one, hx]
        simp only [Option.toList, List.filter_append]
        congr 1
        by_cases hk : keepT t x <;> simp [hk]
      cases hkp : keepT t x with
      | true =>
        have hkp' : keepT t (x.1, x.2) = true := hkp
        have g4 : inB (i : Int) len = true := by unfold inB; simp; omega
        have g5 : Nat.blt (Int.toNat (i : Int) + lo) (List.length y) = true := by
          simp only [Int.toNat_natCast]; exact Nat.blt_eq.mpr (by omega)
        simp only [hkp', Bool.not_true, Bool.not_false, cond_true, g4, g5]
        refine ih (j + 1) (i + 1) (List.set y (Int.toNat (i : Int) + lo) (some (x.1, x.2))) (by omega) (by omega) (by omega) (by simp [hyl]) (fun k z hk hz => ?_) ?_
        · rw [List.getElem?_set]
          have : ¬ (Int.toNat (i : Int) + lo = k + lo) := by simp; omega
          rw [if_neg this]
          exact hy k z (by omega) hz
        · rw [htk, hkp]
          simp only [Int.toNat_natCast, if_true, List.map_append, List.map_cons, List.map_nil]
          rw [cutL_set _ _ _ _ (by omega), hcut]
      | false =>
        have hkp' : keepT t (x.1, x.2) = false := hkp
        simp only [hkp', Bool.not_true, Bool.not_false, cond_true, cond_false]
        refine ih (j + 1) i y (by omega) (by omega) (by omega) hyl (fun k z hk hz => hy k z (by omega) hz) ?_
        rw [htk, hkp, hcut]; simp
    · have g1 : ¬ ((j : Int) < (len : Int)) := by omega
      have hj2 : j = len := by omega
      simp only [g1, decide_false, cond_false]
      refine ⟨i, y, by rw [hj2], by omega, hyl, ?_⟩
      rw [hcut, List.take_of_length_le (by omega)]

theorem cutL_left {α : Type} (z r : List α) (lo i : Nat) : cutL (z.take (i + lo) ++ r) lo i = cutL z lo i ∨ z.length < i + lo := by
  by_cases h : z.length < i + lo
  · exact .inr h
  · left
    unfold cutL
    have h1 : (z.take (i + lo)).length = i + lo := by simp; omega
    rw [List.drop_append_of_le_length (by omega), List.take_append_of_le_length (by simp; omega), List.drop_take]
    rw [show i + lo - lo = i by omega, List.take_take, Nat.min_self]

theorem ddel_eq {l : WL} {lo len : Nat} {q : List (Int × Int)} (h : Holds l lo len q) (hq : Times q) {t : Int} (t0 : 0 ≤ t) (t1 : t ≤ 2000000000000) (hl : len < 90000) :
    ∃ (lo1 len1 : Nat) (l1 : WL), S.ddel 100000 l lo len t = some (lo1, len1, l1, t) ∧ cutL l1 lo1 len1 = (q.filter (keepT t)).map some ∧ len1 ≤ len := by
  have hlen := h.len
  have hfit := h.fit
  unfold S.ddel S.dix
  rcases dix_loop 100000 h hq t0 t1 (by omega) 100000 0 (by omega) (by omega) (by simp) with ⟨e, hall⟩ | ⟨i, hi, e, hd, hnk⟩
  · have e' : S.dix_l0 100000 l lo len t 100000 0 t = some (.inr (len, false, t)) := e
    rw [e']
    simp only [optK, Sum.elim_inr, S.dix_a0_1, decide_true, cond_true]
    refine ⟨lo, len, l, rfl, ?_, Nat.le_refl _⟩
    rw [h.cut, List.filter_eq_self.mpr hall]
  · have e' : S.dix_l0 100000 l lo len t 100000 0 t = some (.inl ((i : Int), t)) := e
    rw [e']
    have hne : ¬ ((i : Int) = -1) := by omega
    have hw : IntKind.wrap .i64 ((i : Int) + 1) = ((i + 1 : Nat) : Int) := by rw [wrap_id (by omega) (by omega)]; omega
    simp only [optK, Sum.elim_inl, S.dix_a0_0, hne, decide_false, cond_false, hw]
    obtain ⟨x, hx⟩ : ∃ x, q[i]? = some x := ⟨q[i]'(by omega), by simp⟩
    have hxk := hnk x hx
    have hc0 : cutL l lo i = ((q.take (i + 1)).filter (keepT t)).map some := by
      have h1 : (q.take (i + 1)).filter (keepT t) = q.take i := by
        rw [List.take_add_one, hx]
        simp only [Option.toList, List.filter_append, List.filter_eq_self.mpr hd]
        simp [hxk]
      rw [h1, List.map_take, ← h.cut]
      unfold cutL
      rw [List.take_take, Nat.min_eq_left (by omega)]
    obtain ⟨i', y', e2, h1, h2, h3⟩ := ddel_loop 100000 h hq t0 t1 (by omega) 100000 (i + 1) i l (by omega) (by omega) (by omega) rfl (fun k z hk hz => h.get k z hz) hc0
    have e3 : S.ddel_l0 100000 l lo len t 100000 (i : Int) ((i + 1 : Nat) : Int) l t = some ((i' : Int), (len : Int), false, y', t) := e2
    rw [e3]
    unfold S.ddel_a0_0
    have g1 : (0 ≤ (i' : Int) ∧ (i' : Int) ≤ (len : Int)) := by omega
    have g2 : Nat.ble (Int.toNat (i' : Int) + lo + (len - Int.toNat (i' : Int))) (List.length y') = true := by
      simp only [Int.toNat_natCast]; exact Nat.ble_eq.mpr (by omega)
    simp only [g1, g2, and_self, decide_true, cond_true]
    refine ⟨lo, _, _, rfl, ?_, by simpa using h1⟩
    simp only [Int.toNat_natCast]
    rcases cutL_left y' (fillRows none (len - i') (List.drop (i' + lo) y')) lo i' with h4 | h4
    · rw [h4, h3]
    · omega

theorem cutL_all {α : Type} (q : List α) : cutL q 0 q.length = q := by unfold cutL; simp
theorem Holds.whole (q : List (Int × Int)) : Holds (q.map some) 0 q.length q := ⟨by rw [show q.length = (q.map some).length by simp, cutL_all], by simp⟩

/-- what is put -/
theorem dput_yes {l : WL} {lo len : Nat} {q : List (Int × Int)} (h : Holds l lo len q) (hq : Times q) {sp la t w : Int} (ht : la ≤ t) (t0 : 0 ≤ t) (t1 : t ≤ 1099511627776) (w0 : 0 ≤ w) (w1 : w ≤ 1000000) (hl : len < 90000) :
    ∃ q', q' = q.filter (keepT t) ++ [(t, w)] ∧ S.dput l lo len sp la t w = some (.inr (q'.length, sp, t, q'.map some)) := by
  obtain ⟨lo1, len1, l1, e, hc, hle⟩ := ddel_eq h hq t0 (by omega) hl
  refine ⟨_, rfl, ?_⟩
  unfold S.dput
  have g1 : ¬ t < la := by omega
  have g2 : ¬ 1099511627776 < t := by omega
  have g3 : ¬ w < 0 := by omega
  have g4 : ¬ 1000000 < w := by omega
  have g5 : (Nat.beq 1 1 && Nat.blt 0 16 && Nat.beq 1 1 && Nat.beq 1 1 && Nat.beq 1 1 && Nat.blt 0 1 && !Nat.beq 1 3 && Nat.ble ((len1 + 1) * 16) 35184372088832) = true := by
    have : Nat.ble ((len1 + 1) * 16) 35184372088832 = true := Nat.ble_eq.mpr (by omega)
    rw [this]; rfl
  simp only [g1, g2, g3, g4, decide_false, cond_false, e, optK, g5, cond_true, hc]
  have e2 : cutL [some (t, w)] 0 1 = [some (t, w)] := rfl
  rw [e2]
  have e3 : List.map some (q.filter (keepT t)) ++ [some (t, w)] = (q.filter (keepT t) ++ [(t, w)]).map some := by simp
  rw [e3, List.length_map]

theorem dput_no {l : WL} {lo len : Nat} {sp la t w : Int} (h : t < la ∨ 1099511627776 < t ∨ w < 0 ∨ 1000000 < w) : S.dput l lo len sp la t w = some (.inl (lo, len, sp, la, l)) := by
  unfold S.dput
  by_cases g1 : t < la
  · simp [g1]
  · by_cases g2 : 1099511627776 < t
    · simp [g1, g2]
    · by_cases g3 : w < 0
      · simp [g1, g2, g3]
      · have g4 : 1000000 < w := by omega
        simp [g1, g2, g3, g4]

theorem dput1_yes {sp la t w : Int} (ht : la ≤ t) (t1 : t ≤ 1099511627776) (w0 : 0 ≤ w) (w1 : w ≤ 1000000) : S.dput1 sp la t w = .inr (sp, t, [some (t, w)]) := by
  unfold S.dput1
  have g1 : ¬ t < la := by omega
  have g2 : ¬ 1099511627776 < t := by omega
  have g3 : ¬ w < 0 := by omega
  have g4 : ¬ 1000000 < w := by omega
  simp only [g1, g2, g3, g4, decide_false, cond_false]
  rfl

/-- counts still -/
def counts (sp t : Int) (x : Int × Int) : Bool := decide (t ≤ x.1) || decide (t - x.1 < sp)
def mostFrom (sp t : Int) : Int → List (Int × Int) → Int
  | m, [] => m
  | m, x :: r => mostFrom sp t (if counts sp t x then (if x.2 > m then x.2 else m) else m) r

theorem dmost_loop (fu : Nat) {l : WL} {lo len : Nat} {q : List (Int × Int)} (h : Holds l lo len q) (hq : Times q) {sp la t : Int} (t0 : 0 ≤ t) (t1 : t ≤ 2000000000000) (hl : len < 1000000) :
    ∀ (n k : Nat) (m : Int), k ≤ len → len < n + k → S.dmost_l0 fu l lo len sp la t n m k = some (mostFrom sp t m (q.drop k), (len : Int), false) := by
  intro n
  induction n with
  | zero => intro k m _ _; omega
  | succ n ih =>
    intro k m hk hn
    have hlen := h.len
    unfold S.dmost_l0
    by_cases c : k < len
    · have g1 : ((k : Int) < (len : Int)) := by omega
      have g2 : inB (k : Int) len = true := by unfold inB; simp; omega
      obtain ⟨x, hx⟩ : ∃ x, q[k]? = some x := ⟨q[k]'(by omega), by simp⟩
      have g3 : l[Int.toNat (k : Int) + lo]? = some (some x) := by simpa using h.get k x hx
      obtain ⟨x0, x1⟩ := hq x (List.mem_of_getElem? hx)
      have hw : IntKind.wrap .i64 ((k : Int) + 1) = ((k + 1 : Nat) : Int) := by rw [wrap_id (by omega) (by omega)]; omega
      have ht : (if (0 : Int) > t then 0 else t) = t := by rw [if_neg (by omega)]
      have hd : q.drop k = x :: q.drop (k + 1) := by
        rw [List.drop_eq_getElem_cons (by omega)]
        congr 1
        have := hx; rw [List.getElem?_eq_getElem (by omega)] at this; injection this
      simp only [g1, g2, g3, decide_true, cond_true, optK, optC, hw, ht, wrap_sub t0 t1 x0 x1]
      rw [hd]
      unfold mostFrom counts
      by_cases c1 : t ≤ x.1
      · simp only [c1, decide_true, cond_true, Bool.true_or, if_true]
        exact ih (k + 1) _ (by omega) (by omega)
      · by_cases c2 : t - x.1 < sp
        · simp only [c1, c2, decide_true, decide_false, cond_true, cond_false, Bool.false_or, if_true]
          exact ih (k + 1) _ (by omega) (by omega)
        · simp only [c1, c2, decide_false, cond_false, Bool.or_self, Bool.false_eq_true, if_false]
          exact ih (k + 1) _ (by omega) (by omega)
    · have g1 : ¬ ((k : Int) < (len : Int)) := by omega
      have hk2 : k = len := by omega
      simp only [g1, decide_false, cond_false]
      rw [List.drop_eq_nil_of_le (by omega), hk2]; rfl

theorem dmost_eq {l : WL} {lo len : Nat} {q : List (Int × Int)} (h : Holds l lo len q) (hq : Times q) {sp la t : Int} (t0 : 0 ≤ t) (t1 : t ≤ 2000000000000) (hl : len < 90000) :
    S.dmost 100000 l lo len sp la t = some (mostFrom sp t 0 q, lo, len, sp, la, l) := by
  unfold S.dmost
  have := dmost_loop 100000 h hq (sp := sp) (la := la) t0 t1 (by omega) 100000 0 0 (by omega) (by omega)
  have e : S.dmost_l0 100000 l lo len sp la t 100000 0 0 = some (mostFrom sp t 0 q, (len : Int), false) := this
  rw [e]; rfl
end Go.Proofs.Ytfoaihjkmfhaoaa.AB
