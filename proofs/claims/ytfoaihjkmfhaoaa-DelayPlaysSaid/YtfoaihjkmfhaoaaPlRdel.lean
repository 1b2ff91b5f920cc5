/- The document's delay: what it comes to; both sides of the law's steps. -/
import Derived.Test.YtfoaihjkmfhaoaaPlDel
import Derived.Test.YtfoaihjkmfhaoaaSdelayz
namespace Go.Proofs.Ytfoaihjkmfhaoaa.AB
set_option linter.unusedVariables false
set_option linter.unusedSimpArgs false

/-- a time, from nought on -/
def tp (t : Int) : Int := if 0 > t then 0 else t

theorem dmost_loop' (fu : Nat) {l : WL} {lo len : Nat} {q : List (Int × Int)} (h : Holds l lo len q) (hq : Times q) {sp la t : Int} (t1 : t < 9223372036854775808) (hl : len < 1000000) :
    ∀ (n k : Nat) (m : Int), k ≤ len → len < n + k → S.dmost_l0 fu l lo len sp la t n m k = some (mostFrom sp (tp t) m (q.drop k), (len : Int), false) := by
  intro n
  induction n with
  | zero => intro k m _ _; omega
  | succ n ih =>
    intro k m hk hn
    have hlen := h.len
    have htp : 0 ≤ tp t ∧ tp t < 9223372036854775808 := by unfold tp; split <;> omega
    unfold S.dmost_l0
    by_cases c : k < len
    · have g1 : ((k : Int) < (len : Int)) := by omega
      have g2 : inB (k : Int) len = true := by unfold inB; simp; omega
      obtain ⟨x, hx⟩ : ∃ x, q[k]? = some x := ⟨q[k]'(by omega), by simp⟩
      have g3 : l[Int.toNat (k : Int) + lo]? = some (some x) := by simpa using h.get k x hx
      obtain ⟨x0, x1⟩ := hq x (List.mem_of_getElem? hx)
      have hw : IntKind.wrap .i64 ((k : Int) + 1) = ((k + 1 : Nat) : Int) := by rw [wrap_id (by omega) (by omega)]; omega
      have hd : q.drop k = x :: q.drop (k + 1) := by
        rw [List.drop_eq_getElem_cons (by omega)]
        congr 1
        have := hx; rw [List.getElem?_eq_getElem (by omega)] at this; injection this
      have ht : (if (0 : Int) > t then 0 else t) = tp t := rfl
      have hws : IntKind.wrap .i64 (tp t - x.1) = tp t - x.1 := wrap_id (by omega) (by omega)
      simp only [g1, g2, g3, decide_true, cond_true, optK, optC, hw, ht, hws]
      rw [hd]
      unfold mostFrom counts
      by_cases c1 : tp t ≤ x.1
      · simp only [c1, decide_true, cond_true, Bool.true_or, if_true]
        exact ih (k + 1) _ (by omega) (by omega)
      · by_cases c2 : tp t - x.1 < sp
        · simp only [c1, c2, decide_true, decide_false, cond_true, cond_false, Bool.false_or, if_true]
          exact ih (k + 1) _ (by omega) (by omega)
        · simp only [c1, c2, decide_false, cond_false, Bool.or_self, Bool.false_eq_true, if_false]
          exact ih (k + 1) _ (by omega) (by omega)
    · have g1 : ¬ ((k : Int) < (len : Int)) := by omega
      have hk2 : k = len := by omega
      simp only [g1, decide_false, cond_false]
      rw [List.drop_eq_nil_of_le (by omega), hk2]; rfl

theorem dmost_any (q : List (Int × Int)) (hq : Times q) {sp la t : Int} (t1 : t < 9223372036854775808) (hl : q.length < 90000) :
    S.dmost 100000 (q.map some) 0 q.length sp la t = some (mostFrom sp (tp t) 0 q, 0, q.length, sp, la, q.map some) := by
  unfold S.dmost
  have := dmost_loop' 100000 (Holds.whole q) hq (sp := sp) (la := la) t1 (by omega) 100000 0 0 (by omega) (by omega)
  have e : S.dmost_l0 100000 (q.map some) 0 q.length sp la t 100000 0 0 = some (mostFrom sp (tp t) 0 q, (q.length : Int), false) := this
  rw [e]; rfl

/-- what is kept of all that was put -/
def since (z : Int) (x : Int × Int) : Bool := decide (z - x.1 ≤ 600)
theorem since_keep (z : Int) : since z = keepT z := rfl

theorem rdmost_loop (fu : Nat) {L : List (Int × Int)} (hq : Times L) {sp t z : Int} (t1 : t < 9223372036854775808) (s0 : 0 ≤ sp) (s1 : sp ≤ 600) (hl : L.length < 1000000) (hz : ∀ x, L[L.length - 1]? = some x → x.1 = z) (z0 : 0 ≤ z) (z1 : z ≤ 1099511627776) :
    ∀ (n k : Nat) (m : Int), k ≤ L.length → L.length < n + k → S.rdmost_l0 fu L 0 L.length sp t n m k = some (mostFrom sp (tp t) m ((L.drop k).filter (keepT z)), (L.length : Int), false) := by
  intro n
  induction n with
  | zero => intro k m _ _; omega
  | succ n ih =>
    intro k m hk hn
    have htp : 0 ≤ tp t ∧ tp t < 9223372036854775808 := by unfold tp; split <;> omega
    unfold S.rdmost_l0
    by_cases c : k < L.length
    · have g1 : ((k : Int) < (L.length : Int)) := by omega
      have g2 : inB (k : Int) L.length = true := by unfold inB; simp; omega
      obtain ⟨x, hx⟩ : ∃ x, L[k]? = some x := ⟨L[k]'(by omega), by simp⟩
      have g3 : L[Int.toNat (k : Int) + 0]? = some x := by simpa using hx
      obtain ⟨x0, x1⟩ := hq x (List.mem_of_getElem? hx)
      have hw : IntKind.wrap .i64 ((k : Int) + 1) = ((k + 1 : Nat) : Int) := by rw [wrap_id (by omega) (by omega)]; omega
      have hw2 : IntKind.wrap .i64 ((L.length : Int) - 1) = ((L.length - 1 : Nat) : Int) := by rw [wrap_id (by omega) (by omega)]; omega
      have g4 : inB ((L.length - 1 : Nat) : Int) L.length = true := by unfold inB; simp; omega
      obtain ⟨y, hy⟩ : ∃ y, L[L.length - 1]? = some y := ⟨L[L.length - 1]'(by omega), by simp⟩
      have g5 : L[Int.toNat ((L.length - 1 : Nat) : Int) + 0]? = some y := by simpa using hy
      have hyz := hz y hy
      have hd : L.drop k = x :: L.drop (k + 1) := by
        rw [List.drop_eq_getElem_cons (by omega)]
        congr 1
        have := hx; rw [List.getElem?_eq_getElem (by omega)] at this; injection this
      have ht : (if (0 : Int) > t then 0 else t) = tp t := rfl
      simp only [g1, g2, g3, hw2, g4, g5, decide_true, cond_true, optK, hw, ht, hyz]
      rw [wrap_id (n := z - 600) (by omega) (by omega)]
      have hC : ∃ C, C = (if 1099511628377 < tp t then 1099511628377 else tp t) := ⟨_, rfl⟩
      obtain ⟨C, hC⟩ := hC
      rw [← hC]
      have hC2 : 0 ≤ C ∧ C ≤ 1099511628377 := by subst hC; split <;> omega
      rw [wrap_id (n := C - sp) (by omega) (by omega)]
      rw [hd]
      by_cases c0 : x.1 < z - 600
      · have hk : keepT z x = false := by unfold keepT; simp; omega
        simp only [c0, decide_true, cond_true, List.filter_cons, hk, Bool.false_eq_true, if_false]
        exact ih (k + 1) _ (by omega) (by omega)
      · have hk : keepT z x = true := by unfold keepT; simp; omega
        simp only [c0, decide_false, cond_false, List.filter_cons, hk, if_true]
        unfold mostFrom
        by_cases cc : counts sp (tp t) x = true
        · rw [cc]
          simp only [if_true]
          have : C - sp < x.1 ∨ C ≤ x.1 := by
            unfold counts at cc
            simp at cc
            subst hC
            split <;> omega
          by_cases c1 : C - sp < x.1
          · simp only [c1, decide_true, cond_true]
            exact ih (k + 1) _ (by omega) (by omega)
          · have c2 : C ≤ x.1 := by omega
            simp only [c1, c2, decide_true, decide_false, cond_true, cond_false]
            exact ih (k + 1) _ (by omega) (by omega)
        · have cf : counts sp (tp t) x = false := by simpa using cc
          rw [cf]
          unfold counts at cf
          simp at cf
          have c1 : ¬ C - sp < x.1 := by subst hC; split <;> omega
          have c2 : ¬ C ≤ x.1 := by subst hC; split <;> omega
          simp only [c1, c2, decide_false, cond_false, Bool.false_eq_true, if_false]
          exact ih (k + 1) _ (by omega) (by omega)
    · have g1 : ¬ ((k : Int) < (L.length : Int)) := by omega
      have hk2 : k = L.length := by omega
      simp only [g1, decide_false, cond_false]
      rw [List.drop_eq_nil_of_le (by omega), hk2]; rfl

theorem rdmost_eq (L : List (Int × Int)) (hq : Times L) {sp t z : Int} (t1 : t < 9223372036854775808) (s0 : 0 ≤ sp) (s1 : sp ≤ 600) (hl : L.length < 90000) (hz : ∀ x, L[L.length - 1]? = some x → x.1 = z) (z0 : 0 ≤ z) (z1 : z ≤ 1099511627776) :
    S.rdmost 100000 L 0 L.length sp t = some (mostFrom sp (tp t) 0 (L.filter (keepT z)), sp, 0, L.length, L) := by
  unfold S.rdmost
  have := rdmost_loop 100000 hq (sp := sp) (t := t) t1 s0 s1 (by omega) hz z0 z1 100000 0 0 (by omega) (by omega)
  have e : S.rdmost_l0 100000 L 0 L.length sp t 100000 0 0 = some (mostFrom sp (tp t) 0 (L.filter (keepT z)), (L.length : Int), false) := this
  rw [e]; rfl

theorem cutL_all' {α : Type} (q : List α) : cutL q 0 q.length = q := by unfold cutL; simp

/-- both sides put, or neither -/
theorem rdput_eq (L : List (Int × Int)) (hq : Times L) {sp t w z : Int} (hl : L.length < 90000) (hz : ∀ x, L[L.length - 1]? = some x → x.1 = z) (z0 : 0 ≤ z) (hn : L = [] → z = 0) :
    S.rdput L 0 L.length sp t w = if t < z ∨ 1099511627776 < t ∨ w < 0 ∨ 1000000 < w then some (.inl (sp, 0, L.length, L)) else some (.inr (sp, (L ++ [(t, w)]).length, L ++ [(t, w)])) := by
  unfold S.rdput
  have hb : (Nat.beq 2 2 && Nat.blt 0 16 && Nat.beq 2 2 && Nat.beq 2 2 && Nat.beq 2 2 && Nat.blt 0 1 && !Nat.beq 1 2 && Nat.ble ((L.length + 1) * 16) 35184372088832) = true := by
    have : Nat.ble ((L.length + 1) * 16) 35184372088832 = true := Nat.ble_eq.mpr (by omega)
    rw [this]; rfl
  have hc : cutL L 0 L.length ++ cutL [(t, w)] 0 1 = L ++ [(t, w)] := by rw [cutL_all']; rfl
  rw [hb, hc]
  by_cases c1 : t < 0
  · have : t < z ∨ 1099511627776 < t ∨ w < 0 ∨ 1000000 < w := by omega
    rw [if_pos this]; simp [c1]
  · by_cases c2 : 1099511627776 < t
    · have : t < z ∨ 1099511627776 < t ∨ w < 0 ∨ 1000000 < w := by omega
      rw [if_pos this]; simp [c1, c2]
    · by_cases c3 : w < 0
      · have : t < z ∨ 1099511627776 < t ∨ w < 0 ∨ 1000000 < w := by omega
        rw [if_pos this]; simp [c1, c2, c3]
      · by_cases c4 : 1000000 < w
        · have : t < z ∨ 1099511627776 < t ∨ w < 0 ∨ 1000000 < w := by omega
          rw [if_pos this]; simp [c1, c2, c3, c4]
        · by_cases c5 : 0 < L.length
          · have g5 : (0 : Int) < (L.length : Int) := by omega
            have hw2 : IntKind.wrap .i64 ((L.length : Int) - 1) = ((L.length - 1 : Nat) : Int) := by rw [wrap_id (by omega) (by omega)]; omega
            have g4 : inB ((L.length - 1 : Nat) : Int) L.length = true := by unfold inB; simp; omega
            obtain ⟨y, hy⟩ : ∃ y, L[L.length - 1]? = some y := ⟨L[L.length - 1]'(by omega), by simp⟩
            have g6 : L[Int.toNat ((L.length - 1 : Nat) : Int) + 0]? = some y := by simpa using hy
            have hyz := hz y hy
            simp only [c1, c2, c3, c4, g5, hw2, g4, g6, hyz, decide_true, decide_false, cond_true, cond_false, optK]
            by_cases c6 : t < z
            · simp [c6]
            · simp [c6]
          · have hL : L = [] := List.eq_nil_of_length_eq_zero (by omega)
            have hz0 := hn hL
            have g5 : ¬ (0 : Int) < (L.length : Int) := by omega
            have hneg : ¬ (t < z ∨ 1099511627776 < t ∨ w < 0 ∨ 1000000 < w) := by omega
            rw [if_neg hneg]
            simp only [c1, c2, c3, c4, g5, decide_false, cond_false, cond_true]
end Go.Proofs.Ytfoaihjkmfhaoaa.AB
