/- DelaySpans answers true. -/
import Derived.Test.YtfoaihjkmfhaoaaPlDel
import Derived.Test.YtfoaihjkmfhaoaaSDelaySpans
namespace Go.Proofs.Ytfoaihjkmfhaoaa.AB
set_option linter.unusedVariables false
set_option linter.unusedSimpArgs false

theorem most_mono (t : Int) {sp sq : Int} (h : sp ≤ sq) : ∀ (q : List (Int × Int)) (m m' : Int), m ≤ m' → mostFrom sp t m q ≤ mostFrom sq t m' q := by
  intro q
  induction q with
  | nil => intro m m' hm; exact hm
  | cons x r ih =>
    intro m m' hm
    unfold mostFrom
    apply ih
    have hc : counts sp t x = true → counts sq t x = true := by
      unfold counts; simp; omega
    by_cases c1 : counts sp t x = true
    · rw [c1, hc c1]; simp only [if_true]; split <;> split <;> omega
    · rw [if_neg c1]; split
      · split <;> omega
      · exact hm

theorem most_none (sp t : Int) : ∀ (q : List (Int × Int)) (m : Int), (∀ x ∈ q, counts sp t x = false) → mostFrom sp t m q = m := by
  intro q
  induction q with
  | nil => intro m _; rfl
  | cons x r ih =>
    intro m h
    unfold mostFrom
    rw [h x (List.mem_cons_self ..)]
    simp only [Bool.false_eq_true, if_false]
    exact ih m fun y hy => h y (List.mem_cons_of_mem _ hy)

theorem spans_loop (fu : Nat) (l : List Int) (len : Nat) (a b : Int) (hl : len = l.length) : ∀ (n i : Nat) (y la sp : Int) (q : List (Int × Int)), i ≤ 100 → 100 < n + i → la ≤ i → q.length ≤ i → (∀ x ∈ q, 0 ≤ x.1 ∧ x.1 < i) →
    ∃ (c : Nat) (b' : Bool) (la' : Int) (q' : List (Int × Int)), S.DelaySpans_l0 fu l len a b n y i i q.length sp la (q.map some) = some (.inr (y, c, c, b', q'.length, sp, la', q'.map some)) ∧ c ≤ 100 ∧ q'.length ≤ c ∧ (∀ x ∈ q', 0 ≤ x.1 ∧ x.1 < c) := by
  intro n
  induction n with
  | zero => intro i _ _ _ _ _ _ _ _ _; omega
  | succ n ih =>
    intro i y la sp q hi hn hla hql hq
    unfold S.DelaySpans_l0
    by_cases c1 : i < len
    · have g1 : ((i : Int) < (len : Int)) := by omega
      by_cases c2 : i < 100
      · have g2 : ((i : Int) < 100) := by omega
        have g3 : inB (i : Int) len = true := by unfold inB; simp; omega
        have g4 : l[Int.toNat (i : Int) + 0]? = some (l[i]'(by omega)) := by simp
        have gw : IntKind.wrap .i64 ((i : Int) + 1) = ((i + 1 : Nat) : Int) := by rw [wrap_id (by omega) (by omega)]; omega
        generalize l[i]'(by omega) = o at g4
        obtain ⟨o0, o1⟩ := umod_range o 1000 (by decide)
        have ow : IntKind.wrap .i64 ((IntKind.wrap .u64 o).tmod 1000) = (IntKind.wrap .u64 o).tmod 1000 := wrap_id (by omega) (by omega)
        have hT : Times q := fun x hx => by have := hq x hx; omega
        obtain ⟨q', hq', e⟩ := dput_yes (Holds.whole q) hT (sp := sp) (la := la) (t := i) (w := (IntKind.wrap .u64 o).tmod 1000) hla (by omega) (by omega) o0 (by omega) (by omega)
        have hq2 : q.filter (keepT i) = q := List.filter_eq_self.mpr fun x hx => by have := hq x hx; unfold keepT; simp; omega
        rw [hq2] at hq'
        have e' : S.dput (List.map some q) 0 q.length sp la (i : Int) ((IntKind.wrap .u64 o).tmod 1000) = some (.inr (q'.length, sp, (i : Int), List.map some q')) := e
        simp only [g1, g2, g3, g4, decide_true, cond_true, optK, gw, ow]
        rw [e']
        simp only [Sum.elim_inr]
        refine ih (i + 1) y i sp q' (by omega) (by omega) (by omega) (by rw [hq']; simp; omega) fun x hx => ?_
        rw [hq'] at hx
        simp at hx
        rcases hx with hx | hx
        · have := hq x hx; omega
        · subst hx; simp only; omega
      · have g2 : ¬ ((i : Int) < 100) := by omega
        simp only [g1, g2, decide_true, decide_false, cond_true, cond_false]
        exact ⟨i, _, _, q, rfl, hi, hql, hq⟩
    · have g1 : ¬ ((i : Int) < (len : Int)) := by omega
      simp only [g1, decide_false, cond_false]
      exact ⟨i, _, _, q, rfl, hi, hql, hq⟩

theorem spans_end (fu : Nat) (l : List Int) (len : Nat) (a b : Int) (y x : Int) (c : Nat) (b' : Bool) (la : Int) (q : List (Int × Int)) (hxy : x ≤ y) (x0 : 0 ≤ x) (y1 : y ≤ 60) (hc : c ≤ 100) (hl : q.length ≤ c) (hq : ∀ z ∈ q, 0 ≤ z.1 ∧ z.1 < c) :
    S.DelaySpans_a0_1 fu l len a b y c c b' q.length x la (q.map some) = some true := by
  unfold S.DelaySpans_a0_1
  have hT : Times q := fun z hz => by have := hq z hz; omega
  have hw : IntKind.wrap .i64 ((c : Int) + y) = (c : Int) + y := wrap_id (by omega) (by omega)
  have m1 : ∀ sp t : Int, 0 ≤ t → t ≤ 1000 → S.dmost 100000 (List.map some q) 0 q.length sp la t = some (mostFrom sp t 0 q, 0, q.length, sp, la, List.map some q) := fun sp t h0 h1 => dmost_eq (Holds.whole q) hT h0 (by omega) (by omega)
  have s1 : S.dspan (List.map some q) 0 q.length x la y = (0, 0, q.length, y, la, List.map some q) := by
    unfold S.dspan
    have g1 : ¬ y < 0 := by omega
    have g2 : ¬ 600 < y := by omega
    simp [g1, g2]
  have s2 : S.dspan (List.map some q) 0 q.length y la 601 = (1, 0, q.length, y, la, List.map some q) := by
    unfold S.dspan; simp
  have hmm := most_mono c hxy q 0 0 (by omega)
  have hz : mostFrom y ((c : Int) + y) 0 q = 0 := most_none _ _ _ _ fun z hz => by
    have := hq z hz; unfold counts; simp; omega
  rw [m1 x c (by omega) (by omega)]
  simp only [optK, s1]
  rw [m1 y c (by omega) (by omega)]
  simp only [optK, hmm, s2, decide_true, cond_true, Bool.not_true, cond_false]
  rw [m1 y c (by omega) (by omega)]
  simp only [optK, decide_true, cond_true, hw]
  rw [m1 y (c + y) (by omega) (by omega)]
  simp [optK, hz]

theorem DelaySpans_true (l : List Int) (a b : Int) : S.DelaySpans 100000 l l.length a b = some true := by
  unfold S.DelaySpans
  have hd : ∀ x : Int, 0 ≤ x → x ≤ 60 → S.dnew x = .inr x := by
    intro x h0 h1
    unfold S.dnew
    have g1 : ¬ x < 0 := by omega
    have g2 : ¬ 600 < x := by omega
    simp [g1, g2]
  obtain ⟨a0, a1⟩ := umod_range a 61 (by decide)
  obtain ⟨b0, b1⟩ := umod_range b 61 (by decide)
  have ea : IntKind.wrap .i64 ((IntKind.wrap .u64 a).tmod 61) = (IntKind.wrap .u64 a).tmod 61 := wrap_id (by omega) (by omega)
  have eb : IntKind.wrap .i64 ((IntKind.wrap .u64 b).tmod 61) = (IntKind.wrap .u64 b).tmod 61 := wrap_id (by omega) (by omega)
  rw [ea, eb]
  generalize (IntKind.wrap .u64 a).tmod 61 = x at *
  generalize (IntKind.wrap .u64 b).tmod 61 = y at *
  have main : ∀ x y : Int, 0 ≤ x → x ≤ y → y ≤ 60 → optK (S.DelaySpans_l0 100000 l l.length a b 100000 y 0 0 0 x 0 []) (Sum.elim (fun z => S.DelaySpans_a0_0 100000 l l.length a b z.1 z.2.1 z.2.2.1 z.2.2.2.1 z.2.2.2.2) (fun z => S.DelaySpans_a0_1 100000 l l.length a b z.1 z.2.1 z.2.2.1 z.2.2.2.1 z.2.2.2.2.1 z.2.2.2.2.2.1 z.2.2.2.2.2.2.1 z.2.2.2.2.2.2.2)) = some true := by
    intro x y h0 h1 h2
    obtain ⟨c, b', la', q', e, hc, hl, hq⟩ := spans_loop 100000 l l.length a b rfl 100000 0 y 0 x [] (by omega) (by omega) (by omega) (by simp) (by simp)
    have e' : S.DelaySpans_l0 100000 l l.length a b 100000 y 0 0 0 x 0 [] = some (.inr (y, c, c, b', q'.length, x, la', q'.map some)) := e
    rw [e']
    simp only [optK, Sum.elim_inr]
    exact spans_end 100000 l l.length a b y x c b' la' q' h1 h0 h2 hc hl hq
  by_cases h : y < x
  · simp only [h, decide_true, cond_true, hd y (by omega) (by omega), Sum.elim_inr]
    exact main y x (by omega) (by omega) (by omega)
  · simp only [h, decide_false, cond_false, hd x (by omega) (by omega), Sum.elim_inr]
    exact main x y (by omega) (by omega) (by omega)
end Go.Proofs.Ytfoaihjkmfhaoaa.AB
