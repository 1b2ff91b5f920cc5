/- ZeroGrace answers true. -/
import Derived.Test.YtdcfjndlmmldpaaPlZero
import Derived.Test.YtdcfjndlmmldpaaSZeroGrace
namespace Go.Proofs.Ytdcfjndlmmldpaa.AB
set_option linter.unusedVariables false
set_option linter.unusedSimpArgs false

def graceOk (t now : Int) : Bool := decide (0 ≤ t ∧ t ≤ now ∧ 30 ≤ now - t)

theorem zmay_dd (t now mean w b : Int) (n0 : 0 ≤ now) (n1 : now < 1000000) : S.zmay ⟨10000, 700, 60, 6, 1, 2000, 10000, 2000, 0, 0, 1, 30, 0, 20000, 10, 100, 60, 3, 0, 0⟩ t now mean w b =
    (decide (mean = 0) && (decide (w = 0) && (decide (b = 0) && graceOk t now))) := by
  unfold S.zmay graceOk
  simp only [may_def 60 (by decide) (by decide), S.since, cond_true, decide_true]
  by_cases h1 : mean = 0 <;> by_cases h2 : w = 0 <;> by_cases h3 : b = 0 <;> simp [h1, h2, h3]
  by_cases h4 : 0 ≤ t
  · by_cases h5 : t ≤ now
    · have ew : IntKind.wrap .i64 (now - t) = now - t := wrap_id (by omega) (by omega)
      simp [h4, h5, ew]
    · simp [h4, h5]
  · simp [h4]

theorem zwant_dd (t now : Int) (n0 : 0 ≤ now) (n1 : now < 1000000) : S.zwant ⟨10000, 700, 60, 6, 1, 2000, 10000, 2000, 0, 0, 1, 30, 0, 20000, 10, 100, 60, 3, 0, 0⟩ t now 0 1 0 0 0 = if graceOk t now then 0 else 1 := by
  unfold S.zwant
  simp only [cf_eta]
  have e := zmay_dd t now 0 0 0 n0 n1
  simp only [decide_true, Bool.true_and] at e
  simp only [e]
  cases graceOk t now <;> simp

theorem zeroGrace_loop (fu : Nat) (l : List Bool) (len : Nat) (mean w b : Int) (hl : len = l.length) : ∀ (n i run : Nat) (s : Int), (run = 0 ∧ s = -1) ∨ (0 < run ∧ s = (i : Int) - run) → run ≤ i → i ≤ 150 → 150 < n + i →
    ∃ z, S.ZeroGrace_l0 fu l len mean w b n run i s = some (.inr z) := by
  intro n
  induction n with
  | zero => intro i run s _ _ _ _; omega
  | succ n ih =>
    intro i run s hs hr hi hn
    unfold S.ZeroGrace_l0
    by_cases c1 : i < len
    · have g1 : ((i : Int) < (len : Int)) := by omega
      by_cases c2 : i < 150
      · have g2 : ((i : Int) < 150) := by omega
        have g3 : inB (i : Int) len = true := by unfold inB; simp; omega
        have g4 : l[Int.toNat (i : Int) + 0]? = some (l[i]'(by omega)) := by simp
        have gw : IntKind.wrap .i64 ((i : Int) + 1) = ((i + 1 : Nat) : Int) := by rw [wrap_id (by omega) (by omega)]; omega
        have gr : IntKind.wrap .i64 ((run : Int) + 1) = ((run + 1 : Nat) : Int) := by rw [wrap_id (by omega) (by omega)]; omega
        generalize l[i]'(by omega) = o at g4
        simp only [g1, g2, g3, g4, decide_true, cond_true, optK, gw, gr, zmay_dd _ (i : Int) _ _ _ (by omega) (by omega), zwant_dd _ (i : Int) (by omega) (by omega)]
        cases o with
        | false =>
          have e : S.znext s i false = -1 := by simp [S.znext, S.znew]
          have e2 : graceOk (-1) i = false := by simp [graceOk]
          have := ih (i + 1) 0 (-1) (.inl ⟨rfl, rfl⟩) (by omega) (by omega) (by omega)
          obtain ⟨z, hz⟩ := this
          refine ⟨z, ?_⟩
          rw [e]
          simp only [e2, Bool.and_false]
          cases decide (mean = 0) <;> cases decide (w = 0) <;> simpa using hz
        | true =>
          have e : S.znext s i true = (i : Int) - run := by
            unfold S.znext S.since
            rcases hs with ⟨h1, h2⟩ | ⟨h1, h2⟩
            · simp [h1, h2]
            · have : 0 ≤ s := by omega
              simp [this]; omega
          have e2 : graceOk ((i : Int) - run) i = decide (30 < ((run + 1 : Nat) : Int)) := by
            unfold graceOk
            exact decide_eq_decide.mpr (by omega)
          have := ih (i + 1) (run + 1) ((i : Int) - run) (.inr ⟨by omega, by omega⟩) (by omega) (by omega) (by omega)
          obtain ⟨z, hz⟩ := this
          refine ⟨z, ?_⟩
          rw [e]
          simp only [e2]
          by_cases h30 : 30 < ((run + 1 : Nat) : Int)
          · simp only [h30, decide_true]
            cases decide (mean = 0) <;> cases decide (w = 0) <;> cases decide (b = 0) <;> simpa using hz
          · simp only [h30, decide_false]
            cases decide (mean = 0) <;> cases decide (w = 0) <;> cases decide (b = 0) <;> simpa using hz
      · have g2 : ¬ ((i : Int) < 150) := by omega
        simp only [g1, g2, decide_true, decide_false, cond_true, cond_false]
        exact ⟨_, rfl⟩
    · have g1 : ¬ ((i : Int) < (len : Int)) := by omega
      simp only [g1, decide_false, cond_false]
      exact ⟨_, rfl⟩

theorem ZeroGrace_true (fu : Nat) (l : List Bool) (mean w b : Int) (hf : 151 ≤ fu) : S.ZeroGrace fu l l.length mean w b = some true := by
  unfold S.ZeroGrace
  obtain ⟨z, hz⟩ := zeroGrace_loop fu l l.length mean w b rfl fu 0 0 (-1) (.inl ⟨rfl, rfl⟩) (by omega) (by omega) (by omega)
  have hz' : S.ZeroGrace_l0 fu l l.length mean w b fu 0 0 (-1) = some (.inr z) := hz
  rw [hz']
  rfl
end Go.Proofs.Ytdcfjndlmmldpaa.AB
