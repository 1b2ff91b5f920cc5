/- AlarmMost answers true. -/
import Derived.Test.YtfoaihjkmfhaoaaPlAlarm
import Derived.Test.YtfoaihjkmfhaoaaSAlarmMost
namespace Go.Proofs.Ytfoaihjkmfhaoaa.AB
set_option linter.unusedVariables false
set_option linter.unusedSimpArgs false

theorem keep_in (t m w : Int) (h : 0 ≤ t) : S.keep t m w = (t, if w > m then w else m, if w > m then w else m) := by
  unfold S.keep; simp [is_eq, h]

theorem alarmMost_loop (fu : Nat) (l : List Int) (len : Nat) (nx : Int) (hl : len = l.length) : ∀ (n i : Nat) (y : Int), 0 ≤ y → i ≤ 20 → 20 < n + i →
    ∃ z1 z2 z3, S.AlarmMost_l0 fu l len nx n y i 10 y = some (.inr (z1, z2, z3, 10, z1)) := by
  intro n
  induction n with
  | zero => intro i y _ _ _; omega
  | succ n ih =>
    intro i y hy hi hn
    unfold S.AlarmMost_l0
    by_cases c1 : i < len
    · have g1 : ((i : Int) < (len : Int)) := by omega
      by_cases c2 : i < 20
      · have g2 : ((i : Int) < 20) := by omega
        have g3 : inB (i : Int) len = true := by unfold inB; simp; omega
        have g4 : l[Int.toNat (i : Int) + 0]? = some (l[i]'(by omega)) := by simp
        have gw : IntKind.wrap .i64 ((i : Int) + 1) = ((i + 1 : Nat) : Int) := by rw [wrap_id (by omega) (by omega)]; omega
        generalize l[i]'(by omega) = o at g4
        obtain ⟨o0, o1⟩ := umod_range o 1000 (by decide)
        simp only [g1, g2, g3, g4, decide_true, cond_true, optK, gw, keep_in 10 y _ (by decide), Bool.not_true, cond_false]
        generalize IntKind.wrap .i64 ((IntKind.wrap .u64 o).tmod 1000) = w
        exact ih (i + 1) (if w > y then w else y) (by split <;> omega) (by omega) (by omega)
      · have g2 : ¬ ((i : Int) < 20) := by omega
        simp only [g1, g2, decide_true, decide_false, cond_true, cond_false]
        exact ⟨_, _, _, rfl⟩
    · have g1 : ¬ ((i : Int) < (len : Int)) := by omega
      simp only [g1, decide_false, cond_false]
      exact ⟨_, _, _, rfl⟩

theorem AlarmMost_true (fu : Nat) (l : List Int) (nx : Int) (hf : 21 ≤ fu) : S.AlarmMost fu l l.length nx = some true := by
  unfold S.AlarmMost
  obtain ⟨z1, z2, z3, hz⟩ := alarmMost_loop fu l l.length nx rfl fu 0 0 (by omega) (by omega) (by omega)
  have hz' : S.AlarmMost_l0 fu l l.length nx fu 0 0 10 0 = some (.inr (z1, z2, z3, 10, z1)) := hz
  rw [hz']
  simp only [optK, Sum.elim_inr, S.AlarmMost_a0_1]
  have hm := may_def 60 (by decide) (by decide)
  have e1 : S.next ⟨10000, 700, 60, 6, 1, 2000, 10000, 2000, 0, 0, 1, 30, 0, 20000, 10, 100, 60, 3, 0, 0⟩ 10 z1 70 false = (-1, 0) := by
    rw [next_eq]; simp [hm]; decide
  have e2 : S.next ⟨10000, 700, 60, 6, 1, 2000, 10000, 2000, 0, 0, 1, 30, 0, 20000, 10, 100, 60, 3, 0, 0⟩ (-1) 0 80 true = (80, 0) := by
    rw [next_eq]; simp [hm]
  obtain ⟨o0, o1⟩ := umod_range nx 1000 (by decide)
  rw [e1]
  simp only [e2]
  rw [keep_in 80 0 _ (by decide)]
  rw [wrap_id (n := (IntKind.wrap .u64 nx).tmod 1000) (by omega) (by omega)]
  generalize (IntKind.wrap .u64 nx).tmod 1000 = k at *
  have e3 : (if k > 0 then k else 0) = k := by split <;> omega
  simp [S.is, S.panics, e3]
end Go.Proofs.Ytfoaihjkmfhaoaa.AB
