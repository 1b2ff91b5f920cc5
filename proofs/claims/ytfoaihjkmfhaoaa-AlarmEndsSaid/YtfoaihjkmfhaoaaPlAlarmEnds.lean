/- AlarmEnds answers true. -/
import Derived.Test.YtfoaihjkmfhaoaaPlAlarm
import Derived.Test.YtfoaihjkmfhaoaaLAlarmEnds
namespace Go.Proofs.Ytfoaihjkmfhaoaa.AB
set_option linter.unusedVariables false
set_option linter.unusedSimpArgs false

theorem AlarmEnds_true (stable at_ way : Int) : S.AlarmEnds stable at_ way = some true := by
  obtain ⟨a0, a1⟩ := umod_range stable 595 (by decide)
  obtain ⟨b0, b1⟩ := umod_range at_ 1000000 (by decide)
  unfold S.AlarmEnds
  generalize (IntKind.u64.wrap stable).tmod 595 = a at *
  generalize (IntKind.u64.wrap at_).tmod 1000000 = t at *
  rw [wrap_id (n := a) (by omega) (by omega), wrap_id (n := t) (by omega) (by omega), wrap_id (n := 6 + a) (by omega) (by omega)]
  have hu : IntKind.u64.wrap (6 + a) = 6 + a := by rw [IntKind.wrap_u64]; omega
  rw [hu]
  obtain ⟨k0, k1⟩ := umod_range way (6 + a) (by omega)
  generalize (IntKind.u64.wrap way).tmod (6 + a) = k at *
  have hmay := may_def (6 + a) (by omega) (by omega)
  have e1 : IntKind.i64.wrap k = k := wrap_id (by omega) (by omega)
  have e2 : IntKind.i64.wrap (t + (6 + a)) = t + (6 + a) := wrap_id (by omega) (by omega)
  have e3 : IntKind.i64.wrap (t + k) = t + k := wrap_id (by omega) (by omega)
  have e4 : IntKind.i64.wrap (t + (6 + a) + k) = t + (6 + a) + k := wrap_id (by omega) (by omega)
  have e5 : IntKind.i64.wrap (t + (6 + a) - 1) = t + (6 + a) - 1 := wrap_id (by omega) (by omega)
  have e6 : IntKind.i64.wrap (t + (6 + a) + k - 1) = t + (6 + a) + k - 1 := wrap_id (by omega) (by omega)
  have z : ¬ (6 + a = 0) := by omega
  have n1 : S.next ⟨10000, 700, 6 + a, 6, 1, 2000, 10000, 2000, 0, 0, 1, 30, 0, 20000, 10, 100, 60, 3, 0, 0⟩ (-1) 0 t true = (t, 0) := by
    rw [next_eq]; simp [hmay]; omega
  have n2 : S.next ⟨10000, 700, 6 + a, 6, 1, 2000, 10000, 2000, 0, 0, 1, 30, 0, 20000, 10, 100, 60, 3, 0, 0⟩ t 0 (t + (6 + a) - 1) false = (t, 0) := by
    rw [next_eq, wrap_id (n := t + (6 + a) - 1 - t) (by omega) (by omega)]
    have h : ¬ (6 + a ≤ t + (6 + a) - 1 - t) := by omega
    simp only [h, and_false, if_false]; simp
  have n3 : S.next ⟨10000, 700, 6 + a, 6, 1, 2000, 10000, 2000, 0, 0, 1, 30, 0, 20000, 10, 100, 60, 3, 0, 0⟩ t 0 (t + (6 + a)) false = (-1, 0) := by
    rw [next_eq, wrap_id (n := t + (6 + a) - t) (by omega) (by omega)]
    have h1 : ¬ (t + (6 + a) < 0) := by omega
    have h2 : ¬ (1099511627776 < t + (6 + a)) := by omega
    have h3 : 0 ≤ t ∧ 6 + a ≤ t + (6 + a) - t := by omega
    simp [hmay, h1, h2, h3]
  have n4 : S.next ⟨10000, 700, 6 + a, 6, 1, 2000, 10000, 2000, 0, 0, 1, 30, 0, 20000, 10, 100, 60, 3, 0, 0⟩ t 0 (t + k) true = (t + k, 0) := by
    rw [next_eq]; simp [hmay]; omega
  have n5 : S.next ⟨10000, 700, 6 + a, 6, 1, 2000, 10000, 2000, 0, 0, 1, 30, 0, 20000, 10, 100, 60, 3, 0, 0⟩ (t + k) 0 (t + (6 + a) + k - 1) false = (t + k, 0) := by
    rw [next_eq, wrap_id (n := t + (6 + a) + k - 1 - (t + k)) (by omega) (by omega)]
    have h : ¬ (6 + a ≤ t + (6 + a) + k - 1 - (t + k)) := by omega
    simp only [h, and_false, if_false]; simp
  have n6 : S.next ⟨10000, 700, 6 + a, 6, 1, 2000, 10000, 2000, 0, 0, 1, 30, 0, 20000, 10, 100, 60, 3, 0, 0⟩ (t + k) 0 (t + (6 + a) + k) false = (-1, 0) := by
    rw [next_eq, wrap_id (n := t + (6 + a) + k - (t + k)) (by omega) (by omega)]
    have h1 : ¬ (t + (6 + a) + k < 0) := by omega
    have h2 : ¬ (1099511627776 < t + (6 + a) + k) := by omega
    have h3 : 0 ≤ t + k ∧ 6 + a ≤ t + (6 + a) + k - (t + k) := by omega
    simp [hmay, h1, h2, h3]
  have hp : 0 ≤ t + k := by omega
  simp [hp, e1, e2, e3, e4, e5, e6, z, n1, n2, n3, n4, n5, n6, is_eq, b0]
end Go.Proofs.Ytfoaihjkmfhaoaa.AB
