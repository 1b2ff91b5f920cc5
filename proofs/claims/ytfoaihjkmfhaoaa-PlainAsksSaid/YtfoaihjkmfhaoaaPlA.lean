/- Plain facts: numbers, settings. -/
import Derived.Test.YtfoaihjkmfhaoaaSconf
import Derived.Laws.Runes
import Derived.Laws.Bits64
import Derived.Laws.BitsLemmas
namespace Go.Proofs.Ytfoaihjkmfhaoaa.AB
set_option linter.unusedVariables false
set_option linter.unusedSimpArgs false

theorem wrap_id {n : Int} (h0 : -9223372036854775808 ≤ n) (h1 : n < 9223372036854775808) : IntKind.i64.wrap n = n := by
  rw [IntKind.wrap_i64]; omega

/-- a raw number brought below a bound -/
theorem umod_range (x m : Int) (hm : 0 < m) : 0 ≤ (IntKind.u64.wrap x).tmod m ∧ (IntKind.u64.wrap x).tmod m < m := by
  have h : 0 ≤ IntKind.u64.wrap x := by rw [IntKind.wrap_u64]; omega
  exact ⟨Int.tmod_nonneg m h, Int.tmod_lt_of_pos _ hm⟩

theorem within_eq (n lo hi : Int) : S.within n lo hi = decide (lo ≤ n ∧ n ≤ hi) := by
  unfold S.within; by_cases h : lo ≤ n <;> simp [h]
theorem within1_eq (n lo hi : Int) : S.within1 n lo hi = decide (lo ≤ n ∧ n ≤ hi) := by
  unfold S.within1; by_cases h : lo ≤ n <;> simp [h]

theorem may_def (s : Int) (h0 : 6 ≤ s) (h1 : s ≤ 600) : S.may ⟨10000, 700, s, 6, 1, 2000, 10000, 2000, 0, 0, 1, 30, 0, 20000, 10, 100, 60, 3, 0, 0⟩ = true := by
  simp [S.may, S.wrong, within_eq, within1_eq, h0, h1, bs]
end Go.Proofs.Ytfoaihjkmfhaoaa.AB
