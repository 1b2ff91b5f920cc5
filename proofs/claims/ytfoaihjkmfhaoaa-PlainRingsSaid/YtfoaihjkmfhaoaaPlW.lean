/- Plain facts: whole numbers. -/
import Derived.Test.YtfoaihjkmfhaoaaFwZ
import Derived.Laws.Runes
import Derived.Laws.Bits64
import Derived.Laws.BitsLemmas
namespace Go.Proofs.Ytfoaihjkmfhaoaa.AB
set_option linter.unusedVariables false
set_option linter.unusedSimpArgs false

theorem wrap_id {n : Int} (h0 : -9223372036854775808 ≤ n) (h1 : n < 9223372036854775808) : IntKind.i64.wrap n = n := by
  rw [IntKind.wrap_i64]; omega

/-- a raw number brought below a bound -/
theorem umod_range (x m : Int) (hm : 0 < m) : 0 ≤ (IntKind.u64.wrap x).tmod m ∧ (IntKind.u64.wrap x).tmod m < m := by
  have h : 0 ≤ IntKind.u64.wrap x := by rw [IntKind.wrap_u64]; omega
  exact ⟨Int.tmod_nonneg m h, Int.tmod_lt_of_pos _ hm⟩

end Go.Proofs.Ytfoaihjkmfhaoaa.AB
