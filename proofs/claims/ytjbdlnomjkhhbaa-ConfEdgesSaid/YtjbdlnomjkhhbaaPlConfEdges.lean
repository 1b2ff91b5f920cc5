/- ConfEdges answers true. -/
import Derived.Test.YtjbdlnomjkhhbaaPlChain
import Derived.Test.YtjbdlnomjkhhbaaSConfEdges
namespace Go.Proofs.Ytjbdlnomjkhhbaa.AB
set_option linter.unusedVariables false
set_option linter.unusedSimpArgs false

theorem ConfEdges_true (a b : Int) : S.ConfEdges a b = some true := by
  unfold S.ConfEdges
  simp only [S.q_may_eq, S.q_wrong_eq]
  obtain ⟨a0, a1⟩ := umod_range a 20 (by decide)
  generalize (IntKind.u64.wrap a).tmod 20 = k at *
  obtain ⟨b0, b1⟩ := umod_range b 6 (by decide)
  generalize (IntKind.u64.wrap b).tmod 6 = e at *
  have hk : k = 0 ∨ k = 1 ∨ k = 2 ∨ k = 3 ∨ k = 4 ∨ k = 5 ∨ k = 6 ∨ k = 7 ∨ k = 8 ∨ k = 9 ∨ k = 10 ∨ k = 11 ∨ k = 12 ∨ k = 13 ∨ k = 14 ∨ k = 15 ∨ k = 16 ∨ k = 17 ∨ k = 18 ∨ k = 19 := by omega
  have he : e = 0 ∨ e = 1 ∨ e = 2 ∨ e = 3 ∨ e = 4 ∨ e = 5 := by omega
  clear a0 a1 b0 b1
  rcases hk with rfl | rfl | rfl | rfl | rfl | rfl | rfl | rfl | rfl | rfl | rfl | rfl | rfl | rfl | rfl | rfl | rfl | rfl | rfl | rfl <;> rcases he with rfl | rfl | rfl | rfl | rfl | rfl <;> decide +kernel
end Go.Proofs.Ytjbdlnomjkhhbaa.AB
