/- ZeroOne answers true. -/
import Derived.Test.YtdcfjndlmmldpaaPlZero
namespace Go.Proofs.Ytdcfjndlmmldpaa.AB
set_option linter.unusedVariables false
set_option linter.unusedSimpArgs false

theorem ZeroOne_true (a0 a1 a2 a3 a4 a5 : Int) : S.ZeroOne a0 a1 a2 a3 a4 a5 = true := by
  unfold S.ZeroOne
  obtain ⟨h0, h1⟩ := umod_range a2 10 (by decide)
  generalize (IntKind.u64.wrap a2).tmod 10 = h at *
  obtain ⟨m0, m1⟩ := umod_range a3 10 (by decide)
  generalize (IntKind.u64.wrap a3).tmod 10 = m at *
  obtain ⟨w0, w1⟩ := umod_range a4 10 (by decide)
  generalize (IntKind.u64.wrap a4).tmod 10 = w at *
  obtain ⟨b0, b1⟩ := umod_range a5 10 (by decide)
  generalize (IntKind.u64.wrap a5).tmod 10 = b at *
  rw [wrap_id (n := h) (by omega) (by omega), wrap_id (n := m) (by omega) (by omega), wrap_id (n := w) (by omega) (by omega), wrap_id (n := b) (by omega) (by omega), wrap_id (n := m + w) (by omega) (by omega), wrap_id (n := m + w + b) (by omega) (by omega)]
  generalize IntKind.i64.wrap ((IntKind.u64.wrap a0).tmod 100) = s
  generalize IntKind.i64.wrap ((IntKind.u64.wrap a1).tmod 1000) = t
  unfold S.zwant
  simp only [cf_eta]
  have hz : ∀ c t now, ¬ (m = 0 ∧ w = 0 ∧ b = 0) → S.zmay c t now m w b = false := by
    intro c t now hn
    unfold S.zmay
    by_cases k1 : m = 0 <;> by_cases k2 : w = 0 <;> by_cases k3 : b = 0 <;> simp [k1, k2, k3]
    exact absurd ⟨k1, k2, k3⟩ hn
  by_cases k1 : h = 0
  · by_cases k2 : w = 0
    · simp [k1, k2]
    · have k3 : 0 < m + w + b := by omega
      have := hz ⟨10000, 700, 60, 6, 1, 2000, 10000, 2000, 0, 0, 1, 30, 0, 20000, 10, 100, 60, 3, 0, 0⟩ s t (by omega)
      simp [k1, k2, k3, this]
  · by_cases k3 : 0 < m + w + b
    · have := hz ⟨10000, 700, 60, 6, 1, 2000, 10000, 2000, 0, 0, 1, 30, 0, 20000, 10, 100, 60, 3, 0, 0⟩ s t (by omega)
      simp [k1, k3, this]
    · cases hm : S.zmay ⟨10000, 700, 60, 6, 1, 2000, 10000, 2000, 0, 0, 1, 30, 0, 20000, 10, 100, 60, 3, 0, 0⟩ s t m w b <;> simp [k1, k3, hm]
end Go.Proofs.Ytdcfjndlmmldpaa.AB
