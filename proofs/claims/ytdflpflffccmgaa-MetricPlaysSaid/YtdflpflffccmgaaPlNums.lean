/- Plain facts: whole numbers. -/
import Derived.Test.YtdflpflffccmgaaFwZ
import Derived.Laws.Runes
import Derived.Laws.Bits64
import Derived.Laws.BitsLemmas
import Derived.Test.YtdflpflffccmgaaSconf
import Derived.Test.YtdflpflffccmgaaSrconf
namespace Go.Proofs.Ytdflpflffccmgaa.AB
set_option linter.unusedVariables false
set_option linter.unusedSimpArgs false

theorem wrap_id {n : Int} (h0 : -9223372036854775808 ≤ n) (h1 : n < 9223372036854775808) : IntKind.i64.wrap n = n := by
  rw [IntKind.wrap_i64]; omega

/-- a raw number brought below a bound -/
theorem umod_range (x m : Int) (hm : 0 < m) : 0 ≤ (IntKind.u64.wrap x).tmod m ∧ (IntKind.u64.wrap x).tmod m < m := by
  have h : 0 ≤ IntKind.u64.wrap x := by rw [IntKind.wrap_u64]; omega
  exact ⟨Int.tmod_nonneg m h, Int.tmod_lt_of_pos _ hm⟩

end Go.Proofs.Ytdflpflffccmgaa.AB
namespace Go.Proofs.Ytdflpflffccmgaa.AB
set_option linter.unusedVariables false
set_option linter.unusedSimpArgs false

theorem within_eq (n lo hi : Int) : S.within n lo hi = decide (lo ≤ n ∧ n ≤ hi) := by
  unfold S.within; by_cases h : lo ≤ n <;> simp [h]
theorem within1_eq (n lo hi : Int) : S.within1 n lo hi = decide (lo ≤ n ∧ n ≤ hi) := by
  unfold S.within1; by_cases h : lo ≤ n <;> simp [h]

theorem may_def (s : Int) (h0 : 6 ≤ s) (h1 : s ≤ 600) : S.may ⟨10000, 700, s, 6, 1, 2000, 10000, 2000, 0, 0, 1, 30, 0, 20000, 10, 100, 60, 3, 0, 0⟩ = true := by
  simp [S.may, S.wrong, within_eq, within1_eq, h0, h1, bs]
end Go.Proofs.Ytdflpflffccmgaa.AB
namespace Go.Proofs.Ytdflpflffccmgaa.AB
set_option linter.unusedVariables false
set_option linter.unusedSimpArgs false

theorem rin_eq (n lo hi : Int) : S.rin n lo hi = S.within n lo hi := rfl
theorem within1_within (n lo hi : Int) : S.within1 n lo hi = S.within n lo hi := rfl

theorem rwrong_eq (c : Cf) : S.rwrong c = S.wrong c := by
  unfold S.wrong S.rwrong
  simp only [rin_eq, within1_within]
  by_cases h0 : c.max = 0
  · have d0 : decide (c.max = 0) = true := by simp [h0]
    have d1 : decide (0 < c.max) = false := by simp [h0]
    cases d2 : decide (c.burst = -1000) <;> simp only [d0, d1, d2, Bool.not_true, Bool.not_false, cond_true, cond_false]
  · have d0 : decide (c.max = 0) = false := by simp [h0]
    by_cases h1 : 0 < c.max
    · have d1 : decide (0 < c.max) = true := by simp [h1]
      cases d2 : decide (c.burst = -1000) <;> simp only [d0, d1, d2, Bool.not_true, Bool.not_false, cond_true, cond_false]
    · have d1 : decide (0 < c.max) = false := by simp [h1]
      have hm : ∀ lo : Int, 1 ≤ lo → S.within c.max lo 100 = false := by
        intro lo hl
        rw [within_eq]
        simp; omega
      have hm2 : S.within c.max (if 1 > c.min then 1 else c.min) 100 = false := hm _ (by split <;> omega)
      cases d2 : decide (c.burst = -1000) <;> simp only [d0, d1, d2, hm2, Bool.not_true, Bool.not_false, cond_true, cond_false]

def isE (s : ByteArray) : Bool := s.data.toList == (bs []).data.toList
theorem isE_step (a : Bool) (n : Nat) (r : List Nat) (y : ByteArray) : isE (bif !a then bs (n :: r) else y) = (a && isE y) := by
  cases a <;> simp [isE, bs]
theorem isE_nil : isE (bs []) = true := by simp [isE]

/-- settings that may be -/
structure OkCf (c : Cf) : Prop where
  target : 10 ≤ c.target ∧ c.target ≤ 1000000
  util : 100 ≤ c.util ∧ c.util ≤ 1000
  stable : 6 ≤ c.stable ∧ c.stable ≤ 600
  panic : 1 ≤ c.panic ∧ c.panic ≤ c.stable
  grain : 1 ≤ c.grain ∧ c.grain ≤ c.panic
  threshold : 1100 ≤ c.threshold ∧ c.threshold ≤ 10000
  up : 1001 ≤ c.up ∧ c.up ≤ 1000000
  down : 1001 ≤ c.down ∧ c.down ≤ 1000000
  min : 0 ≤ c.min ∧ c.min ≤ 100
  max : c.max = 0 ∨ (1 ≤ c.max ∧ c.min ≤ c.max ∧ c.max ≤ 100)
  initial : 0 ≤ c.initial ∧ c.initial ≤ (if c.max = 0 then 100 else c.max)
  grace : 0 ≤ c.grace ∧ c.grace ≤ 600
  delay : 0 ≤ c.delay ∧ c.delay ≤ 600
  burst : c.burst = -1000 ∨ (0 ≤ c.burst ∧ c.burst ≤ 100000000)
  limit : 1 ≤ c.limit ∧ c.limit ≤ 1000
  queue : 0 ≤ c.queue ∧ c.queue ≤ 200
  timeout : 1 ≤ c.timeout ∧ c.timeout ≤ 10000
  ready : 0 ≤ c.ready ∧ c.ready ≤ 100
  subset : 0 ≤ c.subset ∧ c.subset ≤ 100
  sample : 0 ≤ c.sample ∧ c.sample ≤ 100

theorem may_iff (c : Cf) : S.may c = true ↔ OkCf c := by
  have e : S.may c = isE (S.wrong c) := rfl
  rw [e]
  unfold S.wrong
  simp only [within1_within]
  have hlo : 1 ≤ (if 1 > c.min then 1 else c.min) ∧ c.min ≤ (if 1 > c.min then 1 else c.min) ∧ ((if 1 > c.min then 1 else c.min) = 1 ∨ (if 1 > c.min then 1 else c.min) = c.min) := by split <;> omega
  try simp only [cond_true]
  generalize (if 1 > c.min then 1 else c.min) = lo at *
  by_cases h0 : c.max = 0 <;> by_cases h2 : c.burst = -1000
  all_goals
    simp only [h0, h2, decide_true, decide_false, Bool.not_true, Bool.not_false, cond_true, cond_false, isE_step, isE_nil, within_eq, Bool.and_eq_true, decide_eq_true_eq, Bool.and_true, and_true]
    constructor
    · intro h
      constructor <;> first | omega | (simp only [h0, if_true, if_false]; omega)
    · intro h
      obtain ⟨a1, a2, a3, a4, a5, a6, a7, a8, a9, a10, a11, a12, a13, a14, a15, a16, a17, a18, a19, a20⟩ := h
      first | rw [if_pos h0] at a11 | rw [if_neg h0] at a11
      omega

theorem rmay_eq (c : Cf) : S.rmay c = S.may c := by
  unfold S.rmay S.may
  rw [rwrong_eq]
end Go.Proofs.Ytdflpflffccmgaa.AB
