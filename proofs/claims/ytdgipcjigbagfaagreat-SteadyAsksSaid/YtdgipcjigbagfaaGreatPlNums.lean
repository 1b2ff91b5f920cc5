/- Plain facts: whole numbers. -/
import Derived.Test.YtdgipcjigbagfaaGreatFwZ
import Derived.Laws.Runes
import Derived.Laws.Bits64
import Derived.Laws.BitsLemmas
import Derived.Test.YtdgipcjigbagfaaGreatSconf
import Derived.Test.YtdgipcjigbagfaaGreatSrconf
import Derived.Test.YtdgipcjigbagfaaGreatSmilli
namespace Go.Proofs.YtdgipcjigbagfaaGreat.AB
set_option linter.unusedVariables false
set_option linter.unusedSimpArgs false

theorem wrap_id {n : Int} (h0 : -9223372036854775808 ≤ n) (h1 : n < 9223372036854775808) : IntKind.i64.wrap n = n := by
  rw [IntKind.wrap_i64]; omega

/-- a raw number brought below a bound -/
theorem umod_range (x m : Int) (hm : 0 < m) : 0 ≤ (IntKind.u64.wrap x).tmod m ∧ (IntKind.u64.wrap x).tmod m < m := by
  have h : 0 ≤ IntKind.u64.wrap x := by rw [IntKind.wrap_u64]; omega
  exact ⟨Int.tmod_nonneg m h, Int.tmod_lt_of_pos _ hm⟩

end Go.Proofs.YtdgipcjigbagfaaGreat.AB
namespace Go.Proofs.YtdgipcjigbagfaaGreat.AB
set_option linter.unusedVariables false
set_option linter.unusedSimpArgs false

theorem within_eq (n lo hi : Int) : S.within n lo hi = decide (lo ≤ n ∧ n ≤ hi) := by
  unfold S.within; by_cases h : lo ≤ n <;> simp [h]
theorem within1_eq (n lo hi : Int) : S.within1 n lo hi = decide (lo ≤ n ∧ n ≤ hi) := by
  unfold S.within1; by_cases h : lo ≤ n <;> simp [h]

theorem may_def (s : Int) (h0 : 6 ≤ s) (h1 : s ≤ 600) : S.may ⟨10000, 700, s, 6, 1, 2000, 10000, 2000, 0, 0, 1, 30, 0, 20000, 10, 100, 60, 3, 0, 0⟩ = true := by
  simp [S.may, S.wrong, within_eq, within1_eq, h0, h1, bs]
end Go.Proofs.YtdgipcjigbagfaaGreat.AB
namespace Go.Proofs.YtdgipcjigbagfaaGreat.AB
set_option linter.unusedVariables false
set_option linter.unusedSimpArgs false

theorem rin_eq (n lo hi : Int) : S.rin n lo hi = S.within n lo hi := rfl
theorem within1_within (n lo hi : Int) : S.within1 n lo hi = S.within n lo hi := rfl

theorem rwrong_eq (c : Cf) : S.rwrong c = S.wrong c := by
  unfold S.wrong S.rwrong
  simp only [rin_eq, within1_within]
  by_cases h0 : c.max = 0
  · have d0 : decide (c.max = 0) = true := by simp [h0]
    have d1 : decide (0 < c.max) = false := by simp [h0]
    cases d2 : decide (c.burst = -1000) <;> simp only [d0, d1, d2, Bool.not_true, Bool.not_false, cond_true, cond_false]
  · have d0 : decide (c.max = 0) = false := by simp [h0]
    by_cases h1 : 0 < c.max
    · have d1 : decide (0 < c.max) = true := by simp [h1]
      cases d2 : decide (c.burst = -1000) <;> simp only [d0, d1, d2, Bool.not_true, Bool.not_false, cond_true, cond_false]
    · have d1 : decide (0 < c.max) = false := by simp [h1]
      have hm : ∀ lo : Int, 1 ≤ lo → S.within c.max lo 100 = false := by
        intro lo hl
        rw [within_eq]
        simp; omega
      have hm2 : S.within c.max (if 1 > c.min then 1 else c.min) 100 = false := hm _ (by split <;> omega)
      cases d2 : decide (c.burst = -1000) <;> simp only [d0, d1, d2, hm2, Bool.not_true, Bool.not_false, cond_true, cond_false]

def isE (s : ByteArray) : Bool := s.data.toList == (bs []).data.toList
theorem isE_step (a : Bool) (n : Nat) (r : List Nat) (y : ByteArray) : isE (bif !a then bs (n :: r) else y) = (a && isE y) := by
  cases a <;> simp [isE, bs]
theorem isE_nil : isE (bs []) = true := by simp [isE]

/-- settings that may be -/
structure OkCf (c : Cf) : Prop where
  target : 10 ≤ c.target ∧ c.target ≤ 1000000
  util : 100 ≤ c.util ∧ c.util ≤ 1000
  stable : 6 ≤ c.stable ∧ c.stable ≤ 600
  panic : 1 ≤ c.panic ∧ c.panic ≤ c.stable
  grain : 1 ≤ c.grain ∧ c.grain ≤ c.panic
  threshold : 1100 ≤ c.threshold ∧ c.threshold ≤ 10000
  up : 1001 ≤ c.up ∧ c.up ≤ 1000000
  down : 1001 ≤ c.down ∧ c.down ≤ 1000000
  min : 0 ≤ c.min ∧ c.min ≤ 100
  max : c.max = 0 ∨ (1 ≤ c.max ∧ c.min ≤ c.max ∧ c.max ≤ 100)
  initial : 0 ≤ c.initial ∧ c.initial ≤ (if c.max = 0 then 100 else c.max)
  grace : 0 ≤ c.grace ∧ c.grace ≤ 600
  delay : 0 ≤ c.delay ∧ c.delay ≤ 600
  burst : c.burst = -1000 ∨ (0 ≤ c.burst ∧ c.burst ≤ 100000000)
  limit : 1 ≤ c.limit ∧ c.limit ≤ 1000
  queue : 0 ≤ c.queue ∧ c.queue ≤ 200
  timeout : 1 ≤ c.timeout ∧ c.timeout ≤ 10000
  ready : 0 ≤ c.ready ∧ c.ready ≤ 100
  subset : 0 ≤ c.subset ∧ c.subset ≤ 100
  sample : 0 ≤ c.sample ∧ c.sample ≤ 100

theorem may_iff (c : Cf) : S.may c = true ↔ OkCf c := by
  have e : S.may c = isE (S.wrong c) := rfl
  rw [e]
  unfold S.wrong
  simp only [within1_within]
  have hlo : 1 ≤ (if 1 > c.min then 1 else c.min) ∧ c.min ≤ (if 1 > c.min then 1 else c.min) ∧ ((if 1 > c.min then 1 else c.min) = 1 ∨ (if 1 > c.min then 1 else c.min) = c.min) := by split <;> omega
  try simp only [cond_true]
  generalize (if 1 > c.min then 1 else c.min) = lo at *
  by_cases h0 : c.max = 0 <;> by_cases h2 : c.burst = -1000
  all_goals
    simp only [h0, h2, decide_true, decide_false, Bool.not_true, Bool.not_false, cond_true, cond_false, isE_step, isE_nil, within_eq, Bool.and_eq_true, decide_eq_true_eq, Bool.and_true, and_true]
    constructor
    · intro h
      constructor <;> first | omega | (simp only [h0, if_true, if_false]; omega)
    · intro h
      obtain ⟨a1, a2, a3, a4, a5, a6, a7, a8, a9, a10, a11, a12, a13, a14, a15, a16, a17, a18, a19, a20⟩ := h
      first | rw [if_pos h0] at a11 | rw [if_neg h0] at a11
      omega

theorem rmay_eq (c : Cf) : S.rmay c = S.may c := by
  unfold S.rmay S.may
  rw [rwrong_eq]
end Go.Proofs.YtdgipcjigbagfaaGreat.AB
namespace Go.Proofs.YtdgipcjigbagfaaGreat.AB
set_option linter.unusedVariables false
set_option linter.unusedSimpArgs false

theorem ediv_range {a b : Int} (ha : 0 ≤ a) (a1 : a < 9223372036854775808) (hb : 0 < b) : 0 ≤ a / b ∧ a / b ≤ a :=
  ⟨Int.ediv_nonneg ha (by omega), Int.ediv_le_self b ha⟩

theorem mhalf_nn {a b : Int} (ha : 0 ≤ a) (a1 : a < 9223372036854775808) (hb : 0 < b) : S.mhalf a b = some (a / b, 0) := by
  obtain ⟨h0, h1⟩ := ediv_range ha a1 hb
  unfold S.mhalf
  have e1 : ¬ b = 0 := by omega
  have e2 : ¬ a = -9223372036854775808 := by omega
  rw [Int.tdiv_eq_ediv_of_nonneg ha, wrap_id (n := a / b) (by omega) (by omega)]
  simp [e1, e2]

/-- upwards -/
def cdiv (a b : Int) : Int := if a % b = 0 then a / b else a / b + 1

theorem cdiv_1000 (a : Int) : cdiv a 1000 = (a + 999) / 1000 := by unfold cdiv; split <;> omega

theorem mup_nn {a b : Int} (ha : 0 ≤ a) (a1 : a < 9223372036854775807) (hb : 0 < b) : S.mup a b = some (cdiv a b, 0) := by
  obtain ⟨h0, h1⟩ := ediv_range ha (by omega) hb
  unfold S.mup cdiv
  rw [mhalf_nn ha (by omega) hb]
  have e1 : ¬ b = 0 := by omega
  have e2 : ¬ a < 0 := by omega
  have e3 : ¬ b < 0 := by omega
  rw [Int.tmod_eq_emod_of_nonneg ha]
  simp only [optK]
  rw [wrap_id (n := a / b + 1) (by omega) (by omega)]
  by_cases h : a % b = 0 <;> simp [e1, e2, e3, h]
end Go.Proofs.YtdgipcjigbagfaaGreat.AB
namespace Go.Proofs.YtdgipcjigbagfaaGreat.AB
set_option linter.unusedVariables false
set_option linter.unusedSimpArgs false

/-- a number brought into 64 bits -/
def sat (x : Int) : Int := if 9223372036854775807 < x then 9223372036854775807 else if x < -9223372036854775808 then -9223372036854775808 else x

theorem msub_fst (a b : Int) (a0 : -9223372036854775808 ≤ a) (a1 : a < 9223372036854775808) (b0 : -9223372036854775808 ≤ b) (b1 : b < 9223372036854775808) : (S.msub a b).1 = sat (a - b) := by
  unfold S.msub S.mend sat
  by_cases h : b < 0
  · have h' : ¬ 0 < b := by omega
    have e : IntKind.i64.wrap (9223372036854775807 + b) = 9223372036854775807 + b := wrap_id (by omega) (by omega)
    by_cases h2 : 9223372036854775807 + b < a
    · have h3 : 9223372036854775807 < a - b := by omega
      simp [h, h', e, h2, h3]
    · have h3 : ¬ 9223372036854775807 < a - b := by omega
      have h4 : ¬ a - b < -9223372036854775808 := by omega
      have e2 : IntKind.i64.wrap (a - b) = a - b := wrap_id (by omega) (by omega)
      simp [h, h', e, h2, h3, h4, e2]
  · by_cases h' : 0 < b
    · have e : IntKind.i64.wrap (-9223372036854775808 + b) = -9223372036854775808 + b := wrap_id (by omega) (by omega)
      by_cases h2 : a < -9223372036854775808 + b
      · have h3 : ¬ 9223372036854775807 < a - b := by omega
        have h4 : a - b < -9223372036854775808 := by omega
        simp [h, h', e, h2, h3, h4]
      · have h3 : ¬ 9223372036854775807 < a - b := by omega
        have h4 : ¬ a - b < -9223372036854775808 := by omega
        have e2 : IntKind.i64.wrap (a - b) = a - b := wrap_id (by omega) (by omega)
        simp [h, h', e, h2, h3, h4, e2]
    · have h3 : ¬ 9223372036854775807 < a - b := by omega
      have h4 : ¬ a - b < -9223372036854775808 := by omega
      have e2 : IntKind.i64.wrap (a - b) = a - b := wrap_id (by omega) (by omega)
      simp [h, h', h3, h4, e2]

theorem sat_range (x : Int) : -9223372036854775808 ≤ sat x ∧ sat x < 9223372036854775808 := by
  unfold sat; split
  · omega
  · split <;> omega
theorem sat_id {x : Int} (h0 : -9223372036854775808 ≤ x) (h1 : x < 9223372036854775808) : sat x = x := by
  unfold sat; rw [if_neg (by omega), if_neg (by omega)]
theorem sat_mono {x y : Int} (h : x ≤ y) : sat x ≤ sat y := by
  unfold sat; split <;> split <;> (try split) <;> (try split) <;> omega
end Go.Proofs.YtdgipcjigbagfaaGreat.AB
