/- Layer 12: what the functions come to. -/
import Derived.Test.YtdflpflffccmgaaPlUp
import Derived.Test.YtdflpflffccmgaaSwantz
namespace Go.Proofs.Ytdflpflffccmgaa.AB
set_option linter.unusedVariables false
set_option linter.unusedSimpArgs false

theorem cf_etaW (c : Cf) : Cf.mk c.target c.util c.stable c.panic c.grain c.threshold c.up c.down c.min c.max c.initial c.grace c.delay c.burst c.limit c.queue c.timeout c.ready c.subset c.sample = c := rfl

/-- a pod's share -/
def Pe (c : Cf) : Int := if 1 > c.target * c.util / 1000 then 1 else c.target * c.util / 1000

theorem tu_range (c : Cf) (hm : S.may c = true) : 1000 ≤ c.target * c.util ∧ c.target * c.util ≤ 1000000000 := by
  have hc := (may_iff c).mp hm
  have h1 := hc.target
  have h2 := hc.util
  have a1 := Int.mul_le_mul h1.1 h2.1 (by decide) (by omega)
  have a2 := Int.mul_le_mul h1.2 h2.2 (by omega) (by omega)
  omega

theorem Pe_range (c : Cf) (hm : S.may c = true) : 1 ≤ Pe c ∧ Pe c ≤ 1000000 := by
  have := tu_range c hm
  unfold Pe; split <;> omega

theorem per_eq (c : Cf) (hm : S.may c = true) : S.per c = some (Pe c) := by
  have ht := tu_range c hm
  have hc := (may_iff c).mp hm
  have h1 := hc.target
  have h2 := hc.util
  unfold S.per
  rw [mmul_eq (by omega) (by omega) (by omega) (by omega), mulS_in (by omega) (by omega)]
  rfl

theorem rper_eq (c : Cf) (hm : S.may c = true) : S.rper c = Pe c := by
  have ht := tu_range c hm
  have hc := (may_iff c).mp hm
  have h1 := hc.target
  have h2 := hc.util
  unfold S.rper
  rw [rmul_eq (by omega) (by omega) (by omega) (by omega), mulS_in (by omega) (by omega)]
  rfl

/-- cut between bounds -/
def clampF (a lo hi : Int) : Int := if hi < a then hi else if a < lo then lo else a
theorem mclamp_eq (a lo hi : Int) : S.mclamp a lo hi = clampF a lo hi := by
  unfold S.mclamp clampF; by_cases h1 : hi < a <;> by_cases h2 : a < lo <;> simp [h1, h2]
theorem rclamp_eq (a lo hi : Int) : S.rclamp a lo hi = clampF a lo hi := by
  unfold S.rclamp clampF; by_cases h1 : hi < a <;> by_cases h2 : a < lo <;> simp [h1, h2]

def Wo (c : Cf) (m : Int) : Int := clampF (upF m (Pe c)).1 0 1000000

theorem wof_eq (c : Cf) (hm : S.may c = true) (m : Int) : S.wof c m = some (Wo c m) := by
  unfold S.wof Wo
  simp only [cf_etaW, hm, Bool.not_true, cond_false, per_eq c hm, mup_all, optK, S.wnum, mclamp_eq]
theorem rof_eq (c : Cf) (hm : S.may c = true) (m : Int) : S.rof c m = some (Wo c m) := by
  unfold S.rof Wo
  simp only [cf_etaW, rmay_eq, hm, Bool.not_true, cond_false, rper_eq c hm, rup_all, optK, rclamp_eq]

theorem rcut_eq (n lo : Int) (h : 0 ≤ lo) (h1 : lo ≤ 1) : S.rcut n lo = clampF n lo 1000000 := by
  unfold S.rcut clampF
  repeat' split
  all_goals omega
theorem rover_eq (c : Cf) (w r : Int) : S.rover c w r = S.wover c w r := by
  unfold S.rover S.wover
  simp only [cf_etaW, rmay_eq, S.wnum1, mclamp_eq, rcut_eq _ 0 (by omega) (by omega), rcut_eq _ 1 (by omega) (by omega)]

theorem clampF_range (a lo hi : Int) (h : lo ≤ hi) : lo ≤ clampF a lo hi ∧ clampF a lo hi ≤ hi := by
  unfold clampF; split
  · omega
  · split <;> omega
theorem clampF_mono (a b lo hi : Int) (h : a ≤ b) (h2 : lo ≤ hi) : clampF a lo hi ≤ clampF b lo hi := by
  unfold clampF; split <;> split <;> (try split) <;> (try split) <;> omega

theorem Wo_mono (c : Cf) (hm : S.may c = true) {a b : Int} (a0 : -9223372036854775808 ≤ a) (h : a ≤ b) (b1 : b < 9223372036854775808) : Wo c a ≤ Wo c b := by
  obtain ⟨p0, p1⟩ := Pe_range c hm
  unfold Wo
  by_cases ha : a ≤ 0
  · have h1 := up_neg p0 a0 ha
    have h2 : clampF (upF a (Pe c)).1 0 1000000 = 0 := by unfold clampF; rw [if_neg (by omega)]; split <;> omega
    rw [h2]; exact (clampF_range _ 0 1000000 (by omega)).1
  · obtain ⟨_, _, h3⟩ := up_facts p0 (m := a) (by omega) (by omega)
    obtain ⟨_, h4, _⟩ := up_facts p0 (m := b) b1 (by omega)
    refine clampF_mono _ _ 0 1000000 ?_ (by omega)
    have : ((upF a (Pe c)).1 - 1) * Pe c < (upF b (Pe c)).1 * Pe c := by omega
    have := Int.lt_of_mul_lt_mul_right this (by omega)
    omega

theorem WantMore_true_over (c : Cf) (w n k : Int) (n0 : 0 ≤ n) (n1 : n < 1000) (k0 : 0 ≤ k) (k1 : k < 1000) : S.wover c w (n + k) = true → S.wover c w n = true := by
  unfold S.wover
  simp only [cf_etaW, S.wnum1, mclamp_eq]
  cases hm : S.may c with
  | false => simp
  | true =>
    have hc := (may_iff c).mp hm
    have ht := hc.threshold
    obtain ⟨x0, x1⟩ := clampF_range n 1 1000000 (by omega)
    obtain ⟨y0, y1⟩ := clampF_range (n + k) 1 1000000 (by omega)
    have hxy := clampF_mono n (n + k) 1 1000000 (by omega) (by omega)
    generalize clampF n 1 1000000 = x at *
    generalize clampF (n + k) 1 1000000 = y at *
    have e1 : c.threshold * x ≤ c.threshold * y := Int.mul_le_mul_of_nonneg_left hxy (by omega)
    have e2 : c.threshold * y ≤ 10000 * 1000000 := Int.mul_le_mul ht.2 y1 (by omega) (by omega)
    have e3 : 0 ≤ c.threshold * x := Int.mul_nonneg (by omega) (by omega)
    rw [wrap_id (n := c.threshold * x) (by omega) (by omega), wrap_id (n := c.threshold * y) (by omega) (by omega)]
    simp only [cond_true, decide_eq_true_eq]
    omega
end Go.Proofs.Ytdflpflffccmgaa.AB
