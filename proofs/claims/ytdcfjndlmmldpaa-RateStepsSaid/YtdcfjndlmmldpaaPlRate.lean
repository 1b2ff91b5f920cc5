/- Layer 13: what the functions come to. -/
import Derived.Test.YtdcfjndlmmldpaaPlMilli
import Derived.Test.YtdcfjndlmmldpaaPlMupdown
import Derived.Test.YtdcfjndlmmldpaaSratez
namespace Go.Proofs.Ytdcfjndlmmldpaa.AB
set_option linter.unusedVariables false
set_option linter.unusedSimpArgs false

theorem cf_etaR (c : Cf) : Cf.mk c.target c.util c.stable c.panic c.grain c.threshold c.up c.down c.min c.max c.initial c.grace c.delay c.burst c.limit c.queue c.timeout c.ready c.subset c.sample = c := rfl

theorem mdown_nn {a b : Int} (ha : 0 ≤ a) (a1 : a < 9223372036854775807) (hb : 0 < b) : S.mdown a b = some (a / b, 0) := by
  unfold S.mdown
  rw [mhalf_nn ha (by omega) hb]
  have e1 : ¬ b = 0 := by omega
  have e2 : ¬ a < 0 := by omega
  have e3 : ¬ b < 0 := by omega
  simp [optK, e1, e2, e3]

theorem rup_eq (a b : Int) : S.rup a b = S.mup a b := by
  unfold S.rup S.mup S.mhalf
  by_cases h1 : b = 0
  · simp [h1, optK]
  · by_cases h2 : a = -9223372036854775808
    · by_cases h3 : b = -1
      · simp [h2, h3, optK]
      · by_cases h4 : Int.tmod (-9223372036854775808) b = 0 <;> by_cases h5 : b < 0 <;> simp [h1, h2, h3, h4, h5, optK]
    · by_cases h4 : Int.tmod a b = 0 <;> by_cases h5 : a < 0 <;> by_cases h6 : b < 0 <;> simp [h1, h2, h4, h5, h6, optK]

theorem rthere_eq (n lo : Int) : S.rthere n lo = S.rcut n lo := rfl

theorem rcut_range (n lo : Int) (h : 0 ≤ lo) (h1 : lo ≤ 1000000) : lo ≤ S.rcut n lo ∧ S.rcut n lo ≤ 1000000 := by
  unfold S.rcut
  repeat' split
  all_goals omega

/-- the most, the least, what is let through -/
def Mo (c : Cf) (r : Int) : Int := if 1000000 < (c.up * S.rcut r 1 + 999) / 1000 then 1000000 else (c.up * S.rcut r 1 + 999) / 1000
def Le (c : Cf) (r : Int) : Int := 1000 * S.rcut r 0 / c.down
def Li (c : Cf) (w r : Int) : Int := if Mo c r < (if Le c r > w then Le c r else w) then Mo c r else (if Le c r > w then Le c r else w)

theorem up_range {u x : Int} (u0 : 1001 ≤ u) (u1 : u ≤ 1000000) (x0 : 1 ≤ x) (x1 : x ≤ 1000000) : 0 ≤ u * x ∧ u * x ≤ 1000000000000 := by
  refine ⟨Int.mul_nonneg (by omega) (by omega), ?_⟩
  have := Int.mul_le_mul u1 x1 (by omega) (by omega)
  omega

theorem most_eq (c : Cf) (hm : S.may c = true) (r : Int) : S.most c r = some (Mo c r) := by
  have hc := (may_iff c).mp hm
  obtain ⟨x0, x1⟩ := rcut_range r 1 (by omega) (by omega)
  obtain ⟨p0, p1⟩ := up_range hc.up.1 hc.up.2 x0 x1
  unfold S.most Mo
  simp only [cf_etaR, hm, Bool.not_true, cond_false, rthere_eq]
  rw [wrap_id (n := c.up * S.rcut r 1) (by omega) (by omega), mup_nn p0 (by omega) (by decide)]
  simp only [optK, cdiv_1000]

theorem least_eq (c : Cf) (hm : S.may c = true) (r : Int) : S.least c r = some (Le c r) := by
  have hc := (may_iff c).mp hm
  obtain ⟨x0, x1⟩ := rcut_range r 0 (by omega) (by omega)
  have hd := hc.down
  unfold S.least Le
  simp only [cf_etaR, hm, Bool.not_true, cond_false, rthere_eq]
  rw [wrap_id (n := 1000 * S.rcut r 0) (by omega) (by omega), mdown_nn (by omega) (by omega) (by omega)]
  simp only [optK]

theorem limit_eq (c : Cf) (hm : S.may c = true) (w r : Int) : S.limit c w r = some (Li c w r) := by
  unfold S.limit Li
  simp only [cf_etaR, hm, Bool.not_true, cond_false, most_eq c hm r, least_eq c hm r, optK]

theorem rmost_eq (c : Cf) (r : Int) : S.rmost c r = S.most c r := by
  unfold S.rmost S.most
  simp only [cf_etaR, rmay_eq, rup_eq, rthere_eq]

theorem rleast_eq (c : Cf) (r : Int) : S.rleast c r = S.least c r := by
  cases hm : S.may c with
  | false => simp [S.rleast, S.least, cf_etaR, rmay_eq, hm]
  | true =>
    have hc := (may_iff c).mp hm
    obtain ⟨x0, x1⟩ := rcut_range r 0 (by omega) (by omega)
    have hd := hc.down
    obtain ⟨q0, q1⟩ := ediv_range (a := 1000 * S.rcut r 0) (b := c.down) (by omega) (by omega) (by omega)
    rw [least_eq c hm r]
    unfold S.rleast Le
    simp only [cf_etaR, rmay_eq, hm, Bool.not_true, cond_false]
    have e : ¬ c.down = 0 := by omega
    rw [wrap_id (n := 1000 * S.rcut r 0) (by omega) (by omega), Int.tdiv_eq_ediv_of_nonneg (by omega), wrap_id (n := 1000 * S.rcut r 0 / c.down) (by omega) (by omega)]
    simp [e]

theorem rlimit_eq (c : Cf) (w r : Int) : S.rlimit c w r = S.limit c w r := by
  unfold S.rlimit S.limit
  simp only [cf_etaR, rmay_eq, rmost_eq, rleast_eq]

theorem rcut_small (r lo : Int) (h0 : 0 ≤ r) (h1 : r ≤ 1000000) (hl : 0 ≤ lo) (hl1 : lo ≤ 1) : S.rcut r lo = if r < lo then lo else r := by
  unfold S.rcut
  repeat' split
  all_goals omega

theorem Mo_gt (c : Cf) (hm : S.may c = true) (r : Int) (h0 : 0 ≤ r) (h1 : r ≤ 10000) : r < Mo c r ∧ Mo c r ≤ 1000000 := by
  have hc := (may_iff c).mp hm
  have e := rcut_small r 1 h0 (by omega) (by omega) (by omega)
  obtain ⟨x0, x1⟩ := rcut_range r 1 (by omega) (by omega)
  unfold Mo
  have hx : r ≤ S.rcut r 1 := by rw [e]; split <;> omega
  generalize S.rcut r 1 = x at *
  have hp : 1001 * x ≤ c.up * x := Int.mul_le_mul_of_nonneg_right hc.up.1 (by omega)
  generalize c.up * x = p at *
  split <;> omega

theorem Le_lt (c : Cf) (hm : S.may c = true) (r : Int) (h0 : 0 ≤ r) (h1 : r ≤ 1000000) : 0 ≤ Le c r ∧ Le c r ≤ r ∧ (r = 0 ∨ Le c r < r) := by
  have hc := (may_iff c).mp hm
  have e := rcut_small r 0 h0 h1 (by omega) (by omega)
  have hd := hc.down
  unfold Le
  rw [e, if_neg (by omega)]
  obtain ⟨q0, q1⟩ := ediv_range (a := 1000 * r) (b := c.down) (by omega) (by omega) (by omega)
  have h2 := Int.ediv_mul_le (1000 * r) (b := c.down) (by omega)
  generalize 1000 * r / c.down = q at *
  have h3 : q * 1001 ≤ q * c.down := Int.mul_le_mul_of_nonneg_left hd.1 q0
  omega

theorem Mo_mono (c : Cf) (hm : S.may c = true) (r s : Int) (h0 : 0 ≤ r) (h : r ≤ s) (h1 : s ≤ 1000000) : Mo c r ≤ Mo c s := by
  have hc := (may_iff c).mp hm
  have e := rcut_small r 1 h0 (by omega) (by omega) (by omega)
  have e' := rcut_small s 1 (by omega) h1 (by omega) (by omega)
  have hx : S.rcut r 1 ≤ S.rcut s 1 := by rw [e, e']; split <;> split <;> omega
  unfold Mo
  have hp : c.up * S.rcut r 1 ≤ c.up * S.rcut s 1 := Int.mul_le_mul_of_nonneg_left hx (by have := hc.up; omega)
  generalize c.up * S.rcut r 1 = p at *
  generalize c.up * S.rcut s 1 = q at *
  split <;> split <;> omega

theorem Le_mono (c : Cf) (hm : S.may c = true) (r s : Int) (h0 : 0 ≤ r) (h : r ≤ s) (h1 : s ≤ 1000000) : Le c r ≤ Le c s := by
  have hc := (may_iff c).mp hm
  have e := rcut_small r 0 h0 (by omega) (by omega) (by omega)
  have e' := rcut_small s 0 (by omega) h1 (by omega) (by omega)
  unfold Le
  rw [e, e', if_neg (by omega), if_neg (by omega)]
  exact Int.ediv_le_ediv (by have := hc.down; omega) (by omega)
end Go.Proofs.Ytdcfjndlmmldpaa.AB
