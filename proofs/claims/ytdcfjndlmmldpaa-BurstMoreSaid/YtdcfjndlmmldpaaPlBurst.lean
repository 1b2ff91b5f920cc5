/- Layer 16: its four laws, plainly. -/
import Derived.Test.YtdcfjndlmmldpaaPlMilli
import Derived.Test.YtdcfjndlmmldpaaSburst
namespace Go.Proofs.Ytdcfjndlmmldpaa.AB
set_option linter.unusedVariables false
set_option linter.unusedSimpArgs false

theorem cf_eta' (c : Cf) : Cf.mk c.target c.util c.stable c.panic c.grain c.threshold c.up c.down c.min c.max c.initial c.grace c.delay c.burst c.limit c.queue c.timeout c.ready c.subset c.sample = c := rfl

theorem bthere_eq (n : Int) : S.bthere n = if n < 0 then 0 else if 1000000 < n then 1000000 else n := by
  unfold S.bthere
  try simp only [cond_true, cond_false]
  repeat' split
  all_goals omega
theorem bcut_eq (n : Int) : S.rcut n 0 = S.bthere n := by
  unfold S.rcut S.bthere; rfl
theorem bthere_range (n : Int) : 0 ≤ S.bthere n ∧ S.bthere n ≤ 1000000 := by
  rw [bthere_eq]; split
  · omega
  · split <;> omega

theorem rexcess_eq (c : Cf) (r q : Int) : S.rexcess c r q = S.excess c r q := by
  unfold S.rexcess S.excess
  simp only [cf_eta', rmay_eq, rsub_eq, bcut_eq]
theorem rproxy_eq (c : Cf) (r e : Int) : S.rproxy c r e = S.proxy c r e := by
  unfold S.rproxy S.proxy
  simp only [cf_eta', rmay_eq]
theorem BurstAsks_true (c : Cf) (r q e : Int) : S.BurstAsks c r q e = true := by
  unfold S.BurstAsks
  simp [cf_eta', rexcess_eq, rproxy_eq]

theorem load_range {r l : Int} (h0 : 0 ≤ r) (h1 : r ≤ 1000000) (l0 : 1 ≤ l) (l1 : l ≤ 1000) : 0 ≤ r * l ∧ r * l ≤ 1000000000 := by
  refine ⟨Int.mul_nonneg h0 (by omega), ?_⟩
  have := Int.mul_le_mul h1 l1 (by omega) (by omega)
  omega

theorem excess_eq (c : Cf) (hm : S.may c = true) (hb : c.burst ≠ -1000) (r q : Int) (q0 : -9223372036854775808 ≤ q) (q1 : q < 9223372036854775808) :
    S.excess c r q = sat (sat (S.bthere r * c.limit * 1000 - q) - c.burst) := by
  have hc := (may_iff c).mp hm
  obtain ⟨t0, t1⟩ := bthere_range r
  obtain ⟨p0, p1⟩ := load_range t0 t1 hc.limit.1 hc.limit.2
  have hbb := hc.burst
  unfold S.excess
  simp only [cf_eta', hm, hb, decide_false, Bool.not_true, cond_false]
  rw [wrap_id (n := S.bthere r * c.limit) (by omega) (by omega), wrap_id (n := S.bthere r * c.limit * 1000) (by omega) (by omega)]
  rw [msub_fst (S.bthere r * c.limit * 1000) q (by omega) (by omega) q0 q1]
  obtain ⟨s0, s1⟩ := sat_range (S.bthere r * c.limit * 1000 - q)
  rw [msub_fst _ c.burst s0 s1 (by omega) (by omega)]

theorem BurstRoom_true (c : Cf) (r q : Int) : S.BurstRoom c r q = true := by
  unfold S.BurstRoom
  simp only [cf_eta', rmay_eq]
  cases hm : S.may c with
  | false => rfl
  | true =>
    by_cases hb : c.burst = -1000
    · simp [hb]
    · have hc := (may_iff c).mp hm
      obtain ⟨a0, a1⟩ := umod_range r 1001 (by decide)
      generalize (IntKind.u64.wrap r).tmod 1001 = a at *
      have b0 : -1000000000 < q.tmod 1000000000 := Int.lt_tmod_of_pos q (by decide)
      have b1 : q.tmod 1000000000 < 1000000000 := Int.tmod_lt_of_pos q (by decide)
      generalize q.tmod 1000000000 = b at *
      have hbb := hc.burst
      rw [wrap_id (n := a) (by omega) (by omega)]
      have e1 : S.bthere a = a := by rw [bthere_eq, if_neg (by omega), if_neg (by omega)]
      have e2 : S.bthere (-5) = 0 := by decide
      have e3 : S.bthere 0 = 0 := by decide
      obtain ⟨p0, p1⟩ := load_range (r := a) (by omega) (by omega) hc.limit.1 hc.limit.2
      rw [excess_eq c hm hb a b (by omega) (by omega), excess_eq c hm hb (-5) b (by omega) (by omega), excess_eq c hm hb 0 (-9223372036854775808) (by omega) (by omega), e1, e2, e3]
      generalize a * c.limit = x at *
      rw [wrap_id (n := x) (by omega) (by omega), wrap_id (n := x * 1000) (by omega) (by omega), wrap_id (n := x * 1000 - b) (by omega) (by omega), wrap_id (n := x * 1000 - b - c.burst) (by omega) (by omega),
        wrap_id (n := 0 - b) (by omega) (by omega), wrap_id (n := 0 - b - c.burst) (by omega) (by omega), wrap_id (n := 9223372036854775807 - c.burst) (by omega) (by omega)]
      rw [sat_id (x := x * 1000 - b) (by omega) (by omega), sat_id (x := x * 1000 - b - c.burst) (by omega) (by omega)]
      have z : (0 : Int) * c.limit * 1000 = 0 := by simp
      rw [z, sat_id (x := 0 - b) (by omega) (by omega), sat_id (x := 0 - b - c.burst) (by omega) (by omega)]
      have s1 : sat (0 - -9223372036854775808) = 9223372036854775807 := by decide
      rw [s1, sat_id (x := 9223372036854775807 - c.burst) (by omega) (by omega)]
      simp [hb]

theorem BurstServes_true (c : Cf) (r q : Int) : S.BurstServes c r q = true := by
  unfold S.BurstServes
  simp only [cf_eta', rmay_eq]
  cases hm : S.may c with
  | false => rfl
  | true =>
    have hc := (may_iff c).mp hm
    obtain ⟨a0, a1⟩ := umod_range r 1001 (by decide)
    generalize (IntKind.u64.wrap r).tmod 1001 = a at *
    obtain ⟨b0, b1⟩ := umod_range q 1000000000 (by decide)
    generalize (IntKind.u64.wrap q).tmod 1000000000 = b at *
    rw [wrap_id (n := a) (by omega) (by omega), wrap_id (n := b) (by omega) (by omega)]
    by_cases hb : c.burst = -1000
    · simp [hb, S.proxy, cf_eta', hm]
    · by_cases ha : a = 0
      · simp [hb, ha, S.proxy, cf_eta', hm]
      · have hbb := hc.burst
        obtain ⟨p0, p1⟩ := load_range (r := a) (by omega) (by omega) hc.limit.1 hc.limit.2
        have e1 : S.bthere a = a := by rw [bthere_eq, if_neg (by omega), if_neg (by omega)]
        have hp : ¬ a < 1 := by omega
        rw [excess_eq c hm hb a b (by omega) (by omega), e1]
        generalize a * c.limit = x at *
        rw [wrap_id (n := x) (by omega) (by omega), wrap_id (n := x * 1000) (by omega) (by omega), wrap_id (n := x * 1000 - b) (by omega) (by omega)]
        rw [sat_id (x := x * 1000 - b) (by omega) (by omega), sat_id (x := x * 1000 - b - c.burst) (by omega) (by omega)]
        by_cases h0 : c.burst = 0
        · simp only [S.proxy, cf_eta', hm]
          simp [ha, h0, hp]
        · have h1 : 0 < c.burst := by omega
          have h2 : (x * 1000 - b - c.burst < 0) ↔ (x * 1000 - b < c.burst) := by omega
          simp [hb, ha, h0, S.proxy, cf_eta', hm, hp, h1, h2]

theorem burst_more (c : Cf) (hm : S.may c = true) (r s p q : Int) (r0 : 0 ≤ r) (rs : r ≤ s) (s1 : s ≤ 1000) (q0 : 0 ≤ q) (qp : q ≤ p) (p1 : p < 1000000000) :
    S.excess c r p ≤ S.excess c s q ∧ (S.proxy c s (S.excess c s q) = true → S.proxy c r (S.excess c r p) = true) := by
  have hc := (may_iff c).mp hm
  by_cases hb : c.burst = -1000
  · simp [S.excess, S.proxy, cf_eta', hm, hb]
  · have hbb := hc.burst
    obtain ⟨x0, x1⟩ := load_range (r := r) (by omega) (by omega) hc.limit.1 hc.limit.2
    obtain ⟨y0, y1⟩ := load_range (r := s) (by omega) (by omega) hc.limit.1 hc.limit.2
    have e1 : S.bthere r = r := by rw [bthere_eq, if_neg (by omega), if_neg (by omega)]
    have e2 : S.bthere s = s := by rw [bthere_eq, if_neg (by omega), if_neg (by omega)]
    have hxy : r * c.limit ≤ s * c.limit := Int.mul_le_mul_of_nonneg_right rs (by have := hc.limit.1; omega)
    rw [excess_eq c hm hb r p (by omega) (by omega), excess_eq c hm hb s q (by omega) (by omega), e1, e2]
    generalize r * c.limit = x at *
    generalize s * c.limit = y at *
    rw [sat_id (x := x * 1000 - p) (by omega) (by omega), sat_id (x := x * 1000 - p - c.burst) (by omega) (by omega), sat_id (x := y * 1000 - q) (by omega) (by omega), sat_id (x := y * 1000 - q - c.burst) (by omega) (by omega)]
    refine ⟨by omega, fun h => ?_⟩
    unfold S.proxy at h ⊢
    simp only [cf_eta', hm, hb, Bool.not_true, cond_false, decide_false] at h ⊢
    by_cases h1 : r < 1
    · simp [h1]
    · have h2 : ¬ s < 1 := by omega
      by_cases h3 : 0 < c.burst
      · simp [h2, h3] at h
        simp [h1, h3]; omega
      · simp [h2, h3] at h

theorem BurstMore_true (c : Cf) (a b x y : Int) : S.BurstMore c a b x y = true := by
  unfold S.BurstMore
  simp only [cf_eta', rmay_eq]
  cases hm : S.may c with
  | false => rfl
  | true =>
    obtain ⟨a0, a1⟩ := umod_range a 1000 (by decide)
    generalize (IntKind.u64.wrap a).tmod 1000 = a at *
    obtain ⟨b0, b1⟩ := umod_range b 1000 (by decide)
    generalize (IntKind.u64.wrap b).tmod 1000 = b at *
    obtain ⟨x0, x1⟩ := umod_range x 1000000000 (by decide)
    generalize (IntKind.u64.wrap x).tmod 1000000000 = x at *
    obtain ⟨y0, y1⟩ := umod_range y 1000000000 (by decide)
    generalize (IntKind.u64.wrap y).tmod 1000000000 = y at *
    rw [wrap_id (n := a) (by omega) (by omega), wrap_id (n := b) (by omega) (by omega), wrap_id (n := x) (by omega) (by omega), wrap_id (n := y) (by omega) (by omega)]
    have fin : ∀ (r s p q : Int), 0 ≤ r → r ≤ s → s ≤ 1000 → 0 ≤ q → q ≤ p → p < 1000000000 →
        (bif decide (S.excess c r p ≤ S.excess c s q) then (bif !S.proxy c s (S.excess c s q) then true else S.proxy c r (S.excess c r p)) else false) = true := by
      intro r s p q h1 h2 h3 h4 h5 h6
      obtain ⟨l1, l2⟩ := burst_more c hm r s p q h1 h2 h3 h4 h5 h6
      simp only [l1, decide_true, cond_true]
      cases hp : S.proxy c s (S.excess c s q) with
      | false => rfl
      | true => simpa using l2 hp
    simp only [Bool.not_true, cond_false]
    by_cases h1 : b < a <;> by_cases h2 : x < y <;> simp only [h1, h2, decide_true, decide_false, cond_true, cond_false] <;> apply fin <;> omega
end Go.Proofs.Ytdcfjndlmmldpaa.AB
