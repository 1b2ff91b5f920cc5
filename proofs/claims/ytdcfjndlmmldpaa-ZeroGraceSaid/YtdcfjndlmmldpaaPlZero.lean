/- Layer 22: the program and the document say the same. -/
import Derived.Test.YtdcfjndlmmldpaaPlConf
import Derived.Test.YtdcfjndlmmldpaaSzero
namespace Go.Proofs.Ytdcfjndlmmldpaa.AB
set_option linter.unusedVariables false
set_option linter.unusedSimpArgs false

theorem cf_eta (c : Cf) : Cf.mk c.target c.util c.stable c.panic c.grain c.threshold c.up c.down c.min c.max c.initial c.grace c.delay c.burst c.limit c.queue c.timeout c.ready c.subset c.sample = c := rfl

theorem zmay_eq (c : Cf) (t now mean w b : Int) (hn : now < 9223372036854775808) : S.zmay c t now mean w b = S.rzmay c t now mean w b := by
  unfold S.zmay S.rzmay
  simp only [cf_eta, rmay_eq, S.since]
  cases hm : S.may c with
  | false => rfl
  | true =>
    have hg := ((may_iff c).mp hm).grace
    by_cases h1 : 0 ≤ t
    · by_cases h2 : t ≤ now
      · have e : (c.grace ≤ IntKind.i64.wrap (now - t)) ↔ (IntKind.u64.wrap c.grace ≤ IntKind.u64.wrap (IntKind.u64.wrap now - IntKind.u64.wrap t)) := by
          rw [wrap_id (by omega) (by omega)]
          simp only [IntKind.wrap_u64]
          omega
        simp only [h1, h2, e]
      · simp only [h1, h2, decide_true, decide_false, cond_true, cond_false]
    · simp only [h1, decide_false, cond_false]
theorem znext_eq (t now : Int) (p : Bool) : S.znext t now p = S.rzero t now p := by
  unfold S.znext S.rzero
  simp only [S.since, S.znew]
  cases p <;> by_cases h : 0 ≤ t <;> simp [h]
theorem zwant_eq (c : Cf) (t now want have_ mean w b : Int) (hn : now < 9223372036854775808) : S.zwant c t now want have_ mean w b = S.rzwant c t now want have_ mean w b := by
  unfold S.zwant S.rzwant
  simp only [cf_eta, zmay_eq c t now mean w b hn]
  cases decide (0 < want) <;> cases decide (have_ = 0) <;> cases h : decide (w = 0) <;> simp
theorem ZeroAsks_true (c : Cf) (t now : Int) (p : Bool) (want have_ mean w b : Int) (hn : now < 9223372036854775808) : S.ZeroAsks c t now p want have_ mean w b = true := by
  unfold S.ZeroAsks
  simp [cf_eta, znext_eq, zmay_eq c t now mean w b hn, zwant_eq c t now want have_ mean w b hn]
end Go.Proofs.Ytdcfjndlmmldpaa.AB
