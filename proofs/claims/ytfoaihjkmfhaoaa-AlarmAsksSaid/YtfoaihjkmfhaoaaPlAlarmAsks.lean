/- AlarmAsks answers true. -/
import Derived.Test.YtfoaihjkmfhaoaaPlAlarm
import Derived.Test.YtfoaihjkmfhaoaaPlConf
namespace Go.Proofs.Ytfoaihjkmfhaoaa.AB
set_option linter.unusedVariables false
set_option linter.unusedSimpArgs false

theorem cf_etaA (c : Cf) : Cf.mk c.target c.util c.stable c.panic c.grain c.threshold c.up c.down c.min c.max c.initial c.grace c.delay c.burst c.limit c.queue c.timeout c.ready c.subset c.sample = c := rfl

theorem rnext_eq (c : Cf) (t m now : Int) (over : Bool) (ht : t < 9223372036854775808) : S.rnext c t m now over = S.next c t m now over := by
  rw [next_eq]
  unfold S.rnext
  simp only [cf_etaA, rmay_eq, S.ris]
  cases hm : S.may c with
  | false => simp
  | true =>
    have hc := (may_iff c).mp hm
    have hs := hc.stable
    by_cases h1 : now < 0
    · simp [h1]
    · by_cases h2 : 1099511627776 < now
      · simp [h2]
      · by_cases h3 : 0 ≤ t
        · have e1 : IntKind.i64.wrap (now - c.stable) = now - c.stable := wrap_id (by omega) (by omega)
          have e2 : IntKind.i64.wrap (now - t) = now - t := wrap_id (by omega) (by omega)
          have e3 : (t ≤ now - c.stable) ↔ (c.stable ≤ now - t) := by omega
          cases over <;> simp [h1, h2, h3, e1, e2, e3]
        · cases over <;> simp [h1, h2, h3]

theorem AlarmAsks_true (c : Cf) (t m now : Int) (over : Bool) (w : Int) (ht : t < 9223372036854775808) : S.AlarmAsks c t m now over w = true := by
  unfold S.AlarmAsks
  have e : S.rkeep t m w = S.keep t m w := rfl
  simp [cf_etaA, rnext_eq c t m now over ht, e, S.is, S.ris, S.panics]
end Go.Proofs.Ytfoaihjkmfhaoaa.AB
