/- Plain facts of layer 14. -/
import Derived.Test.YtfoaihjkmfhaoaaPlA
import Derived.Test.YtfoaihjkmfhaoaaSa
namespace Go.Proofs.Ytfoaihjkmfhaoaa.AB
set_option linter.unusedVariables false
set_option linter.unusedSimpArgs false

theorem is_eq (t m : Int) : S.is t m = decide (0 ≤ t) := rfl

theorem next_eq (c : Cf) (t m now : Int) (over : Bool) : S.next c t m now over =
    if !S.may c || decide (now < 0) || decide (1099511627776 < now) then (t, m)
    else if over then (if 0 ≤ t then (now, m) else (now, 0))
    else if 0 ≤ t ∧ c.stable ≤ IntKind.i64.wrap (now - t) then (-1, 0) else (t, m) := by
  unfold S.next
  have e : (Cf.mk c.target c.util c.stable c.panic c.grain c.threshold c.up c.down c.min c.max c.initial c.grace c.delay c.burst c.limit c.queue c.timeout c.ready c.subset c.sample) = c := rfl
  simp only [e, is_eq]
  cases S.may c <;> by_cases h1 : now < 0 <;> by_cases h2 : 1099511627776 < now <;> cases over <;> by_cases h3 : 0 ≤ t <;> by_cases h4 : c.stable ≤ IntKind.i64.wrap (now - t) <;> simp [h1, h2, h3, h4]
end Go.Proofs.Ytfoaihjkmfhaoaa.AB
