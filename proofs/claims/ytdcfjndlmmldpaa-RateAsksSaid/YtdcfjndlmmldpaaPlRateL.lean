/- Layer 13: three laws, plainly. -/
import Derived.Test.YtdcfjndlmmldpaaPlRate
import Derived.Test.YtdcfjndlmmldpaaSRateAsks
namespace Go.Proofs.Ytdcfjndlmmldpaa.AB
set_option linter.unusedVariables false
set_option linter.unusedSimpArgs false

theorem RateAsks_true (c : Cf) (w r : Int) : S.RateAsks c w r = some true := by
  unfold S.RateAsks
  simp only [cf_etaR, S.q_most_eq, S.q_rmost_eq, S.q_least_eq, S.q_rleast_eq, S.q_limit_eq, S.q_rlimit_eq, rmost_eq, rleast_eq, rlimit_eq]
  cases hm : S.may c with
  | false => simp [S.most, S.least, S.limit, cf_etaR, hm, optK]
  | true => simp [most_eq c hm, least_eq c hm, limit_eq c hm, optK]
end Go.Proofs.Ytdcfjndlmmldpaa.AB
