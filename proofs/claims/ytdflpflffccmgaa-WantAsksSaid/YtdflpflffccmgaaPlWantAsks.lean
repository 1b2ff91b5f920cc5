/- WantAsks answers true. -/
import Derived.Test.YtdflpflffccmgaaPlWant
import Derived.Test.YtdflpflffccmgaaSWantAsks
namespace Go.Proofs.Ytdflpflffccmgaa.AB
set_option linter.unusedVariables false
set_option linter.unusedSimpArgs false

theorem WantAsks_true (c : Cf) (m w r : Int) : S.WantAsks c m w r = some true := by
  unfold S.WantAsks
  simp only [cf_etaW, S.q_wof_eq, S.q_rof_eq, S.q_wover_eq, S.q_rover_eq, rover_eq]
  cases hm : S.may c with
  | false => simp [S.wof, S.rof, cf_etaW, rmay_eq, hm, optK]
  | true => simp [wof_eq c hm, rof_eq c hm, optK]

end Go.Proofs.Ytdflpflffccmgaa.AB
