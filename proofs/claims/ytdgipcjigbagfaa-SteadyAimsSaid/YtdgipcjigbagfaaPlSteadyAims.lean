/- SteadyAims answers true. -/
import Derived.Test.YtdgipcjigbagfaaPlSteadyRun
import Derived.Test.YtdgipcjigbagfaaSSteadyAims
namespace Go.Proofs.Ytdgipcjigbagfaa.AB
set_option linter.unusedVariables false
set_option linter.unusedSimpArgs false

theorem rcmost_eq (c : Cf) : S.rcmost c = S.cmost c := rfl
theorem SteadyAims_true (c : Cf) (a b : Int) (ha : a ≤ 9223372036854775807) (hb : b ≤ 9223372036854775807) : S.SteadyAims c a b = some true := by
  unfold S.SteadyAims
  rw [S.q_rmay_eq, rmay_eq, S.q_told26_eq, told26_true]
  cases hm : S.may c with
  | false => simp only [Bool.not_false, cond_true, optK]
  | true =>
    have hc := cmost_b c hm
    have hs := ((may_iff c).mp hm).stable
    have hp := ((may_iff c).mp hm).panic
    have hd := ((may_iff c).mp hm).delay
    have e0 : bnds c (Wn c (max 0 0)) = c.min := by
      rw [show max (0 : Int) 0 = 0 by omega, Wn_zero, bnds_eq]; omega
    have w1 : IntKind.wrap .i64 (400 + IntKind.wrap .i64 (2 * c.stable)) = 400 + 2 * c.stable := by
      rw [wrap_id (n := 2 * c.stable) (by omega) (by omega), wrap_id (by omega) (by omega)]
    have ht : 400 + 2 * c.stable ≤ 400 + 2 * c.stable + c.panic + 40 * c.delay := by omega
    have key : ∀ x y : Int, x ≤ y → bnds c (Wn c (max x 0)) ≤ bnds c (Wn c (max y 0)) := by
      intro x y h
      have := Wn_mono c hm (a := max x 0) (b := max y 0) (by omega)
      rw [bnds_eq, bnds_eq]; omega
    have lo : ∀ w, c.min ≤ bnds c w ∧ bnds c w ≤ S.cmost c := by intro w; rw [bnds_eq]; omega
    simp only [S.q_aim_eq, aim_eq c hm a ha, aim_eq c hm b hb, aim_eq c hm 0 (by omega), S.q_rcmost_eq, rcmost_eq, Bool.not_true, cond_false, optK, e0, w1, tks_eq c hm, cond_true, decide_true, ht, (lo _).1, (lo _).2]
    by_cases hab : b < a
    · simp only [hab, decide_true, cond_true, key b a (by omega)]
    · simp only [hab, decide_false, cond_false, key a b (by omega), decide_true, cond_true]
end Go.Proofs.Ytdgipcjigbagfaa.AB
