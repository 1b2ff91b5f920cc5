/- ConfMost answers true. -/
import Derived.Test.YtjbdlnomjkhhbaaPlChain
import Derived.Test.YtjbdlnomjkhhbaaPlRmul
import Derived.Test.YtjbdlnomjkhhbaaSConfMost
namespace Go.Proofs.Ytjbdlnomjkhhbaa.AB
set_option linter.unusedVariables false
set_option linter.unusedSimpArgs false

theorem cf_etaC (c : Cf) : Cf.mk c.target c.util c.stable c.panic c.grain c.threshold c.up c.down c.min c.max c.initial c.grace c.delay c.burst c.limit c.queue c.timeout c.ready c.subset c.sample = c := rfl

theorem wrong_dd (m x f : Int) : S.wrong ⟨10000, 700, 60, 6, 1, 2000, 10000, 2000, m, x, f, 30, 0, 20000, 10, 100, 60, 3, 0, 0⟩ =
    bif !S.within m 0 100 then bs [109, 105, 110] else bif !(decide (x = 0) || S.within x (if 1 > m then 1 else m) 100) then bs [109, 97, 120] else bif !S.within f 0 (if x = 0 then 100 else x) then bs [105, 110, 105, 116, 105, 97, 108] else bs [] := by
  rw [wrong_chain]
  unfold chainW
  have w : ∀ n lo hi : Int, lo ≤ n → n ≤ hi → S.within n lo hi = true := fun n lo hi h0 h1 => within_yes h0 h1
  simp only [w 10000 10 1000000 (by decide) (by decide), w 700 100 1000 (by decide) (by decide), w 60 6 600 (by decide) (by decide), w 6 1 60 (by decide) (by decide), w 1 1 6 (by decide) (by decide), w 2000 1100 10000 (by decide) (by decide),
    w 10000 1001 1000000 (by decide) (by decide), w 2000 1001 1000000 (by decide) (by decide), w 30 0 600 (by decide) (by decide), w 0 0 600 (by decide) (by decide), w 20000 0 100000000 (by decide) (by decide), w 10 1 1000 (by decide) (by decide), w 100 0 200 (by decide) (by decide),
    w 60 1 10000 (by decide) (by decide), w 3 0 100 (by decide) (by decide), w 0 0 100 (by decide) (by decide), Bool.not_true, cond_false, Bool.or_true]

theorem ConfMost_true (a b f : Int) : S.ConfMost a b f = true := by
  unfold S.ConfMost
  simp only [S.q_may_eq, S.q_wrong_eq, may_wrong]
  obtain ⟨a0, a1⟩ := umod_range a 104 (by decide)
  generalize (IntKind.u64.wrap a).tmod 104 = a at *
  obtain ⟨b0, b1⟩ := umod_range b 104 (by decide)
  generalize (IntKind.u64.wrap b).tmod 104 = b at *
  obtain ⟨f0, f1⟩ := umod_range f 104 (by decide)
  generalize (IntKind.u64.wrap f).tmod 104 = f at *
  rw [wrap_id (n := a) (by omega) (by omega), wrap_id (n := b) (by omega) (by omega), wrap_id (n := f) (by omega) (by omega)]
  simp only [S.cmost]
  by_cases h1 : a ≤ 100
  · by_cases h2 : b = 0
    · subst h2
      by_cases h3 : f ≤ 100
      · have hw : S.wrong ⟨10000, 700, 60, 6, 1, 2000, 10000, 2000, a, 0, f, 30, 0, 20000, 10, 100, 60, 3, 0, 0⟩ = bs [] := by
          rw [wrong_dd, within_yes a0 h1, if_pos rfl, within_yes f0 h3]; rfl
        simp only [hw]; simp [h1, h3, isE, bs]
      · have hw : S.wrong ⟨10000, 700, 60, 6, 1, 2000, 10000, 2000, a, 0, f, 30, 0, 20000, 10, 100, 60, 3, 0, 0⟩ = bs [105, 110, 105, 116, 105, 97, 108] := by
          rw [wrong_dd, within_yes a0 h1, if_pos rfl, within_no (n := f) (by omega)]; rfl
        simp only [hw]; simp [h1, h3, isE, bs]
    · by_cases h4 : b ≤ 100
      · by_cases h5 : a ≤ b
        · have g : S.within b (if 1 > a then 1 else a) 100 = true := within_yes (by split <;> omega) h4
          by_cases h6 : f ≤ b
          · have hw : S.wrong ⟨10000, 700, 60, 6, 1, 2000, 10000, 2000, a, b, f, 30, 0, 20000, 10, 100, 60, 3, 0, 0⟩ = bs [] := by
              rw [wrong_dd, within_yes a0 h1, if_neg h2, within_yes f0 h6, g]; simp
            have h7 : 1 ≤ b := by omega
            simp only [hw]; simp [h1, h2, h4, h5, h6, h7, isE, bs]
          · have hw : S.wrong ⟨10000, 700, 60, 6, 1, 2000, 10000, 2000, a, b, f, 30, 0, 20000, 10, 100, 60, 3, 0, 0⟩ = bs [105, 110, 105, 116, 105, 97, 108] := by
              rw [wrong_dd, within_yes a0 h1, if_neg h2, within_no (n := f) (by omega), g]; simp
            have h7 : 1 ≤ b := by omega
            simp only [hw]; simp [h1, h2, h4, h5, h6, h7, isE, bs]
        · have hw : S.wrong ⟨10000, 700, 60, 6, 1, 2000, 10000, 2000, a, b, f, 30, 0, 20000, 10, 100, 60, 3, 0, 0⟩ = bs [109, 97, 120] := by
            rw [wrong_dd, within_yes a0 h1, within_no (n := b) (by split <;> omega)]; simp [h2]
          have h7 : 1 ≤ b := by omega
          simp only [hw]; simp [h1, h2, h4, h5, h7, isE, bs]
      · have hw : S.wrong ⟨10000, 700, 60, 6, 1, 2000, 10000, 2000, a, b, f, 30, 0, 20000, 10, 100, 60, 3, 0, 0⟩ = bs [109, 97, 120] := by
          rw [wrong_dd, within_yes a0 h1, within_no (n := b) (by omega)]; simp [h2]
        have h7 : 1 ≤ b := by omega
        have h8 : ¬ b = 100 := by omega
        simp only [hw]; simp [h1, h2, h4, h7, h8, isE, bs]
  · have hw : S.wrong ⟨10000, 700, 60, 6, 1, 2000, 10000, 2000, a, b, f, 30, 0, 20000, 10, 100, 60, 3, 0, 0⟩ = bs [109, 105, 110] := by
      rw [wrong_dd, within_no (by omega)]; rfl
    simp only [hw]
    by_cases h2 : b = 0
    · simp [h1, h2, isE, bs]
    · by_cases h3 : b = 100 <;> simp [h1, h2, h3, isE, bs]

end Go.Proofs.Ytjbdlnomjkhhbaa.AB
