/- DelayBounds answers true. -/
import Derived.Test.YtfoaihjkmfhaoaaPlDel
import Derived.Test.YtfoaihjkmfhaoaaSDelayBounds
namespace Go.Proofs.Ytfoaihjkmfhaoaa.AB
set_option linter.unusedVariables false
set_option linter.unusedSimpArgs false

theorem DelayBounds_true (a b x : Int) : S.DelayBounds a b x = some true := by
  unfold S.DelayBounds
  obtain ⟨a0, a1⟩ := umod_range a 1000001 (by decide)
  generalize (IntKind.u64.wrap a).tmod 1000001 = a at *
  obtain ⟨b0, b1⟩ := umod_range b 1000001 (by decide)
  generalize (IntKind.u64.wrap b).tmod 1000001 = b at *
  obtain ⟨x0, x1⟩ := umod_range x 601 (by decide)
  generalize (IntKind.u64.wrap x).tmod 601 = x at *
  rw [wrap_id (n := a) (by omega) (by omega), wrap_id (n := b) (by omega) (by omega), wrap_id (n := x) (by omega) (by omega)]
  have e1 : S.dnew x = .inr x := by
    unfold S.dnew
    have g1 : ¬ x < 0 := by omega
    have g2 : ¬ 600 < x := by omega
    simp [g1, g2]
  have t1 : Times [((5 : Int), a)] := fun y hy => by simp at hy; subst hy; simp only; omega
  have t2 : Times [((5 : Int), a), (5, b)] := fun y hy => by simp at hy; rcases hy with hy | hy <;> subst hy <;> (simp only; omega)
  obtain ⟨q', hq', e2⟩ := dput_yes (Holds.whole [((5 : Int), a)]) t1 (sp := x) (la := 5) (t := 5) (w := b) (by omega) (by omega) (by omega) b0 (by omega) (by simp)
  have hq2 : q' = [((5 : Int), a), (5, b)] := by rw [hq']; simp [keepT]
  rw [hq2] at e2
  have e3 := dput_no (l := ([((5 : Int), a), (5, b)].map some : WL)) (lo := 0) (len := 2) (sp := x) (la := 5) (t := 4) (w := 9) (by omega)
  have e4 := dmost_eq (Holds.whole [((5 : Int), a), (5, b)]) t2 (sp := x) (la := 5) (t := 5) (by omega) (by omega) (by simp)
  rw [e1]
  simp only [Sum.elim_inr]
  rw [dput1_yes (by omega) (by omega) a0 (by omega)]
  simp only [Sum.elim_inr]
  have e2' : S.dput [some ((5 : Int), a)] 0 1 x 5 5 b = some (.inr (2, x, 5, [some ((5 : Int), a), some (5, b)])) := e2
  have e3' : S.dput [some ((5 : Int), a), some (5, b)] 0 2 x 5 4 9 = some (.inl (0, 2, x, 5, [some ((5 : Int), a), some (5, b)])) := e3
  have e4' : S.dmost 100000 [some ((5 : Int), a), some (5, b)] 0 2 x 5 5 = some (mostFrom x 5 0 [((5 : Int), a), (5, b)], 0, 2, x, 5, [some ((5 : Int), a), some (5, b)]) := e4
  rw [e2']
  simp only [optK, Sum.elim_inr]
  rw [e3']
  simp only [optK, Sum.elim_inl]
  rw [e4']
  simp only [mostFrom, counts]
  have h1 : (if a > 0 then a else 0) = a := by split <;> omega
  simp [h1]
end Go.Proofs.Ytfoaihjkmfhaoaa.AB
