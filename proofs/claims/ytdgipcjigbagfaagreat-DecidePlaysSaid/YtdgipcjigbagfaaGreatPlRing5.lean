/- Rings: a new window. -/
import Derived.Test.YtdgipcjigbagfaaGreatPlRings
namespace Go.Proofs.YtdgipcjigbagfaaGreat.AB
set_option linter.unusedVariables false
set_option linter.unusedSimpArgs false

/-- a new window -/
theorem rr_ok {w w' g nw : Int} {R : List (Int × Int)} {lo len : Nat} {l : FL} {f : BL} (h : PRel g (NB w g) nw R lo len l f) (hw : Rok w' g) (w0 : -1 ≤ nw) (w1 : nw ≤ 1099511627776) (hl : R.length ≤ 70000) (ov : Bool) :
    ∃ lo' len' l' f', S.rr l f lo len w g (NB w g) nw ov w' = some (0, lo', len', w', g, NB w' g, nw, ov, l', f') ∧ PRel g (NB w' g) nw (R.filter (Kp g (NB w' g) nw)) lo' len' l' f' := by
  obtain ⟨⟨g1, gw⟩, w6⟩ := hw
  obtain ⟨bs, hrep, hs⟩ := h.bs
  have hbl := hs.len
  have p1 : ¬ w' < g := by omega
  have p2 : ¬ 600 < w' := by omega
  obtain ⟨l', e, hr⟩ := rgo_eq hrep (hs.atOk g1 h.tk) (by omega) w' g (NB w' g) nw ov w0 w1
  unfold S.rr
  simp only [p1, p2, decide_false, cond_false, nb_eq g1 gw w6, optK, e]
  exact ⟨_, _, _, _, rfl, ⟨_, hr, hs.forget _ _⟩, fun y hy => h.tk y (List.mem_filter.mp hy).1, fun y hy => by have := (List.mem_filter.mp hy).2; unfold Kp at this; simpa using this⟩
theorem rr_no (l : FL) (f : BL) (lo len : Nat) (w g n nw w' : Int) (ov : Bool) (h : w' < g ∨ 600 < w') : S.rr l f lo len w g n nw ov w' = some (1, lo, len, w, g, n, nw, ov, l, f) := by
  unfold S.rr
  by_cases p1 : w' < g
  · simp [p1]
  · have p2 : 600 < w' := by rcases h with h | h; exact absurd h p1; exact h
    simp [p1, p2]
end Go.Proofs.YtdgipcjigbagfaaGreat.AB
