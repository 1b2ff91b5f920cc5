/- AlarmPlays answers true. -/
import Derived.Test.YtfoaihjkmfhaoaaPlAlarm
import Derived.Test.YtfoaihjkmfhaoaaSAlarmPlays
namespace Go.Proofs.Ytfoaihjkmfhaoaa.AB
set_option linter.unusedVariables false
set_option linter.unusedSimpArgs false

theorem keep_in' (t m w : Int) (h : 0 ≤ t) : S.keep t m w = (t, if w > m then w else m, if w > m then w else m) := by
  unfold S.keep; simp [is_eq, h]
theorem keep_out (w : Int) : S.keep (-1) 0 w = (-1, 0, w) := by
  unfold S.keep; simp [is_eq]

theorem alarmPlays_loop (fu : Nat) (l : List Bool) (len : Nat) (u : List Int) (ulen : Nat) (hl : len = l.length) (hu : ulen = u.length) :
    ∀ (n i : Nat) (last most s m : Int), (last = -1 ∧ s = -1 ∧ m = 0) ∨ (0 ≤ last ∧ last < i ∧ s = last ∧ m = most) → i ≤ 200 → 200 < n + i →
    ∃ z, S.AlarmPlays_l0 fu l len u ulen n last most i s m = some (.inr (.inr z)) := by
  intro n
  induction n with
  | zero => intro i _ _ _ _ _ _ _; omega
  | succ n ih =>
    intro i last most s m hs hi hn
    unfold S.AlarmPlays_l0
    by_cases c1 : i < len
    · have g1 : ((i : Int) < (len : Int)) := by omega
      by_cases c2 : i < 200
      · have g2 : ((i : Int) < 200) := by omega
        have g3 : inB (i : Int) len = true := by unfold inB; simp; omega
        have g4 : l[Int.toNat (i : Int) + 0]? = some (l[i]'(by omega)) := by simp
        have gw : IntKind.wrap .i64 ((i : Int) + 1) = ((i + 1 : Nat) : Int) := by rw [wrap_id (by omega) (by omega)]; omega
        have g5 : (0 : Int) ≤ (i : Int) := by omega
        have g6 : ¬ (i : Int) < 0 := by omega
        generalize l[i]'(by omega) = o at g4
        have hm := may_def 60 (by decide) (by decide)
        -- what is wanted at this tick
        have hw : ∃ w : Int, (¬ (i : Int) < (ulen : Int) ∧ w = 0) ∨ ((i : Int) < (ulen : Int) ∧ inB (i : Int) ulen = true ∧ u[Int.toNat (i : Int) + 0]? = some w) := by
          by_cases c3 : i < ulen
          · exact ⟨u[i]'(by omega), .inr ⟨by omega, by unfold inB; simp; omega, by simp⟩⟩
          · exact ⟨0, .inl ⟨by omega, rfl⟩⟩
        obtain ⟨w, hw⟩ := hw
        simp only [g1, g2, g3, g4, decide_true, cond_true, optK, gw]
        rcases hs with ⟨rfl, rfl, rfl⟩ | ⟨hl0, hl1, hs1, hs2⟩
        · cases o with
          | true =>
            have e : S.next ⟨10000, 700, 60, 6, 1, 2000, 10000, 2000, 0, 0, 1, 30, 0, 20000, 10, 100, 60, 3, 0, 0⟩ (-1) 0 i true = ((i : Int), (0 : Int)) := by
              rw [next_eq]; simp [hm]; omega
            have hx : ∃ x, x = (if w > 0 then w else 0) := ⟨_, rfl⟩
            obtain ⟨x, hx⟩ := hx
            have := ih (i + 1) i x i x (.inr ⟨by omega, by omega, rfl, rfl⟩) (by omega) (by omega)
            obtain ⟨z, hz⟩ := this
            refine ⟨z, ?_⟩
            rw [hx] at hz
            rcases hw with ⟨k1, rfl⟩ | ⟨k1, k2, k3⟩
            · simp [e, S.is, S.panics, keep_in' _ _ _ g5, g5, g6, k1]
              simpa using hz
            · simp only [k1, k2, k3]
              simp [e, S.is, S.panics, keep_in' _ _ _ g5, g5, g6]
              simpa using hz
          | false =>
            have e : S.next ⟨10000, 700, 60, 6, 1, 2000, 10000, 2000, 0, 0, 1, 30, 0, 20000, 10, 100, 60, 3, 0, 0⟩ (-1) 0 i false = (-1, 0) := by
              rw [next_eq]; simp [hm]
            have := ih (i + 1) (-1) most (-1) 0 (.inl ⟨rfl, rfl, rfl⟩) (by omega) (by omega)
            obtain ⟨z, hz⟩ := this
            refine ⟨z, ?_⟩
            rcases hw with ⟨k1, rfl⟩ | ⟨k1, k2, k3⟩
            · simp [e, S.is, S.panics, keep_out, k1]
              simpa using hz
            · simp only [k1, k2, k3]
              simp [e, S.is, S.panics, keep_out]
              simpa using hz
        · have hl2 : ¬ last < 0 := by omega
          rw [hs1, hs2]
          cases o with
          | true =>
            have e : S.next ⟨10000, 700, 60, 6, 1, 2000, 10000, 2000, 0, 0, 1, 30, 0, 20000, 10, 100, 60, 3, 0, 0⟩ last most i true = ((i : Int), most) := by
              rw [next_eq]; simp [hm, hl0]; omega
            have hx : ∃ x, x = (if w > most then w else most) := ⟨_, rfl⟩
            obtain ⟨x, hx⟩ := hx
            have := ih (i + 1) i x i x (.inr ⟨by omega, by omega, rfl, rfl⟩) (by omega) (by omega)
            obtain ⟨z, hz⟩ := this
            refine ⟨z, ?_⟩
            rw [hx] at hz
            rcases hw with ⟨k1, rfl⟩ | ⟨k1, k2, k3⟩
            · simp [e, S.is, S.panics, keep_in' _ _ _ g5, g5, g6, k1, hl2]
              simpa using hz
            · simp only [k1, k2, k3]
              simp [e, S.is, S.panics, keep_in' _ _ _ g5, g5, g6, hl2]
              simpa using hz
          | false =>
            have ew : IntKind.wrap .i64 ((i : Int) - last) = (i : Int) - last := wrap_id (by omega) (by omega)
            by_cases c6 : 60 ≤ (i : Int) - last
            · have e : S.next ⟨10000, 700, 60, 6, 1, 2000, 10000, 2000, 0, 0, 1, 30, 0, 20000, 10, 100, 60, 3, 0, 0⟩ last most i false = (-1, 0) := by
                rw [next_eq]; simp [hm, hl0, ew, c6]; omega
              have := ih (i + 1) (-1) most (-1) 0 (.inl ⟨rfl, rfl, rfl⟩) (by omega) (by omega)
              obtain ⟨z, hz⟩ := this
              refine ⟨z, ?_⟩
              rcases hw with ⟨k1, rfl⟩ | ⟨k1, k2, k3⟩
              · simp [e, S.is, S.panics, keep_out, k1, hl0, ew, c6]
                simpa using hz
              · simp only [k1, k2, k3]
                simp [e, S.is, S.panics, keep_out, hl0, ew, c6]
                simpa using hz
            · have e : S.next ⟨10000, 700, 60, 6, 1, 2000, 10000, 2000, 0, 0, 1, 30, 0, 20000, 10, 100, 60, 3, 0, 0⟩ last most i false = (last, most) := by
                rw [next_eq]; simp [hm, hl0, ew, c6]
              have hx : ∃ x, x = (if w > most then w else most) := ⟨_, rfl⟩
              obtain ⟨x, hx⟩ := hx
              have := ih (i + 1) last x last x (.inr ⟨by omega, by omega, rfl, rfl⟩) (by omega) (by omega)
              obtain ⟨z, hz⟩ := this
              refine ⟨z, ?_⟩
              rw [hx] at hz
              rcases hw with ⟨k1, rfl⟩ | ⟨k1, k2, k3⟩
              · simp [e, S.is, S.panics, keep_in' _ _ _ hl0, k1, hl0, hl2, ew, c6]
                simpa using hz
              · simp only [k1, k2, k3]
                simp [e, S.is, S.panics, keep_in' _ _ _ hl0, hl0, hl2, ew, c6]
                simpa using hz
      · have g2 : ¬ ((i : Int) < 200) := by omega
        simp only [g1, g2, decide_true, decide_false, cond_true, cond_false]
        exact ⟨_, rfl⟩
    · have g1 : ¬ ((i : Int) < (len : Int)) := by omega
      simp only [g1, decide_false, cond_false]
      exact ⟨_, rfl⟩

theorem AlarmPlays_true (fu : Nat) (l : List Bool) (u : List Int) (hf : 201 ≤ fu) : S.AlarmPlays fu l l.length u u.length = some true := by
  unfold S.AlarmPlays
  obtain ⟨z, hz⟩ := alarmPlays_loop fu l l.length u u.length rfl rfl fu 0 (-1) 0 (-1) 0 (.inl ⟨rfl, rfl, rfl⟩) (by omega) (by omega)
  have hz' : S.AlarmPlays_l0 fu l l.length u u.length fu (-1) 0 0 (-1) 0 = some (.inr (.inr z)) := hz
  rw [hz']
  rfl
end Go.Proofs.Ytfoaihjkmfhaoaa.AB
