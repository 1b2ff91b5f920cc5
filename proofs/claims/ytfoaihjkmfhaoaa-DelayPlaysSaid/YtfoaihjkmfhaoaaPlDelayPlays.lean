/- DelayPlays answers true. -/
import Derived.Test.YtfoaihjkmfhaoaaPlRdel
import Derived.Test.YtfoaihjkmfhaoaaSDelayPlays
namespace Go.Proofs.Ytfoaihjkmfhaoaa.AB
set_option linter.unusedVariables false
set_option linter.unusedSimpArgs false

/-- both delays, after the same steps -/
structure Both (L : List (Int × Int)) (z sp : Int) : Prop where
  times : Times L
  last : ∀ x, L[L.length - 1]? = some x → x.1 = z
  z0 : 0 ≤ z
  z1 : z ≤ 1099511627776
  nil : L = [] → z = 0
  s0 : 0 ≤ sp
  s1 : sp ≤ 600

theorem Both.ftimes {L : List (Int × Int)} {z sp : Int} (h : Both L z sp) : Times (L.filter (keepT z)) := fun x hx => h.times x (List.mem_filter.mp hx).1

theorem Both.put {L : List (Int × Int)} {z sp t w : Int} (h : Both L z sp) (hc : ¬ (t < z ∨ 1099511627776 < t ∨ w < 0 ∨ 1000000 < w)) : Both (L ++ [(t, w)]) t sp where
  times := fun x hx => by
    simp at hx
    rcases hx with hx | hx
    · exact h.times x hx
    · have := h.z0; subst hx; simp only; omega
  last := fun x hx => by
    rw [List.getElem?_append_right (by simp)] at hx
    simp at hx; rw [← hx]
  z0 := by have := h.z0; omega
  z1 := by omega
  nil := fun e => by simp at e
  s0 := h.s0
  s1 := h.s1

theorem Both.span {L : List (Int × Int)} {z sp x : Int} (h : Both L z sp) (h0 : 0 ≤ x) (h1 : x ≤ 600) : Both L z x := ⟨h.times, h.last, h.z0, h.z1, h.nil, h0, h1⟩

theorem dput_both {L : List (Int × Int)} {z sp t w : Int} (h : Both L z sp) (hl : L.length < 80000) :
    S.q_dput ((L.filter (keepT z)).map some) 0 (L.filter (keepT z)).length sp z t w = if t < z ∨ 1099511627776 < t ∨ w < 0 ∨ 1000000 < w then some (.inl (0, (L.filter (keepT z)).length, sp, z, (L.filter (keepT z)).map some))
      else some (.inr (((L ++ [(t, w)]).filter (keepT t)).length, sp, t, ((L ++ [(t, w)]).filter (keepT t)).map some)) := by
  rw [S.q_dput_eq]
  have hfl : (L.filter (keepT z)).length ≤ L.length := List.length_filter_le _ _
  by_cases hc : t < z ∨ 1099511627776 < t ∨ w < 0 ∨ 1000000 < w
  · rw [if_pos hc]; exact dput_no hc
  · rw [if_neg hc]
    have hz0 := h.z0
    obtain ⟨q', hq', e⟩ := dput_yes (Holds.whole (L.filter (keepT z))) h.ftimes (sp := sp) (la := z) (t := t) (w := w) (by omega) (by omega) (by omega) (by omega) (by omega) (by omega)
    have hq2 : q' = (L ++ [(t, w)]).filter (keepT t) := by
      rw [hq', List.filter_append, List.filter_filter]
      congr 1
      · apply List.filter_congr
        intro x _
        unfold keepT
        by_cases h1 : t - x.1 ≤ 600
        · have h2 : z - x.1 ≤ 600 := by omega
          simp [h1, h2]
        · simp [h1]
      · simp [keepT]
    rw [hq2] at e
    exact e

theorem rdput_both {L : List (Int × Int)} {z sp t w : Int} (h : Both L z sp) (hl : L.length < 80000) :
    S.q_rdput L 0 L.length sp t w = if t < z ∨ 1099511627776 < t ∨ w < 0 ∨ 1000000 < w then some (.inl (sp, 0, L.length, L)) else some (.inr (sp, (L ++ [(t, w)]).length, L ++ [(t, w)])) := by
  rw [S.q_rdput_eq]; exact rdput_eq L h.times (by omega) h.last h.z0 h.nil

theorem most_both {L : List (Int × Int)} {z sp t : Int} (h : Both L z sp) (hl : L.length < 80000) (t1 : t < 9223372036854775808) :
    ∃ M, S.q_dmost 100000 ((L.filter (keepT z)).map some) 0 (L.filter (keepT z)).length sp z t = some (M, 0, (L.filter (keepT z)).length, sp, z, (L.filter (keepT z)).map some) ∧ S.q_rdmost 100000 L 0 L.length sp t = some (M, sp, 0, L.length, L) := by
  have hfl : (L.filter (keepT z)).length ≤ L.length := List.length_filter_le _ _
  refine ⟨mostFrom sp (tp t) 0 (L.filter (keepT z)), ?_, ?_⟩
  · rw [S.q_dmost_eq]; exact dmost_any _ h.ftimes t1 (by omega)
  · rw [S.q_rdmost_eq]; exact rdmost_eq L h.times t1 h.s0 h.s1 (by omega) h.last h.z0 h.z1

theorem span_both (l : WL) (len : Nat) (r : RL) (rlen : Nat) (sp z x : Int) :
    (¬(0 ≤ x ∧ x ≤ 600) ∧ S.q_dspan l 0 len sp z x = (1, 0, len, sp, z, l) ∧ S.q_rdchange r 0 rlen sp x = (1, sp, 0, rlen, r)) ∨ ((0 ≤ x ∧ x ≤ 600) ∧ S.q_dspan l 0 len sp z x = (0, 0, len, x, z, l) ∧ S.q_rdchange r 0 rlen sp x = (0, x, 0, rlen, r)) := by
  rw [S.q_dspan_eq, S.q_rdchange_eq]
  unfold S.dspan S.rdchange
  by_cases h1 : x < 0
  · left; refine ⟨by omega, ?_, ?_⟩ <;> simp [h1]
  · by_cases h2 : 600 < x
    · left; refine ⟨by omega, ?_, ?_⟩ <;> simp [h1, h2]
    · right; refine ⟨by omega, ?_, ?_⟩ <;> simp [h1, h2]

theorem plays_loop (fu : Nat) (sp0 : Int) (ol : OL) (len : Nat) (hl : len = ol.length) (h120 : len ≤ 120) (hT : ∀ o ∈ ol, o.2.2.2.2 < 9223372036854775808) :
    ∀ (n i : Nat) (now sp z : Int) (L : List (Int × Int)), i ≤ len → len < n + i → L.length ≤ i → Both L z sp →
    ∃ r, S.DelayPlays_l0 fu sp0 ol len n now i 0 (L.filter (keepT z)).length sp z ((L.filter (keepT z)).map some) sp 0 L.length L = some (.inr (.inr (.inr (.inr r)))) := by
  intro n
  induction n with
  | zero => intro i _ _ _ _ _ _ _ _; omega
  | succ n ih =>
    intro i now sp z L hi hn hLi hB
    unfold S.DelayPlays_l0
    by_cases c1 : i < len
    · have g1 : ((i : Int) < ((len : Nat) : Int)) := by omega
      have g2 : inB (i : Int) len = true := by unfold inB; simp; omega
      obtain ⟨o, ho⟩ : ∃ o, ol[i]? = some o := ⟨ol[i]'(by omega), by simp⟩
      have g3 : ol[Int.toNat (i : Int) + 0]? = some o := by simpa using ho
      have hTo := hT o (List.mem_of_getElem? ho)
      have gw : IntKind.wrap .i64 ((i : Int) + 1) = ((i + 1 : Nat) : Int) := by rw [wrap_id (by omega) (by omega)]; omega
      obtain ⟨kd, N, w, raw, T⟩ := o
      simp only at hTo
      simp only [g1, g2, g3, decide_true, cond_true, optK, gw]
      have hx : ∃ x, x = (if 1099511627776 < IntKind.wrap .i64 (now + IntKind.wrap .i64 (Int.tmod (IntKind.wrap .u64 N) 40)) then 1099511627776 else IntKind.wrap .i64 (now + IntKind.wrap .i64 (Int.tmod (IntKind.wrap .u64 N) 40))) := ⟨_, rfl⟩
      obtain ⟨x, hx⟩ := hx
      have hx1 : x < 9223372036854775808 := by subst hx; split <;> omega
      rw [← hx]
      generalize bitsA .and .i64 kd 7 = kk
      have hlen : L.length < 80000 := by omega
      cases raw with
      | true =>
        simp only [cond_true]
        by_cases k1 : kk < 5
        · simp only [k1, decide_true, cond_true, dput_both hB hlen, rdput_both hB hlen]
          by_cases hc : T < z ∨ 1099511627776 < T ∨ w < 0 ∨ 1000000 < w
          · simp only [if_pos hc, Sum.elim_inl]
            obtain ⟨M, e1, e2⟩ := most_both hB hlen hTo
            simp only [e1, e2, decide_true, Bool.not_true, cond_false]
            exact ih (i + 1) x sp z L (by omega) (by omega) (by omega) hB
          · simp only [if_neg hc, Sum.elim_inr]
            have hB2 := hB.put hc
            obtain ⟨M, e1, e2⟩ := most_both hB2 (by simp; omega) hTo
            simp only [e1, e2, decide_true, Bool.not_true, cond_false]
            exact ih (i + 1) T sp T (L ++ [(T, w)]) (by omega) (by omega) (by simp; omega) hB2
        · by_cases k2 : kk = 7
          · simp only [k1, k2, decide_true, decide_false, cond_true, cond_false]
            rcases span_both ((L.filter (keepT z)).map some) (L.filter (keepT z)).length L L.length sp z N with ⟨hn, e1, e2⟩ | ⟨hn, e1, e2⟩
            · simp only [e1, e2, decide_true, Bool.not_true, cond_false]
              obtain ⟨M, e3, e4⟩ := most_both hB hlen hTo
              simp only [e3, e4, decide_true, Bool.not_true, cond_false]
              exact ih (i + 1) x sp z L (by omega) (by omega) (by omega) hB
            · simp only [e1, e2, decide_true, Bool.not_true, cond_false]
              obtain ⟨M, e3, e4⟩ := most_both (hB.span hn.1 hn.2) hlen hTo
              simp only [e3, e4, decide_true, Bool.not_true, cond_false]
              exact ih (i + 1) x N z L (by omega) (by omega) (by omega) (hB.span hn.1 hn.2)
          · simp only [k1, k2, decide_false, cond_false]
            obtain ⟨M, e3, e4⟩ := most_both hB hlen hTo
            simp only [e3, e4, decide_true, Bool.not_true, cond_false]
            exact ih (i + 1) x sp z L (by omega) (by omega) (by omega) hB
      | false =>
        simp only [cond_false]
        by_cases k1 : kk < 5
        · simp only [k1, decide_true, cond_true, dput_both hB hlen, rdput_both hB hlen]
          by_cases hc : x < z ∨ 1099511627776 < x ∨ w < 0 ∨ 1000000 < w
          · simp only [if_pos hc, Sum.elim_inl]
            obtain ⟨M, e1, e2⟩ := most_both hB hlen hx1
            simp only [e1, e2, decide_true, Bool.not_true, cond_false]
            exact ih (i + 1) x sp z L (by omega) (by omega) (by omega) hB
          · simp only [if_neg hc, Sum.elim_inr]
            have hB2 := hB.put hc
            obtain ⟨M, e1, e2⟩ := most_both hB2 (by simp; omega) hx1
            simp only [e1, e2, decide_true, Bool.not_true, cond_false]
            exact ih (i + 1) x sp x (L ++ [(x, w)]) (by omega) (by omega) (by simp; omega) hB2
        · by_cases k2 : kk = 7
          · simp only [k1, k2, decide_true, decide_false, cond_true, cond_false]
            rcases span_both ((L.filter (keepT z)).map some) (L.filter (keepT z)).length L L.length sp z N with ⟨hn, e1, e2⟩ | ⟨hn, e1, e2⟩
            · simp only [e1, e2, decide_true, Bool.not_true, cond_false]
              obtain ⟨M, e3, e4⟩ := most_both hB hlen hx1
              simp only [e3, e4, decide_true, Bool.not_true, cond_false]
              exact ih (i + 1) x sp z L (by omega) (by omega) (by omega) hB
            · simp only [e1, e2, decide_true, Bool.not_true, cond_false]
              obtain ⟨M, e3, e4⟩ := most_both (hB.span hn.1 hn.2) hlen hx1
              simp only [e3, e4, decide_true, Bool.not_true, cond_false]
              exact ih (i + 1) x N z L (by omega) (by omega) (by omega) (hB.span hn.1 hn.2)
          · simp only [k1, k2, decide_false, cond_false]
            obtain ⟨M, e3, e4⟩ := most_both hB hlen hx1
            simp only [e3, e4, decide_true, Bool.not_true, cond_false]
            exact ih (i + 1) x sp z L (by omega) (by omega) (by omega) hB
    · have g1 : ¬ ((i : Int) < ((len : Nat) : Int)) := by omega
      simp only [g1, decide_false, cond_false]
      exact ⟨_, rfl⟩

theorem DelayPlays_true (sp : Int) (ol : OL) (hT : ∀ o ∈ ol, o.2.2.2.2 < 9223372036854775808) : S.DelayPlays 100000 sp ol (List.length ol) = some true := by
  unfold S.DelayPlays
  by_cases h1 : sp < 0
  · have e1 : S.dnew sp = .inl () := by unfold S.dnew; simp [h1]
    have e2 : S.rdnew sp = .inl () := by unfold S.rdnew; simp [h1]
    simp [e1, e2]
  · by_cases h2 : 600 < sp
    · have e1 : S.dnew sp = .inl () := by unfold S.dnew; simp [h1, h2]
      have e2 : S.rdnew sp = .inl () := by unfold S.rdnew; simp [h1, h2]
      simp [e1, e2]
    · have e1 : S.dnew sp = .inr sp := by unfold S.dnew; simp [h1, h2]
      have e2 : S.rdnew sp = .inr sp := by unfold S.rdnew; simp [h1, h2]
      simp only [e1, e2, Sum.elim_inr]
      by_cases h3 : (120 : Int) < ((List.length ol : Nat) : Int)
      · simp only [h3, decide_true, cond_true]
      · simp only [h3, decide_false, cond_false]
        have hB : Both [] 0 sp := ⟨fun x hx => by simp at hx, fun x hx => by simp at hx, by omega, by omega, fun _ => rfl, by omega, by omega⟩
        obtain ⟨r, hr⟩ := plays_loop 100000 sp ol (List.length ol) rfl (by omega) hT 100000 0 0 sp 0 [] (by omega) (by omega) (by simp) hB
        have hr' : S.DelayPlays_l0 100000 sp ol (List.length ol) 100000 0 0 0 0 sp 0 [] sp 0 0 [] = some (.inr (.inr (.inr (.inr r)))) := hr
        rw [hr']
        rfl
end Go.Proofs.Ytfoaihjkmfhaoaa.AB
