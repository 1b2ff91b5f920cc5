/- DelayHolds answers true. -/
import Derived.Test.YtfoaihjkmfhaoaaPlDel
import Derived.Test.YtfoaihjkmfhaoaaSDelayHolds
namespace Go.Proofs.Ytfoaihjkmfhaoaa.AB
set_option linter.unusedVariables false
set_option linter.unusedSimpArgs false

theorem most_none' (sp t : Int) : ∀ (q : List (Int × Int)) (m : Int), (∀ x ∈ q, counts sp t x = false) → mostFrom sp t m q = m := by
  intro q
  induction q with
  | nil => intro m _; rfl
  | cons x r ih =>
    intro m h
    unfold mostFrom
    rw [h x (List.mem_cons_self ..)]
    simp only [Bool.false_eq_true, if_false]
    exact ih m fun y hy => h y (List.mem_cons_of_mem _ hy)

theorem most_append (sp t : Int) : ∀ (q1 q2 : List (Int × Int)) (m : Int), mostFrom sp t m (q1 ++ q2) = mostFrom sp t (mostFrom sp t m q1) q2 := by
  intro q1
  induction q1 with
  | nil => intro q2 m; rfl
  | cons x r ih => intro q2 m; simp only [List.cons_append, mostFrom]; exact ih q2 _

def pairsFrom : Nat → List Int → List (Int × Int)
  | _, [] => []
  | k, w :: r => ((k : Int), w) :: pairsFrom (k + 1) r

theorem pairs_append : ∀ (a b : List Int) (k : Nat), pairsFrom k (a ++ b) = pairsFrom k a ++ pairsFrom (k + a.length) b := by
  intro a
  induction a with
  | nil => intro b k; simp [pairsFrom]
  | cons x r ih => intro b k; simp only [List.cons_append, pairsFrom, ih, List.length_cons]; congr 3; omega
theorem pairs_length : ∀ (a : List Int) (k : Nat), (pairsFrom k a).length = a.length := by
  intro a
  induction a with
  | nil => intro k; rfl
  | cons x r ih => intro k; simp [pairsFrom, ih]
theorem pairs_mem : ∀ (a : List Int) (k : Nat) (x : Int × Int), x ∈ pairsFrom k a → (k : Int) ≤ x.1 ∧ x.1 < k + a.length := by
  intro a
  induction a with
  | nil => intro k x h; cases h
  | cons w r ih =>
    intro k x h
    simp only [pairsFrom, List.mem_cons] at h
    rcases h with h | h
    · subst h; simp; omega
    · have := ih (k + 1) x h; simp; omega

def fmax : Int → List Int → Int
  | m, [] => m
  | m, x :: r => fmax (if x > m then x else m) r
theorem fmax_max : ∀ (B : List Int) (m v : Int), fmax (if v > m then v else m) B = (if v > fmax m B then v else fmax m B) := by
  intro B
  induction B with
  | nil => intro m v; rfl
  | cons x r ih =>
    intro m v
    refine Eq.trans (congrArg (fun z => fmax z r) ?_) (ih (if x > m then x else m) v)
    try simp only
    repeat' split
    all_goals omega
theorem most_all (sp t : Int) : ∀ (B : List Int) (k : Nat) (m : Int), (∀ j : Nat, k ≤ j → j < k + B.length → t - (j : Int) < sp) → mostFrom sp t m (pairsFrom k B) = fmax m B := by
  intro B
  induction B with
  | nil => intro k m _; rfl
  | cons x r ih =>
    intro k m h
    simp only [pairsFrom, mostFrom, fmax]
    have h0 := h k (Nat.le_refl _) (by simp)
    have hc : counts sp t ((k : Int), x) = true := by unfold counts; simp; omega
    rw [hc]
    simp only [if_true]
    exact ih (k + 1) _ fun j h1 h2 => h j (by omega) (by simp at h2 ⊢; omega)

theorem holds_inner (fu : Nat) (sp : Int) (l : List Int) (len : Nat) (i : Nat) (ws : List Int) (v : Int) (hi : ws.length = i) (hi2 : i ≤ 1000) (y4 : Nat) (y5 y6 : Int) (y7 : List (Option (Int × Int))) :
    ∀ (n k : Nat) (m : Int), k ≤ i → i < n + k → S.DelayHolds_l1 fu sp l len n (ws ++ [v]).length i m k y4 y5 y6 y7 (ws ++ [v]) = some ((ws ++ [v]).length, (i : Int), fmax m (ws.drop k), (i : Int), false, y4, y5, y6, y7, ws ++ [v]) := by
  intro n
  induction n with
  | zero => intro k m _ _; omega
  | succ n ih =>
    intro k m hk hn
    unfold S.DelayHolds_l1
    by_cases c : k < i
    · have g1 : ((k : Int) < (i : Int)) := by omega
      have g2 : inB (k : Int) (ws ++ [v]).length = true := by unfold inB; simp; omega
      obtain ⟨x, hx⟩ : ∃ x, ws[k]? = some x := ⟨ws[k]'(by omega), by simp⟩
      have g3 : (ws ++ [v])[Int.toNat (k : Int) + 0]? = some x := by
        simp only [Int.toNat_natCast, Nat.add_zero]
        rw [List.getElem?_append_left (by omega)]; exact hx
      have hw : IntKind.wrap .i64 ((k : Int) + 1) = ((k + 1 : Nat) : Int) := by rw [wrap_id (by omega) (by omega)]; omega
      have hd : ws.drop k = x :: ws.drop (k + 1) := by
        rw [List.drop_eq_getElem_cons (by omega)]
        congr 1
        have := hx; rw [List.getElem?_eq_getElem (by omega)] at this; injection this
      simp only [g1, g2, g3, decide_true, cond_true, optK, hw]
      rw [hd]
      exact ih (k + 1) _ (by omega) (by omega)
    · have g1 : ¬ ((k : Int) < (i : Int)) := by omega
      have hk2 : k = i := by omega
      simp only [g1, decide_false, cond_false]
      rw [List.drop_eq_nil_of_le (by omega), hk2]; rfl

theorem holds_most (s : Int) (i : Nat) (ws : List Int) (v : Int) (k : Nat) (hi : ws.length = i) (v0 : 0 ≤ v) (s0 : 0 ≤ s) (hk : (k : Int) = if (i : Int) - s + 1 > 0 then (i : Int) - s + 1 else 0) :
    mostFrom s i 0 (pairsFrom 0 (ws ++ [v])) = fmax v (ws.drop k) := by
  have hsplit : ws = ws.take k ++ ws.drop k := (List.take_append_drop k ws).symm
  have e : pairsFrom 0 (ws ++ [v]) = pairsFrom 0 (ws.take k) ++ (pairsFrom (ws.take k).length (ws.drop k) ++ [((i : Int), v)]) := by
    rw [pairs_append, ← List.append_assoc]
    congr 1
    · conv => lhs; rw [hsplit]
      rw [pairs_append]; congr 2; omega
    · simp [pairsFrom, hi]
  rw [e, most_append, most_append]
  rw [most_none' s i (pairsFrom 0 (ws.take k)) 0 fun x hx => by
    have hm := pairs_mem _ _ x hx
    have hl : (ws.take k).length ≤ k := by simp; omega
    unfold counts
    have h1 : x.1 < k := by omega
    have h2 : x.1 < i := by
      have : (ws.take k).length ≤ i := by simp; omega
      omega
    simp
    refine ⟨by omega, ?_⟩
    split at hk <;> omega]
  rw [most_all s i (ws.drop k) _ 0 fun j h1 h2 => by
    simp at h1 h2
    split at hk <;> omega]
  simp only [mostFrom]
  have hc : counts s i ((i : Int), v) = true := by unfold counts; simp
  rw [hc]
  simp only [if_true]
  rw [← fmax_max]
  congr 1
  split <;> omega

theorem holds_loop (fu : Nat) (hfu : 2000 ≤ fu) (sp : Int) (l : List Int) (len : Nat) (hl : len = l.length) (s : Int) (hs : IntKind.wrap .i64 (Int.tmod (IntKind.wrap .u64 sp) 61) = s) (s0 : 0 ≤ s) (s1 : s ≤ 60) :
    ∀ (n i : Nat) (la : Int) (ws : List Int), ws.length = i → i ≤ 150 → 150 < n + i → la ≤ i → (∀ w ∈ ws, 0 ≤ w ∧ w < 1000) →
    ∃ (c : Nat) (b : Bool) (la' : Int) (ws' : List Int), S.DelayHolds_l0 fu sp l len n i i 0 i s la ((pairsFrom 0 ws).map some) ws = some (.inr (.inl (c, (c : Int), b, 0, c, s, la', (pairsFrom 0 ws').map some, ws'))) ∧ ws'.length = c ∧ c ≤ 150 := by
  intro n
  induction n with
  | zero => intro i _ _ _ _ _ _ _; omega
  | succ n ih =>
    intro i la ws hi hi2 hn hla hws
    unfold S.DelayHolds_l0
    by_cases c1 : i < len
    · have g1 : ((i : Int) < (len : Int)) := by omega
      by_cases c2 : i < 150
      · have g2 : ((i : Int) < 150) := by omega
        have g3 : inB (i : Int) len = true := by unfold inB; simp; omega
        have g4 : l[Int.toNat (i : Int) + 0]? = some (l[i]'(by omega)) := by simp
        have gw : IntKind.wrap .i64 ((i : Int) + 1) = ((i + 1 : Nat) : Int) := by rw [wrap_id (by omega) (by omega)]; omega
        generalize l[i]'(by omega) = o at g4
        obtain ⟨o0, o1⟩ := umod_range o 1000 (by decide)
        have ow : IntKind.wrap .i64 ((IntKind.wrap .u64 o).tmod 1000) = (IntKind.wrap .u64 o).tmod 1000 := wrap_id (by omega) (by omega)
        simp only [g1, g2, g3, g4, decide_true, cond_true, optK, ow]
        generalize (IntKind.wrap .u64 o).tmod 1000 = v at *
        have hcut : cutL ws 0 i ++ cutL [v] 0 1 = ws ++ [v] := by
          rw [← hi, cutL_all]; rfl
        have g5 : (Nat.beq 1 1 && Nat.blt 0 8 && Nat.beq 1 1 && Nat.beq 1 1 && Nat.beq 1 1 && Nat.blt 0 1 && !Nat.beq 3 4 && Nat.ble ((i + 1) * 8) 35184372088832) = true := by
          have : Nat.ble ((i + 1) * 8) 35184372088832 = true := Nat.ble_eq.mpr (by omega)
          rw [this]; rfl
        have g6 : inB (i : Int) (ws ++ [v]).length = true := by unfold inB; simp; omega
        have g7 : (ws ++ [v])[Int.toNat (i : Int) + 0]? = some v := by
          simp only [Int.toNat_natCast, Nat.add_zero]
          rw [List.getElem?_append_right (by omega), hi]; simp
        simp only [hcut, g5, g6, g7, cond_true]
        have hT : Times (pairsFrom 0 ws) := fun x hx => by have := pairs_mem _ _ x hx; omega
        obtain ⟨q', hq', e⟩ := dput_yes (Holds.whole (pairsFrom 0 ws)) hT (sp := s) (la := la) (t := i) (w := v) hla (by omega) (by omega) o0 (by omega) (by rw [pairs_length]; omega)
        have hq2 : (pairsFrom 0 ws).filter (keepT i) = pairsFrom 0 ws := List.filter_eq_self.mpr fun x hx => by have := pairs_mem _ _ x hx; unfold keepT; simp; omega
        have hq3 : q' = pairsFrom 0 (ws ++ [v]) := by rw [hq', hq2, pairs_append]; simp [pairsFrom, hi]
        have hpl : (pairsFrom 0 ws).length = i := by rw [pairs_length, hi]
        have hpl2 : (pairsFrom 0 (ws ++ [v])).length = i + 1 := by rw [pairs_length]; simp [hi]
        rw [hq3, hpl, hpl2] at e
        rw [e]
        simp only [Sum.elim_inr, g6, g7, cond_true]
        have hk0 : IntKind.wrap .i64 (IntKind.wrap .i64 ((i : Int) - s) + 1) = (i : Int) - s + 1 := by
          rw [wrap_id (n := (i : Int) - s) (by omega) (by omega), wrap_id (by omega) (by omega)]
        have hs' : IntKind.i64.wrap (Int.tmod (IntKind.u64.wrap sp) 61) = s := hs
        rw [hs', hk0]
        have hT2 : Times (pairsFrom 0 (ws ++ [v])) := fun x hx => by have := pairs_mem _ _ x hx; simp at this; omega
        have em := dmost_eq (Holds.whole (pairsFrom 0 (ws ++ [v]))) hT2 (sp := s) (la := i) (t := i) (by omega) (by omega) (by rw [hpl2]; omega)
        rw [hpl2] at em
        obtain ⟨k, hk⟩ : ∃ k : Nat, (k : Int) = if (i : Int) - s + 1 > 0 then (i : Int) - s + 1 else 0 := by
          split
          · exact ⟨((i : Int) - s + 1).toNat, Int.toNat_of_nonneg (by omega)⟩
          · exact ⟨0, rfl⟩
        rw [← hk]
        have hmm := holds_most s i ws v k hi o0 s0 hk
        have step : ∃ y3 b, S.DelayHolds_l1 fu sp l len fu (ws ++ [v]).length (i : Int) v (k : Int) (i + 1) s i ((pairsFrom 0 (ws ++ [v])).map some) (ws ++ [v]) = some ((ws ++ [v]).length, (i : Int), fmax v (ws.drop k), y3, b, i + 1, s, (i : Int), (pairsFrom 0 (ws ++ [v])).map some, ws ++ [v]) := by
          by_cases hki : k ≤ i
          · exact ⟨_, _, holds_inner fu sp l len i ws v hi (by omega) _ _ _ _ fu k v hki (by omega)⟩
          · have hkd : ws.drop k = [] := List.drop_eq_nil_of_le (by omega)
            rw [hkd]
            obtain ⟨f, rfl⟩ : ∃ f, fu = f + 1 := ⟨fu - 1, by omega⟩
            have g8 : ¬ ((k : Int) < (i : Int)) := by omega
            refine ⟨(k : Int), false, ?_⟩
            conv => lhs; unfold S.DelayHolds_l1
            simp only [g8, decide_false, cond_false]
            rfl
        obtain ⟨y3, b, hst⟩ := step
        have := ih (i + 1) i (ws ++ [v]) (by simp [hi]) (by omega) (by omega) (by omega) (fun w hw => by
          simp at hw
          rcases hw with hw | hw
          · exact hws w hw
          · subst hw; omega)
        obtain ⟨c, b', la', ws', hz, hc1, hc2⟩ := this
        refine ⟨c, b', la', ws', ?_, hc1, hc2⟩
        rw [hst]
        unfold S.DelayHolds_a1_0
        try simp only
        rw [em]
        simp only [optK, hmm, decide_true, Bool.not_true, cond_false, gw]
        have hlen : (ws ++ [v]).length = i + 1 := by simp [hi]
        rw [hlen]
        exact hz
      · have g2 : ¬ ((i : Int) < 150) := by omega
        simp only [g1, g2, decide_true, decide_false, cond_true, cond_false]
        exact ⟨i, _, _, ws, rfl, hi, hi2⟩
    · have g1 : ¬ ((i : Int) < (len : Int)) := by omega
      simp only [g1, decide_false, cond_false]
      exact ⟨i, _, _, ws, rfl, hi, hi2⟩

theorem DelayHolds_true (sp : Int) (l : List Int) : S.DelayHolds 100000 sp l l.length = some true := by
  obtain ⟨a0, a1⟩ := umod_range sp 61 (by decide)
  obtain ⟨s, hs⟩ : ∃ s, IntKind.wrap .i64 (Int.tmod (IntKind.wrap .u64 sp) 61) = s := ⟨_, rfl⟩
  have hs2 : 0 ≤ s ∧ s ≤ 60 := by
    have : IntKind.wrap .i64 (Int.tmod (IntKind.wrap .u64 sp) 61) = Int.tmod (IntKind.wrap .u64 sp) 61 := wrap_id (by omega) (by omega)
    omega
  obtain ⟨c, b, la, ws, e, hc, hc2⟩ := holds_loop 100000 (by omega) sp l l.length rfl s hs hs2.1 hs2.2 100000 0 0 [] rfl (by omega) (by omega) (by omega) (by simp)
  unfold S.DelayHolds
  have hd : S.dnew s = .inr s := by
    unfold S.dnew
    have g1 : ¬ s < 0 := by omega
    have g2 : ¬ 600 < s := by omega
    simp [g1, g2]
  rw [hs, hd]
  simp only [Sum.elim_inr]
  have e' : S.DelayHolds_l0 100000 sp l l.length 100000 0 0 0 0 s 0 [] [] = some (.inr (.inl (c, (c : Int), b, 0, c, s, la, (pairsFrom 0 ws).map some, ws))) := e
  rw [e']
  simp only [optK, Sum.elim_inr, Sum.elim_inl]
  unfold S.DelayHolds_a0_1
  by_cases h0 : (c : Int) = 0
  · simp [h0]
  · have hw : IntKind.wrap .i64 ((c : Int) + 600) = (c : Int) + 600 := wrap_id (by omega) (by omega)
    have hT : Times (pairsFrom 0 ws) := fun x hx => by have := pairs_mem _ _ x hx; omega
    have hpl : (pairsFrom 0 ws).length = c := by rw [pairs_length, hc]
    have em := dmost_eq (Holds.whole (pairsFrom 0 ws)) hT (sp := s) (la := la) (t := (c : Int) + 600) (by omega) (by omega) (by rw [hpl]; omega)
    rw [hpl] at em
    have hz : mostFrom s ((c : Int) + 600) 0 (pairsFrom 0 ws) = 0 := most_none' _ _ _ _ fun x hx => by
      have := pairs_mem _ _ x hx; unfold counts; simp; omega
    rw [hz] at em
    simp only [h0, decide_false, cond_false, hw]
    rw [em]
    simp [optK]
end Go.Proofs.Ytfoaihjkmfhaoaa.AB
