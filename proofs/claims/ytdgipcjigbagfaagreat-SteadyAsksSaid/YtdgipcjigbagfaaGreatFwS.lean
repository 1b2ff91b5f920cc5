/- A region that draws its order: whatever order, the text's outcome. -/
import Derived.Test.YtdgipcjigbagfaaGreatFwR
namespace Go.Proofs.YtdgipcjigbagfaaGreat.AB
set_option linter.unusedSimpArgs false
set_option linter.unusedVariables false
variable {P : Program} {ti : Nat → TyI}

abbrev TL := List (Oper × St × Tr × St)

/-- the slots, behind those of the first k operations that L holds -/
def tsL (l : TL) (L : Nat → Bool) (T0 : Nat → AVal) : Nat → Nat → AVal
  | 0 => T0
  | k + 1 => fun t => match l[k]? with
    | some (o, _, tr, _) => if L k = true ∧ o.dst = some t then tr.v else tsL l L T0 k t
    | none => tsL l L T0 k t

def gsL (l : TL) (L : Nat → Bool) (G0 : Nat → Blk) : Nat → Nat → Blk
  | 0 => G0
  | k + 1 => fun b => match l[k]? with
    | some (_, _, tr, s1) => if L k = true ∧ b ∈ tr.wr then getB s1.σ b else gsL l L G0 k b
    | none => gsL l L G0 k b

def dstAt (l : TL) (k t : Nat) : Prop := ∃ o s tr s1, l[k]? = some (o, s, tr, s1) ∧ o.dst = some t
def wrAt (l : TL) (k b : Nat) : Prop := ∃ o s tr s1, l[k]? = some (o, s, tr, s1) ∧ b ∈ tr.wr

theorem tsL_step {l : TL} {L : Nat → Bool} {T0 : Nat → AVal} {k t : Nat} (h : dstAt l k t → L k = false) : tsL l L T0 (k + 1) t = tsL l L T0 k t := by
  simp only [tsL]
  split
  · rename_i o s tr s1 hk
    rw [if_neg]
    rintro ⟨h1, h2⟩
    rw [h ⟨o, s, tr, s1, hk, h2⟩] at h1; cases h1
  · rfl

theorem gsL_step {l : TL} {L : Nat → Bool} {G0 : Nat → Blk} {k b : Nat} (h : wrAt l k b → L k = false) : gsL l L G0 (k + 1) b = gsL l L G0 k b := by
  simp only [gsL]
  split
  · rename_i o s tr s1 hk
    rw [if_neg]
    rintro ⟨h1, h2⟩
    rw [h ⟨o, s, tr, s1, hk, h2⟩] at h1; cases h1
  · rfl

/-- those ahead of j stand in L, those behind do not -/
theorem tsL_at {l : TL} {L L' : Nat → Bool} {T0 : Nat → AVal} {j t : Nat} (h1 : ∀ k, k < j → dstAt l k t → L k = true ∧ L' k = true) (h2 : ∀ k, j ≤ k → dstAt l k t → L k = false) :
    ∀ m, j ≤ m → tsL l L T0 m t = tsL l L' T0 j t := by
  have low : ∀ k, k ≤ j → tsL l L T0 k t = tsL l L' T0 k t := by
    intro k
    induction k with
    | zero => intro _; rfl
    | succ k ih =>
      intro hk
      have ih := ih (by omega)
      simp only [tsL]
      split
      · rename_i o s tr s1 hl
        by_cases hd : o.dst = some t
        · obtain ⟨a, b⟩ := h1 k (by omega) ⟨o, s, tr, s1, hl, hd⟩
          simp [a, b, hd]
        · simp [hd, ih]
      · exact ih
  intro m hm
  induction m with
  | zero => have : j = 0 := by omega
            subst this; rfl
  | succ m ih =>
    rcases Nat.lt_or_ge m j with h | h
    · have : j = m + 1 := by omega
      subst this; exact low _ (Nat.le_refl _)
    · rw [tsL_step (h2 m h)]; exact ih h

theorem gsL_at {l : TL} {L L' : Nat → Bool} {G0 : Nat → Blk} {j b : Nat} (h1 : ∀ k, k < j → wrAt l k b → L k = true ∧ L' k = true) (h2 : ∀ k, j ≤ k → wrAt l k b → L k = false) :
    ∀ m, j ≤ m → gsL l L G0 m b = gsL l L' G0 j b := by
  have low : ∀ k, k ≤ j → gsL l L G0 k b = gsL l L' G0 k b := by
    intro k
    induction k with
    | zero => intro _; rfl
    | succ k ih =>
      intro hk
      have ih := ih (by omega)
      simp only [gsL]
      split
      · rename_i o s tr s1 hl
        by_cases hd : b ∈ tr.wr
        · obtain ⟨a, c⟩ := h1 k (by omega) ⟨o, s, tr, s1, hl, hd⟩
          simp [a, c, hd]
        · simp [hd, ih]
      · exact ih
  intro m hm
  induction m with
  | zero => have : j = 0 := by omega
            subst this; rfl
  | succ m ih =>
    rcases Nat.lt_or_ge m j with h | h
    · have : j = m + 1 := by omega
      subst this; exact low _ (Nat.le_refl _)
    · rw [gsL_step (h2 m h)]; exact ih h

def allL : Nat → Bool := fun _ => true

theorem getB_live_lt (σ : List Blk) : ∀ b, (getB σ b).live = true → b < σ.length := fun _ h => lt_of_live h

/-- in the text's order the slots and blocks are the trace's -/
theorem ts_all {nt : Nat} {ops : List Oper} {l : TL} {st st' : St} (h : Runs P nt ops ops st l st') : ∀ k, k ≤ l.length → (∀ t, tsL l allL (getT st.tm) k t = getT (stAt st l k).tm t) ∧ (∀ b, gsL l allL (getB st.σ) k b = getB (stAt st l k).σ b) := by
  intro k
  induction k with
  | zero => intro _; exact ⟨fun _ => rfl, fun _ => rfl⟩
  | succ k ih =>
    intro hk
    obtain ⟨ih1, ih2⟩ := ih (by omega)
    obtain ⟨⟨o, s, tr, s1⟩, hl⟩ : ∃ x, l[k]? = some x := ⟨_, List.getElem?_eq_getElem (show k < l.length by omega)⟩
    obtain ⟨h1, h2, h3, hs⟩ := (Runs.at h).1 k o s tr s1 hl
    have e3 : stAt st l (k + 1) = s1 := h3.symm
    refine ⟨fun t => ?_, fun b => ?_⟩
    · simp only [tsL, hl, allL, true_and, e3]
      rw [hs.tm t, h2]
      by_cases hd : o.dst = some t
      · simp [hd]
      · simp only [hd, if_false]; exact ih1 t
    · simp only [gsL, hl, allL, true_and, e3]
      by_cases hb : b ∈ tr.wr
      · simp [hb]
      · simp only [hb, if_false]
        have := ih2 b
        rw [this, ← h2]
        cases hex : tr.exec with
        | true =>
          obtain ⟨p, _, hp⟩ := hs.yes hex
          exact ((hp.frame (getB_live_lt _)).1 b hb).symm
        | false => rw [(hs.no hex).2.1]

theorem len_mono {nt : Nat} {ops : List Oper} {l : TL} {st st' : St} (h : Runs P nt ops ops st l st') : ∀ j k, j ≤ k → k ≤ l.length → (stAt st l j).σ.length ≤ (stAt st l k).σ.length := by
  intro j k hjk hk
  induction k with
  | zero => have : j = 0 := by omega
            subst this; exact Nat.le_refl _
  | succ k ih =>
    rcases Nat.lt_or_ge k j with hlt | hge
    · have : j = k + 1 := by omega
      subst this; exact Nat.le_refl _
    · have ih := ih hge (by omega)
      obtain ⟨⟨o, s, tr, s1⟩, hl⟩ : ∃ x, l[k]? = some x := ⟨_, List.getElem?_eq_getElem (show k < l.length by omega)⟩
      obtain ⟨_, h2, h3, hs⟩ := (Runs.at h).1 k o s tr s1 hl
      have := hs.len
      rw [← h3, this, h2]; omega

/-! what must stand ahead -/
theorem testBit_pred (acc : List Nat) : ∀ (es : List Edge) (i : Nat), (predOf acc es).testBit i = true ↔ ∃ e ∈ es, bindsA e = true ∧ (i = e.on ∨ (acc.getD e.on 0).testBit i = true)
  | [], i => by simp [predOf]
  | e :: es, i => by
    simp only [predOf]
    cases hb : bindsA e with
    | true =>
      simp only [cond_true]
      have h1 : (Nat.lor (Nat.lor (Nat.shiftLeft 1 e.on) (acc.getD e.on 0)) (predOf acc es)).testBit i = (((1 <<< e.on : Nat).testBit i || (acc.getD e.on 0).testBit i) || (predOf acc es).testBit i) := by
        show (((1 <<< e.on) ||| (acc.getD e.on 0)) ||| predOf acc es).testBit i = _
        rw [Nat.testBit_or, Nat.testBit_or]
      rw [h1]
      simp only [Bool.or_eq_true, testBit_pred acc es i, List.mem_cons]
      have h2 : (1 <<< e.on : Nat).testBit i = true ↔ i = e.on := by
        rw [Nat.one_shiftLeft, Nat.testBit_two_pow]
        simp [eq_comm]
      rw [h2]
      constructor
      · rintro ((h | h) | ⟨e', h1, h2, h3⟩)
        · exact ⟨e, .inl rfl, hb, .inl h⟩
        · exact ⟨e, .inl rfl, hb, .inr h⟩
        · exact ⟨e', .inr h1, h2, h3⟩
      · rintro ⟨e', rfl | h1, h2, h3⟩
        · exact .inl h3
        · exact .inr ⟨e', h1, h2, h3⟩
    | false =>
      simp only [cond_false, testBit_pred acc es i, List.mem_cons]
      constructor
      · rintro ⟨e', h1, h2, h3⟩; exact ⟨e', .inr h1, h2, h3⟩
      · rintro ⟨e', rfl | h1, h2, h3⟩
        · rw [hb] at h2; cases h2
        · exact ⟨e', h1, h2, h3⟩

theorem preds_get : ∀ (ops : List Oper) (acc : List Nat) (j : Nat), (preds ops acc).length = acc.length + ops.length ∧ (j < acc.length → (preds ops acc)[j]? = acc[j]?) ∧
    (∀ o, ops[j]? = some o → ∃ acc', (preds ops acc)[acc.length + j]? = some (predOf acc' o.after.toList) ∧ acc'.length = acc.length + j ∧ ∀ i, i < acc'.length → acc'[i]? = (preds ops acc)[i]?)
  | [], acc, j => ⟨by simp [preds], fun _ => rfl, fun o h => by simp at h⟩
  | o0 :: ops, acc, j => by
    simp only [preds]
    obtain ⟨h1, h2, _⟩ := preds_get ops (acc ++ [predOf acc o0.after.toList]) j
    refine ⟨by rw [h1]; simp; omega, fun hj => ?_, fun o ho => ?_⟩
    · rw [h2 (by simp; omega), List.getElem?_append_left hj]
    · cases j with
      | zero =>
        simp at ho; subst ho
        refine ⟨acc, ?_, by simp, fun i hi => ?_⟩
        · obtain ⟨_, h2', _⟩ := preds_get ops (acc ++ [predOf acc o0.after.toList]) acc.length
          rw [Nat.add_zero, h2' (by simp), List.getElem?_append_right (Nat.le_refl _)]
          simp
        · obtain ⟨_, h2', _⟩ := preds_get ops (acc ++ [predOf acc o0.after.toList]) i
          rw [h2' (by simp; omega), List.getElem?_append_left hi]
      | succ j =>
        obtain ⟨_, _, h3⟩ := preds_get ops (acc ++ [predOf acc o0.after.toList]) j
        obtain ⟨acc', e1, e2, e3⟩ := h3 o (by simpa using ho)
        refine ⟨acc', ?_, by rw [e2]; simp; omega, e3⟩
        rw [← e1]; congr 1; simp; omega

theorem backOk_get : ∀ (ops : List Oper) (k j : Nat) (o : Oper), backOk k ops = true → ops[j]? = some o → ∀ e ∈ o.after.toList, bindsA e = true → e.on < k + j
  | [], k, j, o, _, h, _, _, _ => by simp at h
  | o0 :: ops, k, j, o, hb, h, e, he, hbe => by
    simp only [backOk, Bool.and_eq_true] at hb
    cases j with
    | zero =>
      simp at h; subst h
      have := List.all_eq_true.mp hb.1 e he
      simp only [hbe, Bool.not_true, Bool.false_or] at this
      exact blt_nat this
    | succ j =>
      have := backOk_get ops (k + 1) j o hb.2 (by simpa using h) e he hbe
      omega

/-- the mask of an operation, out of those of its own edges -/
theorem mask_spec {ops : List Oper} (hb : backOk 0 ops = true) {j : Nat} {o : Oper} (ho : ops[j]? = some o) (i : Nat) :
    ((preds ops []).getD j 0).testBit i = true ↔ ∃ e ∈ o.after.toList, bindsA e = true ∧ (i = e.on ∨ ((preds ops []).getD e.on 0).testBit i = true) := by
  obtain ⟨_, _, h3⟩ := preds_get ops [] j
  obtain ⟨acc', e1, e2, e3⟩ := h3 o ho
  simp only [List.length_nil, Nat.zero_add] at e1 e2
  have hj : (preds ops []).getD j 0 = predOf acc' o.after.toList := by simp [List.getD_eq_getElem?_getD, e1]
  rw [hj, testBit_pred]
  have key : ∀ e ∈ o.after.toList, bindsA e = true → acc'.getD e.on 0 = (preds ops []).getD e.on 0 := by
    intro e he hbe
    have := backOk_get ops 0 j o hb ho e he hbe
    simp only [List.getD_eq_getElem?_getD]
    rw [e3 e.on (by rw [e2]; omega)]
  constructor
  · rintro ⟨e, h1, h2, h3⟩; exact ⟨e, h1, h2, by rw [← key e h1 h2]; exact h3⟩
  · rintro ⟨e, h1, h2, h3⟩; exact ⟨e, h1, h2, by rw [key e h1 h2]; exact h3⟩

/-! the checks, read -/
theorem writerOf_none : ∀ (t : Nat) (ops : List Oper) (k : Nat), writerOf t ops k = none → ∀ (j : Nat) (o : Oper), ops[j]? = some o → o.dst ≠ some t
  | t, [], k, _, j, o, h => by simp at h
  | t, o0 :: ops, k, hw, j, o, hj => by
    simp only [writerOf] at hw
    cases hd : o0.dst with
    | none =>
      rw [hd] at hw
      cases j with
      | zero => simp at hj; subst hj; rw [hd]; simp
      | succ j => exact writerOf_none t ops (k + 1) hw j o (by simpa using hj)
    | some d =>
      rw [hd] at hw
      cases hb : Nat.beq d t with
      | true => simp only [hb, cond_true] at hw; cases hw
      | false =>
        simp only [hb, cond_false] at hw
        have hne : d ≠ t := by intro e; subst e; rw [Nat.beq_refl] at hb; cases hb
        cases j with
        | zero => simp at hj; subst hj; rw [hd]; simpa using hne
        | succ j => exact writerOf_none t ops (k + 1) hw j o (by simpa using hj)

theorem writerOf_some : ∀ (t : Nat) (ops : List Oper) (k i : Nat), writerOf t ops k = some i → k ≤ i ∧ ∃ o : Oper, ops[i - k]? = some o ∧ o.dst = some t
  | t, [], k, i, h => by cases h
  | t, o0 :: ops, k, i, hw => by
    simp only [writerOf] at hw
    have next : writerOf t ops (k + 1) = some i → k ≤ i ∧ ∃ o : Oper, (o0 :: ops)[i - k]? = some o ∧ o.dst = some t := by
      intro h
      obtain ⟨h1, o, h2, h3⟩ := writerOf_some t ops (k + 1) i h
      exact ⟨by omega, o, by rw [show i - k = (i - (k + 1)) + 1 by omega]; simpa using h2, h3⟩
    cases hd : o0.dst with
    | none => rw [hd] at hw; exact next hw
    | some d =>
      rw [hd] at hw
      cases hb : Nat.beq d t with
      | true =>
        simp only [hb, cond_true] at hw
        injection hw with hw; subst hw
        exact ⟨Nat.le_refl _, o0, by simp, by rw [hd, beq_nat hb]⟩
      | false => simp only [hb, cond_false] at hw; exact next hw

theorem slotsOk_get : ∀ (all ops : List Oper) (ps : List Nat) (k j : Nat) (o : Oper), slotsOk all ps ops k = true → ops[j]? = some o →
    namesOk all ps (k + j) (namesOf all o) = true ∧ ∀ d, o.dst = some d → writerOf d all 0 = some (k + j)
  | all, [], ps, k, j, o, _, h => by simp at h
  | all, o0 :: ops, ps, k, j, o, hs, h => by
    simp only [slotsOk, Bool.and_eq_true] at hs
    cases j with
    | zero =>
      simp at h; subst h
      refine ⟨hs.1.1, fun d hd => ?_⟩
      have := hs.1.2
      rw [hd] at this
      simp only at this
      split at this
      · rename_i i hw; rw [hw, beq_nat this]; rfl
      · cases this
    | succ j =>
      have := slotsOk_get all ops ps (k + 1) j o hs.2 (by simpa using h)
      rwa [show k + 1 + j = k + (j + 1) by omega] at this

theorem of_condb {c k : Bool} (h : (bif c then k else false) = true) : c = true ∧ k = true := by cases c <;> simp_all

theorem namesOk_get {all : List Oper} {ps : List Nat} {j : Nat} : ∀ (l : List Nat), namesOk all ps j l = true → ∀ t ∈ l, match writerOf t all 0 with
    | none => True
    | some i => (i < j ∧ (ps.getD j 0).testBit i = true) ∨ (j < i ∧ (ps.getD i 0).testBit j = true)
  | [], _, t, h => by simp at h
  | t0 :: l, hn, t, h => by
    simp only [namesOk, Bool.and_eq_true] at hn
    simp at h
    rcases h with rfl | h
    · have := hn.1
      split
      · trivial
      · rename_i i hw
        rw [hw] at this
        simp only at this
        cases hb : Nat.blt i j with
        | true => rw [hb] at this; exact .inl ⟨blt_nat hb, this⟩
        | false =>
          rw [hb] at this
          have h1 := (of_condb this)
          exact .inr ⟨blt_nat h1.1, h1.2⟩
    · exact namesOk_get l hn.2 t h
end Go.Proofs.YtdgipcjigbagfaaGreat.AB
