/- Rings: what forgetting comes to. -/
import Derived.Test.YtfoaihjkmfhaoaaPlBk
import Derived.Test.YtfoaihjkmfhaoaaSring2
namespace Go.Proofs.Ytfoaihjkmfhaoaa.AB
set_option linter.unusedVariables false
set_option linter.unusedSimpArgs false

abbrev Bk : Type := Int × Int × Int × Bool

/-- the cells lo.. (len of them) lead to the buckets bs -/
structure Rep (l : FL) (f : BL) (lo : Nat) (qs : List Nat) (bs : List Bk) : Prop where
  len : qs.length = bs.length
  cells : ∀ (i : Nat) (q : Nat), qs[i]? = some q → l[lo + i]? = some (some q)
  rows : ∀ (i : Nat) (q : Nat) (b : Bk), qs[i]? = some q → bs[i]? = some b → f[q]? = some b
  nodup : qs.Nodup

/-- buckets that are told small enough -/
def AtOk (bs : List Bk) : Prop := ∀ b ∈ bs, 0 ≤ b.1 ∧ b.1 ≤ 1099511627776

/-- what is forgotten -/
def gone (n nw : Int) (b : Bk) : Bool := decide (n ≤ nw - b.1)

theorem rgone_eq {l : FL} {f : BL} {q : Nat} {b : Bk} (hf : f[q]? = some b) (hb : 0 ≤ b.1 ∧ b.1 ≤ 1099511627776) (lo len : Nat) (rw_ rg rn nw : Int) (ov : Bool) (w0 : -1 ≤ nw) (w1 : nw ≤ 1099511627776) :
    S.rgone l f q lo len rw_ rg rn nw ov = some (gone rn nw b) := by
  unfold S.rgone
  rw [hf]
  simp only [optK]
  rw [wrap_id (n := nw - b.1) (by omega) (by omega)]
  rfl

theorem rix_loop (fu : Nat) (l : FL) (f : BL) (lo : Nat) (lo2 len2 : Nat) (rw_ rg rn nw : Int) (ov : Bool) (w0 : -1 ≤ nw) (w1 : nw ≤ 1099511627776) (qs : List Nat) (bs : List Bk) (hR : Rep l f lo qs bs) (hA : AtOk bs) (hl : bs.length < 100000) :
    ∀ (n i : Nat), i ≤ bs.length → bs.length < n + i →
    S.rix_l0 fu l f lo bs.length lo2 len2 rw_ rg rn nw ov n i = some (match (bs.drop i).findIdx? (gone rn nw) with | some j => .inl ((i + j : Nat) : Int) | none => .inr ((bs.length : Int), false)) := by
  intro n
  induction n with
  | zero => intro i _ _; omega
  | succ n ih =>
    intro i hi hn
    unfold S.rix_l0
    by_cases c : i < bs.length
    · have g1 : ((i : Int) < ((bs.length : Nat) : Int)) := by omega
      have g2 : inB (i : Int) bs.length = true := by unfold inB; simp; omega
      obtain ⟨b, hb⟩ : ∃ b, bs[i]? = some b := ⟨bs[i]'c, by simp⟩
      obtain ⟨q, hq⟩ : ∃ q, qs[i]? = some q := ⟨qs[i]'(by rw [hR.len]; exact c), by simp⟩
      have g3 : l[Int.toNat (i : Int) + lo]? = some (some q) := by have := hR.cells i q hq; rw [Nat.add_comm] at this; simpa using this
      have hw : IntKind.wrap .i64 ((i : Int) + 1) = ((i + 1 : Nat) : Int) := by rw [wrap_id (by omega) (by omega)]; omega
      have hg := rgone_eq (l := l) (hR.rows i q b hq hb) (hA b (List.mem_of_getElem? hb)) lo2 len2 rw_ rg rn nw ov w0 w1
      simp only [g1, g2, g3, decide_true, cond_true, optK, hg, hw]
      rw [List.drop_eq_getElem_cons c, List.findIdx?_cons]
      have hb' : bs[i] = b := by rw [List.getElem?_eq_getElem c] at hb; injection hb
      rw [hb']
      cases hgb : gone rn nw b with
      | true => simp
      | false =>
        simp only [cond_false]
        rw [ih (i + 1) (by omega) (by omega)]
        cases hfi : (bs.drop (i + 1)).findIdx? (gone rn nw) with
        | none => simp
        | some j => simp; omega
    · have g1 : ¬ ((i : Int) < ((bs.length : Nat) : Int)) := by omega
      have hk2 : i = bs.length := by omega
      simp only [g1, decide_false, cond_false]
      rw [List.drop_eq_nil_of_le (by omega), hk2]; rfl

theorem set_get {l : FL} {k i : Nat} {x : Option Nat} (hk : k < l.length) : (l.set k x)[i]? = if i = k then some x else l[i]? := by
  rw [List.getElem?_set]
  by_cases h : k = i
  · subst h; simp [hk]
  · simp [h, Ne.symm h]

/-- what stays: indices and buckets -/
def stay (n nw : Int) : List Nat → List Bk → List Nat
  | q :: qs, b :: bs => if gone n nw b then stay n nw qs bs else q :: stay n nw qs bs
  | _, _ => []
theorem stay_le (n nw : Int) : ∀ (qs : List Nat) (bs : List Bk), (stay n nw qs bs).length ≤ qs.length := by
  intro qs
  induction qs with
  | nil => intro bs; cases bs <;> simp [stay]
  | cons q qs ih =>
    intro bs
    cases bs with
    | nil => simp [stay]
    | cons b bs =>
      have := ih bs
      simp only [stay]
      split
      · simp; omega
      · simp; omega

/-- the rest of the deletion: done holds the indices that were kept, in the first places -/
theorem rdel_loop (fu : Nat) (l : FL) (f : BL) (lo : Nat) (lo2 len2 : Nat) (rw_ rg rn nw : Int) (ov : Bool) (w0 : -1 ≤ nw) (w1 : nw ≤ 1099511627776) (len : Nat) (hl : len < 100000) :
    ∀ (n j : Nat) (y : FL) (done qs : List Nat) (bs : List Bk), done.length ≤ j → j + bs.length = len → qs.length = bs.length → bs.length < n → lo + len ≤ y.length →
    (∀ (i q : Nat), done[i]? = some q → y[lo + i]? = some (some q)) → (∀ (i q : Nat), qs[i]? = some q → y[lo + (j + i)]? = some (some q)) →
    (∀ (i q : Nat) (b : Bk), qs[i]? = some q → bs[i]? = some b → f[q]? = some b) → AtOk bs →
    ∃ y' : FL, S.rdel_l0 fu l f lo len lo2 len2 rw_ rg rn nw ov n done.length j y = some ((((done ++ stay rn nw qs bs).length : Nat) : Int), (len : Int), false, y') ∧ y'.length = y.length ∧
      (∀ (i q : Nat), (done ++ stay rn nw qs bs)[i]? = some q → y'[lo + i]? = some (some q)) := by
  intro n
  induction n with
  | zero => intro j y done qs bs _ _ _ h; omega
  | succ n ih =>
    intro j y done qs bs hd hj hqb hn hy hdone hqs hrows hA
    unfold S.rdel_l0
    cases bs with
    | nil =>
      have hjl : j = len := by simpa using hj
      have hq0 : qs = [] := List.eq_nil_of_length_eq_zero (by simpa using hqb)
      subst hq0
      have g1 : ¬ ((j : Int) < ((len : Nat) : Int)) := by omega
      simp only [g1, decide_false, cond_false]
      refine ⟨y, by simp [stay, hjl], rfl, ?_⟩
      simpa [stay] using hdone
    | cons b bs =>
      cases qs with
      | nil => simp at hqb
      | cons q qs =>
        simp only [List.length_cons] at hj hqb hn
        have g1 : ((j : Int) < ((len : Nat) : Int)) := by omega
        have g2 : inB (j : Int) len = true := by unfold inB; simp; omega
        have g3 : y[Int.toNat (j : Int) + lo]? = some (some q) := by have := hqs 0 q rfl; rw [Nat.add_comm] at this; simpa using this
        have hw : IntKind.wrap .i64 ((j : Int) + 1) = ((j + 1 : Nat) : Int) := by rw [wrap_id (by omega) (by omega)]; omega
        have hg := rgone_eq (l := y) (hrows 0 q b rfl rfl) (hA b (List.mem_cons_self ..)) lo2 len2 rw_ rg rn nw ov w0 w1
        simp only [g1, g2, g3, decide_true, cond_true, optK, hg, hw]
        cases hgb : gone rn nw b with
        | true =>
          simp only [Bool.not_true, cond_false, stay, hgb, if_true]
          exact ih (j + 1) y done qs bs (by omega) (by omega) (by omega) (by omega) hy hdone (fun i q' hq' => by have := hqs (i + 1) q' hq'; rw [show j + 1 + i = j + (i + 1) by omega]; exact this)
            (fun i q' b' h1 h2 => hrows (i + 1) q' b' h1 h2) (fun b' hb' => hA b' (List.mem_cons_of_mem _ hb'))
        | false =>
          have hw2 : IntKind.wrap .i64 ((done.length : Int) + 1) = (((done ++ [q]).length : Nat) : Int) := by rw [wrap_id (by omega) (by omega)]; simp
          have g4 : inB (done.length : Int) len = true := by unfold inB; simp; omega
          have hk : done.length + lo < y.length := by omega
          have g5 : Nat.blt (Int.toNat (done.length : Int) + lo) y.length = true := by
            simp only [Int.toNat_natCast]; exact Nat.blt_eq.mpr hk
          simp only [Bool.not_false, cond_true, g4, g5, Bool.and_self, stay, hgb, Bool.false_eq_true, if_false, hw2]
          obtain ⟨y', h1, h2, h3⟩ := ih (j + 1) (y.set (Int.toNat (done.length : Int) + lo) (some q)) (done ++ [q]) qs bs (by simp; omega) (by omega) (by omega) (by omega) (by rw [List.length_set]; exact hy)
            (fun i q' hq' => by
              simp only [Int.toNat_natCast]
              rw [set_get hk]
              by_cases hi : i < done.length
              · rw [if_neg (by omega)]
                rw [List.getElem?_append_left hi] at hq'
                exact hdone i q' hq'
              · have hi2 : i = done.length := by have := (List.getElem?_eq_some_iff.mp hq').1; simp at this; omega
                subst hi2
                simp at hq'; subst hq'
                rw [if_pos (by omega)])
            (fun i q' hq' => by
              simp only [Int.toNat_natCast]
              rw [set_get hk, if_neg (by omega)]
              have := hqs (i + 1) q' hq'; rw [show j + 1 + i = j + (i + 1) by omega]; exact this)
            (fun i q' b' h1 h2 => hrows (i + 1) q' b' h1 h2) (fun b' hb' => hA b' (List.mem_cons_of_mem _ hb'))
          rw [List.append_assoc] at h1 h3
          exact ⟨y', h1, by rw [h2, List.length_set], h3⟩

def keepB (n nw : Int) (bs : List Bk) : List Bk := bs.filter fun b => !gone n nw b
theorem stay_len (n nw : Int) : ∀ (qs : List Nat) (bs : List Bk), qs.length = bs.length → (stay n nw qs bs).length = (keepB n nw bs).length := by
  intro qs
  induction qs with
  | nil => intro bs h; cases bs with
    | nil => rfl
    | cons b bs => simp at h
  | cons q qs ih =>
    intro bs h
    cases bs with
    | nil => simp at h
    | cons b bs =>
      simp only [stay, keepB, List.filter_cons]
      have := ih bs (by simpa using h)
      unfold keepB at this
      cases gone n nw b <;> simp [this]
theorem stay_mem (n nw : Int) : ∀ (qs : List Nat) (bs : List Bk), qs.length = bs.length → ∀ (i : Nat) (q : Nat) (b : Bk), (stay n nw qs bs)[i]? = some q → (keepB n nw bs)[i]? = some b → ∃ k : Nat, qs[k]? = some q ∧ bs[k]? = some b := by
  intro qs
  induction qs with
  | nil => intro bs h i q b h1; cases bs <;> simp [stay] at h1
  | cons q0 qs ih =>
    intro bs h i q b h1 h2
    cases bs with
    | nil => simp at h
    | cons b0 bs =>
      have hl : qs.length = bs.length := by simpa using h
      simp only [stay, keepB, List.filter_cons] at h1 h2
      cases hg : gone n nw b0 with
      | true =>
        simp only [hg, if_true, Bool.not_true, Bool.false_eq_true, if_false] at h1 h2
        obtain ⟨k, h3, h4⟩ := ih bs hl i q b h1 h2
        exact ⟨k + 1, by simpa using h3, by simpa using h4⟩
      | false =>
        simp only [hg, Bool.false_eq_true, if_false, Bool.not_false, if_true] at h1 h2
        cases i with
        | zero => simp at h1 h2; exact ⟨0, by simp [h1], by simp [h2]⟩
        | succ i =>
          simp only [List.getElem?_cons_succ] at h1 h2
          obtain ⟨k, h3, h4⟩ := ih bs hl i q b h1 h2
          exact ⟨k + 1, by simpa using h3, by simpa using h4⟩
theorem stay_sub (n nw : Int) : ∀ (qs : List Nat) (bs : List Bk), (stay n nw qs bs).Sublist qs := by
  intro qs
  induction qs with
  | nil => intro bs; cases bs <;> exact List.Sublist.refl _
  | cons q qs ih =>
    intro bs
    cases bs with
    | nil => exact List.nil_sublist _
    | cons b bs =>
      simp only [stay]
      split
      · exact (ih bs).cons q
      · exact (ih bs).cons_cons q
theorem stay_none (n nw : Int) : ∀ (qs : List Nat) (bs : List Bk), qs.length = bs.length → bs.findIdx? (gone n nw) = none → stay n nw qs bs = qs ∧ keepB n nw bs = bs := by
  intro qs
  induction qs with
  | nil => intro bs h _; cases bs with
    | nil => exact ⟨rfl, rfl⟩
    | cons b bs => simp at h
  | cons q qs ih =>
    intro bs h hf
    cases bs with
    | nil => simp at h
    | cons b bs =>
      rw [List.findIdx?_cons] at hf
      cases hg : gone n nw b with
      | true => simp [hg] at hf
      | false =>
        simp only [hg, Bool.false_eq_true, if_false, Option.map_eq_none_iff] at hf
        obtain ⟨h1, h2⟩ := ih bs (by simpa using h) hf
        simp only [stay, hg, Bool.false_eq_true, if_false, h1, true_and]
        unfold keepB at h2 ⊢
        rw [List.filter_cons]; simp [hg, h2]
theorem stay_some (n nw : Int) : ∀ (qs : List Nat) (bs : List Bk) (j : Nat), qs.length = bs.length → bs.findIdx? (gone n nw) = some j → j < bs.length ∧ stay n nw qs bs = qs.take j ++ stay n nw (qs.drop (j + 1)) (bs.drop (j + 1)) := by
  intro qs
  induction qs with
  | nil => intro bs j h hf; cases bs with
    | nil => simp at hf
    | cons b bs => simp at h
  | cons q qs ih =>
    intro bs j h hf
    cases bs with
    | nil => simp at h
    | cons b bs =>
      rw [List.findIdx?_cons] at hf
      cases hg : gone n nw b with
      | true =>
        simp [hg] at hf; subst hf
        exact ⟨by simp, by simp [stay, hg]⟩
      | false =>
        simp only [hg, Bool.false_eq_true, if_false] at hf
        cases hf2 : bs.findIdx? (gone n nw) with
        | none => simp [hf2] at hf
        | some k =>
          simp [hf2] at hf; subst hf
          obtain ⟨h1, h2⟩ := ih bs k (by simpa using h) hf2
          exact ⟨by simp; omega, by simp [stay, hg, h2]⟩

/-- deletion of what is too far behind -/
theorem rdel_eq (l : FL) (f : BL) (lo : Nat) (lo2 len2 : Nat) (rw_ rg rn nw : Int) (ov : Bool) (w0 : -1 ≤ nw) (w1 : nw ≤ 1099511627776) (qs : List Nat) (bs : List Bk) (hR : Rep l f lo qs bs) (hA : AtOk bs) (hl : bs.length < 90000) (hy : lo + bs.length ≤ l.length) :
    ∃ l' qs', S.rdel 100000 l f lo bs.length lo2 len2 rw_ rg rn nw ov = some (lo, (keepB rn nw bs).length, l', f, lo2, len2, rw_, rg, rn, nw, ov) ∧ Rep l' f lo qs' (keepB rn nw bs) ∧ l'.length = l.length ∧ (∀ q ∈ qs', q ∈ qs) := by
  have e := rix_loop 100000 l f lo lo2 len2 rw_ rg rn nw ov w0 w1 qs bs hR hA (by omega) 100000 0 (by omega) (by omega)
  have e' : S.rix_l0 100000 l f lo bs.length lo2 len2 rw_ rg rn nw ov 100000 0 = _ := e
  unfold S.rdel S.rix
  rw [e', List.drop_zero]
  cases hf : bs.findIdx? (gone rn nw) with
  | none =>
    obtain ⟨h1, h2⟩ := stay_none rn nw qs bs hR.len hf
    refine ⟨l, qs, ?_, by rw [h2]; exact hR, rfl, fun q h => h⟩
    simp only [optK, Sum.elim_inr, S.rix_a0_1, decide_true, cond_true, h2]
  | some j =>
    obtain ⟨hj, h2⟩ := stay_some rn nw qs bs j hR.len hf
    have hn1 : ¬ ((j : Nat) : Int) = -1 := by omega
    have hw : IntKind.wrap .i64 (((j : Nat) : Int) + 1) = ((j + 1 : Nat) : Int) := by rw [wrap_id (by omega) (by omega)]; omega
    have htl : (qs.take j).length = j := by rw [List.length_take, hR.len]; omega
    obtain ⟨y', h3, h4, h5⟩ := rdel_loop 100000 l f lo lo2 len2 rw_ rg rn nw ov w0 w1 bs.length (by omega) 100000 (j + 1) l (qs.take j) (qs.drop (j + 1)) (bs.drop (j + 1)) (by omega) (by simp; omega) (by simp [hR.len]) (by simp; omega) hy
      (fun i q hq => by
        rw [List.getElem?_take] at hq
        split at hq
        · exact hR.cells i q hq
        · cases hq)
      (fun i q hq => by rw [List.getElem?_drop] at hq; exact hR.cells _ q hq)
      (fun i q b h6 h7 => by rw [List.getElem?_drop] at h6 h7; exact hR.rows _ q b h6 h7) (fun b hb => hA b (List.mem_of_mem_drop hb))
    rw [htl, ← h2] at h3
    rw [← h2] at h5
    have hsl := stay_len rn nw qs bs hR.len
    have hle : (keepB rn nw bs).length ≤ bs.length := List.length_filter_le _ _
    simp only [optK, Sum.elim_inl, S.rix_a0_0, Nat.zero_add, hn1, decide_false, cond_false, hw]
    rw [h3]
    unfold S.rdel_a0_0
    have c1 : (0 ≤ (((stay rn nw qs bs).length : Nat) : Int) ∧ (((stay rn nw qs bs).length : Nat) : Int) ≤ ((bs.length : Nat) : Int)) := by omega
    have c2 : Nat.ble ((stay rn nw qs bs).length + lo + (bs.length - (stay rn nw qs bs).length)) (List.length y') = true := Nat.ble_eq.mpr (by omega)
    simp only [c1, and_self, decide_true, cond_true, Int.toNat_natCast, c2]
    refine ⟨List.take ((stay rn nw qs bs).length + lo) y' ++ fillRows none (bs.length - (stay rn nw qs bs).length) (List.drop ((stay rn nw qs bs).length + lo) y'), stay rn nw qs bs, by rw [hsl], ⟨hsl, fun i q hq => ?_, fun i q b hq hb => ?_, (stay_sub rn nw qs bs).nodup hR.nodup⟩, ?_, fun q hq => (stay_sub rn nw qs bs).subset hq⟩
    · have hi := (List.getElem?_eq_some_iff.mp hq).1
      rw [List.getElem?_append_left (by simp; omega), List.getElem?_take, if_pos (by omega)]
      exact h5 i q hq
    · obtain ⟨k, h6, h7⟩ := stay_mem rn nw qs bs hR.len i q b hq hb
      exact hR.rows k q b h6 h7
    · have hfl : ∀ (n : Nat) (x : FL), (fillRows none n x).length = x.length := by
        intro n
        induction n with
        | zero => intro x; rfl
        | succ n ih => intro x; cases x <;> simp [fillRows, ih]
      simp [hfl]; omega
end Go.Proofs.Ytfoaihjkmfhaoaa.AB
